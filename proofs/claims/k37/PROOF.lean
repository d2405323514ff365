import PyProof.Rows.All
import Wide.All
import OpenK.AllK
import Wide.FinOn
import KE.KStateDown
import Lean
import HandS.Base
import HandS.Call
import HandS.Ends
import HandS.More
import HandS.Words
import HandS.WordsExc
import HandS.Defaults
import HandS.Head0
import HandS.Head1
import HandS.Head2
import HandS.HeadEnd
import HandS.HeadHook1
import HandS.HeadHook2
import PySem.Challenge.RW_wishdeeds_k37_whole_keepers_together
import HandS.ForMost
import HandS.IsInst
import HandS.Deep
import HandS.TupAny
import HandS.SetKeys
import HandS.Conv
import HandS.ListItems
import HandS.Zip
import HandS.TupSets
import HandS.Style
import KE.GoesEnum
import KE.KDictPairs
import KE.KDictItemsList
import HandS.SortKw
import PyProof.MinMaxWalk
import PyProof.WalksMore
import HandS.Codes
import PyProof.Rows.SeqMore
import KE.GoesZip
import KE.GoesMore
import KE.KDictZip
set_option Elab.async false
set_option linter.all false
set_option maxRecDepth 100000
set_option maxHeartbeats 0
namespace WD
open PySem PySem.Spec PyProof.Rows L2
def top (i : Nat) : Stmt := PySem.Challenge.pw_wishdeeds_k37_whole_keepers_together.main.body.getD i (.Pass ⟨0, 0, 0, 0⟩)
abbrev s_is_whole : Stmt := top 15
abbrev s_is_thing : Stmt := top 16
abbrev s_is_name : Stmt := top 17
abbrev s_is_row : Stmt := top 18
abbrev s_cells : Stmt := top 19
abbrev s_spot_of : Stmt := top 20
abbrev s_things_at : Stmt := top 21
abbrev s_is_deed : Stmt := top 22
abbrev s_check_relation : Stmt := top 26
abbrev s_graph : Stmt := top 27
abbrev s_is_given : Stmt := top 29
abbrev s_is_step : Stmt := top 30
abbrev s_check_steps : Stmt := top 31
abbrev s_put_together : Stmt := top 32
abbrev s_run : Stmt := top 33
abbrev s_led_out : Stmt := top 36
abbrev s_check_out : Stmt := top 37
abbrev s_check_many : Stmt := top 38
abbrev s_demands_of : Stmt := top 39
abbrev s_by_last : Stmt := top 40
abbrev s_stands : Stmt := top 41
abbrev s_keeping : Stmt := top 42
abbrev s_argument_rows : Stmt := top 45
abbrev s_check_places : Stmt := top 46
abbrev s_table_of : Stmt := top 47
abbrev s_law_draw : Stmt := top 49
abbrev s_law_well : Stmt := top 50
abbrev s_law_all : Stmt := top 51
abbrev s_law_relation : Stmt := top 52
abbrev s_law_relations : Stmt := top 53
abbrev s_law_is_kept : Stmt := top 54
abbrev s_law_made_right : Stmt := top 55
abbrev s_law_spot : Stmt := top 56
abbrev s_law_commute : Stmt := top 57
abbrev s_law_graphs_right : Stmt := top 58
abbrev s_law_right : Stmt := top 59
abbrev s_law : Stmt := top 60
abbrev sH_init : Stmt := inClass (top 23) 0
abbrev sH_things : Stmt := inClass (top 23) 1
abbrev sH_names : Stmt := inClass (top 23) 3
abbrev sH_deed : Stmt := inClass (top 23) 4
abbrev sH_places : Stmt := inClass (top 23) 5
def d_is_whole : He.DefD := ⟨("is_whole", none), "is_whole", "is_whole", defArgs s_is_whole, defBody s_is_whole, defScope s_is_whole, [], []⟩
def d_is_thing : He.DefD := ⟨("is_thing", none), "is_thing", "is_thing", defArgs s_is_thing, defBody s_is_thing, defScope s_is_thing, [], []⟩
def d_is_name : He.DefD := ⟨("is_name", none), "is_name", "is_name", defArgs s_is_name, defBody s_is_name, defScope s_is_name, [], []⟩
def d_is_row : He.DefD := ⟨("is_row", none), "is_row", "is_row", defArgs s_is_row, defBody s_is_row, defScope s_is_row, [], []⟩
def d_cells : He.DefD := ⟨("cells", none), "cells", "cells", defArgs s_cells, defBody s_cells, defScope s_cells, [], []⟩
def d_spot_of : He.DefD := ⟨("spot_of", none), "spot_of", "spot_of", defArgs s_spot_of, defBody s_spot_of, defScope s_spot_of, [], []⟩
def d_things_at : He.DefD := ⟨("things_at", none), "things_at", "things_at", defArgs s_things_at, defBody s_things_at, defScope s_things_at, [], []⟩
def d_is_deed : He.DefD := ⟨("is_deed", none), "is_deed", "is_deed", defArgs s_is_deed, defBody s_is_deed, defScope s_is_deed, [], []⟩
def d_check_relation : He.DefD := ⟨("check_relation", none), "check_relation", "check_relation", defArgs s_check_relation, defBody s_check_relation, defScope s_check_relation, [], []⟩
def d_graph : He.DefD := ⟨("graph", none), "graph", "graph", defArgs s_graph, defBody s_graph, defScope s_graph, [], []⟩
def d_is_given : He.DefD := ⟨("is_given", none), "is_given", "is_given", defArgs s_is_given, defBody s_is_given, defScope s_is_given, [], []⟩
def d_is_step : He.DefD := ⟨("is_step", none), "is_step", "is_step", defArgs s_is_step, defBody s_is_step, defScope s_is_step, [], []⟩
def d_check_steps : He.DefD := ⟨("check_steps", none), "check_steps", "check_steps", defArgs s_check_steps, defBody s_check_steps, defScope s_check_steps, [], []⟩
def d_put_together : He.DefD := ⟨("put_together", none), "put_together", "put_together", defArgs s_put_together, defBody s_put_together, defScope s_put_together, [], []⟩
def d_run : He.DefD := ⟨("run", none), "run", "run", defArgs s_run, defBody s_run, defScope s_run, [], []⟩
def d_led_out : He.DefD := ⟨("led_out", none), "led_out", "led_out", defArgs s_led_out, defBody s_led_out, defScope s_led_out, [], []⟩
def d_check_out : He.DefD := ⟨("check_out", none), "check_out", "check_out", defArgs s_check_out, defBody s_check_out, defScope s_check_out, [], []⟩
def d_check_many : He.DefD := ⟨("check_many", none), "check_many", "check_many", defArgs s_check_many, defBody s_check_many, defScope s_check_many, [], []⟩
def d_demands_of : He.DefD := ⟨("demands_of", none), "demands_of", "demands_of", defArgs s_demands_of, defBody s_demands_of, defScope s_demands_of, [], []⟩
def d_by_last : He.DefD := ⟨("by_last", none), "by_last", "by_last", defArgs s_by_last, defBody s_by_last, defScope s_by_last, [], []⟩
def d_stands : He.DefD := ⟨("stands", none), "stands", "stands", defArgs s_stands, defBody s_stands, defScope s_stands, [], []⟩
def d_keeping : He.DefD := ⟨("keeping", none), "keeping", "keeping", defArgs s_keeping, defBody s_keeping, defScope s_keeping, [.int 2000], []⟩
def d_argument_rows : He.DefD := ⟨("argument_rows", none), "argument_rows", "argument_rows", defArgs s_argument_rows, defBody s_argument_rows, defScope s_argument_rows, [], []⟩
def d_check_places : He.DefD := ⟨("check_places", none), "check_places", "check_places", defArgs s_check_places, defBody s_check_places, defScope s_check_places, [], []⟩
def d_table_of : He.DefD := ⟨("table_of", none), "table_of", "table_of", defArgs s_table_of, defBody s_table_of, defScope s_table_of, [], []⟩
def d_law_draw : He.DefD := ⟨("_law_draw", none), "_law_draw", "_law_draw", defArgs s_law_draw, defBody s_law_draw, defScope s_law_draw, [], []⟩
def d_law_well : He.DefD := ⟨("_law_well", none), "_law_well", "_law_well", defArgs s_law_well, defBody s_law_well, defScope s_law_well, [], []⟩
def d_law_all : He.DefD := ⟨("_law_all", none), "_law_all", "_law_all", defArgs s_law_all, defBody s_law_all, defScope s_law_all, [], []⟩
def d_law_relation : He.DefD := ⟨("_law_relation", none), "_law_relation", "_law_relation", defArgs s_law_relation, defBody s_law_relation, defScope s_law_relation, [], []⟩
def d_law_relations : He.DefD := ⟨("_law_relations", none), "_law_relations", "_law_relations", defArgs s_law_relations, defBody s_law_relations, defScope s_law_relations, [], []⟩
def d_law_is_kept : He.DefD := ⟨("_law_is_kept", none), "_law_is_kept", "_law_is_kept", defArgs s_law_is_kept, defBody s_law_is_kept, defScope s_law_is_kept, [], []⟩
def d_law_made_right : He.DefD := ⟨("_law_made_right", none), "_law_made_right", "_law_made_right", defArgs s_law_made_right, defBody s_law_made_right, defScope s_law_made_right, [], []⟩
def d_law_spot : He.DefD := ⟨("_law_spot", none), "_law_spot", "_law_spot", defArgs s_law_spot, defBody s_law_spot, defScope s_law_spot, [], []⟩
def d_law_commute : He.DefD := ⟨("_law_commute", none), "_law_commute", "_law_commute", defArgs s_law_commute, defBody s_law_commute, defScope s_law_commute, [], []⟩
def d_law_graphs_right : He.DefD := ⟨("_law_graphs_right", none), "_law_graphs_right", "_law_graphs_right", defArgs s_law_graphs_right, defBody s_law_graphs_right, defScope s_law_graphs_right, [], []⟩
def d_law_right : He.DefD := ⟨("_law_right", none), "_law_right", "_law_right", defArgs s_law_right, defBody s_law_right, defScope s_law_right, [], []⟩
def d_law : He.DefD := ⟨("law", none), "law", "law", defArgs s_law, defBody s_law, defScope s_law, [], []⟩
def dH_init : He.DefD := ⟨("House", some "__init__"), "__init__", "House.__init__", defArgs sH_init, defBody sH_init, defScope sH_init, [], []⟩
def dH_things : He.DefD := ⟨("House", some "things"), "things", "House.things", defArgs sH_things, defBody sH_things, defScope sH_things, [], []⟩
def dH_names : He.DefD := ⟨("House", some "names"), "names", "House.names", defArgs sH_names, defBody sH_names, defScope sH_names, [], []⟩
def dH_deed : He.DefD := ⟨("House", some "deed"), "deed", "House.deed", defArgs sH_deed, defBody sH_deed, defScope sH_deed, [], []⟩
def dH_places : He.DefD := ⟨("House", some "places"), "places", "House.places", defArgs sH_places, defBody sH_places, defScope sH_places, [], []⟩
def fn : List He.DefD := [d_is_whole, d_is_thing, d_is_name, d_is_row, d_cells, d_spot_of, d_things_at, d_is_deed, d_check_relation, d_graph, d_is_given, d_is_step, d_check_steps, d_put_together, d_run, d_led_out, d_check_out, d_check_many, d_demands_of, d_by_last, d_stands, d_keeping, d_argument_rows, d_check_places, d_table_of, d_law_draw, d_law_well, d_law_all, d_law_relation, d_law_relations, d_law_is_kept, d_law_made_right, d_law_spot, d_law_commute, d_law_graphs_right, d_law_right, d_law, dH_init, dH_things, dH_names, dH_deed, dH_places]
def fa1 : List He.Fa := [.glo "is_whole", .glo "is_thing", .glo "is_name", .glo "is_row", .glo "cells", .glo "spot_of", .glo "things_at", .glo "is_deed", .glo "check_relation", .glo "graph", .glo "is_given", .glo "is_step", .glo "check_steps", .glo "put_together", .glo "run", .glo "led_out", .glo "check_out", .glo "check_many", .glo "demands_of", .glo "by_last", .glo "stands", .glo "keeping", .glo "argument_rows", .glo "check_places", .glo "table_of", .glo "_law_draw", .glo "_law_well", .glo "_law_all", .glo "_law_relation", .glo "_law_relations", .glo "_law_is_kept", .glo "_law_made_right", .glo "_law_spot", .glo "_law_commute", .glo "_law_graphs_right", .glo "_law_right", .glo "law", .free "isinstance", .free "int", .free "bool"]
def fa2 : List He.Fa := [.free "tuple", .free "str", .free "list", .free "len", .free "all", .free "range", .free "dict", .free "sorted", .free "set", .free "enumerate", .free "zip", .free "max", .int "MOST_THINGS" 9, .int "MOST_DEEDS" 6, .int "MOST_PLACES" 3, .int "MOST_WIDE_relations" 12, .int "MOST_TABLES" 20000, .int "MOST_WIDE_deeds" 81, .str "SMALL" "abcdefghijklmnopqrstuvwxyz", .glo "House", .cls "House", .mkr "House", .noat "House" "size", .noat "House" "by_name", .meth "House" "things", .meth "House" "names", .meth "House" "deed", .meth "House" "places"]
def fa : List He.Fa := fa1 ++ fa2
def lo1 : List PySem.Str := ["_wall", "WishError", "NoHouse", "NoName", "NoRow", "NoSteps", "NoPaper", "NoLot", "TooMany", "MOST_THINGS", "MOST_DEEDS", "MOST_PLACES", "SMALL", "is_whole", "is_thing", "is_name", "is_row", "cells", "spot_of", "things_at", "is_deed", "House", "MOST_WIDE_relations", "check_relation", "graph", "is_given", "is_step", "check_steps", "put_together", "run"]
def lo2 : List PySem.Str := ["MOST_TABLES", "led_out", "check_out", "check_many", "demands_of", "by_last", "stands", "keeping", "MOST_WIDE_deeds", "argument_rows", "check_places", "table_of", "_law_draw", "_law_well", "_law_all", "_law_relation", "_law_relations", "_law_is_kept", "_law_made_right", "_law_spot", "_law_commute", "_law_graphs_right", "_law_right"]
def lo : List PySem.Str := lo1 ++ lo2
abbrev R : PySem.W.OpenRow := PySem.W.OpenLaw.row PySem.Challenge.rw_wishdeeds_k37_whole_keepers_together
abbrev hk : PySem.W.Hook := He.hookD 5 fa fn
def ob (s : PySem.W.SharedT) : He.AlD := He.obsDG 5 fa fn (HandSHeadRun.getT s)
theorem ob_eq (s : PySem.W.SharedT) : ob s = hk.obs s.abs := He.obsDG_eq (HandSHeadRun.getT_eq s)
theorem run_eq (w : World) : HandSHeadRun.RunEq R (PySem.W.view R.prog [60]) hk ob 8000 lo w := by
  intro os
  kernel_rfl
end WD
set_option Elab.async false
set_option linter.all false
set_option maxRecDepth 100000
set_option maxHeartbeats 1000000
/-! A layer over HandS: what an expression is worth as plain data (Ev ..), what a block does to the slots (Bs ..). -/
namespace WD
open PySem PySem.Spec PyProof.Rows L2
abbrev St := L2.St
/-! ### weakest ends, straight on the text -/
section
variable {X : Cx}
def EW (X : Cx) (e : Expr) : TE := fun σ H Q => ∀ pins s, Inv X pins σ H s → wpAny (model X.prog X.w) X.A (eval e X.env) (EP X pins σ Q) X.xe s
def TW (X : Cx) (e : Expr) : TT := fun σ H Q => ∀ pins s, Inv X pins σ H s → wpAny (model X.prog X.w) X.A (isTrue e X.env (eval e X.env)) (TP X pins σ Q) X.xe s
def AW (X : Cx) (es : List Expr) : TA := fun σ H Q => ∀ pos pins s, Inv X pins σ H s → wpAny (model X.prog X.w) X.A (spliced (backTo pos (starEach es X.env))) (AP X pins σ Q) X.xe s
def S1 (X : Cx) (st : Stmt) : TS := fun D σ H => ∀ pins s, Inv X pins σ H s → wpAny (model X.prog X.w) X.A (exec st X.env) (SP X pins D) X.xe s
def SW (X : Cx) (sts : List Stmt) : TS := fun D σ H => ∀ pins s, Inv X pins σ H s → wpAny (model X.prog X.w) X.A (execs sts X.env) (SP X pins D) X.xe s
def IW (X : Cx) (tg iter : Expr) : TI := fun σ H R => ∀ pins s, Inv X pins σ H s → wpAny (model X.prog X.w) X.A (eval iter X.env) (fun v s1 => wpAny (model X.prog X.w) X.A (pyIter v) (PIE X pins σ tg R) X.xe s1) X.xe s
variable {e : Expr} {es : List Expr} {st : Stmt} {sts : List Stmt} {tg iter : Expr} {σ : St} {H : Hp}
theorem pe_ew : PE X e (EW X e) := ⟨fun pins s σ H Q I h => h pins s I⟩
theorem pt_tw : PT X e (TW X e) := ⟨fun pins s σ H Q I h => h pins s I⟩
theorem pa_aw : PA X es (AW X es) := ⟨fun pos pins s σ H Q I h => h pos pins s I⟩
theorem ps_s1 : PS X st (S1 X st) := ⟨fun pins s σ H D I h => h pins s I⟩
theorem pss_sw : PSs X sts (SW X sts) := ⟨fun pins s σ H D I h => h pins s I⟩
theorem pi_iw : PI X tg iter (IW X tg iter) := ⟨fun pins s σ H R I h => h pins s I⟩
theorem ew_of {t : TE} (h : PE X e t) {Q : VK} (q : t σ H Q) : EW X e σ H Q := fun pins s I => h.run pins s σ H Q I q
theorem tw_of {t : TT} (h : PT X e t) {Q : Bool → Hp → Prop} (q : t σ H Q) : TW X e σ H Q := fun pins s I => h.run pins s σ H Q I q
theorem aw_of {t : TA} (h : PA X es t) {Q : List V → Hp → Prop} (q : t σ H Q) : AW X es σ H Q := fun pos pins s I => h.run pos pins s σ H Q I q
theorem s1_of {t : TS} (h : PS X st t) {D : Ends} (q : t D σ H) : S1 X st D σ H := fun pins s I => h.run pins s σ H D I q
theorem sw_of {t : TS} (h : PSs X sts t) {D : Ends} (q : t D σ H) : SW X sts D σ H := fun pins s I => h.run pins s σ H D I q
theorem iw_of {wi : TI} (h : PI X tg iter wi) {R : It → Hp → Prop} (q : wi σ H R) : IW X tg iter σ H R := fun pins s I => h.run pins s σ H R I q
theorem ew_mono {Q Q' : VK} (h : EW X e σ H Q) (k : ∀ v H', Q v H' → Q' v H') : EW X e σ H Q' := fun pins s I => thn (h pins s I) fun u s1 ⟨v, H', I', r, q⟩ => ⟨v, H', I', r, k v H' q⟩
theorem tw_mono {Q Q' : Bool → Hp → Prop} (h : TW X e σ H Q) (k : ∀ v H', Q v H' → Q' v H') : TW X e σ H Q' := fun pins s I => thn (h pins s I) fun u s1 ⟨H', I', q⟩ => ⟨H', I', k _ H' q⟩
theorem aw_mono {Q Q' : List V → Hp → Prop} (h : AW X es σ H Q) (k : ∀ v H', Q v H' → Q' v H') : AW X es σ H Q' := fun pos pins s I => thn (h pos pins s I) fun u s1 ⟨v, H', I', r, q⟩ => ⟨v, H', I', r, k v H' q⟩
end

/-! ### plain data in the heap -/
inductive Rp (H : Hp) : V → PyData → Prop
  | non : Rp H .non .none
  | bl (b : Bool) : Rp H (.bl b) (.bool b)
  | int (i : Int) : Rp H (.int i) (.int i)
  | str (x : Str) : Rp H (.str x) (.str x)
  | lst {a : Addr} {xs : List V} {ds : List PyData} (h : H a = some (.lst xs)) (hz : xs.length ≤ sizeLine) (hl : xs.length = ds.length) (hi : ∀ (i : Nat) (v : V) (d : PyData), xs[i]? = some v → ds[i]? = some d → Rp H v d) : Rp H (.ref a) (.list ds)
  | tup {a : Addr} {xs : List V} {ds : List PyData} (h : H a = some (.tup xs)) (hz : xs.length ≤ sizeLine) (hl : xs.length = ds.length) (hi : ∀ (i : Nat) (v : V) (d : PyData), xs[i]? = some v → ds[i]? = some d → Rp H v d) : Rp H (.ref a) (.tuple ds)
theorem Rp.same {H H' : Hp} (e : Same H H') {v : V} {d : PyData} (h : Rp H v d) : Rp H' v d := by
  induction h with
  | non => exact .non
  | bl b => exact .bl b
  | int i => exact .int i
  | str x => exact .str x
  | lst h hz hl _ ih => exact .lst (e _ _ h) hz hl ih
  | tup h hz hl _ ih => exact .tup (e _ _ h) hz hl ih
theorem dpAll_of {K : PySem.W.Frag} {H : Hp} : ∀ {xs : List V} {ds : List PyData}, xs.length = ds.length → (∀ (i : Nat) (v : V) (d : PyData), xs[i]? = some v → ds[i]? = some d → Dp K H v d) → DpAll K H xs ds
  | [], [], _, _ => .nil
  | [], _ :: _, h, _ => by cases h
  | _ :: _, [], h, _ => by cases h
  | x :: xs, d :: ds, h, k => .cons (k 0 x d rfl rfl) (dpAll_of (Nat.succ.inj h) fun i v e h1 h2 => k (i + 1) v e (by simpa using h1) (by simpa using h2))
theorem Rp.dp {K : PySem.W.Frag} {H : Hp} {v : V} {d : PyData} (h : Rp H v d) : Dp K H v d := by
  induction h with
  | non => exact .non
  | bl b => exact .bl b
  | int i => exact .int i
  | str x => exact .str x
  | lst h hz hl _ ih => exact .lst (SqL.of h) (dpAll_of hl ih)
  | tup h hz hl _ ih => exact .tup (SqT.of h) (dpAll_of hl ih)
theorem Rp.int_inv {H : Hp} {v : V} {i : Int} (h : Rp H v (.int i)) : v = .int i := by cases h; rfl
theorem Rp.bl_inv {H : Hp} {v : V} {b : Bool} (h : Rp H v (.bool b)) : v = .bl b := by cases h; rfl
theorem Rp.str_inv {H : Hp} {v : V} {b : Str} (h : Rp H v (.str b)) : v = .str b := by cases h; rfl
theorem Rp.non_inv {H : Hp} {v : V} (h : Rp H v .none) : v = .non := by cases h; rfl
theorem Rp.tup_inv {H : Hp} {v : V} {ds : List PyData} (h : Rp H v (.tuple ds)) : ∃ a xs, v = .ref a ∧ H a = some (.tup xs) ∧ xs.length ≤ sizeLine ∧ xs.length = ds.length ∧ ∀ (i : Nat) (v : V) (d : PyData), xs[i]? = some v → ds[i]? = some d → Rp H v d := by
  cases h with
  | tup h hz hl hi => exact ⟨_, _, rfl, h, hz, hl, hi⟩
theorem Rp.lst_inv {H : Hp} {v : V} {ds : List PyData} (h : Rp H v (.list ds)) : ∃ a xs, v = .ref a ∧ H a = some (.lst xs) ∧ xs.length ≤ sizeLine ∧ xs.length = ds.length ∧ ∀ (i : Nat) (v : V) (d : PyData), xs[i]? = some v → ds[i]? = some d → Rp H v d := by
  cases h with
  | lst h hz hl hi => exact ⟨_, _, rfl, h, hz, hl, hi⟩

/-! ### what a slot is known to hold -/
structure Ty where
  R : Hp → V → Prop
  mono : ∀ H H' v, Same H H' → R H v → R H' v
def dD (d : PyData) : Ty := ⟨fun H v => Rp H v d, fun _ _ _ e h => h.same e⟩
abbrev Rho := List (Option Ty)
structure Sl (H : Hp) (σ : St) (ρ : Rho) : Prop where
  len : ρ.length = σ.length
  at_ : ∀ (i : Nat) (T : Ty), ρ[i]? = some (some T) → ∃ v, σ[i]? = some (some v) ∧ T.R H v
theorem Sl.same {H H' : Hp} {σ : St} {ρ : Rho} (h : Sl H σ ρ) (e : Same H H') : Sl H' σ ρ := ⟨h.len, fun i T q => let ⟨v, a, b⟩ := h.at_ i T q; ⟨v, a, T.mono _ _ _ e b⟩⟩
theorem Sl.set {H : Hp} {σ : St} {ρ : Rho} (h : Sl H σ ρ) {i : Nat} {T : Ty} {v : V} (r : T.R H v) : Sl H (σ.set i (some v)) (ρ.set i (some T)) := by
  refine ⟨by simp [h.len], fun j U q => ?_⟩
  by_cases hj : i = j
  · subst hj
    by_cases hlt : i < ρ.length
    · rw [List.getElem?_set_self hlt] at q
      cases q
      exact ⟨v, List.getElem?_set_self (by rw [← h.len]; exact hlt), r⟩
    · rw [List.getElem?_eq_none (by simp; omega)] at q
      cases q
  · rw [List.getElem?_set_ne hj] at q
    rw [List.getElem?_set_ne hj]
    exact h.at_ j U q
def wipeR (ρ : Rho) : List Nat → Rho
  | [] => ρ
  | v :: vs => (wipeR ρ vs).set v none
theorem Sl.unset {H : Hp} {σ : St} {ρ : Rho} (h : Sl H σ ρ) (i : Nat) (o : Option V) : Sl H (σ.set i o) (ρ.set i none) := by
  refine ⟨by simp [h.len], fun j U q => ?_⟩
  by_cases hj : i = j
  · subst hj
    by_cases hlt : i < ρ.length
    · rw [List.getElem?_set_self hlt] at q
      cases q
    · rw [List.getElem?_eq_none (by simp; omega)] at q
      cases q
  · rw [List.getElem?_set_ne hj] at q
    rw [List.getElem?_set_ne hj]
    exact h.at_ j U q
theorem Sl.wipe {H : Hp} {σ : St} {ρ : Rho} (h : Sl H σ ρ) : ∀ vs : List Nat, Sl H (wipe σ vs) (wipeR ρ vs)
  | [] => h
  | v :: vs => (Sl.wipe h vs).unset v none
/-- forgetting -/
theorem Sl.weak {H : Hp} {σ : St} {ρ ρ' : Rho} (h : Sl H σ ρ) (hl : ρ'.length = ρ.length) (k : ∀ (i : Nat) (T : Ty), ρ'[i]? = some (some T) → ρ[i]? = some (some T)) : Sl H σ ρ' := ⟨hl.trans h.len, fun i T q => h.at_ i T (k i T q)⟩
theorem sl_start {H : Hp} {N : List Str} {vs : List V} {Ts : List Ty} (h : Paired (fun v (T : Ty) => T.R H v) vs Ts) : Sl H (L2.start N vs) (Ts.map some ++ List.replicate (N.length - Ts.length) none) := by
  have hl : vs.length = Ts.length := Paired.length h
  refine ⟨by simp [L2.start, hl], fun i T q => ?_⟩
  by_cases hi : i < Ts.length
  · rw [List.getElem?_append_left (by simpa using hi), List.getElem?_map] at q
    have e : Ts[i]? = some T := by
      cases z : Ts[i]? with
      | none => rw [z] at q; cases q
      | some U => rw [z] at q; cases q; rfl
    have go : ∀ {vs : List V} {Ts : List Ty} {i : Nat}, Paired (fun v (T : Ty) => T.R H v) vs Ts → Ts[i]? = some T → ∃ v, vs[i]? = some v ∧ T.R H v := by
      intro vs Ts i h
      induction h generalizing i with
      | nil => intro e; simp at e
      | cons r t ih =>
        intro e
        cases i with
        | zero => simp at e; subst e; exact ⟨_, rfl, r⟩
        | succ i => obtain ⟨v, a, b⟩ := ih (by simpa using e); exact ⟨v, by simpa using a, b⟩
    obtain ⟨v, a, b⟩ := go h e
    refine ⟨v, ?_, b⟩
    unfold L2.start
    rw [List.getElem?_append_left (by simp; omega), List.getElem?_map, a]
    rfl
  · rw [List.getElem?_append_right (by simpa using Nat.le_of_not_lt hi), List.getElem?_replicate] at q
    split at q <;> cases q

/-! ### judgements on plain data -/
def EvE (X : Cx) (e : Expr) (ρ : Rho) (T : Ty) : Prop := ∀ σ H, Sl H σ ρ → EW X e σ H fun v H' => Same H H' ∧ T.R H' v
abbrev EvD (X : Cx) (e : Expr) (ρ : Rho) (d : PyData) : Prop := EvE X e ρ (dD d)
def EvT (X : Cx) (e : Expr) (ρ : Rho) (b : Bool) : Prop := ∀ σ H, Sl H σ ρ → TW X e σ H fun c H' => Same H H' ∧ c = b
def EvA (X : Cx) (es : List Expr) (ρ : Rho) (Ts : List Ty) : Prop := ∀ σ H, Sl H σ ρ → AW X es σ H fun vs H' => Same H H' ∧ Paired (fun v (T : Ty) => T.R H' v) vs Ts
def EvL (X : Cx) (es : List Expr) (ρ : Rho) (ds : List PyData) : Prop := ∀ σ H, Sl H σ ρ → AW X es σ H fun vs H' => Same H H' ∧ Paired (fun v d => Rp H' v d) vs ds
inductive Out where
  | next (ρ : Rho) | ret (T : Ty) | cont (ρ : Rho) | brk (ρ : Rho)
def Go (D : Ends) (H : Hp) : Out → Prop
  | .next ρ => ∀ σ' H', Same H H' → Sl H' σ' ρ → D.nx σ' H'
  | .ret T => ∀ v H', Same H H' → T.R H' v → D.rt v H'
  | .cont ρ => ∀ σ' H', Same H H' → Sl H' σ' ρ → D.ct σ' H'
  | .brk ρ => ∀ σ' H', Same H H' → Sl H' σ' ρ → D.bk σ' H'
def B1 (X : Cx) (st : Stmt) (ρ : Rho) (o : Out) : Prop := ∀ σ H D, Sl H σ ρ → Go D H o → S1 X st D σ H
def Bs (X : Cx) (sts : List Stmt) (ρ : Rho) (o : Out) : Prop := ∀ σ H D, Sl H σ ρ → Go D H o → SW X sts D σ H
theorem Go.same {D : Ends} {H H' : Hp} {o : Out} (h : Go D H o) (e : Same H H') : Go D H' o := by
  cases o with
  | next ρ => exact fun σ' H2 s l => h σ' H2 (e.trans s) l
  | ret T => exact fun σ' H2 s l => h σ' H2 (e.trans s) l
  | cont ρ => exact fun σ' H2 s l => h σ' H2 (e.trans s) l
  | brk ρ => exact fun σ' H2 s l => h σ' H2 (e.trans s) l
section
variable {X : Cx} {e a b : Expr} {es : List Expr} {ρ ρ' : Rho} {T U : Ty} {pos : Pos} {d : PyData} {ds : List PyData}
theorem EvE.to (h : EvE X e ρ T) (e' : T = U) : EvE X e ρ U := e' ▸ h
theorem EvT.to {b c : Bool} (h : EvT X e ρ b) (e' : b = c) : EvT X e ρ c := e' ▸ h
theorem EvD.to {d' : PyData} (h : EvD X e ρ d) (e' : d = d') : EvD X e ρ d' := e' ▸ h
/-- weaker knowledge of the value -/
theorem EvE.imp (h : EvE X e ρ T) (k : ∀ H v, T.R H v → U.R H v) : EvE X e ρ U := fun σ H sl => ew_mono (h σ H sl) fun v H' ⟨s, r⟩ => ⟨s, k _ _ r⟩
theorem ev_var (i : Nat) {x : Str} {T : Ty} (h : ρ[i]? = some (some T) := by rfl) (hN : X.N[i]? = some x := by rfl) (hv : Vis X.env.scope x := by first | exact Or.inl rfl | exact Or.inr (Or.inl rfl) | exact Or.inr (Or.inr rfl)) (hd : (x == ("__debug__" : Str)) = false := by decide)
    (hcd : (x == ("__classdict__" : Str)) = false := by decide) : EvE X (.Name x pos) ρ T := fun σ H sl => ew_of (pe_var hN hv hd hcd) (let ⟨v, q, r⟩ := sl.at_ i T h; ⟨v, q, Same.refl H, r⟩)
theorem ev_int {i : Int} {j} : EvD X (.Constant (.int i) j pos) ρ (.int i) := fun σ H sl => ew_of pe_int ⟨Same.refl H, .int i⟩
theorem ev_bl {i : Bool} {j} : EvD X (.Constant (.bool i) j pos) ρ (.bool i) := fun σ H sl => ew_of pe_bl ⟨Same.refl H, .bl i⟩
theorem ev_non {j} : EvD X (.Constant .none j pos) ρ .none := fun σ H sl => ew_of pe_non ⟨Same.refl H, .non⟩
theorem ev_str {i : Str} {j} : EvD X (.Constant (.str i) j pos) ρ (.str i) := fun σ H sl => ew_of pe_str ⟨Same.refl H, .str i⟩
/-- a module's constant -/
theorem ev_gint {x : Str} {i : Int} (hm : ∃ t, X.mg x = some (.int i t)) (hg : Gl X x := by rfl) (hd : (x == ("__debug__" : Str)) = false := by decide) : EvD X (.Name x pos) ρ (.int i) := fun σ H sl => let ⟨t, hm⟩ := hm; ew_of (pe_glob (v := .int i) hg hm ⟨t, rfl⟩ hd) ⟨Same.refl H, .int i⟩
theorem ev_gstr {x : Str} {i : Str} (hm : ∃ t, X.mg x = some (.str i t)) (hg : Gl X x := by rfl) (hd : (x == ("__debug__" : Str)) = false := by decide) : EvD X (.Name x pos) ρ (.str i) := fun σ H sl => let ⟨t, hm⟩ := hm; ew_of (pe_glob (v := .str i) hg hm ⟨t, rfl⟩ hd) ⟨Same.refl H, .str i⟩
/-- a built-in class as a value -/
def tyT (n : String) : Ty := ⟨fun _ v => v = .ty n, fun _ _ _ _ h => h⟩
theorem ev_bty {x : Str} {n : String} (hm : X.mg x = none) (hv : bootBuiltins x = some (.type n) := by decide +kernel) (hg : Gl X x := by rfl) (hn : x ≠ "__name__" := by decide) (hd : (x == ("__debug__" : Str)) = false := by decide) : EvE X (.Name x pos) ρ (tyT n) := fun σ H sl => ew_of (pe_bltn (v := .ty n) hg hm hv rfl hn hd) ⟨Same.refl H, rfl⟩

/-! #### operators -/
theorem ev_op {op : Operator} {r : R2} {Ta Tb : Ty} (ho : OpR X (binaryOp op) r) (ha : EvE X a ρ Ta) (hb : EvE X b ρ Tb) (h : ∀ x y H (Q : VK), Ta.R H x → Tb.R H y → (∀ v H', Same H H' → T.R H' v → Q v H') → r x y H Q) : EvE X (.BinOp a op b pos) ρ T := fun σ H sl =>
  ew_of (pe_op ho pe_ew pe_ew) (ew_mono (ha σ H sl) fun x H1 ⟨s1, r1⟩ => ew_mono (hb σ H1 (sl.same s1)) fun y H2 ⟨s2, r2⟩ => h x y H2 _ (Ta.mono _ _ _ s2 r1) r2 fun v H3 s3 r3 => ⟨(s1.trans s2).trans s3, r3⟩)
theorem ev_cmp {op : CmpOp} {r : R2} {Ta Tb : Ty} (ho : OpR X (compareOp op) r) (hm : behindInMarks op b = false) (ha : EvE X a ρ Ta) (hb : EvE X b ρ Tb) {c : Bool} (h : ∀ x y H (Q : VK), Ta.R H x → Tb.R H y → (∀ H', Same H H' → Q (.bl c) H') → r x y H Q) : EvD X (.Compare a [op] [b] pos) ρ (.bool c) := fun σ H sl =>
  ew_of (pe_cmpR ho pe_ew pe_ew hm) (ew_mono (ha σ H sl) fun x H1 ⟨s1, r1⟩ => ew_mono (hb σ H1 (sl.same s1)) fun y H2 ⟨s2, r2⟩ => h x y H2 _ (Ta.mono _ _ _ s2 r1) r2 fun H3 s3 => ⟨(s1.trans s2).trans s3, .bl c⟩)
theorem et_cmp {op : CmpOp} {r : R2} {Ta Tb : Ty} (ho : OpR X (compareOp op) r) (hm : behindInMarks op b = false) (ha : EvE X a ρ Ta) (hb : EvE X b ρ Tb) {c : Bool} (h : ∀ x y H (Q : VK), Ta.R H x → Tb.R H y → (∀ H', Same H H' → Q (.bl c) H') → r x y H Q) : EvT X (.Compare a [op] [b] pos) ρ c := fun σ H sl =>
  tw_of (pt_cmpR ho pe_ew pe_ew hm) (ew_mono (ha σ H sl) fun x H1 ⟨s1, r1⟩ => ew_mono (hb σ H1 (sl.same s1)) fun y H2 ⟨s2, r2⟩ => h x y H2 _ (Ta.mono _ _ _ s2 r1) r2 fun H3 s3 => ⟨c, rfl, (s1.trans s2).trans s3, rfl⟩)
section
variable {i j : Int}
theorem two_int {C : Int → Int → Prop} {g : Int → Int → V} (hc : C i j) {x y : V} {H : Hp} {Q : VK} (r1 : Rp H x (.int i)) (r2 : Rp H y (.int j)) (q : Q (g i j) H) : rI C g x y H Q := ⟨i, j, r1.int_inv, r2.int_inv, hc, q⟩
theorem two_int0 {g : Int → Int → V} {x y : V} {H : Hp} {Q : VK} (r1 : Rp H x (.int i)) (r2 : Rp H y (.int j)) (q : Q (g i j) H) : rI0 g x y H Q := ⟨i, j, r1.int_inv, r2.int_inv, q⟩
theorem ev_add (ha : EvD X a ρ (.int i)) (hb : EvD X b ρ (.int j)) : EvD X (.BinOp a .Add b pos) ρ (.int (i + j)) := ev_op op_add ha hb fun x y H Q r1 r2 k => two_int0 r1 r2 (k _ _ (Same.refl H) (.int _))
theorem ev_sub (ha : EvD X a ρ (.int i)) (hb : EvD X b ρ (.int j)) : EvD X (.BinOp a .Sub b pos) ρ (.int (i - j)) := ev_op op_sub ha hb fun x y H Q r1 r2 k => two_int0 r1 r2 (k _ _ (Same.refl H) (.int _))
theorem ev_mul (ha : EvD X a ρ (.int i)) (hb : EvD X b ρ (.int j)) (hc : CMul i j) : EvD X (.BinOp a .Mult b pos) ρ (.int (i * j)) := ev_op op_mul ha hb fun x y H Q r1 r2 k => two_int hc r1 r2 (k _ _ (Same.refl H) (.int _))
theorem ev_mod (ha : EvD X a ρ (.int i)) (hb : EvD X b ρ (.int j)) (hc : 0 < j) : EvD X (.BinOp a .Mod b pos) ρ (.int (i % j)) := ev_op op_mod ha hb fun x y H Q r1 r2 k => ⟨i, j, r1.int_inv, r2.int_inv, hc, k _ _ (Same.refl H) (.int _)⟩
theorem ev_fdiv (ha : EvD X a ρ (.int i)) (hb : EvD X b ρ (.int j)) (hc : CDiv i j) : EvD X (.BinOp a .FloorDiv b pos) ρ (.int (i / j)) := ev_op op_fdiv ha hb fun x y H Q r1 r2 k => two_int hc r1 r2 (k _ _ (Same.refl H) (.int _))
theorem ev_pow (ha : EvD X a ρ (.int i)) (hb : EvD X b ρ (.int j)) (hc : CPow i j) : EvD X (.BinOp a .Pow b pos) ρ (.int (i ^ j.toNat)) := ev_op op_pow ha hb fun x y H Q r1 r2 k => two_int hc r1 r2 (k _ _ (Same.refl H) (.int _))
theorem ev_lt (ha : EvD X a ρ (.int i)) (hb : EvD X b ρ (.int j)) : EvD X (.Compare a [.Lt] [b] pos) ρ (.bool (decide (i < j))) := ev_cmp op_lt (nomark _) ha hb fun x y H Q r1 r2 k => two_int0 r1 r2 (k _ (Same.refl H))
theorem ev_le (ha : EvD X a ρ (.int i)) (hb : EvD X b ρ (.int j)) : EvD X (.Compare a [.LtE] [b] pos) ρ (.bool (decide (i ≤ j))) := ev_cmp op_le (nomark _) ha hb fun x y H Q r1 r2 k => two_int0 r1 r2 (k _ (Same.refl H))
theorem ev_gt (ha : EvD X a ρ (.int i)) (hb : EvD X b ρ (.int j)) : EvD X (.Compare a [.Gt] [b] pos) ρ (.bool (decide (j < i))) := ev_cmp op_gt (nomark _) ha hb fun x y H Q r1 r2 k => two_int0 r1 r2 (k _ (Same.refl H))
theorem ev_ge (ha : EvD X a ρ (.int i)) (hb : EvD X b ρ (.int j)) : EvD X (.Compare a [.GtE] [b] pos) ρ (.bool (decide (j ≤ i))) := ev_cmp op_ge (nomark _) ha hb fun x y H Q r1 r2 k => two_int0 r1 r2 (k _ (Same.refl H))
theorem et_lt (ha : EvD X a ρ (.int i)) (hb : EvD X b ρ (.int j)) : EvT X (.Compare a [.Lt] [b] pos) ρ (decide (i < j)) := et_cmp op_lt (nomark _) ha hb fun x y H Q r1 r2 k => two_int0 r1 r2 (k _ (Same.refl H))
theorem et_le (ha : EvD X a ρ (.int i)) (hb : EvD X b ρ (.int j)) : EvT X (.Compare a [.LtE] [b] pos) ρ (decide (i ≤ j)) := et_cmp op_le (nomark _) ha hb fun x y H Q r1 r2 k => two_int0 r1 r2 (k _ (Same.refl H))
theorem et_gt (ha : EvD X a ρ (.int i)) (hb : EvD X b ρ (.int j)) : EvT X (.Compare a [.Gt] [b] pos) ρ (decide (j < i)) := et_cmp op_gt (nomark _) ha hb fun x y H Q r1 r2 k => two_int0 r1 r2 (k _ (Same.refl H))
theorem et_ge (ha : EvD X a ρ (.int i)) (hb : EvD X b ρ (.int j)) : EvT X (.Compare a [.GtE] [b] pos) ρ (decide (j ≤ i)) := et_cmp op_ge (nomark _) ha hb fun x y H Q r1 r2 k => two_int0 r1 r2 (k _ (Same.refl H))
theorem ev_neg (ha : EvD X a ρ (.int i)) : EvD X (.UnaryOp .USub a pos) ρ (.int (-i)) := fun σ H sl =>
  ew_of (pe_un un_neg pe_ew) (ew_mono (ha σ H sl) fun x H1 ⟨s1, r1⟩ => ⟨i, r1.int_inv, s1, .int _⟩)
/-- a < b < c and its like -/
theorem ev_chain2 {op op' : CmpOp} {p p' : Int → Int → Bool} (ho : OpR X (compareOp op) (rI0 fun i j => .bl (p i j))) (ho' : OpR X (compareOp op') (rI0 fun i j => .bl (p' i j))) {c : Expr} {k : Int} (ha : EvD X a ρ (.int i)) (hb : EvD X b ρ (.int j)) (hc : EvD X c ρ (.int k))
    (h1 : lastMarks [op, op'] [b, c] = false := by rfl) : EvD X (.Compare a [op, op'] [b, c] pos) ρ (.bool (p i j && p' j k)) := fun σ H sl =>
  ew_of (pe_chain ho ho' pe_ew pe_ew pe_ew (hm := h1)) (ew_mono (ha σ H sl) fun x H1 ⟨s1, r1⟩ => ew_mono (hb σ H1 (sl.same s1)) fun y H2 ⟨s2, r2⟩ => ⟨i, j, r1.int_inv, r2.int_inv, p i j, rfl, by
    cases p i j with
    | true =>
      show EW X c σ H2 _
      exact ew_mono (hc σ H2 (sl.same (s1.trans s2))) fun z H3 ⟨s3, r3⟩ => ⟨j, k, r2.int_inv, r3.int_inv, (s1.trans s2).trans s3, .bl _⟩
    | false =>
      show Same H H2 ∧ _
      exact ⟨s1.trans s2, .bl _⟩⟩)
theorem et_chain2 {op op' : CmpOp} {p p' : Int → Int → Bool} (ho : OpR X (compareOp op) (rI0 fun i j => .bl (p i j))) (ho' : OpR X (compareOp op') (rI0 fun i j => .bl (p' i j))) {c : Expr} {k : Int} (ha : EvD X a ρ (.int i)) (hb : EvD X b ρ (.int j)) (hc : EvD X c ρ (.int k))
    (h1 : lastMarks [op, op'] [b, c] = false := by rfl) : EvT X (.Compare a [op, op'] [b, c] pos) ρ (p i j && p' j k) := fun σ H sl =>
  tw_of (pt_chain ho ho' pe_ew pe_ew pe_ew (hm := h1)) (ew_mono (ha σ H sl) fun x H1 ⟨s1, r1⟩ => ew_mono (hb σ H1 (sl.same s1)) fun y H2 ⟨s2, r2⟩ => ⟨i, j, r1.int_inv, r2.int_inv, p i j, rfl, by
    cases p i j with
    | true =>
      show EW X c σ H2 _
      exact ew_mono (hc σ H2 (sl.same (s1.trans s2))) fun z H3 ⟨s3, r3⟩ => ⟨j, k, r2.int_inv, r3.int_inv, p' j k, rfl, (s1.trans s2).trans s3, rfl⟩
    | false =>
      show ∃ k, _
      exact ⟨false, rfl, s1.trans s2, rfl⟩⟩)
end
end
end WD
set_option Elab.async false
set_option linter.all false
set_option maxRecDepth 100000
set_option maxHeartbeats 1000000
namespace WD
open PySem PySem.Spec PyProof.Rows L2
section
variable {X : Cx} {e a b c : Expr} {es : List Expr} {ρ ρ' : Rho} {T U Ta Tb : Ty} {pos : Pos} {d d' : PyData} {ds : List PyData} {p q : Bool}
/-! ### truth values -/
theorem ite_t {A B : Prop} (h : A) : if true = true then A else B := h
theorem ite_f {A B : Prop} (h : B) : if false = true then A else B := by simpa using h
theorem ite_b {A B : Prop} (c : Bool) (h1 : c = true → A) (h2 : c = false → B) : if c = true then A else B := by
  cases c with
  | true => exact h1 rfl
  | false => exact ite_f (h2 rfl)
theorem et_val (h : EvD X e ρ (.bool p)) (he : ∀ whole, isTrue e X.env whole = (do let v ← whole; standAt e.pos; holding [v] (truthy v)) := by intro _; rfl) : EvT X e ρ p := fun σ H sl =>
  tw_of (pt_val pe_ew he) (ew_mono (h σ H sl) fun v H' ⟨s, r⟩ => ⟨p, r.bl_inv, s, rfl⟩)
theorem et_not (h : EvT X a ρ p) : EvT X (.UnaryOp .Not a pos) ρ (!p) := fun σ H sl => tw_of (pt_not pt_tw) (tw_mono (h σ H sl) fun v H' ⟨s, r⟩ => ⟨s, by rw [r]⟩)
theorem ev_not (h : EvD X a ρ (.bool p)) : EvD X (.UnaryOp .Not a pos) ρ (.bool (!p)) := fun σ H sl => ew_of (pe_not pe_ew) (ew_mono (h σ H sl) fun v H' ⟨s, r⟩ => ⟨p, r.bl_inv, s, .bl _⟩)
/-- chains of and, or, as tests -/
def EvW (X : Cx) (e : Expr) (ρ : Rho) (b : Bool) : Prop := ∃ t, PW X e t ∧ ∀ σ H (Q : Bool → Hp → Prop), Sl H σ ρ → (∀ H', Same H H' → Q b H') → t σ H Q
theorem et_w (h : EvW X e ρ p) : EvT X e ρ p := fun σ H sl => let ⟨t, h1, h2⟩ := h; tw_of h1.pt (h2 σ H _ sl fun H' s => ⟨s, rfl⟩)
theorem tw_q (h : EvT X a ρ p) {σ : St} {H : Hp} (sl : Sl H σ ρ) {Q : Bool → Hp → Prop} (k : ∀ H', Same H H' → Q p H') : TW X a σ H Q := tw_mono (h σ H sl) fun c H' ⟨s, r⟩ => r ▸ k H' s
theorem ew_and1 (h : EvT X a ρ p) : EvW X (.BoolOp .And [a] pos) ρ p := ⟨_, pw_and1 pt_tw, fun σ H Q sl k => tw_q h sl k⟩
theorem ew_or1 (h : EvT X a ρ p) : EvW X (.BoolOp .Or [a] pos) ρ p := ⟨_, pw_or1 pt_tw, fun σ H Q sl k => tw_q h sl k⟩
theorem ew_and {rest : List Expr} (h : EvT X a ρ p) (h2 : p = true → EvW X (.BoolOp .And (b :: rest) pos) ρ q) : EvW X (.BoolOp .And (a :: b :: rest) pos) ρ (p && q) := by
  cases p with
  | false => exact ⟨_, pw_and (tB' := fun _ _ _ => False) pt_tw ⟨fun _ _ _ _ _ _ _ h => h.elim⟩, fun σ H Q sl k => tw_q h sl fun H' s => ite_f (k H' s)⟩
  | true =>
    obtain ⟨t, h3, h4⟩ := h2 rfl
    exact ⟨_, pw_and pt_tw h3, fun σ H Q sl k => tw_q h sl fun H' s => ite_t (h4 σ H' Q (sl.same s) fun H2 s2 => k H2 (s.trans s2))⟩
theorem ew_or {rest : List Expr} (h : EvT X a ρ p) (h2 : p = false → EvW X (.BoolOp .Or (b :: rest) pos) ρ q) : EvW X (.BoolOp .Or (a :: b :: rest) pos) ρ (p || q) := by
  cases p with
  | true => exact ⟨_, pw_or (tB' := fun _ _ _ => False) pt_tw ⟨fun _ _ _ _ _ _ _ h => h.elim⟩, fun σ H Q sl k => tw_q h sl fun H' s => ite_t (k H' s)⟩
  | false =>
    obtain ⟨t, h3, h4⟩ := h2 rfl
    exact ⟨_, pw_or pt_tw h3, fun σ H Q sl k => tw_q h sl fun H' s => ite_f (h4 σ H' Q (sl.same s) fun H2 s2 => k H2 (s.trans s2))⟩
/-- as values -/
theorem ev_one {op} (h : EvD X a ρ d) : EvD X (.BoolOp op [a] pos) ρ d := fun σ H sl => ew_of (pe_one pe_ew) (h σ H sl)
theorem ev_and {rest : List Expr} (h : EvD X a ρ (.bool p)) (h2 : p = true → EvD X (.BoolOp .And (b :: rest) pos) ρ (.bool q)) : EvD X (.BoolOp .And (a :: b :: rest) pos) ρ (.bool (p && q)) := fun σ H sl =>
  ew_of (pe_and pe_ew pe_ew) (ew_mono (h σ H sl) fun v H' ⟨s, r⟩ => ⟨p, r.bl_inv, ite_b p
    (fun e => by subst e; exact ew_mono (h2 rfl σ H' (sl.same s)) fun w H2 ⟨s2, r2⟩ => ⟨s.trans s2, r2⟩) (fun e => by subst e; exact ⟨s, .bl _⟩)⟩)
theorem ev_or {rest : List Expr} (h : EvD X a ρ (.bool p)) (h2 : p = false → EvD X (.BoolOp .Or (b :: rest) pos) ρ (.bool q)) : EvD X (.BoolOp .Or (a :: b :: rest) pos) ρ (.bool (p || q)) := fun σ H sl =>
  ew_of (pe_or pe_ew pe_ew) (ew_mono (h σ H sl) fun v H' ⟨s, r⟩ => ⟨p, r.bl_inv, ite_b p
    (fun e => by subst e; exact ⟨s, .bl _⟩) (fun e => by subst e; exact ew_mono (h2 rfl σ H' (sl.same s)) fun w H2 ⟨s2, r2⟩ => ⟨s.trans s2, r2⟩)⟩)
/-! ### == and in, by data -/
theorem eqd (h1 : SeqAt.shaped d = true) (h2 : SeqAt.shaped d' = true) {x y : V} {H : Hp} {Q : VK} (r1 : Rp H x d) (r2 : Rp H y d') (k : Q (.bl (PyData.eqv d d')) H) : rEqD X.K x y H Q := ⟨d, d', r1.dp, r2.dp, h1, h2, k⟩
theorem ev_eq (hu : X.A.units + 64 < cLine) (ha : EvD X a ρ d) (hb : EvD X b ρ d') (h1 : SeqAt.shaped d = true) (h2 : SeqAt.shaped d' = true) : EvD X (.Compare a [.Eq] [b] pos) ρ (.bool (PyData.eqv d d')) := ev_cmp (op_eqD hu) (nomark _) ha hb fun x y H Q r1 r2 k => eqd h1 h2 r1 r2 (k _ (Same.refl H))
theorem et_eq (hu : X.A.units + 64 < cLine) (ha : EvD X a ρ d) (hb : EvD X b ρ d') (h1 : SeqAt.shaped d = true) (h2 : SeqAt.shaped d' = true) : EvT X (.Compare a [.Eq] [b] pos) ρ (PyData.eqv d d') := et_cmp (op_eqD hu) (nomark _) ha hb fun x y H Q r1 r2 k => eqd h1 h2 r1 r2 (k _ (Same.refl H))
theorem et_ne (hu : X.A.units + 64 < cLine) (ha : EvD X a ρ d) (hb : EvD X b ρ d') (h1 : SeqAt.shaped d = true) (h2 : SeqAt.shaped d' = true) : EvT X (.Compare a [.NotEq] [b] pos) ρ (!PyData.eqv d d') := et_cmp (op_neD hu) (nomark _) ha hb fun x y H Q r1 r2 k => ⟨d, d', r1.dp, r2.dp, h1, h2, k _ (Same.refl H)⟩
theorem ev_in (hu : X.A.units + 65 < cLine) (ha : EvD X a ρ d) (hb : EvD X b ρ (.list ds)) (h1 : SeqAt.shaped d = true) (h2 : SeqAt.shaped (.list ds) = true) (hm : behindInMarks .In b = false := by rfl) : EvD X (.Compare a [.In] [b] pos) ρ (.bool (ds.any fun z => PyData.eqv z d)) := ev_cmp (op_inD hu) hm ha hb fun x y H Q r1 r2 k => ⟨d, ds, r1.dp, r2.dp, h1, h2, k _ (Same.refl H)⟩
theorem et_in (hu : X.A.units + 65 < cLine) (ha : EvD X a ρ d) (hb : EvD X b ρ (.list ds)) (h1 : SeqAt.shaped d = true) (h2 : SeqAt.shaped (.list ds) = true) (hm : behindInMarks .In b = false := by rfl) : EvT X (.Compare a [.In] [b] pos) ρ (ds.any fun z => PyData.eqv z d) := et_cmp (op_inD hu) hm ha hb fun x y H Q r1 r2 k => ⟨d, ds, r1.dp, r2.dp, h1, h2, k _ (Same.refl H)⟩
theorem et_notin (hu : X.A.units + 65 < cLine) (ha : EvD X a ρ d) (hb : EvD X b ρ (.list ds)) (h1 : SeqAt.shaped d = true) (h2 : SeqAt.shaped (.list ds) = true) (hm : behindInMarks .NotIn b = false := by rfl) : EvT X (.Compare a [.NotIn] [b] pos) ρ (!ds.any fun z => PyData.eqv z d) := et_cmp (op_notInD hu) hm ha hb fun x y H Q r1 r2 k => ⟨d, ds, r1.dp, r2.dp, h1, h2, k _ (Same.refl H)⟩
/-- a sign in a text -/
theorem ev_inSign {k : Nat} {z : Str} (ha : EvD X a ρ (.str ⟨#[k]⟩)) (hb : EvD X b ρ (.str z)) (hm : behindInMarks .In b = false := by rfl) : EvD X (.Compare a [.In] [b] pos) ρ (.bool (decide (k ∈ z.cps.toList))) := ev_cmp op_in_sign hm ha hb fun x y H Q r1 r2 q => ⟨k, z, r1.str_inv, r2.str_inv, q _ (Same.refl H)⟩
/-- is None -/
def isNone : PyData → Bool
  | .none => true
  | _ => false
theorem isNone_of {H : Hp} {v : V} (h : Rp H v d) : decide (v = .non) = isNone d := by cases h <;> rfl
theorem ev_isN {j pos'} (ha : EvD X a ρ d) : EvD X (.Compare a [.Is] [.Constant .none j pos'] pos) ρ (.bool (isNone d)) := ev_cmp op_isN (nomark _) ha ev_non fun x y H Q r1 r2 k => ⟨r2.non_inv, by rw [isNone_of r1]; exact k _ (Same.refl H)⟩
theorem et_isN {j pos'} (ha : EvD X a ρ d) : EvT X (.Compare a [.Is] [.Constant .none j pos'] pos) ρ (isNone d) := et_cmp op_isN (nomark _) ha ev_non fun x y H Q r1 r2 k => ⟨r2.non_inv, by rw [isNone_of r1]; exact k _ (Same.refl H)⟩
theorem ev_notN {j pos'} (ha : EvD X a ρ d) : EvD X (.Compare a [.IsNot] [.Constant .none j pos'] pos) ρ (.bool (!isNone d)) := ev_cmp op_notN (nomark _) ha ev_non fun x y H Q r1 r2 k => ⟨r2.non_inv, by rw [isNone_of r1]; exact k _ (Same.refl H)⟩
theorem et_notN {j pos'} (ha : EvD X a ρ d) : EvT X (.Compare a [.IsNot] [.Constant .none j pos'] pos) ρ (!isNone d) := et_cmp op_notN (nomark _) ha ev_non fun x y H Q r1 r2 k => ⟨r2.non_inv, by rw [isNone_of r1]; exact k _ (Same.refl H)⟩
/-! ### displays, argument lists -/
theorem eva_nil : EvA X [] ρ [] := fun σ H sl => aw_of pa_nil ⟨Same.refl H, .nil⟩
theorem pair_same {H H' : Hp} (s : Same H H') : ∀ {vs : List V} {Ts : List Ty}, Paired (fun v (T : Ty) => T.R H v) vs Ts → Paired (fun v (T : Ty) => T.R H' v) vs Ts
  | _, _, .nil => .nil
  | _, T :: _, .cons r t => .cons (T.mono _ _ _ s r) (pair_same s t)
theorem pairD_same {H H' : Hp} (s : Same H H') : ∀ {vs : List V} {Ts : List PyData}, Paired (fun v d => Rp H v d) vs Ts → Paired (fun v d => Rp H' v d) vs Ts
  | _, _, .nil => .nil
  | _, T :: _, .cons r t => .cons (r.same s) (pairD_same s t)
theorem eva_cons {Ts : List Ty} (h : EvE X e ρ T) (h2 : EvA X es ρ Ts) (hs : starEach (e :: es) X.env = (false, eval e X.env) :: starEach es X.env := by rfl) : EvA X (e :: es) ρ (T :: Ts) := fun σ H sl =>
  aw_of (pa_cons pe_ew pa_aw hs) (ew_mono (h σ H sl) fun v H1 ⟨s1, r1⟩ => aw_mono (h2 σ H1 (sl.same s1)) fun vs H2 ⟨s2, r2⟩ => ⟨s1.trans s2, .cons (T.mono _ _ _ s2 r1) r2⟩)
theorem evl_nil : EvL X [] ρ [] := fun σ H sl => aw_of pa_nil ⟨Same.refl H, .nil⟩
theorem evl_cons (h : EvD X e ρ d) (h2 : EvL X es ρ ds) (hs : starEach (e :: es) X.env = (false, eval e X.env) :: starEach es X.env := by rfl) : EvL X (e :: es) ρ (d :: ds) := fun σ H sl =>
  aw_of (pa_cons pe_ew pa_aw hs) (ew_mono (h σ H sl) fun v H1 ⟨s1, r1⟩ => aw_mono (h2 σ H1 (sl.same s1)) fun vs H2 ⟨s2, r2⟩ => ⟨s1.trans s2, .cons (r1.same s2) r2⟩)
theorem pair_at {α β : Type} {F : α → β → Prop} : ∀ {xs : List α} {ds : List β}, Paired F xs ds → ∀ (i : Nat) (v : α) (d : β), xs[i]? = some v → ds[i]? = some d → F v d
  | _, _, .nil, i, v, d, h, _ => by simp at h
  | _, _, .cons r t, 0, v, d, h, h2 => by simp at h h2; subst h; subst h2; exact r
  | _, _, .cons r t, i + 1, v, d, h, h2 => pair_at t i v d (by simpa using h) (by simpa using h2)
theorem same_new {H : Hp} {p : Addr} {o : HO} (h : H p = none) : Same H (upd H p o) := fun b u e => by rw [upd_ne (ne_of_none e h)]; exact e
theorem Rp.tup_new {H : Hp} {p : Addr} {xs : List V} (hp : H p = none) (hz : xs.length ≤ sizeLine) (h : Paired (fun v d => Rp H v d) xs ds) : Rp (upd H p (.tup xs)) (.ref p) (.tuple ds) := .tup upd_same hz (Paired.length h) fun i v d h1 h2 => (pair_at h i v d h1 h2).same (same_new hp)
theorem Rp.lst_new {H : Hp} {p : Addr} {xs : List V} (hp : H p = none) (hz : xs.length ≤ sizeLine) (h : Paired (fun v d => Rp H v d) xs ds) : Rp (upd H p (.lst xs)) (.ref p) (.list ds) := .lst upd_same hz (Paired.length h) fun i v d h1 h2 => (pair_at h i v d h1 h2).same (same_new hp)
theorem small_line {n : Nat} (h : n ≤ 100000) : n ≤ sizeLine := Nat.le_trans h (by rw [sizeLine_eq]; decide)
theorem ev_tup {k} (h : EvL X es ρ ds) (hl : ds.length ≤ 100000 := by simp) : EvD X (.Tuple es k pos) ρ (.tuple ds) := fun σ H sl =>
  ew_of (pe_tup pa_aw) (aw_mono (h σ H sl) fun vs H1 ⟨s1, r1⟩ => ⟨by rw [Paired.length r1]; exact small_line hl, fun p hp => ⟨s1.trans (same_new hp), Rp.tup_new hp (by rw [Paired.length r1]; exact small_line hl) r1⟩⟩)
theorem ev_lst (h : EvL X es ρ ds) (hl : ds.length ≤ 100000 := by simp) : EvD X (.List es pos) ρ (.list ds) := fun σ H sl =>
  ew_of (pe_lst pa_aw) (aw_mono (h σ H sl) fun vs H1 ⟨s1, r1⟩ => ⟨by rw [Paired.length r1]; exact small_line hl, fun p hp => ⟨s1.trans (same_new hp), Rp.lst_new hp (by rw [Paired.length r1]; exact small_line hl) r1⟩⟩)
/-- a tuple of things of any kind -/
def tupT (Ts : List Ty) : Ty := ⟨fun H v => ∃ a xs, v = .ref a ∧ H a = some (.tup xs) ∧ Paired (fun v (T : Ty) => T.R H v) xs Ts, fun H H' v s ⟨a, xs, h1, h2, h3⟩ => ⟨a, xs, h1, s _ _ h2, pair_same s h3⟩⟩
theorem ev_tupT {k} {Ts : List Ty} (h : EvA X es ρ Ts) (hl : Ts.length ≤ 100000 := by simp) : EvE X (.Tuple es k pos) ρ (tupT Ts) := fun σ H sl =>
  ew_of (pe_tup pa_aw) (aw_mono (h σ H sl) fun vs H1 ⟨s1, r1⟩ => ⟨by rw [Paired.length r1]; exact small_line hl, fun p hp => ⟨s1.trans (same_new hp), p, vs, rfl, upd_same, pair_same (same_new hp) r1⟩⟩)
/-! ### subscripts -/
theorem rp_get {H : Hp} {xs : List V} {ds : List PyData} (hl : xs.length = ds.length) (hi : ∀ (i : Nat) (v : V) (d : PyData), xs[i]? = some v → ds[i]? = some d → Rp H v d) {i : Nat} {d : PyData} (h : ds[i]? = some d) : ∃ v, xs[i]? = some v ∧ Rp H v d := by
  have hlt : i < ds.length := (List.getElem?_eq_some_iff.mp h).1
  have hlt2 : i < xs.length := by omega
  exact ⟨xs[i], List.getElem?_eq_getElem hlt2, hi i _ d (List.getElem?_eq_getElem hlt2) h⟩
theorem ev_ixT {i : Nat} (ha : EvD X a ρ (.tuple ds)) (hb : EvD X b ρ (.int (i : Int))) (h : ds[i]? = some d) (hs : PlainIx b := by exact fun _ _ => rfl) : EvD X (.Subscript a b pos) ρ d := fun σ H sl =>
  ew_of (pe_ix ix_tup pe_ew pe_ew hs) (ew_mono (ha σ H sl) fun x H1 ⟨s1, r1⟩ => ew_mono (hb σ H1 (sl.same s1)) fun y H2 ⟨s2, r2⟩ => by
    obtain ⟨p, xs, e1, h1, hz, hl, hi⟩ := (Rp.same s2 r1).tup_inv
    obtain ⟨v, hv, rv⟩ := rp_get hl hi h
    exact ⟨p, xs, i, v, e1, r2.int_inv, SqT.of h1, atI_nat hv, s1.trans s2, rv⟩)
theorem ev_ixL {i : Nat} (ha : EvD X a ρ (.list ds)) (hb : EvD X b ρ (.int (i : Int))) (h : ds[i]? = some d) (hs : PlainIx b := by exact fun _ _ => rfl) : EvD X (.Subscript a b pos) ρ d := fun σ H sl =>
  ew_of (pe_ix ix_list pe_ew pe_ew hs) (ew_mono (ha σ H sl) fun x H1 ⟨s1, r1⟩ => ew_mono (hb σ H1 (sl.same s1)) fun y H2 ⟨s2, r2⟩ => by
    obtain ⟨p, xs, e1, h1, hz, hl, hi⟩ := (Rp.same s2 r1).lst_inv
    obtain ⟨v, hv, rv⟩ := rp_get hl hi h
    exact ⟨p, xs, i, v, e1, r2.int_inv, SqL.of h1, atI_nat hv, s1.trans s2, rv⟩)
/-- xs[-1] -/
theorem ev_lastL (ha : EvD X a ρ (.list ds)) (hb : EvD X b ρ (.int (-1))) (h : ds[ds.length - 1]? = some d) (hs : PlainIx b := by exact fun _ _ => rfl) : EvD X (.Subscript a b pos) ρ d := fun σ H sl =>
  ew_of (pe_ix ix_list pe_ew pe_ew hs) (ew_mono (ha σ H sl) fun x H1 ⟨s1, r1⟩ => ew_mono (hb σ H1 (sl.same s1)) fun y H2 ⟨s2, r2⟩ => by
    obtain ⟨p, xs, e1, h1, hz, hl, hi⟩ := (Rp.same s2 r1).lst_inv
    obtain ⟨v, hv, rv⟩ := rp_get hl hi h
    refine ⟨p, xs, -1, v, e1, r2.int_inv, SqL.of h1, ?_, s1.trans s2, rv⟩
    have hlt : ds.length - 1 < ds.length := (List.getElem?_eq_some_iff.mp h).1
    unfold atI ixN
    rw [if_neg (by omega), if_pos (by omega)]
    have e : ((-1 : Int) + (xs.length : Int)).toNat = ds.length - 1 := by omega
    show xs[((-1 : Int) + (xs.length : Int)).toNat]? = some v
    rw [e]; exact hv)
/-- len -/
def lenD : PyData → Option Nat
  | .list ds => some ds.length
  | .tuple ds => some ds.length
  | .str s => if s.length ≤ sizeLine then some s.length else none
  | _ => none
theorem ev_len {p' : Pos} {n : Nat} (hm : X.mg "len" = none) (ha : EvD X a ρ d) (hn : lenD d = some n) (hg : Gl X "len" := by rfl) (he : starEach (a :: []) X.env = (false, eval a X.env) :: starEach [] X.env := by rfl) (hpl : (backTo pos (starEach [] X.env)).any (·.1) = false := by rfl) : EvD X (.Call (.Name "len" p') [a] [] pos) ρ (.int n) := fun σ H sl =>
  ew_of (pe_callB call_len hg hm PySem.boot_len pa_aw (he := he) (hpl := hpl)) (aw_of (pa_cons pe_ew pa_nil he) (ew_mono (ha σ H sl) fun v H1 ⟨s1, r1⟩ => by
    refine ⟨v, n, rfl, ?_, s1, .int _⟩
    cases d with
    | list ds =>
      obtain ⟨q, xs, rfl, h1, hz, hl, hi⟩ := Rp.lst_inv r1
      cases hn
      exact .inl ⟨xs, SqL.of h1, hl.symm⟩
    | tuple ds =>
      obtain ⟨q, xs, rfl, h1, hz, hl, hi⟩ := Rp.tup_inv r1
      cases hn
      exact .inr ⟨xs, SqT.of h1, hl.symm⟩
    | str z =>
      cases r1.str_inv
      have hn2 : (if z.length ≤ sizeLine then some z.length else none) = some n := hn
      by_cases hle : z.length ≤ sizeLine
      · rw [if_pos hle] at hn2
        cases hn2
        exact ⟨hle, rfl⟩
      · rw [if_neg hle] at hn2
        cases hn2
    | none => cases hn
    | bool _ => cases hn
    | int _ => cases hn
    | dict _ => cases hn))
end
end WD
set_option Elab.async false
set_option linter.all false
set_option maxRecDepth 100000
set_option maxHeartbeats 1000000
namespace WD
open PySem PySem.Spec PyProof.Rows L2
section
variable {X : Cx} {e a b c : Expr} {es : List Expr} {ρ ρ' : Rho} {T U Ta Tb : Ty} {pos p' : Pos} {d d' : PyData} {ds : List PyData} {p q : Bool}
/-! ### built-in calls -/
/-- a call of a built-in function of one argument -/
theorem ev_cb1 {x : Str} {id : String} {r : List V → Hp → VK → Prop} (hc : CallR X (.builtin id) r) (hm : X.mg x = none) (hv : bootBuiltins x = some (.builtin id)) (ha : EvE X a ρ Ta) (h : ∀ v H (Q : VK), Ta.R H v → (∀ w H', Same H H' → T.R H' w → Q w H') → r [v] H Q)
    (hg : Gl X x := by rfl) (hn : x ≠ "__name__" := by decide) (hdb : (x == ("__debug__" : Str)) = false := by decide) (he : starEach (a :: []) X.env = (false, eval a X.env) :: starEach [] X.env := by rfl) (hpl : (backTo pos (starEach [] X.env)).any (·.1) = false := by rfl) : EvE X (.Call (.Name x p') [a] [] pos) ρ T := fun σ H sl =>
  ew_of (pe_callB hc hg hm hv pa_aw hn hdb he hpl) (aw_of (pa_cons pe_ew pa_nil he) (ew_mono (ha σ H sl) fun v H1 ⟨s1, r1⟩ => h v H1 _ r1 fun w H2 s2 r2 => ⟨s1.trans s2, r2⟩))
theorem ev_ct1 {x : Str} {t : String} {r : List V → Hp → VK → Prop} (hc : CallR X (.type t) r) (hm : X.mg x = none) (hv : bootBuiltins x = some (.type t)) (ha : EvE X a ρ Ta) (h : ∀ v H (Q : VK), Ta.R H v → (∀ w H', Same H H' → T.R H' w → Q w H') → r [v] H Q)
    (hg : Gl X x := by rfl) (hn : x ≠ "__name__" := by decide) (hdb : (x == ("__debug__" : Str)) = false := by decide) (he : starEach (a :: []) X.env = (false, eval a X.env) :: starEach [] X.env := by rfl) (hpl : (backTo pos (starEach [] X.env)).any (·.1) = false := by rfl) : EvE X (.Call (.Name x p') [a] [] pos) ρ T := fun σ H sl =>
  ew_of (pe_callTy hc hg hm hv pa_aw hn hdb he hpl) (aw_of (pa_cons pe_ew pa_nil he) (ew_mono (ha σ H sl) fun v H1 ⟨s1, r1⟩ => h v H1 _ r1 fun w H2 s2 r2 => ⟨s1.trans s2, r2⟩))
/-- all(a list of truth values) -/
theorem rp_bools {H : Hp} : ∀ {xs : List V} {bs : List Bool}, xs.length = bs.length → (∀ (i : Nat) (v : V) (d : PyData), xs[i]? = some v → (bs.map PyData.bool)[i]? = some d → Rp H v d) → xs = bs.map V.bl
  | [], [], _, _ => rfl
  | [], _ :: _, h, _ => by cases h
  | _ :: _, [], h, _ => by cases h
  | x :: xs, b :: bs, h, k => by
    have h0 := (k 0 x (.bool b) rfl rfl).bl_inv
    have h1 := rp_bools (Nat.succ.inj h) fun i v d e1 e2 => k (i + 1) v d (by simpa using e1) (by simpa using e2)
    rw [h0, h1]; rfl
theorem rp_ints {H : Hp} : ∀ {xs : List V} {bs : List Int}, xs.length = bs.length → (∀ (i : Nat) (v : V) (d : PyData), xs[i]? = some v → (bs.map PyData.int)[i]? = some d → Rp H v d) → xs = bs.map V.int
  | [], [], _, _ => rfl
  | [], _ :: _, h, _ => by cases h
  | _ :: _, [], h, _ => by cases h
  | x :: xs, b :: bs, h, k => by
    have h0 := (k 0 x (.int b) rfl rfl).int_inv
    have h1 := rp_ints (Nat.succ.inj h) fun i v d e1 e2 => k (i + 1) v d (by simpa using e1) (by simpa using e2)
    rw [h0, h1]; rfl
theorem ev_all {bs : List Bool} (hm : X.mg "all" = none) (ha : EvD X a ρ (.list (bs.map PyData.bool))) (hc : X.calm = true := by rfl) (hg : Gl X "all" := by rfl) (he : starEach (a :: []) X.env = (false, eval a X.env) :: starEach [] X.env := by rfl) (hpl : (backTo pos (starEach [] X.env)).any (·.1) = false := by rfl) : EvD X (.Call (.Name "all" p') [a] [] pos) ρ (.bool (bs.all id)) :=
  ev_cb1 (cr_all hc) hm (by decide +kernel) ha (fun v H Q r k => by
    obtain ⟨q, xs, rfl, h1, hz, hl, hi⟩ := Rp.lst_inv r
    have e := rp_bools (by simpa using hl) hi
    subst e
    exact ⟨q, bs, rfl, SqL.of h1, k _ _ (Same.refl H) (.bl _)⟩) hg (by decide) (by decide) he hpl
/-- tuple(a list) -/
theorem ev_tuple (hm : X.mg "tuple" = none) (ha : EvD X a ρ (.list ds)) (hg : Gl X "tuple" := by rfl) (he : starEach (a :: []) X.env = (false, eval a X.env) :: starEach [] X.env := by rfl) (hpl : (backTo pos (starEach [] X.env)).any (·.1) = false := by rfl) : EvD X (.Call (.Name "tuple" p') [a] [] pos) ρ (.tuple ds) :=
  ev_ct1 call_tuple_of hm (by decide +kernel) ha (fun v H Q r k => by
    obtain ⟨q, xs, rfl, h1, hz, hl, hi⟩ := Rp.lst_inv r
    exact ⟨q, xs, rfl, .inl ⟨SqL.of h1, fun l hl' => k _ _ (same_new hl') (.tup upd_same hz hl fun i v d a b => (hi i v d a b).same (same_new hl'))⟩⟩) hg (by decide) (by decide) he hpl
/-- int(a truth value) -/
theorem ev_intB (hm : X.mg "int" = none) (ha : EvD X a ρ (.bool p)) (hg : Gl X "int" := by rfl) (he : starEach (a :: []) X.env = (false, eval a X.env) :: starEach [] X.env := by rfl) (hpl : (backTo pos (starEach [] X.env)).any (·.1) = false := by rfl) : EvD X (.Call (.Name "int" p') [a] [] pos) ρ (.int (if p then 1 else 0)) :=
  ev_ct1 call_int1 hm (by decide +kernel) ha (fun v H Q r k => .inr ⟨p, by rw [Rp.bl_inv r], k _ _ (Same.refl H) (.int _)⟩) hg (by decide) (by decide) he hpl
/-- isinstance(x, T), T a built-in class -/
def tyD : PyData → String
  | .none => "NoneType" | .bool _ => "bool" | .int _ => "int" | .str _ => "str" | .list _ => "list" | .tuple _ => "tuple" | .dict _ => "dict"
theorem tyx_of {K : PySem.W.Frag} {H : Hp} {v : V} (h : Rp H v d) : TyX K H v (.type (tyD d)) := by
  cases h with
  | non => exact .base .non
  | bl b => exact .base (.bl b)
  | int i => exact .base (.int i)
  | str x => exact .base (.str x)
  | lst h _ _ _ => exact .base (.lst h)
  | tup h _ _ _ => exact .base (.tup h)
theorem ev_isi (u t : String) (r : Bool) (hm : X.mg "isinstance" = none) (ha : EvD X a ρ d) (hb : EvE X b ρ (tyT t)) (hk : kitB u t = some r := by decide +kernel) (ht : tyD d = u := by rfl) (hg : Gl X "isinstance" := by rfl)
    (he : starEach (a :: [b]) X.env = (false, eval a X.env) :: starEach [b] X.env := by rfl) (he2 : starEach (b :: []) X.env = (false, eval b X.env) :: starEach [] X.env := by rfl) (hpl : (backTo pos (starEach [b] X.env)).any (·.1) = false := by rfl) : EvD X (.Call (.Name "isinstance" p') [a, b] [] pos) ρ (.bool r) := fun σ H sl =>
  ew_of (pe_callB call_isi hg hm (by decide +kernel) pa_aw (he := he) (hpl := hpl)) (aw_of (pa_cons pe_ew (pa_cons pe_ew pa_nil he2) he) (ew_mono (ha σ H sl) fun v H1 ⟨s1, r1⟩ => ew_mono (hb σ H1 (sl.same s1)) fun w H2 ⟨s2, r2⟩ => by
    cases (show w = .ty t from r2)
    exact ⟨v, .ty t, .type (tyD d), .type t, r, rfl, .ty t, tyx_of (Rp.same s2 r1), kit_ty (by rw [ht]; exact hk), s1.trans s2, .bl r⟩))
/-! ### tuple + tuple, slices -/
theorem ev_cat {ds es' : List PyData} (ha : EvD X a ρ (.tuple ds)) (hb : EvD X b ρ (.tuple es')) (hz : ds.length + es'.length ≤ 100000) : EvD X (.BinOp a .Add b pos) ρ (.tuple (ds ++ es')) := ev_op op_catA ha hb fun x y H Q r1 r2 k => by
  obtain ⟨p1, xs, e1, h1, z1, l1, i1⟩ := Rp.tup_inv r1
  obtain ⟨p2, ys, e2, h2, z2, l2, i2⟩ := Rp.tup_inv r2
  subst e1 e2
  have hz' : xs.length + ys.length ≤ sizeLine := by rw [l1, l2]; exact small_line hz
  refine ⟨p1, p2, xs, ys, rfl, rfl, SqT.of h1, SqT.of h2, hz', fun e => ?_, fun _ e => ?_, fun _ _ p hp => k _ _ (same_new hp) ?_⟩
  · subst e
    have : ds = [] := List.length_eq_zero_iff.mp (by simpa using l1.symm)
    subst this
    exact k _ _ (Same.refl H) r2
  · subst e
    have : es' = [] := List.length_eq_zero_iff.mp (by simpa using l2.symm)
    subst this
    refine k _ _ (Same.refl H) ?_
    rw [List.append_nil]; exact r1
  · refine .tup upd_same (by rw [List.length_append]; exact hz') (by simp [l1, l2]) fun i v d a b => Rp.same (same_new hp) ?_
    by_cases hlt : i < xs.length
    · rw [List.getElem?_append_left hlt] at a
      rw [List.getElem?_append_left (by omega)] at b
      exact i1 i v d a b
    · rw [List.getElem?_append_right (by omega)] at a
      rw [List.getElem?_append_right (by omega)] at b
      rw [l1] at a
      exact i2 _ v d a b
/-- t[i:j], 0 ≤ i, 0 ≤ j; a part left out -/
def EvO (X : Cx) (o : Option Expr) (ρ : Rho) (k : Option Nat) : Prop := (o = none ∧ k = none) ∨ ∃ e n, o = some e ∧ k = some n ∧ EvD X e ρ (.int (n : Int))
theorem eo_none : EvO X none ρ none := .inl ⟨rfl, rfl⟩
theorem eo_some {n : Nat} (h : EvD X e ρ (.int (n : Int))) : EvO X (some e) ρ (some n) := .inr ⟨e, n, rfl, rfl, h⟩
def cutD (ds : List PyData) (lo hi : Option Nat) : List PyData := (ds.drop (min (lo.getD 0) ds.length)).take (min (hi.getD ds.length) ds.length - min (lo.getD 0) ds.length)
theorem rp_cut {H : Hp} {xs : List V} {ds : List PyData} (hl : xs.length = ds.length) (hi : ∀ (i : Nat) (v : V) (d : PyData), xs[i]? = some v → ds[i]? = some d → Rp H v d) (lo hi' : Option Nat) :
    (cutV xs (lo.map fun n => (n : Int)) (hi'.map fun n => (n : Int))).length = (cutD ds lo hi').length ∧ ∀ (i : Nat) (v : V) (d : PyData), (cutV xs (lo.map fun n => (n : Int)) (hi'.map fun n => (n : Int)))[i]? = some v → (cutD ds lo hi')[i]? = some d → Rp H v d := by
  have e1 : HT.sIx xs.length 0 (lo.map fun n => (n : Int)) = min (lo.getD 0) ds.length := by
    cases lo with
    | none => rw [← hl]; show 0 = min 0 _; omega
    | some n => show HT.sIx xs.length 0 (some (n : Int)) = min n ds.length; rw [HT.sIx_nat, hl]
  have e2 : HT.sIx xs.length xs.length (hi'.map fun n => (n : Int)) = min (hi'.getD ds.length) ds.length := by
    cases hi' with
    | none => show xs.length = min ds.length ds.length; omega
    | some n => show HT.sIx xs.length xs.length (some (n : Int)) = min n ds.length; rw [HT.sIx_nat, hl]
  unfold cutV cutD
  rw [e1, e2]
  refine ⟨by simp [hl], fun i v d a b => ?_⟩
  rw [List.getElem?_take] at a b
  split at a
  · rename_i hlt
    rw [if_pos hlt] at b
    rw [List.getElem?_drop] at a b
    exact hi _ v d a b
  · cases a
theorem po_of {o : Option Expr} {k : Option Nat} (h : EvO X o ρ k) : ∃ t, PO X o t ∧ ∀ σ H (Q : Option Int → Hp → Prop), Sl H σ ρ → (∀ H', Same H H' → Q (k.map fun n => (n : Int)) H') → t σ H Q := by
  rcases h with ⟨rfl, rfl⟩ | ⟨e, n, rfl, rfl, h⟩
  · exact ⟨_, po_none, fun σ H Q sl q => q H (Same.refl H)⟩
  · exact ⟨_, po_some pe_ew, fun σ H Q sl q => ew_mono (h σ H sl) fun v H' ⟨s, r⟩ => ⟨n, Rp.int_inv r, q H' s⟩⟩
theorem ev_sliceT {lo hi : Option Expr} {m n : Option Nat} {p2 : Pos} (ha : EvD X a ρ (.tuple ds)) (h1 : EvO X lo ρ m) (h2 : EvO X hi ρ n) : EvD X (.Subscript a (.Slice lo hi none p2) pos) ρ (.tuple (cutD ds m n)) := by
  obtain ⟨t1, q1, k1⟩ := po_of h1
  obtain ⟨t2, q2, k2⟩ := po_of h2
  refine fun σ H sl => ew_of (pe_slice sl_tupA pe_ew q1 q2) (ew_mono (ha σ H sl) fun x H1 ⟨s1, r1⟩ => k1 σ H1 _ (sl.same s1) fun H2 s2 => k2 σ H2 _ (sl.same (s1.trans s2)) fun H3 s3 => ?_)
  obtain ⟨p1, xs, e1, h1, z1, l1, i1⟩ := Rp.tup_inv (Rp.same (s2.trans s3) r1)
  obtain ⟨cl, ci⟩ := rp_cut l1 i1 m n
  have s := (s1.trans s2).trans s3
  refine ⟨p1, xs, e1, SqT.of h1, fun ⟨w1, w2⟩ => ⟨s, ?_⟩, fun _ p hp => ⟨s.trans (same_new hp), .tup upd_same (Nat.le_trans (by unfold cutV; simp; omega) z1) cl fun i v d a b => (ci i v d a b).same (same_new hp)⟩⟩
  have ex : cutV xs (m.map fun n => (n : Int)) (n.map fun n => (n : Int)) = xs := by
    unfold cutV
    rw [w1, w2]
    simp
  rw [ex] at cl ci
  exact .tup h1 z1 cl ci
theorem ev_sliceL {lo hi : Option Expr} {m n : Option Nat} {p2 : Pos} (ha : EvD X a ρ (.list ds)) (h1 : EvO X lo ρ m) (h2 : EvO X hi ρ n) : EvD X (.Subscript a (.Slice lo hi none p2) pos) ρ (.list (cutD ds m n)) := by
  obtain ⟨t1, q1, k1⟩ := po_of h1
  obtain ⟨t2, q2, k2⟩ := po_of h2
  refine fun σ H sl => ew_of (pe_slice sl_list pe_ew q1 q2) (ew_mono (ha σ H sl) fun x H1 ⟨s1, r1⟩ => k1 σ H1 _ (sl.same s1) fun H2 s2 => k2 σ H2 _ (sl.same (s1.trans s2)) fun H3 s3 => ?_)
  obtain ⟨p1, xs, e1, h1, z1, l1, i1⟩ := Rp.lst_inv (Rp.same (s2.trans s3) r1)
  obtain ⟨cl, ci⟩ := rp_cut l1 i1 m n
  have s := (s1.trans s2).trans s3
  exact ⟨p1, xs, e1, SqL.of h1, fun p hp => ⟨s.trans (same_new hp), .lst upd_same (Nat.le_trans (by unfold cutV; simp; omega) z1) cl fun i v d a b => (ci i v d a b).same (same_new hp)⟩⟩
/-! ### defs that only read -/
/-- called with things of Ts it hands back one of T, and all that stood stands; F says which Ts and T -/
def spR (F : List Ty → Ty → Prop) : Sp := fun vs H Q _ => ∃ Ts T, Paired (fun v (T : Ty) => T.R H v) vs Ts ∧ F Ts T ∧ ∀ v H', Same H H' → T.R H' v → Q v H'
structure Kn (P : Program) (w : World) (K : PySem.W.Frag) (mg : Str → Option Value) (base : Heap) (k : Nat) (x : Str) (F : List Ty → Ty → Prop) : Prop where
  ex : ∃ (f : Addr) (fd : FuncData) (ps : List Str), FnOk P w K mg base CX0 k f fd ps (spR F) ∧ mg x = some (.ref f) ∧ PySem.W.keepIn K (.ref f) = true ∧ Binds K fd ps []
theorem Kn.mono {P : Program} {w : World} {K : PySem.W.Frag} {mg : Str → Option Value} {base : Heap} {j k : Nat} {x : Str} {F : List Ty → Ty → Prop} (h : Kn P w K mg base j x F) (hk : j ≤ k) : Kn P w K mg base k x F :=
  let ⟨f, fd, ps, a, b⟩ := h.ex
  ⟨f, fd, ps, a.mono hk, b⟩
theorem ev_call {x : Str} {F : List Ty → Ty → Prop} {k : Nat} {Ts : List Ty} (h : Kn X.prog X.w X.K X.mg X.base k x F) (hr : Room k X.A) (ha : EvA X (a :: es) ρ Ts) (hF : F Ts T) (hg : Gl X x := by rfl) (hdb : (x == ("__debug__" : Str)) = false := by decide)
    (he : starEach (a :: es) X.env = (false, eval a X.env) :: starEach es X.env := by rfl) (hpl : (backTo pos (starEach es X.env)).any (·.1) = false := by rfl) : EvE X (.Call (.Name x p') (a :: es) [] pos) ρ T := by
  obtain ⟨f, fd, ps, G, hm, kp, hb⟩ := h.ex
  exact fun σ H sl => ew_of (pe_call G hr hg hm kp hb .nil pass0 pa_aw hdb he hpl) (aw_mono (ha σ H sl) fun vs H1 ⟨s1, r1⟩ => ⟨Ts, T, by rw [List.append_nil]; exact r1, hF, fun v H2 s2 r2 => ⟨s1.trans s2, r2⟩⟩)
end
end WD
set_option Elab.async false
set_option linter.all false
set_option maxRecDepth 100000
set_option maxHeartbeats 1000000
/-! what is being built stands aside: an expression that does not know of it leaves it as it is -/
namespace WD
open PySem PySem.Spec PyProof.Rows L2
/-- what may stand aside -/
def Loose : HO → Prop
  | .lst _ => True
  | .dK _ => True
  | .dT _ => True
  | _ => False
section
variable {X : Cx} {pins : List (Addr × Obj)} {σ σ' : St} {G G' : Hp} {s s' : Shared} {p : Addr} {o : HO}
theorem loose_ne_tup {o : HO} {xs : List V} (h : Loose o) : o ≠ .tup xs := by rintro rfl; exact h
theorem upd_some {b : Addr} {u : HO} (hp : G p = none) (h : G b = some u) : upd G p o b = some u := by rw [upd_ne (ne_of_none h hp)]; exact h
theorem upd_back {b : Addr} {u : HO} (h : upd G p o b = some u) (ne : o ≠ u) : G b = some u := by
  by_cases e : b = p
  · subst e; rw [upd_same] at h; exact absurd (Option.some.inj h) ne
  · rw [upd_ne e] at h; exact h
theorem upd_none {b : Addr} (h : upd G p o b = none) : G b = none := by
  by_cases e : b = p
  · subst e; rw [upd_same] at h; cases h
  · rw [upd_ne e] at h; exact h
theorem loose_obj {P : Program} {w : World} {H : Hp} {h : Heap} (hl : Loose o) (x : ObjOk P w H h p o) : ∃ ob, h.get? p = some ob ∧ ∀ v, ob.data ≠ .cell v := by
  cases o with
  | lst xs => obtain ⟨_, its, n, _, e⟩ := x; exact ⟨_, e, fun v q => by cases q⟩
  | dK kvs => obtain ⟨_, _, _, _, ob, es, ep, e, c⟩ := x; exact ⟨ob, e, fun v q => by have := c.2.1; rw [this] at q; cases q⟩
  | dT kvs => obtain ⟨_, _, _, _, ob, es, ep, e, _, c, _⟩ := x; exact ⟨ob, e, fun v q => by rw [c] at q; cases q⟩
  | _ => exact hl.elim
theorem loose_keep {P : Program} {w : World} {H H' : Hp} {h h' : Heap} (hl : Loose o) (x : ObjOk P w H h p o) (k : ∀ ob, h.get? p = some ob → h'.get? p = some ob) (ht : ∀ b xs, H b = some (.tup xs) → H' b = some (.tup xs)) : ObjOk P w H' h' p o := by
  cases o with
  | lst xs => obtain ⟨z, its, n, r, e⟩ := x; exact ⟨z, its, n, r, k _ e⟩
  | dK kvs => obtain ⟨z, y, vs, r, ob, es, ep, e, c⟩ := x; exact ⟨z, y, vs, r, ob, es, ep, k _ e, c⟩
  | dT kvs => obtain ⟨z, y, xs, r, ob, es, ep, e, c⟩ := x; exact ⟨z, y, xs, Paired.mapP r fun p q z => ⟨z.1, ht _ _ z.2.1, z.2.2⟩, ob, es, ep, k _ e, c⟩
  | _ => exact hl.elim
theorem inv_hide (I : Inv X pins σ (upd G p o) s) (hp : G p = none) (hl : Loose o) : ∃ ob, s.heap.get? p = some ob ∧ Inv X ((p, ob) :: pins) σ G s := by
  obtain ⟨ob, hob, hc⟩ := loose_obj hl (I.hok p o upd_same)
  have nL : p ≠ X.env.locals := fun z => by have := I.free; rw [← z, upd_same] at this; cases this
  have nF : p ∉ X.fs := fun hb => by
    obtain ⟨_, o', ho, _⟩ := I.ok.funs.mem hb
    have := I.base.free p o' ho (I.ok.frf p hb) fun z => I.ok.exfs p z hb
    rw [upd_same] at this; cases this
  refine ⟨ob, hob, I.ok, I.os, I.bare, ⟨fun b u e n f x => I.base.keep b u e n f x, fun b u e n f x => I.base.slot b u e n f x, fun b u e n x => upd_none (I.base.free b u e n x), fun b u e x => I.base.there b u e x, fun b xs e => upd_back (I.base.tups b xs e) (loose_ne_tup hl),
    fun b u xs e => upd_back (I.base.frzs b u xs e) (by rintro rfl; exact hl), fun b ps e => ?_⟩, I.loc, I.cell, upd_none I.free, fun x c e => upd_none (I.freeC x c e), fun q hq => ?_, fun b u e => ?_, I.len⟩
  · obtain ⟨m, e1⟩ := I.base.tbls b ps e
    exact ⟨m, upd_back e1 (by rintro rfl; exact hl)⟩
  · rcases List.mem_append.mp hq with h1 | h1
    · obtain ⟨a, b, c⟩ := I.pin q (List.mem_append_left _ h1)
      exact ⟨a, upd_none b, c⟩
    · rcases List.mem_cons.mp h1 with rfl | h2
      · exact ⟨hob, hp, nL, nF, hc⟩
      · obtain ⟨a, b, c⟩ := I.pin q (List.mem_append_right _ h2)
        exact ⟨a, upd_none b, c⟩
  · exact (I.hok b u (upd_some hp e)).stay (fun c v _ q => q) (fun c q => upd_back q (by rintro rfl; exact hl)) fun c xs q => upd_back q (loose_ne_tup hl)
theorem inv_show {ob : Obj} (I : Inv X pins σ (upd G p o) s) (hl : Loose o) (hob : s.heap.get? p = some ob) (I' : Inv X ((p, ob) :: pins) σ' G' s') (ts : ∀ b xs, G b = some (.tup xs) → G' b = some (.tup xs)) : G' p = none ∧ Inv X pins σ' (upd G' p o) s' := by
  obtain ⟨g1, g2, nL, nF, hc⟩ := I'.pin (p, ob) (List.mem_append_right _ List.mem_cons_self)
  refine ⟨g2, I'.ok, I'.os, I'.bare, ⟨fun b u e n f x => I'.base.keep b u e n f x, fun b u e n f x => I'.base.slot b u e n f x, fun b u e n x => ?_, fun b u e x => I'.base.there b u e x, fun b xs e => upd_some g2 (I'.base.tups b xs e),
    fun b u xs e => upd_some g2 (I'.base.frzs b u xs e), fun b ps e => ?_⟩, I'.loc, I'.cell, ?_, fun x c e => ?_, fun q hq => ?_, fun b u e => ?_, I'.len⟩
  · have nb : b ≠ p := fun z => by
      have := I.base.free b u e n x
      rw [z, upd_same] at this; cases this
    rw [upd_ne nb]
    exact I'.base.free b u e n x
  · obtain ⟨m, e1⟩ := I'.base.tbls b ps e
    exact ⟨m, upd_some g2 e1⟩
  · rw [upd_ne (Ne.symm nL)]; exact I'.free
  · have nb : c ≠ p := fun z => by
      obtain ⟨v, oc, e1, e2⟩ := I'.cell x c e
      rw [z, g1] at e1
      cases e1
      exact hc v e2
    rw [upd_ne nb]; exact I'.freeC x c e
  · have hq' : q ∈ X.pn ++ (p, ob) :: pins := by
      rcases List.mem_append.mp hq with h1 | h1
      · exact List.mem_append_left _ h1
      · exact List.mem_append_right _ (List.mem_cons_of_mem _ h1)
    have nb : q.1 ≠ p := fun z => by
      have := (I.pin q hq).2.1
      rw [z, upd_same] at this; cases this
    obtain ⟨a, b, c⟩ := I'.pin q hq'
    exact ⟨a, by rw [upd_ne nb]; exact b, c⟩
  · by_cases e1 : b = p
    · subst e1
      rw [upd_same] at e
      cases e
      refine loose_keep hl (I.hok b _ upd_same) (fun u hu => ?_) fun c xs q => upd_some g2 (ts c xs (upd_back q (loose_ne_tup hl)))
      rw [hob] at hu
      cases hu
      exact g1
    · rw [upd_ne e1] at e
      exact (I'.hok b u e).stay (fun c v _ q => q) (fun c q => upd_some g2 q) fun c xs q => upd_some g2 q
/-- THE FRAME: e knows G alone -/
theorem ew_aside {e : Expr} {Q : VK} (h : EW X e σ G fun v G' => Same G G' ∧ Q v G') (hp : G p = none) (hl : Loose o) : EW X e σ (upd G p o) fun v H' => ∃ G', G' p = none ∧ H' = upd G' p o ∧ Same G G' ∧ Q v G' := fun pins s I => by
  obtain ⟨ob, hob, J⟩ := inv_hide I hp hl
  refine thn (h _ s J) fun u s1 ⟨v, G', J', r, sm, q⟩ => ?_
  obtain ⟨g2, J2⟩ := inv_show I hl hob J' fun b xs e => sm _ _ e
  exact ⟨v, _, J2, r, G', g2, rfl, sm, q⟩
theorem tw_aside {e : Expr} {Q : Bool → Hp → Prop} (h : TW X e σ G fun v G' => Same G G' ∧ Q v G') (hp : G p = none) (hl : Loose o) : TW X e σ (upd G p o) fun v H' => ∃ G', G' p = none ∧ H' = upd G' p o ∧ Same G G' ∧ Q v G' := fun pins s I => by
  obtain ⟨ob, hob, J⟩ := inv_hide I hp hl
  refine thn (h _ s J) fun u s1 ⟨G', J', sm, q⟩ => ?_
  obtain ⟨g2, J2⟩ := inv_show I hl hob J' fun b xs e => sm _ _ e
  exact ⟨_, J2, G', g2, rfl, sm, q⟩
theorem aw_aside {es : List Expr} {Q : List V → Hp → Prop} (h : AW X es σ G fun v G' => Same G G' ∧ Q v G') (hp : G p = none) (hl : Loose o) : AW X es σ (upd G p o) fun v H' => ∃ G', G' p = none ∧ H' = upd G' p o ∧ Same G G' ∧ Q v G' := fun pos pins s I => by
  obtain ⟨ob, hob, J⟩ := inv_hide I hp hl
  refine thn (h pos _ s J) fun u s1 ⟨v, G', J', r, sm, q⟩ => ?_
  obtain ⟨g2, J2⟩ := inv_show I hl hob J' fun b xs e => sm _ _ e
  exact ⟨v, _, J2, r, G', g2, rfl, sm, q⟩
theorem ev_aside {e : Expr} {ρ : Rho} {T : Ty} (h : EvE X e ρ T) (sl : Sl G σ ρ) (hp : G p = none) (hl : Loose o) : EW X e σ (upd G p o) fun v H' => ∃ G', G' p = none ∧ H' = upd G' p o ∧ Same G G' ∧ T.R G' v := ew_aside (h σ G sl) hp hl
theorem et_aside {e : Expr} {ρ : Rho} {b : Bool} (h : EvT X e ρ b) (sl : Sl G σ ρ) (hp : G p = none) (hl : Loose o) : TW X e σ (upd G p o) fun c H' => ∃ G', G' p = none ∧ H' = upd G' p o ∧ Same G G' ∧ c = b := tw_aside (h σ G sl) hp hl
end
end WD
set_option Elab.async false
set_option linter.all false
set_option maxRecDepth 100000
set_option maxHeartbeats 1000000
namespace WD
open PySem PySem.Spec PyProof.Rows L2
section
variable {X : Cx} {e a b c elt iter tg : Expr} {es ifs : List Expr} {ρ ρ' : Rho} {T U Ta Tb : Ty} {pos p' : Pos} {d d' : PyData} {ds : List PyData} {p q : Bool}
/-! ### what is walked: n things, the i-th of Y i -/
structure Yl (J : It) (H1 : Hp) (n : Nat) (Y : Nat → Ty) : Prop where
  go : ∀ i H2, Same H1 H2 → i < n → J.go i H2 ∧ ∀ x H', J.yld i H2 x H' → Same H2 H' ∧ ∃ G, Same H1 G ∧ Same G H' ∧ (∀ b, H2 b ≠ none → H1 b = none → G b = none) ∧ (Y i).R G x
  stop : ∀ i H2, Same H1 H2 → n ≤ i → J.stop i H2
theorem same_upd {H1 H2 : Hp} {p : Addr} {o : HO} (s : Same H1 H2) : Same (upd H1 p o) (upd H2 p o) := fun b u e => by
  by_cases h : b = p
  · subst h; rw [upd_same] at e ⊢; exact e
  · rw [upd_ne h] at e ⊢; exact s b u e
theorem split_at {H : Hp} {D : Addr} {o : HO} (h : H D = some o) : ∃ G, G D = none ∧ H = upd G D o ∧ ∀ A : Hp, A D = none → Same A H → Same A G := by
  refine ⟨fun b => if b = D then none else H b, by simp, ?_, fun A hA s b u e => ?_⟩
  · funext b
    by_cases e : b = D
    · subst e; rw [upd_same]; exact h
    · rw [upd_ne e]; simp [e]
  · have ne : b ≠ D := fun z => by rw [z, hA] at e; cases e
    simp [ne, s b u e]
def Src (X : Cx) (tg iter : Expr) (ρ : Rho) (n : Nat) (Y : Nat → Ty) : Prop := ∀ σ H, Sl H σ ρ → ∀ R : It → Hp → Prop, (∀ J H1, Same H H1 → Yl J H1 n Y → R J H1) → IW X tg iter σ H R
theorem src_list (h : EvD X iter ρ (.list ds)) : Src X tg iter ρ ds.length (fun i => dD (ds.getD i .none)) := fun σ H sl R k =>
  iw_of (pi_list pe_ew) (ew_mono (h σ H sl) fun v H1 ⟨s1, r1⟩ => by
    obtain ⟨a, xs, rfl, h1, hz, hl, hi⟩ := Rp.lst_inv r1
    refine ⟨a, rfl, ⟨xs, SqL.of h1⟩, k _ _ s1 ⟨fun i H2 s2 hlt => ?_, fun i H2 s2 hle => ⟨xs, SqL.of (s2 _ _ h1), by omega⟩⟩⟩
    have hlt2 : i < xs.length := by omega
    refine ⟨⟨xs, xs[i], SqL.of (s2 _ _ h1), List.getElem?_eq_getElem hlt2⟩, fun x H' y => ?_⟩
    obtain ⟨e, y⟩ := y
    subst e
    have e1 := y xs (SqL.of (s2 _ _ h1))
    refine ⟨Same.refl _, _, Same.refl _, s2, fun b _ h => h, ?_⟩
    have e2 : ds[i]? = some (ds.getD i .none) := by rw [List.getElem?_eq_getElem hlt, List.getD_eq_getElem?_getD, List.getElem?_eq_getElem hlt]; rfl
    exact hi i x _ e1 e2)
theorem src_tup (h : EvD X iter ρ (.tuple ds)) : Src X tg iter ρ ds.length (fun i => dD (ds.getD i .none)) := fun σ H sl R k =>
  iw_of (pi_tup pe_ew) (ew_mono (h σ H sl) fun v H1 ⟨s1, r1⟩ => by
    obtain ⟨a, xs, rfl, h1, hz, hl, hi⟩ := Rp.tup_inv r1
    refine ⟨a, rfl, ⟨xs, SqT.of h1⟩, k _ _ s1 ⟨fun i H2 s2 hlt => ?_, fun i H2 s2 hle => ⟨xs, SqT.of (s2 _ _ h1), by omega⟩⟩⟩
    have hlt2 : i < xs.length := by omega
    refine ⟨⟨xs, xs[i], SqT.of (s2 _ _ h1), List.getElem?_eq_getElem hlt2⟩, fun x H' y => ?_⟩
    obtain ⟨e, y⟩ := y
    subst e
    have e1 := y xs (SqT.of (s2 _ _ h1))
    refine ⟨Same.refl _, _, Same.refl _, s2, fun b _ h => h, ?_⟩
    have e2 : ds[i]? = some (ds.getD i .none) := by rw [List.getElem?_eq_getElem hlt, List.getD_eq_getElem?_getD, List.getElem?_eq_getElem hlt]; rfl
    exact hi i x _ e1 e2)
theorem src_range {n : Nat} (hm : X.mg "range" = none) (h : EvD X a ρ (.int (n : Int))) (hn : n ≤ 1000000) (hg : Gl X "range" := by rfl) (he : starEach (a :: []) X.env = (false, eval a X.env) :: starEach [] X.env := by rfl) : Src X tg (.Call (.Name "range" p') [a] [] pos) ρ n (fun i => dD (.int (i : Int))) := fun σ H sl R k =>
  iw_of (pi_range1 hg hm pa_aw he) (aw_of (pa_cons pe_ew pa_nil he) (ew_mono (h σ H sl) fun v H1 ⟨s1, r1⟩ => by
    refine ⟨n, by rw [Rp.int_inv r1], by omega, by omega, k _ _ s1 ⟨fun i H2 s2 hlt => ⟨by show i < (n : Int).toNat; omega, fun x H' y => ?_⟩, fun i H2 s2 hle => by show (n : Int).toNat ≤ i; omega⟩⟩
    obtain ⟨e, y⟩ := y
    subst e
    subst y
    refine ⟨Same.refl _, _, Same.refl _, s2, fun b _ h => h, ?_⟩
    show Rp _ (.int (0 + (i : Int))) _
    rw [Int.zero_add]
    exact .int _))
/-- range(n - 1, -1, -1) -/
theorem src_down {n : Nat} {b c : Expr} (hm : X.mg "range" = none) (h : EvD X a ρ (.int ((n : Int) - 1))) (hb : EvD X b ρ (.int (-1))) (hc : EvD X c ρ (.int (-1))) (hn : n ≤ 1000000) (hg : Gl X "range" := by rfl)
    (he : starEach (a :: [b, c]) X.env = (false, eval a X.env) :: starEach [b, c] X.env := by rfl) (he2 : starEach (b :: [c]) X.env = (false, eval b X.env) :: starEach [c] X.env := by rfl) (he3 : starEach (c :: []) X.env = (false, eval c X.env) :: starEach [] X.env := by rfl) (hpl : (backTo pos (starEach [b, c] X.env)).any (·.1) = false := by rfl) :
    Src X tg (.Call (.Name "range" p') [a, b, c] [] pos) ρ n (fun i => dD (.int ((n : Int) - 1 - i))) := fun σ H sl R k =>
  iw_of (pi_range3 hg hm pa_aw he hpl) (aw_of (pa_cons pe_ew (pa_cons pe_ew (pa_cons pe_ew pa_nil he3) he2) he) (ew_mono (h σ H sl) fun v H1 ⟨s1, r1⟩ => ew_mono (hb σ H1 (sl.same s1)) fun v2 H2 ⟨s2, r2⟩ => ew_mono (hc σ H2 (sl.same (s1.trans s2))) fun v3 H3 ⟨s3, r3⟩ => by
    refine ⟨(n : Int) - 1, -1, -1, n, by rw [Rp.int_inv r1, Rp.int_inv r2, Rp.int_inv r3], ?_, k _ _ ((s1.trans s2).trans s3) ⟨fun i H2 s2 hlt => ⟨hlt, fun x H' y => ?_⟩, fun i H2 s2 hle => hle⟩⟩
    · have q := RgC.neg (i := (n : Int) - 1) (j := -1) (by omega) (by omega) (by omega) (by omega)
      rw [show ((n : Int) - 1 - -1).toNat = n by omega] at q
      exact q
    · obtain ⟨e, y⟩ := y
      subst e
      subst y
      refine ⟨Same.refl _, _, Same.refl _, s2, fun b _ h => h, ?_⟩
      have e1 : (n : Int) - 1 + (i : Nat) * (-1) = (n : Int) - 1 - i := by omega
      show Rp _ (.int ((n : Int) - 1 + (i : Nat) * (-1))) _
      rw [e1]
      exact .int _))
/-- enumerate(a list) to a tuple of names -/
theorem src_enum {elts : List Expr} {kk : Nat} {tpos : Pos} (hm : X.mg "enumerate" = none) (h : EvD X a ρ (.list ds)) (hg : Gl X "enumerate" := by rfl) (he : starEach (a :: []) X.env = (false, eval a X.env) :: starEach [] X.env := by rfl) :
    Src X (.Tuple elts kk tpos) (.Call (.Name "enumerate" p') [a] [] pos) ρ ds.length (fun i => dD (.tuple [.int (i : Int), ds.getD i .none])) := fun σ H sl R k =>
  iw_of (pi_enum hg hm pa_aw he) (aw_of (pa_cons pe_ew pa_nil he) (ew_mono (h σ H sl) fun v H1 ⟨s1, r1⟩ => by
    obtain ⟨a, xs, rfl, h1, hz, hl, hi⟩ := Rp.lst_inv r1
    refine ⟨a, xs, rfl, SqL.of h1, k _ _ s1 ⟨fun i H2 s2 hlt => ?_, fun i H2 s2 hle => ⟨xs, SqL.of (s2 _ _ h1), by omega⟩⟩⟩
    have hlt2 : i < xs.length := by omega
    refine ⟨⟨xs, xs[i], SqL.of (s2 _ _ h1), List.getElem?_eq_getElem hlt2⟩, fun x H' y => ?_⟩
    obtain ⟨p, z, rfl, hp, rfl, y⟩ := y
    have e1 := y xs (SqL.of (s2 _ _ h1))
    refine ⟨same_new hp, _, same_new (s2.free hp), same_upd s2, fun b h1 h2 => by rw [upd_ne (fun z => h1 (by rw [z]; exact hp))]; exact h2, ?_⟩
    have e2 : ds[i]? = some (ds.getD i .none) := by rw [List.getElem?_eq_getElem hlt, List.getD_eq_getElem?_getD, List.getElem?_eq_getElem hlt]; rfl
    exact Rp.tup_new (s2.free hp) (by show 2 ≤ sizeLine; rw [sizeLine_eq]; decide) (.cons (.int _) (.cons (hi i z _ e1 e2) .nil))))
/-- zip of two tuples of one length -/
theorem src_zip {elts : List Expr} {kk : Nat} {tpos : Pos} {es' : List PyData} (hm : X.mg "zip" = none) (h : EvD X a ρ (.tuple ds)) (h' : EvD X b ρ (.tuple es')) (hl : ds.length = es'.length) (hg : Gl X "zip" := by rfl)
    (he : starEach (a :: [b]) X.env = (false, eval a X.env) :: starEach [b] X.env := by rfl) (he2 : starEach (b :: []) X.env = (false, eval b X.env) :: starEach [] X.env := by rfl) (hpl : (backTo pos (starEach [b] X.env)).any (·.1) = false := by rfl) :
    Src X (.Tuple elts kk tpos) (.Call (.Name "zip" p') [a, b] [] pos) ρ ds.length (fun i => dD (.tuple [ds.getD i .none, es'.getD i .none])) := fun σ H sl R k =>
  iw_of (RZ.pi_zipA hg hm pa_aw he hpl) (aw_of (pa_cons pe_ew (pa_cons pe_ew pa_nil he2) he) (ew_mono (h σ H sl) fun v H1 ⟨s1, r1⟩ => ew_mono (h' σ H1 (sl.same s1)) fun v2 H2 ⟨s2, r2⟩ => by
    obtain ⟨a, xs, rfl, h1, hz, hl1, hi⟩ := Rp.tup_inv (Rp.same s2 r1)
    obtain ⟨b, ys, rfl, h2, hz2, hl2, hi2⟩ := Rp.tup_inv r2
    refine ⟨a, b, xs, ys, rfl, .inr ⟨SqT.of h1, SqT.of h2, k _ _ (s1.trans s2) ⟨fun i H2 s2 hlt => ?_, fun i H2 s2 hle => ⟨xs, ys, SqT.of (s2 _ _ h1), SqT.of (s2 _ _ h2), .inl (by omega)⟩⟩⟩⟩
    have hltx : i < xs.length := by omega
    have hlty : i < ys.length := by omega
    refine ⟨⟨xs, ys, xs[i], ys[i], SqT.of (s2 _ _ h1), SqT.of (s2 _ _ h2), List.getElem?_eq_getElem hltx, List.getElem?_eq_getElem hlty⟩, fun x H' y => ?_⟩
    obtain ⟨p, z, z', rfl, hp, rfl, y, y'⟩ := y
    have e1 := y xs (SqT.of (s2 _ _ h1))
    have e1' := y' ys (SqT.of (s2 _ _ h2))
    refine ⟨same_new hp, _, same_new (s2.free hp), same_upd s2, fun b h1 h2 => by rw [upd_ne (fun z => h1 (by rw [z]; exact hp))]; exact h2, ?_⟩
    have e2 : ds[i]? = some (ds.getD i .none) := by rw [List.getElem?_eq_getElem hlt, List.getD_eq_getElem?_getD, List.getElem?_eq_getElem hlt]; rfl
    have hlt' : i < es'.length := by omega
    have e2' : es'[i]? = some (es'.getD i .none) := by rw [List.getElem?_eq_getElem hlt', List.getD_eq_getElem?_getD, List.getElem?_eq_getElem hlt']; rfl
    exact Rp.tup_new (s2.free hp) (by show 2 ≤ sizeLine; rw [sizeLine_eq]; decide) (.cons (hi i z _ e1 e2) (.cons (hi2 i z' _ e1' e2') .nil))))
/-- a text, sign by sign -/
theorem src_str {z : Str} (h : EvD X iter ρ (.str z)) : Src X tg iter ρ z.cps.toList.length (fun i => dD (.str ⟨#[z.cps.toList.getD i 0]⟩)) := fun σ H sl R k =>
  iw_of (pi_str pe_ew) (ew_mono (h σ H sl) fun v H1 ⟨s1, r1⟩ => by
    refine ⟨z, Rp.str_inv r1, k _ _ s1 ⟨fun i H2 s2 hlt => ?_, fun i H2 s2 hle => ?_⟩⟩
    · have hlt2 : i < z.cps.size := by simpa using hlt
      refine ⟨?_, fun x H' y => ?_⟩
      · first | exact hlt2 | exact hlt | exact ⟨_, List.getElem?_eq_getElem hlt⟩ | exact ⟨_, Array.getElem?_eq_getElem hlt2⟩
      · obtain ⟨e, c, e1, e2⟩ := y
        subst e
        subst e2
        refine ⟨Same.refl _, _, Same.refl _, s2, fun b _ h => h, ?_⟩
        have e3 : z.cps.toList.getD i 0 = c := by
          rw [List.getD_eq_getElem?_getD, Array.getElem?_toList, e1]; rfl
        rw [e3]
        exact .str _
    · first | exact hle | (show z.cps.size ≤ i; simpa using hle))
/-! ### targets -/
/-- storing a thing of T makes ρ to ρ', at the slots js -/
def TgGo (g : TG) (ρ : Rho) (T : Ty) (ρ' : Rho) (js : List Nat) : Prop := ∀ v σ G H (Q : St → Hp → Prop), Same G H → Sl G σ ρ → T.R G v → (∀ σ', Sl G σ' ρ' → (∀ vs : List Nat, (∀ j ∈ js, j ∈ vs) → wipe σ' vs = wipe σ vs) → Q σ' H) → g v σ H Q
theorem wipe_get {σ : St} : ∀ {vs : List Nat} {j : Nat}, (wipe σ vs)[j]? = if j ∈ vs then (if j < σ.length then some none else none) else σ[j]?
  | [], j => by simp [L2.wipe]
  | v :: vs, j => by
    unfold L2.wipe
    by_cases e : v = j
    · subst e
      by_cases h : v < σ.length
      · rw [List.getElem?_set_self (by rw [wipe_length]; exact h)]
        simp [h]
      · rw [List.getElem?_eq_none (by rw [List.length_set, wipe_length]; omega)]
        simp [h]
    · rw [List.getElem?_set_ne e, wipe_get]
      have : j ≠ v := fun z => e z.symm
      simp [this]
theorem wipe_set {σ : St} {j : Nat} {o : Option V} {vs : List Nat} (h : j ∈ vs) : wipe (σ.set j o) vs = wipe σ vs := by
  apply List.ext_getElem?
  intro i
  rw [wipe_get, wipe_get]
  by_cases hi : i ∈ vs
  · simp [hi]
  · have : j ≠ i := fun z => hi (z ▸ h)
    simp [hi, List.getElem?_set_ne this]
theorem wipe_wipe {σ : St} {vs : List Nat} : wipe (wipe σ vs) vs = wipe σ vs := by
  apply List.ext_getElem?
  intro i
  rw [wipe_get]
  by_cases hi : i ∈ vs
  · simp [hi, wipe_get, wipe_length]
  · simp [hi]
theorem tgo_name {i : Nat} : TgGo (gName i) ρ T (ρ.set i (some T)) [i] := fun v σ G H Q _ sl r k => k _ (sl.set r) fun vs h => wipe_set (h i (by simp))
def TgsGo (g : TGs) (ρ : Rho) (Ts : List Ty) (ρ' : Rho) (js : List Nat) : Prop := ∀ vs σ G H (Q : St → Hp → Prop), Sl G σ ρ → Paired (fun v (T : Ty) => T.R G v) vs Ts → (∀ σ', Sl G σ' ρ' → (∀ vs : List Nat, (∀ j ∈ js, j ∈ vs) → wipe σ' vs = wipe σ vs) → Q σ' H) → g vs σ H Q
theorem tgs_nil : TgsGo gNil ρ [] ρ [] := fun vs σ G H Q sl r k => by cases r; exact ⟨rfl, k σ sl fun _ _ => rfl⟩
theorem tgs_cons {i : Nat} {g : TGs} {Ts : List Ty} {js : List Nat} (h : TgsGo g (ρ.set i (some T)) Ts ρ' js) : TgsGo (gCons (gName i) g) ρ (T :: Ts) ρ' (i :: js) := fun vs σ G H Q sl r k => by
  cases r with
  | cons r1 r2 => exact ⟨_, _, rfl, h _ _ G H Q (sl.set r1) r2 fun σ' sl' w => k σ' sl' fun us hu => (w us fun j hj => hu j (List.mem_cons_of_mem _ hj)).trans (wipe_set (hu i List.mem_cons_self))⟩
theorem pair_of {H : Hp} : ∀ {xs : List V} {ds : List PyData}, xs.length = ds.length → (∀ (i : Nat) (v : V) (d : PyData), xs[i]? = some v → ds[i]? = some d → Rp H v d) → Paired (fun v (T : Ty) => T.R H v) xs (ds.map dD)
  | [], [], _, _ => .nil
  | [], _ :: _, h, _ => by cases h
  | _ :: _, [], h, _ => by cases h
  | x :: xs, d :: ds, h, k => .cons (k 0 x d rfl rfl) (pair_of (Nat.succ.inj h) fun i v e h1 h2 => k (i + 1) v e (by simpa using h1) (by simpa using h2))
theorem tgo_tup {K : PySem.W.Frag} {n : Nat} {g : TGs} {Ts : List Ty} {js : List Nat} (h : TgsGo g ρ Ts ρ' js) (hn : Ts.length = n := by rfl) : TgGo (gTup K n g) ρ (tupT Ts) ρ' js := fun v σ G H Q sm sl ⟨a, xs, e, ha, r⟩ k => ⟨a, xs, e, SqT.of (sm _ _ ha), (Paired.length r).trans hn, h xs σ G H Q sl r k⟩
theorem tgo_tupD {K : PySem.W.Frag} {n : Nat} {g : TGs} {js : List Nat} (h : TgsGo g ρ (ds.map dD) ρ' js) (hn : ds.length = n := by rfl) : TgGo (gTup K n g) ρ (dD (.tuple ds)) ρ' js := fun v σ G H Q sm sl r k => by
  obtain ⟨a, xs, e, ha, hz, hl, hi⟩ := Rp.tup_inv r
  exact ⟨a, xs, e, SqT.of (sm _ _ ha), hl.trans hn, h xs σ G H Q sl (pair_of hl hi) k⟩
/-! ### comprehensions -/
def LW (X : Cx) (scope : Scope) (e : Expr) : TE := fun σ H Q => ∀ s0 H0 C cl fp, EW (X.blk s0 H0 scope (compEnvC scope cl C X.env) fp) e σ H Q
def LT (X : Cx) (scope : Scope) (e : Expr) : TT := fun σ H Q => ∀ s0 H0 C cl fp, TW (X.blk s0 H0 scope (compEnvC scope cl C X.env) fp) e σ H Q
/-- in the block of a comprehension -/
def EvB (X : Cx) (scope : Scope) (e : Expr) (ρ : Rho) (T : Ty) : Prop := ∀ s0 H0 C cl fp, EvE (X.blk s0 H0 scope (compEnvC scope cl C X.env) fp) e ρ T
def EtB (X : Cx) (scope : Scope) (e : Expr) (ρ : Rho) (b : Bool) : Prop := ∀ s0 H0 C cl fp, EvT (X.blk s0 H0 scope (compEnvC scope cl C X.env) fp) e ρ b
abbrev PgB (X : Cx) (scope : Scope) (tg : Expr) (g : TG) : Prop := ∀ (s0 : Shared) (H0 : Hp) (C : Addr) (cl : List (Str × Addr)) (fp : List Addr), PG (X.blk s0 H0 scope (compEnvC scope cl C X.env) fp) tg g
/-- a new list of things -/
def lstT (n : Nat) (Y : Nat → Ty) : Ty := ⟨fun H v => ∃ a xs, v = .ref a ∧ H a = some (.lst xs) ∧ xs.length = n ∧ ∀ i v, xs[i]? = some v → (Y i).R H v, fun H H' v s ⟨a, xs, h1, h2, h3, h4⟩ => ⟨a, xs, h1, s _ _ h2, h3, fun i v hv => (Y i).mono _ _ _ s (h4 i v hv)⟩⟩
theorem ev_lcT {scope : Scope} {own : List (Str × Nat)} {g : TG} {n : Nat} {Y : Nat → Ty} {F : Nat → Ty} {ρt : Nat → Rho} {js : List Nat} (hN : X.N.Nodup) (hs : Src X tg iter ρ n Y) (ok : BlkOk X.N X.env.scope scope own) (hg : PgB X scope tg g)
    (hj : ∀ j ∈ js, j ∈ own.map (·.2)) (hn : n ≤ 100000) (ht : ∀ i, i < n → TgGo g (wipeR ρ (own.map (·.2))) (Y i) (ρt i) js) (he : ∀ i, i < n → EvB X scope elt (ρt i) (F i))
    (hc : X.calm = true := by rfl) (hf : ∀ x, foldedSetIterable iter X.env x = pure x := by intro _; rfl) : EvE X (.ListComp elt [⟨tg, iter, [], 0⟩] scope pos) ρ (lstT n F) := fun σ H sl =>
  ew_of (pe_lc hc hN pi_iw ok hg (fun _ _ _ _ _ => pts_nil) (te := LW X scope elt) (fun s0 H0 C cl fp => ⟨fun pins s σ H Q I h => h s0 H0 C cl fp pins s I⟩) hf) (by
    refine hs σ H sl _ fun J H1 s1 yl => fun D hD => ?_
    refine ⟨fun i m Hc => i ≤ n ∧ m = n - i ∧ ∃ G xs, Same H1 G ∧ G D = none ∧ Hc = upd G D (.lst xs) ∧ xs.length = i ∧ ∀ j v, xs[j]? = some v → (F j).R G v, ⟨n, Nat.zero_le _, rfl, H1, [], Same.refl _, hD, rfl, rfl, fun j v h => by simp at h⟩, ?_⟩
    rintro i m Hc ⟨hi, rfl, G, xs, sG, gD, rfl, hl, hx⟩
    have sH : Same H1 (upd G D (.lst xs)) := sG.trans (same_new gD)
    by_cases hlt : i < n
    · obtain ⟨go, yi⟩ := yl.go i _ sH hlt
      refine .inr ⟨go, fun H' => i + 1 ≤ n ∧ ∃ G xs, Same H1 G ∧ G D = none ∧ H' = upd G D (.lst xs) ∧ xs.length = i + 1 ∧ ∀ j v, xs[j]? = some v → (F j).R G v, fun H' ⟨h1, h2⟩ => ⟨n - (i + 1), by omega, h1, rfl, h2⟩, fun x H' y => ?_⟩
      obtain ⟨sy, Gx, a1, a2, a3, rx⟩ := yi x H' y
      obtain ⟨G1, b1, b2, b3⟩ := split_at (sy D _ upd_same)
      subst b2
      have c1 : Same G G1 := b3 G gD ((same_new gD).trans sy)
      have c2 : Same Gx G1 := b3 Gx (a3 D (by rw [upd_same]; exact fun z => by cases z) hD) a2
      have sl1 : Sl G1 (wipe σ (own.map (·.2))) (wipeR ρ (own.map (·.2))) := (sl.same ((s1.trans sG).trans c1)).wipe _
      have rx1 : (Y i).R G1 x := (Y i).mono _ _ _ c2 rx
      refine ht i hlt x _ G1 _ _ (same_new b1) sl1 rx1 fun σ2 sl3 w => ?_
      refine ⟨(w _ hj).trans wipe_wipe, ?_⟩
      show LW X scope elt σ2 _ _
      intro s0 H0 C cl fp
      · refine ew_mono (ev_aside (he i hlt s0 H0 C cl fp) sl3 b1 True.intro) fun v H2 ⟨G2, g1, g2, g3, g4⟩ => ?_
        subst g2
        refine ⟨xs, upd_same, by have := small_line hn; omega, by omega, G2, xs ++ [v], ((sG.trans c1).trans g3), g1, upd_upd, by simp [hl], fun j u hu => ?_⟩
        by_cases hjl : j < xs.length
        · rw [List.getElem?_append_left hjl] at hu
          exact (F j).mono _ _ _ (c1.trans g3) (hx j u hu)
        · rw [List.getElem?_append_right (by omega)] at hu
          have hj0 : j - xs.length = 0 := by
            cases e : j - xs.length with
            | zero => rfl
            | succ k => rw [e] at hu; simp at hu
          rw [hj0] at hu
          have e1 : v = u := by simpa using hu
          have e2 : j = i := by omega
          subst e1 e2
          exact g4
    · have e : i = n := by omega
      subst e
      exact .inl ⟨yl.stop _ _ sH (Nat.le_refl _), (s1.trans sH), D, xs, rfl, upd_same, hl, fun j v h => (F j).mono _ _ _ (same_new gD) (hx j v h)⟩)
end
end WD
set_option Elab.async false
set_option linter.all false
set_option maxRecDepth 100000
set_option maxHeartbeats 1000000
namespace WD
open PySem PySem.Spec PyProof.Rows L2
section
variable {X : Cx} {e a b c elt iter tg : Expr} {es ifs : List Expr} {ρ ρ' : Rho} {T U Ta Tb : Ty} {pos p' : Pos} {d d' : PyData} {ds : List PyData} {p q : Bool} {st : Stmt} {sts rest : List Stmt} {o : Out}
theorem lstT_data {n : Nat} {f : Nat → PyData} (hn : n ≤ 100000) {H : Hp} {v : V} (h : (lstT n fun i => dD (f i)).R H v) : Rp H v (.list ((List.range n).map f)) := by
  obtain ⟨a, xs, rfl, h2, h3, h4⟩ := h
  refine .lst h2 (by rw [h3]; exact small_line hn) (by simp [h3]) fun i v d e1 e2 => ?_
  have hlt : i < n := by have := (List.getElem?_eq_some_iff.mp e1).1; omega
  rw [List.getElem?_map, List.getElem?_range hlt] at e2
  cases e2
  exact h4 i v e1
theorem ev_lc {scope : Scope} {own : List (Str × Nat)} {g : TG} {n : Nat} {Y : Nat → Ty} {f : Nat → PyData} {ρt : Nat → Rho} {js : List Nat} (hN : X.N.Nodup) (hs : Src X tg iter ρ n Y) (ok : BlkOk X.N X.env.scope scope own) (hg : PgB X scope tg g)
    (hj : ∀ j ∈ js, j ∈ own.map (·.2)) (hn : n ≤ 100000) (ht : ∀ i, i < n → TgGo g (wipeR ρ (own.map (·.2))) (Y i) (ρt i) js) (he : ∀ i, i < n → EvB X scope elt (ρt i) (dD (f i)))
    (hc : X.calm = true := by rfl) (hf : ∀ x, foldedSetIterable iter X.env x = pure x := by intro _; rfl) : EvD X (.ListComp elt [⟨tg, iter, [], 0⟩] scope pos) ρ (.list ((List.range n).map f)) :=
  (ev_lcT hN hs ok hg hj hn ht he hc hf).imp fun H v h => lstT_data hn h
/-- with a test -/
theorem ev_lcIf {scope : Scope} {own : List (Str × Nat)} {g : TG} {n : Nat} {Y : Nat → Ty} {f : Nat → PyData} {k : Nat → Bool} {ρt : Nat → Rho} {js : List Nat} (hN : X.N.Nodup) (hs : Src X tg iter ρ n Y) (ok : BlkOk X.N X.env.scope scope own) (hg : PgB X scope tg g)
    (hj : ∀ j ∈ js, j ∈ own.map (·.2)) (hn : n ≤ 100000) (ht : ∀ i, i < n → TgGo g (wipeR ρ (own.map (·.2))) (Y i) (ρt i) js) (hk : ∀ i, i < n → EtB X scope c (ρt i) (k i)) (he : ∀ i, i < n → k i = true → EvB X scope elt (ρt i) (dD (f i)))
    (hc : X.calm = true := by rfl) (hf : ∀ x, foldedSetIterable iter X.env x = pure x := by intro _; rfl) : EvD X (.ListComp elt [⟨tg, iter, [c], 0⟩] scope pos) ρ (.list (((List.range n).filter k).map f)) := fun σ H sl =>
  ew_of (pe_lc hc hN pi_iw ok hg (tt := LT X scope c) (fun s0 H0 C cl fp => pts_one ⟨fun pins s σ H Q I h => h s0 H0 C cl fp pins s I⟩) (te := LW X scope elt) (fun s0 H0 C cl fp => ⟨fun pins s σ H Q I h => h s0 H0 C cl fp pins s I⟩) hf) (by
    refine hs σ H sl _ fun J H1 s1 yl => fun D hD => ?_
    refine ⟨fun i m Hc => i ≤ n ∧ m = n - i ∧ ∃ G xs, Same H1 G ∧ G D = none ∧ Hc = upd G D (.lst xs) ∧ xs.length = (((List.range i).filter k).map f).length ∧ ∀ j v d, xs[j]? = some v → (((List.range i).filter k).map f)[j]? = some d → Rp G v d, ⟨n, Nat.zero_le _, rfl, H1, [], Same.refl _, hD, rfl, rfl, fun j v d h _ => by rw [List.getElem?_nil] at h; cases h⟩, ?_⟩
    rintro i m Hc ⟨hi, rfl, G, xs, sG, gD, rfl, hl, hx⟩
    have sH : Same H1 (upd G D (.lst xs)) := sG.trans (same_new gD)
    by_cases hlt : i < n
    · obtain ⟨go, yi⟩ := yl.go i _ sH hlt
      refine .inr ⟨go, fun H' => i + 1 ≤ n ∧ ∃ G xs, Same H1 G ∧ G D = none ∧ H' = upd G D (.lst xs) ∧ xs.length = (((List.range (i + 1)).filter k).map f).length ∧ ∀ j v d, xs[j]? = some v → (((List.range (i + 1)).filter k).map f)[j]? = some d → Rp G v d, fun H' ⟨h1, h2⟩ => ⟨n - (i + 1), by omega, h1, rfl, h2⟩, fun x H' y => ?_⟩
      obtain ⟨sy, Gx, a1, a2, a3, rx⟩ := yi x H' y
      obtain ⟨G1, b1, b2, b3⟩ := split_at (sy D _ upd_same)
      subst b2
      have c1 : Same G G1 := b3 G gD ((same_new gD).trans sy)
      have c2 : Same Gx G1 := b3 Gx (a3 D (by rw [upd_same]; exact fun z => by cases z) hD) a2
      have sl1 : Sl G1 (wipe σ (own.map (·.2))) (wipeR ρ (own.map (·.2))) := (sl.same ((s1.trans sG).trans c1)).wipe _
      have rx1 : (Y i).R G1 x := (Y i).mono _ _ _ c2 rx
      refine ht i hlt x _ G1 _ _ (same_new b1) sl1 rx1 fun σ2 sl3 w => ?_
      refine ⟨(w _ hj).trans wipe_wipe, ?_⟩
      intro s0 H0 C cl fp
      refine tw_mono (et_aside (hk i hlt s0 H0 C cl fp) sl3 b1 True.intro) fun r H2 ⟨G2, g1, g2, g3, g4⟩ => ?_
      subst g2 g4
      refine ite_b _ (fun e => ?_) (fun e => ?_)
      · intro s0 H0 C cl fp
        refine ew_mono (ev_aside (he i hlt e s0 H0 C cl fp) (sl3.same g3) g1 True.intro) fun v H3 ⟨G3, i1, i2, i3, i4⟩ => ?_
        subst i2
        have e0 : ((List.range (i + 1)).filter k).map f = ((List.range i).filter k).map f ++ [f i] := by rw [List.range_succ, List.filter_append, List.map_append]; simp [e]
        have hle : (((List.range i).filter k).map f).length ≤ i := by
          rw [List.length_map]
          have := List.length_filter_le k (List.range i)
          simpa using this
        refine ⟨xs, upd_same, by have := small_line hn; omega, by omega, G3, xs ++ [v], ((sG.trans c1).trans (g3.trans i3)), i1, upd_upd, by rw [e0]; simp [hl], fun j u d hu hd => ?_⟩
        rw [e0] at hd
        by_cases hjl : j < xs.length
        · rw [List.getElem?_append_left hjl] at hu
          rw [List.getElem?_append_left (by omega)] at hd
          exact (hx j u d hu hd).same (c1.trans (g3.trans i3))
        · rw [List.getElem?_append_right (by omega)] at hu
          rw [List.getElem?_append_right (by omega)] at hd
          rw [← hl] at hd
          have hj0 : j - xs.length = 0 := by
            cases e : j - xs.length with
            | zero => rfl
            | succ k => rw [e] at hu; simp at hu
          rw [hj0] at hu hd
          have e1 : v = u := by simpa using hu
          have e2 : f i = d := by simpa using hd
          subst e1 e2
          exact i4
      · have e0 : ((List.range (i + 1)).filter k).map f = ((List.range i).filter k).map f := by rw [List.range_succ, List.filter_append, List.map_append]; simp [e]
        refine ⟨by omega, G2, xs, ((sG.trans c1).trans g3), g1, rfl, by rw [e0]; exact hl, fun j u d hu hd => ?_⟩
        rw [e0] at hd
        exact (hx j u d hu hd).same (c1.trans g3)
    · have e : i = n := by omega
      subst e
      refine .inl ⟨yl.stop _ _ sH (Nat.le_refl _), (s1.trans sH), .lst upd_same ?_ hl fun j v d a b => (hx j v d a b).same (same_new gD)⟩
      have hle : (((List.range i).filter k).map f).length ≤ i := by
        rw [List.length_map]
        have := List.length_filter_le k (List.range i)
        simpa using this
      rw [hl]
      exact small_line (Nat.le_trans hle hn))
/-! ### statements -/
theorem sw_cons {D : Ends} {σ : St} {H : Hp} (h : S1 X st { D with nx := SW X rest D } σ H) : SW X (st :: rest) D σ H := sw_of (pss_cons ps_s1 pss_sw) h
theorem sw_one {D : Ends} {σ : St} {H : Hp} (h : S1 X st D σ H) : SW X [st] D σ H := sw_of (pss_one ps_s1) h
theorem sw_nil {D : Ends} {σ : St} {H : Hp} (h : D.nx σ H) : SW X [] D σ H := sw_of pss_nil h
theorem bs_nil : Bs X [] ρ (.next ρ) := fun σ H D sl g => sw_nil (g σ H (Same.refl H) sl)
theorem bs_cons (h1 : B1 X st ρ (.next ρ')) (h2 : Bs X rest ρ' o) : Bs X (st :: rest) ρ o := fun σ H D sl g =>
  sw_cons (h1 σ H _ sl fun σ' H' s sl' => h2 σ' H' D sl' (g.same s))
def Out.isNext : Out → Bool
  | .next _ => true
  | _ => false
theorem bs_stop (h1 : B1 X st ρ o) (h : o.isNext = false := by rfl) : Bs X (st :: rest) ρ o := fun σ H D sl g =>
  sw_cons (h1 σ H _ sl (by cases o with
    | next ρ => cases h
    | ret T => exact g
    | cont ρ => exact g
    | brk ρ => exact g))
theorem bs_one (h1 : B1 X st ρ o) : Bs X [st] ρ o := fun σ H D sl g => sw_one (h1 σ H D sl g)
theorem b1_ret (h : EvE X e ρ T) : B1 X (.Return (some e) pos) ρ (.ret T) := fun σ H D sl g => s1_of (ps_ret pe_ew) (ew_mono (h σ H sl) fun v H' ⟨s, r⟩ => g v H' s r)
theorem b1_cont : B1 X (.Continue pos) ρ (.cont ρ) := fun σ H D sl g => s1_of ps_continue (g σ H (Same.refl H) sl)
theorem b1_set (i : Nat) {x : Str} (h : EvE X e ρ T) (hN : X.N.Nodup) (hi : X.N[i]? = some x := by rfl) (hx : Loc X.env.scope x := by first | exact Or.inl rfl | exact Or.inr rfl) (hs : swapsWith e (some (.Name x p')) pos.line X.env = pure false := by rfl) (hf : X.fn x = true ∨ X.env.scope.names.lookup x = some .local := by first | exact .inl rfl | exact .inr rfl) :
    B1 X (.Assign [.Name x p'] e pos) ρ (.next (ρ.set i (some T))) := fun σ H D sl g => s1_of (ps_set hN hi hx pe_ew hs hf) (ew_mono (h σ H sl) fun v H' ⟨s, r⟩ => g _ H' s ((sl.same s).set r))
/-- a, b, .. = e -/
theorem b1_asg {g : TG} {js : List Nat} (h : EvE X e ρ T) (hg : PG X tg g) (ht : TgGo g ρ T ρ' js) (hs : swapsWithSole [tg] e pos.line X.env = pure false := by rfl) (hw : swappedStores [tg] e X.env = pure none := by rfl)
    (h1 : (assignEach [tg] X.env).map (·.2) = [assign tg X.env] := by rfl) : B1 X (.Assign [tg] e pos) ρ (.next ρ') := fun σ H D sl k =>
  s1_of (ps_asg pe_ew hg hs hw h1) (ew_mono (h σ H sl) fun v H' ⟨s, r⟩ => ht v σ H' H' _ (Same.refl _) (sl.same s) r fun σ' sl' _ => k σ' H' s sl')
theorem b1_expr (h : EvE X e ρ T) (hs : swapsWith e none pos.line X.env = pure false := by rfl) : B1 X (.Expr e pos) ρ (.next ρ) := fun σ H D sl g => s1_of (ps_expr pe_ew hs) (ew_mono (h σ H sl) fun v H' ⟨s, r⟩ => g σ H' s (sl.same s))
theorem b1_if {A B : List Stmt} (h : EvT X c ρ p) (h1 : p = true → Bs X A ρ o) (h2 : p = false → Bs X B ρ o) : B1 X (.If c A B pos) ρ o := fun σ H D sl g =>
  s1_of (ps_if pt_tw pss_sw pss_sw) (tw_q h sl fun H' s => ite_b p (fun e => h1 e σ H' D (sl.same s) (g.same s)) (fun e => h2 e σ H' D (sl.same s) (g.same s)))
theorem b1_ifF {A : List Stmt} (h : EvT X c ρ false) : B1 X (.If c A [] pos) ρ (.next ρ) := b1_if h (fun e => by cases e) fun _ => bs_nil
theorem b1_ifT {A B : List Stmt} (h : EvT X c ρ true) (h1 : Bs X A ρ o) : B1 X (.If c A B pos) ρ o := b1_if h (fun _ => h1) (fun e => by cases e)
theorem b1_never (h : ∀ σ H, Sl H σ ρ → False) : B1 X st ρ o := fun σ H D sl g => (h σ H sl).elim
/-- a loop whose turns all go on -/
theorem b1_for {body : List Stmt} {g : TG} {n : Nat} {Y : Nat → Ty} {js : List Nat} (ρs : Nat → Rho) (ρt : Nat → Rho) (hs : Src X tg iter ρ n Y) (hg : PG X tg g) (ht : ∀ i, i < n → TgGo g (ρs i) (Y i) (ρt i) js)
    (hb : ∀ i, i < n → Bs X body (ρt i) (.next (ρs (i + 1))) ∨ Bs X body (ρt i) (.cont (ρs (i + 1)))) (h0 : ρs 0 = ρ := by rfl) (hc : X.calm = true := by rfl) (hp : PassesOwn (model X.prog X.w) X.A X.env X.xe := by exact PassesOwn.never) (hf : ∀ x, foldedSetIterable iter X.env x = pure x := by intro _; rfl) :
    B1 X (.For tg iter body [] pos) ρ (.next (ρs n)) := fun σ H D sl k =>
  s1_of (ps_for hp hc pi_iw hg pss_sw hf) (hs σ H sl _ fun J H1 s1 yl => by
    refine ⟨fun i m σ' H' => i ≤ n ∧ m = n - i ∧ Same H1 H' ∧ Sl H' σ' (ρs i), ⟨n, Nat.zero_le _, rfl, Same.refl _, by rw [h0]; exact sl.same s1⟩, ?_⟩
    rintro i m σ' H' ⟨hi, rfl, sH, sl'⟩
    by_cases hlt : i < n
    · obtain ⟨go, yi⟩ := yl.go i _ sH hlt
      refine .inr ⟨go, fun σ' H' => i + 1 ≤ n ∧ Same H1 H' ∧ Sl H' σ' (ρs (i + 1)), fun σ' H' ⟨h1, h2, h3⟩ => ⟨n - (i + 1), by omega, h1, rfl, h2, h3⟩, fun x H2 y => ?_⟩
      obtain ⟨sy, Gx, a1, a2, a3, rx⟩ := yi x H2 y
      refine ht i hlt x σ' H2 H2 _ (Same.refl _) (sl'.same sy) ((Y i).mono _ _ _ a2 rx) fun σ2 sl2 _ => ?_
      rcases hb i hlt with h | h
      · exact h σ2 H2 _ sl2 fun σ3 H3 s3 sl3 => ⟨hlt, (sH.trans sy).trans s3, sl3⟩
      · exact h σ2 H2 _ sl2 fun σ3 H3 s3 sl3 => ⟨hlt, (sH.trans sy).trans s3, sl3⟩
    · have e : i = n := by omega
      subst e
      exact .inl ⟨yl.stop _ _ sH (Nat.le_refl _), k σ' H' (s1.trans sH) sl'⟩)
/-- a loop that a return ends, in turn m -/
theorem b1_forRet {body : List Stmt} {g : TG} {n m : Nat} {Y : Nat → Ty} {js : List Nat} (ρs : Nat → Rho) (ρt : Nat → Rho) (hs : Src X tg iter ρ n Y) (hg : PG X tg g) (hm : m < n) (ht : ∀ i, i ≤ m → TgGo g (ρs i) (Y i) (ρt i) js)
    (hb : ∀ i, i < m → Bs X body (ρt i) (.next (ρs (i + 1))) ∨ Bs X body (ρt i) (.cont (ρs (i + 1)))) (hr : Bs X body (ρt m) (.ret T)) (h0 : ρs 0 = ρ := by rfl) (hc : X.calm = true := by rfl) (hp : PassesOwn (model X.prog X.w) X.A X.env X.xe := by exact PassesOwn.never) (hf : ∀ x, foldedSetIterable iter X.env x = pure x := by intro _; rfl) :
    B1 X (.For tg iter body [] pos) ρ (.ret T) := fun σ H D sl k =>
  s1_of (ps_for hp hc pi_iw hg pss_sw hf) (hs σ H sl _ fun J H1 s1 yl => by
    refine ⟨fun i k σ' H' => i ≤ m ∧ k = n - i ∧ Same H1 H' ∧ Sl H' σ' (ρs i), ⟨n, Nat.zero_le _, rfl, Same.refl _, by rw [h0]; exact sl.same s1⟩, ?_⟩
    rintro i _ σ' H' ⟨hi, rfl, sH, sl'⟩
    obtain ⟨go, yi⟩ := yl.go i _ sH (by omega)
    refine .inr ⟨go, fun σ' H' => i + 1 ≤ m ∧ Same H1 H' ∧ Sl H' σ' (ρs (i + 1)), fun σ' H' ⟨h1, h2, h3⟩ => ⟨n - (i + 1), by omega, h1, rfl, h2, h3⟩, fun x H2 y => ?_⟩
    obtain ⟨sy, Gx, a1, a2, a3, rx⟩ := yi x H2 y
    refine ht i hi x σ' H2 H2 _ (Same.refl _) (sl'.same sy) ((Y i).mono _ _ _ a2 rx) fun σ2 sl2 _ => ?_
    by_cases hlt : i < m
    · rcases hb i hlt with h | h
      · exact h σ2 H2 _ sl2 fun σ3 H3 s3 sl3 => ⟨hlt, (sH.trans sy).trans s3, sl3⟩
      · exact h σ2 H2 _ sl2 fun σ3 H3 s3 sl3 => ⟨hlt, (sH.trans sy).trans s3, sl3⟩
    · have e : i = m := by omega
      subst e
      exact hr σ2 H2 _ sl2 fun v H3 s3 r3 => k v H3 (((s1.trans sH).trans sy).trans s3) r3)
/-- forgetting what slots hold -/
def Le (ρ ρ' : Rho) : Prop := ρ'.length = ρ.length ∧ ∀ (i : Nat) (T : Ty), ρ'[i]? = some (some T) → ρ[i]? = some (some T)
theorem le_set {ρ : Rho} {i : Nat} {t : Option Ty} : Le (ρ.set i t) (ρ.set i none) := ⟨by simp, fun j T h => by
  by_cases e : i = j
  · subst e
    by_cases hl : i < ρ.length
    · rw [List.getElem?_set_self hl] at h; cases h
    · rw [List.getElem?_eq_none (by simp; omega)] at h; cases h
  · rw [List.getElem?_set_ne e] at h
    rw [List.getElem?_set_ne e]; exact h⟩
theorem bs_forget (h : Bs X sts ρ (.next ρ')) {ρ'' : Rho} (l : Le ρ' ρ'') : Bs X sts ρ (.next ρ'') := fun σ H D sl g => h σ H D sl fun σ' H' s sl' => g σ' H' s (sl'.weak l.1 l.2)
theorem bs_from {ρ'' : Rho} (h : Bs X sts ρ'' o) (l : Le ρ ρ'') : Bs X sts ρ o := fun σ H D sl g => h σ H D (sl.weak l.1 l.2) g
end
/-! ### a def that only reads -/
theorem fn_pure {P : Program} {w : World} {K : PySem.W.Frag} {mg : Str → Option Value} {base : Heap} {x qual : Str} {params : Arguments} {body : List Stmt} {scope : Scope} {f : Addr} {fd : FuncData} {N ps : List Str} {k : Nat} {F : List Ty → Ty → Prop} {o : Ty → Out}
    (Fu : FunD K x qual params body scope [] [] f fd) (S : FnScope N ps scope) (hl : ∀ Ts T, F Ts T → Ts.length = ps.length) (ho : (∀ T, o T = .ret T) ∨ ((∀ Ts T, F Ts T → T = dD .none) ∧ ∀ T, ∃ ρ, o T = .next ρ))
    (hb : ∀ (cdv : Value) (A : Around) (outer : List Env) (s : Shared) (H : Hp) (E : XK), Room k (A.deeper (envOfC qual scope s.heap.objs.size f cdv)) → ∀ Ts T, F Ts T → Bs (cxOf CX0 P w K mg base N qual scope f cdv A outer s H E).nox body (Ts.map some ++ List.replicate (N.length - Ts.length) none) (o T)) :
    FnOk P w K mg base CX0 (k + 1) f fd ps (spR F) := by
  refine Fu.ok S (fun vs H Q E h => ?_) fun cdv A outer s H vs Q E hr h => ?_
  · obtain ⟨Ts, T, hp, hF, _⟩ := h
    rw [Paired.length hp]; exact hl _ _ hF
  · obtain ⟨Ts, T, hp, hF, hQ⟩ := h
    refine ⟨_, PSs.nox pss_sw, ?_⟩
    refine hb cdv A outer s H E hr Ts T hF _ H _ (sl_start hp) ?_
    rcases ho with ho | ⟨h1, h2⟩
    · rw [ho]; exact hQ
    · obtain ⟨ρ, e⟩ := h2 T
      rw [e, h1 _ _ hF] at *
      exact fun σ' H' s sl => hQ .non H' s .non
theorem kn_of {P : Program} {w : World} {K : PySem.W.Frag} {mg : Str → Option Value} {base : Heap} {x qual : Str} {params : Arguments} {body : List Stmt} {scope : Scope} {f : Addr} {fd : FuncData} {ps : List Str} {k : Nat} {F : List Ty → Ty → Prop}
    (Fu : FunD K x qual params body scope [] [] f fd) (h : FnOk P w K mg base CX0 k f fd ps (spR F)) (hm : mg x = some (.ref f)) (hb : ∀ (kV doc pm : Value) (an : Option Addr) (cdv ct : Value) (us : List Value), us.length = ps.length → bindArgs (PySem.W.fnOf x qual params body scope .none kV doc pm an cdv ct) ⟨us, []⟩ = pure (ps.zip us)) : Kn P w K mg base k x F :=
  ⟨f, fd, ps, h, hm, Fu.kp, Fu.bindsN hb⟩
end WD
set_option Elab.async false
set_option linter.all false
set_option maxRecDepth 100000
set_option maxHeartbeats 1000000
namespace WD
open PySem PySem.Spec PyProof.Rows L2
def dRow (r : List Nat) : PyData := .tuple (r.map fun (n : Nat) => .int (n : Int))
def dCol (r : List Nat) : PyData := .list (r.map fun (n : Nat) => .int (n : Int))
abbrev nt (n : Nat) : Ty := dD (.int (n : Int))
section
variable {X : Cx} {e a b c elt iter tg : Expr} {es ifs : List Expr} {ρ ρ' : Rho} {T U Ta Tb : Ty} {pos p' : Pos} {d d' : PyData} {ds : List PyData} {p q : Bool} {st : Stmt} {sts rest : List Stmt} {o : Out}
theorem le_refl : Le ρ ρ := ⟨rfl, fun _ _ h => h⟩
theorem le_nil : Le [] [] := le_refl
theorem le_keep {t : Option Ty} (h : Le ρ ρ') : Le (t :: ρ) (t :: ρ') := ⟨by simp [h.1], fun i T e => by
  cases i with
  | zero => exact e
  | succ i => exact h.2 i T (by simpa using e)⟩
theorem le_drop {t : Option Ty} (h : Le ρ ρ') : Le (t :: ρ) (none :: ρ') := ⟨by simp [h.1], fun i T e => by
  cases i with
  | zero => simp at e
  | succ i => simpa using h.2 i T (by simpa using e)⟩
/-! ### == of whole numbers -/
theorem dec_i {i j : Int} : decide (V.int i = V.int j) = decide (i = j) := by
  by_cases h : i = j
  · subst h; simp
  · rw [decide_eq_false h]; exact decide_eq_false fun z => h (V.int.inj z)
theorem ev_eqI {i j : Int} (ha : EvD X a ρ (.int i)) (hb : EvD X b ρ (.int j)) : EvD X (.Compare a [.Eq] [b] pos) ρ (.bool (decide (i = j))) := ev_cmp op_eq (nomark _) ha hb fun x y H Q r1 r2 k => by
  rw [Rp.int_inv r1, Rp.int_inv r2]; exact ⟨rfl, by rw [dec_i]; exact k _ (Same.refl H)⟩
theorem et_eqI {i j : Int} (ha : EvD X a ρ (.int i)) (hb : EvD X b ρ (.int j)) : EvT X (.Compare a [.Eq] [b] pos) ρ (decide (i = j)) := et_cmp op_eq (nomark _) ha hb fun x y H Q r1 r2 k => by
  rw [Rp.int_inv r1, Rp.int_inv r2]; exact ⟨rfl, by rw [dec_i]; exact k _ (Same.refl H)⟩
theorem et_neI {i j : Int} (ha : EvD X a ρ (.int i)) (hb : EvD X b ρ (.int j)) : EvT X (.Compare a [.NotEq] [b] pos) ρ (!decide (i = j)) := et_cmp op_ne (nomark _) ha hb fun x y H Q r1 r2 k => by
  rw [Rp.int_inv r1, Rp.int_inv r2]; exact ⟨rfl, by rw [dec_i]; exact k _ (Same.refl H)⟩
theorem dec_b {i j : Bool} : decide (V.bl i = V.bl j) = (i == j) := by cases i <;> cases j <;> rfl
theorem ev_eqB {i j : Bool} (ha : EvD X a ρ (.bool i)) (hb : EvD X b ρ (.bool j)) : EvD X (.Compare a [.Eq] [b] pos) ρ (.bool (i == j)) := ev_cmp op_eq (nomark _) ha hb fun x y H Q r1 r2 k => by
  rw [Rp.bl_inv r1, Rp.bl_inv r2]; exact ⟨rfl, by rw [dec_b]; exact k _ (Same.refl H)⟩
theorem et_neB {i j : Bool} (ha : EvD X a ρ (.bool i)) (hb : EvD X b ρ (.bool j)) : EvT X (.Compare a [.NotEq] [b] pos) ρ (!(i == j)) := et_cmp op_ne (nomark _) ha hb fun x y H Q r1 r2 k => by
  rw [Rp.bl_inv r1, Rp.bl_inv r2]; exact ⟨rfl, by rw [dec_b]; exact k _ (Same.refl H)⟩
/-- all([.. for ..]) -/
theorem ev_allLc {n : Nat} {f : Nat → Bool} (hm : X.mg "all" = none) (ha : EvD X a ρ (.list ((List.range n).map fun i => .bool (f i)))) (hc : X.calm = true := by rfl) (hg : Gl X "all" := by rfl) (he : starEach (a :: []) X.env = (false, eval a X.env) :: starEach [] X.env := by rfl) (hpl : (backTo pos (starEach [] X.env)).any (·.1) = false := by rfl) :
    EvD X (.Call (.Name "all" p') [a] [] pos) ρ (.bool ((List.range n).all f)) := by
  have h : EvD X a ρ (.list (((List.range n).map f).map PyData.bool)) := ha.to (by simp)
  have := ev_all (pos := pos) (p' := p') hm h hc hg he hpl
  exact this.to (by simp [List.all_map])
theorem all_true {n : Nat} {f : Nat → Bool} (h : ∀ i, i < n → f i = true) : (List.range n).all f = true := List.all_eq_true.mpr fun i hi => h i (List.mem_range.mp hi)
theorem b1_skip {A : List Stmt} (h : EvT X c ρ p) (e : p = false) : B1 X (.If c A [] pos) ρ (.next ρ) := b1_ifF (e ▸ h)
theorem b1_then {A B : List Stmt} (h : EvT X c ρ p) (e : p = true) (h1 : Bs X A ρ o) : B1 X (.If c A B pos) ρ o := b1_ifT (e ▸ h) h1
/-! ### rows walked -/
theorem src_congr {n : Nat} {Y Y' : Nat → Ty} (h : Src X tg iter ρ n Y) (e : ∀ i, i < n → Y i = Y' i) : Src X tg iter ρ n Y' := fun σ H sl R k => h σ H sl R fun J H1 s yl => k J H1 s ⟨fun i H2 s2 hi => let ⟨a, b⟩ := yl.go i H2 s2 hi; ⟨a, fun x H' y => e i hi ▸ b x H' y⟩, yl.stop⟩
theorem src_len {n n' : Nat} {Y : Nat → Ty} (h : Src X tg iter ρ n Y) (e : n = n') : Src X tg iter ρ n' Y := e ▸ h
theorem getD_map {α β : Type} (f : α → β) (l : List α) (i : Nat) (a : α) (b : β) (h : i < l.length) : (l.map f).getD i b = f (l.getD i a) := by
  rw [List.getD_eq_getElem?_getD, List.getD_eq_getElem?_getD, List.getElem?_map, List.getElem?_eq_getElem h]; rfl
theorem src_row {ts : List Nat} (h : EvD X iter ρ (dRow ts)) : Src X tg iter ρ ts.length (fun i => nt (ts.getD i 0)) := src_congr (src_len (src_tup (ds := ts.map fun (n : Nat) => PyData.int (n : Int)) h) (by simp)) fun i hi => by rw [getD_map _ ts i 0 _ hi]
theorem src_col {ts : List Nat} (h : EvD X iter ρ (dCol ts)) : Src X tg iter ρ ts.length (fun i => nt (ts.getD i 0)) := src_congr (src_len (src_list (ds := ts.map fun (n : Nat) => PyData.int (n : Int)) h) (by simp)) fun i hi => by rw [getD_map _ ts i 0 _ hi]
def dRows (rs : List (List Nat)) : PyData := .list (rs.map dRow)
theorem src_rows {rs : List (List Nat)} (h : EvD X iter ρ (dRows rs)) : Src X tg iter ρ rs.length (fun i => dD (dRow (rs.getD i []))) := src_congr (src_len (src_list (ds := rs.map dRow) h) (by simp)) fun i hi => by rw [getD_map _ rs i [] _ hi]
theorem src_enumRows {elts : List Expr} {kk : Nat} {tpos : Pos} {rs : List (List Nat)} (hm : X.mg "enumerate" = none) (h : EvD X a ρ (dRows rs)) (hg : Gl X "enumerate" := by rfl) (he : starEach (a :: []) X.env = (false, eval a X.env) :: starEach [] X.env := by rfl) :
    Src X (.Tuple elts kk tpos) (.Call (.Name "enumerate" p') [a] [] pos) ρ rs.length (fun i => dD (.tuple [.int (i : Int), dRow (rs.getD i [])])) := src_congr (src_len (src_enum (ds := rs.map dRow) hm h hg he) (by simp)) fun i hi => by rw [getD_map _ rs i [] _ hi]
theorem ev_ixRow {ts : List Nat} {i : Nat} (ha : EvD X a ρ (dRow ts)) (hb : EvD X b ρ (.int (i : Int))) (h : i < ts.length) (hs : PlainIx b := by exact fun _ _ => rfl) : EvD X (.Subscript a b pos) ρ (.int ((ts.getD i 0 : Nat) : Int)) :=
  ev_ixT (ds := ts.map fun (n : Nat) => PyData.int (n : Int)) ha hb (by rw [List.getElem?_map, List.getElem?_eq_getElem h, List.getD_eq_getElem?_getD, List.getElem?_eq_getElem h]; rfl) hs
theorem ev_ixRows {rs : List (List Nat)} {i : Nat} (ha : EvD X a ρ (dRows rs)) (hb : EvD X b ρ (.int (i : Int))) (h : i < rs.length) (hs : PlainIx b := by exact fun _ _ => rfl) : EvD X (.Subscript a b pos) ρ (dRow (rs.getD i [])) :=
  ev_ixL (ds := rs.map dRow) ha hb (by rw [List.getElem?_map, List.getElem?_eq_getElem h, List.getD_eq_getElem?_getD, List.getElem?_eq_getElem h]; rfl) hs
end
/-- a def that hands back None at its end -/
theorem fn_pureN {P : Program} {w : World} {K : PySem.W.Frag} {mg : Str → Option Value} {base : Heap} {x qual : Str} {params : Arguments} {body : List Stmt} {scope : Scope} {f : Addr} {fd : FuncData} {N ps : List Str} {k : Nat} {F : List Ty → Ty → Prop}
    (Fu : FunD K x qual params body scope [] [] f fd) (S : FnScope N ps scope) (hl : ∀ Ts T, F Ts T → Ts.length = ps.length ∧ T = dD .none)
    (hb : ∀ (cdv : Value) (A : Around) (outer : List Env) (s : Shared) (H : Hp) (E : XK), Room k (A.deeper (envOfC qual scope s.heap.objs.size f cdv)) → ∀ Ts T, F Ts T → ∃ ρ, Bs (cxOf CX0 P w K mg base N qual scope f cdv A outer s H E).nox body (Ts.map some ++ List.replicate (N.length - Ts.length) none) (.next ρ)) :
    FnOk P w K mg base CX0 (k + 1) f fd ps (spR F) := by
  refine Fu.ok S (fun vs H Q E h => ?_) fun cdv A outer s H vs Q E hr h => ?_
  · obtain ⟨Ts, T, hp, hF, _⟩ := h
    rw [Paired.length hp]; exact (hl _ _ hF).1
  · obtain ⟨Ts, T, hp, hF, hQ⟩ := h
    obtain ⟨ρ, hb⟩ := hb cdv A outer s H E hr Ts T hF
    refine ⟨_, PSs.nox pss_sw, hb _ H _ (sl_start hp) fun σ' H' s sl => hQ .non H' s ?_⟩
    rw [(hl _ _ hF).2]; exact .non
end WD
set_option Elab.async false
set_option linter.all false
set_option maxRecDepth 100000
set_option maxHeartbeats 2000000
/-! enumerate of a tuple -/
namespace WD
open PySem PySem.Spec PyProof.Rows L2
open Sem (wp)
theorem mts_enumT {v : Value} {o : Obj} {Hq : Heap → Prop} (Bg : Begins v o Hq) :
    Meets (Builtin.«enumerate.__new__» ⟨[.type "enumerate", v], []⟩) (fun _ Rr z => Hq z.heap ∧ Rr (.ok (.ret (.ref (z.heap.push o).objs.size)))
        { z with heap := (z.heap.push o).push { cls := .type "enumerate", data := .fields #[.none, .bool false, .ref z.heap.objs.size, rawInt 0, .none, .none] } }) :=
  .of_wp fun prog w A Rr z hz => by
    obtain ⟨hp0, g0, d0, tk0, os0⟩ := z; obtain ⟨hz1, hz2⟩ := hz
    have hse := sub_enumerate
    have qi : ∀ {A' : Around} {E : Value → Shared → Prop} {Q : Value → Shared → Prop}, Q (.ref hp0.objs.size) ⟨hp0.push o, g0, d0, tk0, os0⟩ → wpAny (model prog w) A' (pyIter v) Q E ⟨hp0, g0, d0, tk0, os0⟩ := fun q => Bg.iter prog w _ _ ⟨hp0, g0, d0, tk0, os0⟩ _ hz1 q
    wp_walk using qi
    refine wpAny_stack_any fun stk => wpAny_pure ?_
    split
    · rename_i cc _ _ _ _ _
      cases (cc == Value.type "enumerate") <;> (wp_walk using qi; exact ⟨_, rfl, hz2⟩)
    · wp_walk using qi
      exact ⟨_, rfl, hz2⟩
theorem enumT_begins {prog : Program} {w : World} {A : Around} {E : Value → Shared → Prop} {s : Shared} {v : Value} {o : Obj} {Hq : Heap → Prop} {Q : Value → Shared → Prop} (Bg : Begins v o Hq) (hb : Hq s.heap)
    (h : ∀ h', IsEnum h' (s.heap.objs.size + 1) s.heap.objs.size 0 .none → h'.get? s.heap.objs.size = some o → (∀ b u, s.heap.get? b = some u → h'.get? b = some u) → Q (.ref (s.heap.objs.size + 1)) { s with heap := h' }) :
    wpAny (model prog w) A (call (.type "enumerate") [v]) Q E s := by
  refine callType_new F.called_enumerate (by decide) (F.typeCall_enumerate_1 _) (F.newCall_enumerate_1 _) (fun ob => F.args_object_init_2 ob _) F.entry_enumerate_new (mts_enumT Bg) ⟨hb, ?_⟩
  have z1 : (s.heap.push o).objs.size = s.heap.objs.size + 1 := Heap.size_push ..
  show _ ∧ _
  rw [z1]
  have ie : IsEnum ((s.heap.push o).push { cls := .type "enumerate", data := .fields #[.none, .bool false, .ref s.heap.objs.size, rawInt 0, .none, .none] }) (s.heap.objs.size + 1) s.heap.objs.size 0 .none := by
    have q := Heap.get?_push_size (s.heap.push o) (o := { cls := .type "enumerate", data := .fields #[.none, .bool false, .ref s.heap.objs.size, rawInt 0, .none, .none] }) rfl
    rw [z1] at q; exact q
  exact ⟨⟨_, ie, rfl⟩, h _ ie (Heap.get?_push_of_some _ (Heap.get?_push_size _ Bg.free)) fun b u x => Heap.get?_push_of_some _ (Heap.get?_push_of_some _ x)⟩
/-- the tuple at a, its items numbered in new pairs -/
def IteT (K : PySem.W.Frag) (a : Addr) : It :=
  ⟨fun i H => ∃ (xs : List V) (x : V), SqT K H a xs ∧ xs[i]? = some x, fun i H v H' => ∃ T x, v = .ref T ∧ H T = none ∧ H' = upd H T (.tup [.int (i : Nat), x]) ∧ ∀ xs, SqT K H a xs → xs[i]? = some x, fun i H => ∃ xs : List V, SqT K H a xs ∧ xs.length ≤ i⟩
theorem trn_enumT {P : Program} {w : World} {K : PySem.W.Frag} {elts : List Expr} {kk : Nat} {tpos : Pos} (a e it : Addr) (hai : a ≠ it) (hae : a ≠ e) :
    Turn P w K (.Tuple elts kk tpos) (IteT K a) [e, it] e (fun i h => (∃ old, IsEnum h e it ((i : Nat) : Int) old) ∧ h.IsTupleIter it a i ∧ e ≠ it) where
  mem := by simp
  obj := fun i h st b hb => by
    obtain ⟨⟨old, he⟩, ⟨o, ho, hc, hd⟩, _⟩ := st
    rcases (show b = e ∨ b = it by simpa using hb) with rfl | rfl
    · exact ⟨_, he, fun v q => nomatch q⟩
    · exact ⟨o, ho, fun v q => by rw [hd] at q; cases q⟩
  keep := fun i h h' st k => ⟨⟨st.1.choose, k e (by simp) _ st.1.choose_spec⟩, st.2.1.at fun o q => k it (by simp) o q, st.2.2⟩
  item := by
    intro X hP hw hK hc i pins s σ H E I hf st hg
    subst hP hw hK
    obtain ⟨⟨old, he⟩, hit, hne⟩ := st
    obtain ⟨xs, x, hq, hx⟩ := hg
    obtain ⟨its, rv, tp, hz⟩ := I.tuple hq
    obtain ⟨u, hu, ru⟩ := rv.get hx
    have el : e < s.heap.objs.size := Heap.lt_size he
    have il : it < s.heap.objs.size := by obtain ⟨_, q, _⟩ := hit; exact Heap.lt_size q
    have hlt : i < its.toArray.size := by have := (List.getElem?_eq_some_iff.mp hu).1; simpa using this
    have D := Draws.tuple (prog := X.prog) (w := X.w) (A := X.A.in1) (I.ok.hd hc) it a hai its.toArray
    refine wpAny_pyNext_enum_itemD D he ⟨hit, tp⟩ hlt hne (by simp; exact ⟨hne, fun z => hae z.symm⟩) fun y h' tk hy ho hst' hT hsz hk => ?_
    have ey : y = u := by
      have h1 : its.toArray[i]? = some y := hy
      have h2 : its[i]? = some y := by simpa using h1
      rw [hu] at h2; exact (Option.some.inj h2).symm
    subst ey
    refine ⟨_, rfl, wpAny_letOwnedTupleGo_enum (s := { s with heap := h', toks := tk + 1 }) ho fun h'' he' sb => ?_⟩
    have hT2 : h''.get? s.heap.objs.size = some { cls := .type "tuple", data := .seq #[.int i tk, y] } := (sb.2 _ (Nat.ne_of_gt el)).trans hT
    have new : ObjOk X.prog X.w (upd H s.heap.objs.size (.tup [.int (i : Nat), x])) h'' s.heap.objs.size (.tup [.int (i : Nat), x]) :=
      ⟨small_line (by show 2 ≤ 100000; decide), [.int i tk, y], .cons ⟨_, rfl⟩ (.cons ru .nil), ⟨_, hT2, rfl, _, rfl⟩⟩
    have I1 : Inv X pins σ (upd H s.heap.objs.size (.tup [.int (i : Nat), x])) { s with heap := h'', toks := tk + 1 } :=
      I.turnedNew (ch := [e, it]) (fun b ob nb q => (sb.2 b (fun z => nb (by simp [z]))).trans (hk b ob (fun z => nb (by simp [z])) (fun z => nb (by simp [z])) q)) hf (Nat.le_refl _) new
    refine ⟨.ref s.heap.objs.size, _, I1, rfl, ⟨_, x, rfl, I.hok.fresh (Nat.le_refl _), rfl, fun ys hy => by rw [I.tuple_inj hy hq]; exact hx⟩, ⟨⟨y, ?_⟩, hst'.1.at fun o q => (sb.2 it (Ne.symm hne)).trans q, hne⟩, fun b hb => ?_⟩
    · rw [show ((i + 1 : Nat) : Int) = (i : Int) + 1 by omega]; exact he'
    · have lb : b < s.heap.objs.size := by
        rcases (show b = e ∨ b = it by simpa using hb) with rfl | rfl
        · exact el
        · exact il
      rw [upd_ne (Nat.ne_of_lt lb)]
      exact (hf b hb).1
  done := by
    intro X hP hw hK hc i pins s σ H E I hf st hg
    subst hP hw hK
    obtain ⟨⟨old, he⟩, hit, hne⟩ := st
    obtain ⟨xs, hq, hx⟩ := hg
    obtain ⟨its, rv, tp, hz⟩ := I.tuple hq
    obtain ⟨f0, f1, f2, f3, f4, f5⟩ := hf it (by simp)
    have hl := rv.length
    unfold pyNext
    have hT : s.TypeIs (.ref e) "enumerate" := ⟨_, he, rfl⟩
    refine wpAny_bind (wpAny_attempt (wpAny_callSpecial?_slot (name := Str.ofString "__next__") hT F.slot_enumerate_next (wpAny_call_entry F.slot_enumerate_next hT F.entry_enumerate_next ?_ (F.args_enumerate_next_1 _))))
    show wpAny _ _ (field (.ref e) 2 >>= _) _ _ _
    refine wpAny_bind (wpAny_field he rfl (x := .ref it) rfl ?_)
    refine wpAny_bind (wpAny_nextOf_tuple_end (I.ok.hd hc) hit (show s.heap.IsTuple a its.toArray from tp) (by simp; omega) fun h' x hk hx' => ?_)
    obtain ⟨o, ho, hoc⟩ := hx'
    refine wpAny_bind (wpAny_isInstance (T := "StopIteration") (b := true) ⟨o, ho, hoc⟩ isSubtype_stop ?_)
    exact wpAny_pure ⟨rfl, I.turned (t' := s.toks) (fun b o hb q => hk b o hb q) f0 f1 f3 f4 f5⟩
  self := fun A i s Q E st h => wpAny_pyIter_enum st.1.choose_spec h
def iEnumT (K : PySem.W.Frag) (ta : TA) : TI := fun σ H R => ta σ H fun vs H1 => ∃ a xs, vs = [.ref a] ∧ SqT K H1 a xs ∧ R (IteT K a) H1
theorem pi_enumT {X : Cx} {e : Expr} {ta : TA} {p pos tpos : Pos} {elts : List Expr} {kk : Nat} (hg : Gl X "enumerate") (hm : X.mg "enumerate" = none) (ha : PA X [e] ta) (hs : starEach [e] X.env = [(false, eval e X.env)] := by rfl) :
    PI X (.Tuple elts kk tpos) (.Call (.Name "enumerate" p) [e] [] pos) (iEnumT X.K ta) := by
  refine ⟨fun pins s σ H R I h => ?_⟩
  refine Call_ (ld_blt I hg hm boot_enumerate (PyProof.Rows.callWith_type1 (thn (ha.run pos pins s σ H _ I h) fun us s1 ⟨vs, H1, I1, r1, a, xs, ex, hq, q⟩ => ?_) hs rfl))
  subst ex
  cases r1 with
  | cons r rr =>
    cases rr
    cases r
    obtain ⟨its, rv, tp, hz⟩ := I1.tuple hq
    have al : a < s1.heap.objs.size := tp.lt
    refine enumT_begins (begins_tuple a its.toArray) tp fun h' he hit hk => wpAny_pyIter_enum he ?_
    have I2 : Inv X pins σ H1 { s1 with heap := h' } := I1.kept (t' := s1.toks) hk
    refine ⟨s1.heap.objs.size + 1, [s1.heap.objs.size + 1, s1.heap.objs.size], _, _, H1, rfl, I2, trn_enumT a (s1.heap.objs.size + 1) s1.heap.objs.size (Nat.ne_of_lt al) (Nat.ne_of_lt (Nat.lt_succ_of_lt al)), ⟨⟨.none, he⟩, ⟨_, hit, rfl, rfl⟩, Nat.succ_ne_self _⟩, fun b hb => ?_, q⟩
    have hle : s1.heap.objs.size ≤ b := by
      rcases (show b = s1.heap.objs.size + 1 ∨ b = s1.heap.objs.size by simpa using hb) with z | z
      · rw [z]; exact Nat.le_add_right _ _
      · rw [z]; exact Nat.le_refl _
    exact I1.fpOk hle (I1.hok.fresh hle)
theorem src_enumRow {X : Cx} {a : Expr} {ρ : Rho} {pos p' : Pos} {elts : List Expr} {kk : Nat} {tpos : Pos} {ts : List Nat} (hm : X.mg "enumerate" = none) (h : EvD X a ρ (dRow ts)) (hg : Gl X "enumerate" := by rfl) (he : starEach (a :: []) X.env = (false, eval a X.env) :: starEach [] X.env := by rfl) :
    Src X (.Tuple elts kk tpos) (.Call (.Name "enumerate" p') [a] [] pos) ρ ts.length (fun i => dD (.tuple [.int (i : Int), .int ((ts.getD i 0 : Nat) : Int)])) := fun σ H sl R k =>
  iw_of (pi_enumT hg hm pa_aw he) (aw_of (pa_cons pe_ew pa_nil he) (ew_mono (h σ H sl) fun v H1 ⟨s1, r1⟩ => by
    obtain ⟨a, xs, rfl, h1, hz, hl, hi⟩ := Rp.tup_inv r1
    have hl' : xs.length = ts.length := by simpa using hl
    refine ⟨a, xs, rfl, SqT.of h1, k _ _ s1 ⟨fun i H2 s2 hlt => ?_, fun i H2 s2 hle => ⟨xs, SqT.of (s2 _ _ h1), by omega⟩⟩⟩
    have hlt2 : i < xs.length := by omega
    refine ⟨⟨xs, xs[i], SqT.of (s2 _ _ h1), List.getElem?_eq_getElem hlt2⟩, fun x H' y => ?_⟩
    obtain ⟨p, z, rfl, hp, rfl, y⟩ := y
    have e1 := y xs (SqT.of (s2 _ _ h1))
    refine ⟨same_new hp, _, same_new (s2.free hp), same_upd s2, fun b h1 h2 => by rw [upd_ne (fun z => h1 (by rw [z]; exact hp))]; exact h2, ?_⟩
    have e2 : (ts.map fun (n : Nat) => PyData.int (n : Int))[i]? = some (.int ((ts.getD i 0 : Nat) : Int)) := by rw [List.getElem?_map, List.getElem?_eq_getElem hlt, List.getD_eq_getElem?_getD, List.getElem?_eq_getElem hlt]; rfl
    exact Rp.tup_new (s2.free hp) (small_line (by show 2 ≤ 100000; decide)) (.cons (.int _) (.cons (hi i z _ e1 e2) .nil))))
end WD
set_option Elab.async false
set_option linter.all false
set_option maxRecDepth 100000
set_option maxHeartbeats 2000000
/-! dicts whose keys are rows: dict([(row, v) ..]), list(d.items()) -/
namespace WD
open PySem PySem.Spec PyProof.Rows L2
open PySem (storedAllH storedH atKey)
section
variable {κ : Type} [DecidableEq κ]
theorem atKey_none {k : κ} : ∀ (xs : List (κ × Addr × Value)), (∀ x ∈ xs, x.1 ≠ k) → atKey xs k = none := fun xs h => by
  unfold atKey
  rw [List.find?_eq_none.mpr fun x hx => by simpa using h x hx]
  rfl
theorem storedAll_id : ∀ (ps xs : List (κ × Addr × Value)), ((xs ++ ps).map (·.1)).Nodup → storedAllH xs ps = xs ++ ps
  | [], xs, _ => by simp [storedAllH]
  | p :: ps, xs, h => by
    have hn : atKey xs p.1 = none := atKey_none xs fun x hx e => by
      rw [List.map_append, List.nodup_append] at h
      exact h.2.2 x.1 (List.mem_map.mpr ⟨x, hx, rfl⟩) p.1 (by simp) e
    show storedAllH (storedH xs p.1 p.2.1 p.2.2) ps = _
    have e : storedH xs p.1 p.2.1 p.2.2 = xs ++ [p] := by unfold storedH; rw [hn]; rfl
    rw [e, storedAll_id ps (xs ++ [p]) (by simpa [List.append_assoc] using h)]
    simp
end
section
variable {X : Cx} {pins : List (Addr × Obj)} {σ : St} {H : Hp} {s : Shared}
theorem pairsT_of (I : Inv X pins σ H s) : ∀ {ps : List Addr} {kvs : List (List Key × V)}, Paired (fun p (kv : List Key × V) => ∃ b, SqT X.K H p [.ref b, kv.2] ∧ H b = some (.tup (kv.1.map kV))) ps kvs →
    ∃ prs : List (List Key × Addr × Value), KT H kvs prs ∧ prs.length = ps.length ∧ ∀ (j : Nat) (q : List Key × Addr × Value), prs[j]? = some q → ∃ p, ps[j]? = some p ∧ IsTup s.heap p #[.ref q.2.1, q.2.2]
  | _, _, .nil => ⟨[], .nil, rfl, fun j q e => by simp at e⟩
  | _, _, .cons (a := p) (b := kv) ⟨b, h, hb⟩ t => by
    obtain ⟨prs, r, hl, hp⟩ := pairsT_of I t
    obtain ⟨its, rv, ht, _⟩ := I.tuple h
    obtain ⟨u, y, ei, ru, ry⟩ := vals2 rv
    subst ei
    cases ru
    refine ⟨(kv.1, b, y) :: prs, .cons ⟨rfl, hb, ry⟩ r, by simp [hl], fun j q e => ?_⟩
    cases j with
    | zero =>
      have e' := Option.some.inj e
      subst e'
      exact ⟨p, rfl, ht⟩
    | succ j =>
      obtain ⟨p', e1, e2⟩ := hp j q (by simpa using e)
      exact ⟨p', by simpa using e1, e2⟩
theorem kt_keys {H : Hp} : ∀ {kvs : List (List Key × V)} {prs : List (List Key × Addr × Value)}, KT H kvs prs → prs.map (·.1) = kvs.map (·.1)
  | _, _, .nil => rfl
  | _, _, .cons r t => by rw [List.map_cons, List.map_cons, kt_keys t, r.1]
theorem kt_mem {H : Hp} : ∀ {kvs : List (List Key × V)} {prs : List (List Key × Addr × Value)}, KT H kvs prs → ∀ x ∈ prs, H x.2.1 = some (.tup (x.1.map kV))
  | _, _, .nil, x, h => by cases h
  | _, _, .cons r t, x, h => by
    rcases List.mem_cons.mp h with e | h
    · subst e; rw [← r.1]; exact r.2.1
    · exact kt_mem t x h
/-- dict(a list of pairs), the keys unlike tuples -/
def rDictT (K : PySem.W.Frag) : List V → Hp → VK → Prop := fun xs H Q => ∃ (a : Addr) (ps : List Addr) (kvs : List (List Key × V)), xs = [.ref a] ∧ SqL K H a (ps.map V.ref) ∧ Paired (fun p (kv : List Key × V) => ∃ b, SqT K H p [.ref b, kv.2] ∧ H b = some (.tup (kv.1.map kV))) ps kvs ∧ (kvs.map (·.1)).Nodup ∧
    ∀ p, H p = none → Q (.ref p) (upd H p (.dT kvs))
theorem call_dictT (hcalm : X.calm = true) (hu : X.A.units + 3 < cLine) : CallR X (.type "dict") (rDictT X.K) := by
  intro pins s σ H xs us Q I r q
  obtain ⟨a, ps, kvs, ex, hq, hp, hnd, q⟩ := q
  subst ex
  obtain ⟨u, eu, rx⟩ := vals1 r
  subst eu
  cases rx
  obtain ⟨its, rv, pl, hz⟩ := I.list hq
  have ei := refs_at rv
  subst ei
  rw [List.length_map] at hz
  obtain ⟨prs, rel, hl, hpr⟩ := pairsT_of I hp
  have hkl : kvs.length = prs.length := Paired.length rel
  obtain ⟨o, n, ho, hc, hd, hdat⟩ := pl
  have key : ∀ j (q : List Key × Addr × Value), prs[j]? = some q → (ps.map Value.ref).toArray[j]? = some (.ref (ps.getD j 0)) ∧ PairAt s.heap (ps.getD j 0) (.ref q.2.1) q.2.2 := fun j q e => by
    obtain ⟨p, e1, e2⟩ := hpr j q e
    have e3 : ps.getD j 0 = p := by rw [List.getD_eq_getElem?_getD, e1]; rfl
    rw [e3]
    exact ⟨by simp [e1], .inl e2⟩
  refine call_dict_pairsH (knd := tupleKind (mixKind X.prog X.w)) (ps := prs) (PairArg.list a (ps.map Value.ref).toArray (fun j => ps.getD j 0) (prs.map fun q => (Value.ref q.2.1, q.2.2))) (I.ok.hd hcalm)
    (by show X.A.in1.in1.units < cLine; show X.A.units + 1 + 1 < cLine; omega) ⟨⟨o, n, ho, hc, hd, hdat⟩, by simp [hl], fun j k v e => ?_⟩ ⟨by simp, fun i k v e => ?_⟩ (fun h' hk x hx => ?_) (by simp [hl]; exact hz) fun h' tk hd' hk => ?_
  · rw [List.getElem?_map] at e
    obtain ⟨q, e1, e2⟩ := Option.map_eq_some_iff.mp e
    cases e2
    exact key j q e1
  · have e : (prs.map fun q => (Value.ref q.2.1, q.2.2))[i]? = some (k, v) := e
    rw [List.getElem?_map] at e
    obtain ⟨q, e1, e2⟩ := Option.map_eq_some_iff.mp e
    cases e2
    exact ⟨q.1, q.2.1, e1, rfl⟩
  · have hx2 := kt_mem rel x hx
    obtain ⟨o', i', n', h1, h2, h3, h4⟩ := key_of (P := X.prog) (w := X.w) I.hok hx2
    exact ⟨o', i', n', hk _ _ (Nat.ne_of_lt (Heap.lt_size h1)) (by simp) h1, h2, h3, h4⟩
  · have kp : ∀ b u, s.heap.get? b = some u → h'.get? b = some u := fun b u e => hk b u (by simp) e
    have hm : (s.heap.objs.size == sysModules) = false := beq_eq_false_iff_ne.mpr (Nat.ne_of_gt I.big)
    have e0 : storedAllH [] prs = prs := by rw [storedAll_id prs [] (by simpa [kt_keys rel] using hnd)]; rfl
    rw [e0] at hd'
    obtain ⟨od, es, ep, g1, g2, g3, g4, g5, g6⟩ := hd'
    have hfr := I.hok.fresh (Nat.le_refl s.heap.objs.size)
    exact ⟨.ref s.heap.objs.size, upd H s.heap.objs.size (.dT kvs), I.laid (t' := tk) kp (Nat.le_refl _) (show ObjOk X.prog X.w _ _ _ (.dT kvs) from ⟨by rw [hkl, hl]; exact hz, hm, prs, KT.keeps rel fun b ys e => by rw [upd_ne (ne_of_none e hfr)]; exact e, od, es, ep, g1, g2, g3, g4, g6⟩), rfl, q _ hfr⟩
/-! ### list(d.items()) -/
def putP : Hp → List Addr → List (V × V) → Hp
  | G, a :: as, p :: l => putP (upd G a (.tup [p.1, p.2])) as l
  | G, _, _ => G
theorem putP_off {b : Addr} : ∀ (as : List Addr) (l : List (V × V)) (G : Hp), b ∉ as → putP G as l b = G b
  | [], _, _, _ => rfl
  | _ :: _, [], _, _ => rfl
  | a :: as, p :: l, G, h => by
    show putP (upd G a _) as l b = G b
    rw [putP_off as l _ fun z => h (List.mem_cons_of_mem _ z), upd_ne (fun (z : b = a) => h (by rw [z]; exact List.mem_cons_self))]
theorem putP_at : ∀ (as : List Addr) (l : List (V × V)) (G : Hp), as.Nodup → as.length = l.length → ∀ (j : Nat) (a : Addr) (p : V × V), as[j]? = some a → l[j]? = some p → putP G as l a = some (.tup [p.1, p.2])
  | [], _, _, _, _, j, a, p, h, _ => by simp at h
  | _ :: _, [], _, _, hl, _, _, _, _, _ => by cases hl
  | b :: as, q :: l, G, hn, hl, 0, a, p, h1, h2 => by
    have e1 : b = a := by simpa using h1
    have e2 : q = p := by simpa using h2
    subst e1 e2
    show putP (upd G b _) as l b = _
    rw [putP_off as l _ (List.nodup_cons.mp hn).1, upd_same]
  | b :: as, q :: l, G, hn, hl, j + 1, a, p, h1, h2 => putP_at as l _ (List.nodup_cons.mp hn).2 (Nat.succ.inj hl) j a p (by simpa using h1) (by simpa using h2)
def rItemsT (H : Hp) (x : V) (Q : VK) : Prop := ∃ (d : Addr) (kvs : List (List Key × V)), x = .ref d ∧ H d = some (.dT kvs) ∧
  ∀ (H' : Hp) (p : Addr) (ts : List Addr), Same H H' → H p = none → H' p = some (.lst (ts.map V.ref)) → ts.length = kvs.length → (∀ (j : Nat) (t : Addr) (kv : List Key × V), ts[j]? = some t → kvs[j]? = some kv → ∃ b, H' t = some (.tup [.ref b, kv.2]) ∧ H' b = some (.tup (kv.1.map kV))) → Q (.ref p) H'
def tItemsT (te : TE) : TE := fun σ H Q => te σ H fun x H1 => rItemsT H1 x Q
theorem pe_itemsT {e : Expr} {te : TE} {p apos cpos pos : Pos} (hc : X.calm = true) (he : PE X e te) (hg : Gl X "list") (hm : X.mg "list" = none) (hv : bootBuiltins "list" = some (.type "list")) (hbase : attributeBase e "items" X.env (eval e X.env) = eval e X.env := by rfl) (hline : (apos.endLine == cpos.line) = true := by rfl)
    (hs : starEach [.Call (.Attribute e "items" apos) [] [] cpos] X.env = (false, eval (.Call (.Attribute e "items" apos) [] [] cpos) X.env) :: starEach [] X.env := by rfl) :
    PE X (.Call (.Name "list" p) [.Call (.Attribute e "items" apos) [] [] cpos] [] pos) (tItemsT te) := by
  refine ⟨fun pins s σ H Q I hq => ?_⟩
  refine wpAny_Call_Name_kw (ld_blt I hg hm hv ?_)
  refine PyProof.Rows.callWith_type1 ?_ hs rfl
  rw [hs]
  show wpAny _ _ (spliced ((false, eval (.Call (.Attribute e "items" apos) [] [] cpos) X.env) :: backTo pos (starEach [] X.env))) _ _ s
  refine Calls.spliced_cons ?_
  refine wpAny_Call_method (T := "dict") (id := "dict.items") hbase rfl hline F.plainAttrs_dict F.slot_dict_items F.type_dict_items (thn (he.run pins s σ H _ I hq) fun u z ⟨x, H1, I1, rx, d, kvs, ex, hd, q⟩ => ?_)
  subst ex
  obtain rfl : u = Value.ref d := rx
  obtain ⟨hz, hs0, vs, kt, od, es, ep, g1, g2, g3, g4, g5⟩ := I1.hok d _ hd
  have hdo : z.heap.DictRaw d es ep := ⟨od, g1, g2, g3⟩
  have hes : es.size = kvs.length := by
    have : es.toList.length = vs.length := by rw [g4]; simp
    rw [← Paired.length kt] at this
    simpa using this
  have I2 : Inv X pins σ H1 { z with heap := z.heap.push { cls := .type "dict_items", data := .fields #[.ref d] } } := I1.kept (t' := z.toks) fun b ob q => Heap.get?_push_of_some _ q
  have hnd : ∀ o, z.heap.get? d = some o → o.dict = none := fun o ho => by
    rw [g1] at ho; cases ho
    first
      | exact g2.2
      | exact g2.2.1
      | exact g2.2.2
  refine ⟨hdo.typeIs, ?_, ?_⟩
  · intro a ea; cases ea; exact ⟨od, g1, hnd od g1⟩
  show wpAny _ _ (callWith cpos (.builtin "dict.items") [.ref d] [] []) _ X.xe z
  refine method_meetsIn F.slot_dict_items F.entry_dict_items rfl (PySem.evalArgs_none ⟨rfl, hdo.typeIs, F.args_dict_items_1 _, _, meets_dict_items_raw d hs0, ⟨es, ep, hdo⟩, ?_⟩)
  refine Calls.spliced_nil ?_
  refine PySem.W.dil_call (es := es) (ep := ep) (I1.ok.hd hc) ⟨_, Heap.get?_push_size _ rfl, rfl, rfl⟩ (hdo.at fun o e => Heap.get?_push_of_some _ e) (by omega) fun h' tk acc c as hk hS hl hG hacc => ?_
  generalize hS0 : (z.heap.push { cls := .type "dict_items", data := .fields #[.ref d] }).objs.size = S at *
  have lk : kvs.length = vs.length := Paired.length kt
  have hSn : S ∉ as := fun q => Nat.lt_irrefl _ (hG.above _ q)
  have nd : as.Nodup := List.Pairwise.imp (fun {a b} (h : a < b) => Nat.ne_of_lt h) hG.rise
  have fr : ∀ t, S ≤ t → H1 t = none := fun t ht => I2.hok.fresh (by show (z.heap.push _).objs.size ≤ t; rw [hS0]; exact ht)
  have new : ∀ t ∈ as, H1 t = none := fun t ht => fr t (Nat.le_of_lt (hG.above t ht))
  have newS : H1 S = none := fr S (Nat.le_refl _)
  obtain ⟨l, hll, hlg⟩ : ∃ l : List (V × V), l.length = kvs.length ∧ ∀ (j : Nat) (kv : List Key × V) (v : List Key × Addr × Value), kvs[j]? = some kv → vs[j]? = some v → l[j]? = some (.ref v.2.1, kv.2) :=
    ⟨(vs.zip kvs).map fun x => (V.ref x.1.2.1, x.2.2), by simp [lk], fun j kv v e1 e2 => by rw [List.getElem?_map, (List.getElem?_zip_eq_some (z := (v, kv))).mpr ⟨e2, e1⟩]; rfl⟩
  have off : ∀ b, b ∉ as → b ≠ S → putP (upd H1 S (.lst (as.map V.ref))) as l b = H1 b := fun b h1 h2 => by rw [putP_off as l _ h1, upd_ne h2]
  have low : ∀ b o, (z.heap.push { cls := .type "dict_items", data := .fields #[.ref d] }).get? b = some o → b ∉ as ∧ b ≠ S := fun b o e => by
    have lt : b < S := by rw [← hS0]; exact Heap.lt_size e
    exact ⟨fun q => absurd lt (Nat.not_lt.mpr (Nat.le_of_lt (hG.above b q))), Nat.ne_of_lt lt⟩
  have kp : ∀ b u, H1 b = some u → putP (upd H1 S (.lst (as.map V.ref))) as l b = some u := fun b u e => by
    rw [off b (fun q => by rw [new b q] at e; cases e) (fun q => by rw [q, newS] at e; cases e)]; exact e
  have eS : putP (upd H1 S (.lst (as.map V.ref))) as l S = some (.lst (as.map V.ref)) := by rw [putP_off as l _ hSn, upd_same]
  have at_ : ∀ (j : Nat) (t : Addr), as[j]? = some t → ∃ (kv : List Key × V) (v : List Key × Addr × Value), kvs[j]? = some kv ∧ vs[j]? = some v ∧ putP (upd H1 S (.lst (as.map V.ref))) as l t = some (.tup [.ref v.2.1, kv.2]) ∧ (kv.1 = v.1 ∧ H1 v.2.1 = some (.tup (kv.1.map kV)) ∧ RelV kv.2 v.2.2) := fun j t e => by
    have hj : j < as.length := (List.getElem?_eq_some_iff.mp e).1
    have h1 : j < kvs.length := by omega
    have h2 : j < vs.length := by omega
    have q := hlg j kvs[j] vs[j] (List.getElem?_eq_getElem h1) (List.getElem?_eq_getElem h2)
    exact ⟨_, _, List.getElem?_eq_getElem h1, List.getElem?_eq_getElem h2, putP_at as l _ nd (by omega) j t _ e q, pair_at kt j _ _ (List.getElem?_eq_getElem h1) (List.getElem?_eq_getElem h2)⟩
  have J : Inv X pins σ (putP (upd H1 S (.lst (as.map V.ref))) as l) { z with heap := h', toks := tk } := by
    refine I2.un (h' := h') (t' := tk) ⟨fun b o q _ _ _ => hk b o q, fun b o q _ _ _ => ⟨o.slots, hk b o q⟩, fun b o q n _ => ?_, fun b o q _ => ⟨o, hk b o q⟩, fun b xs q => kp b _ q, fun b o u q => kp b _ q, fun b ps q => ⟨#[], by rw [kp b _ q]; simp⟩⟩ fun b u q => ?_
    · obtain ⟨z1, z2⟩ := low b o q
      rw [off b z1 z2]; exact n
    · by_cases hb : b ∈ as
      · obtain ⟨j, e1⟩ := List.mem_iff_getElem?.mp hb
        obtain ⟨kv, v, f1, f2, f3, f4, f5, f6⟩ := at_ j b e1
        rw [f3] at q
        cases q
        obtain ⟨hj, f7⟩ := hG.pairs j b e1
        have f8 : es[j] = entryOfKey (tupleKind (mixKind X.prog X.w)) v := by
          have e2 : es.toList[j]? = some es[j] := by rw [Array.getElem?_toList]; exact Array.getElem?_eq_getElem hj
          rw [g4, List.getElem?_map, f2] at e2
          exact (Option.some.inj e2).symm
        rw [f8] at f7
        exact ⟨small_line (by show 2 ≤ 100000; decide), [.ref v.2.1, v.2.2], .cons rfl (.cons f6 .nil), ⟨_, f7, rfl, _, rfl⟩⟩
      · by_cases hb2 : b = S
        · subst hb2
          rw [eS] at q
          cases q
          have ea : acc = (as.map Value.ref).toArray := by rw [← hacc, Array.toArray_toList]
          refine ⟨by rw [List.length_map]; omega, as.map Value.ref, c, ?_, by rw [← ea]; exact hS⟩
          have go : ∀ l : List Addr, Vals (l.map V.ref) (l.map Value.ref) := fun l => by
            induction l with
            | nil => exact .nil
            | cons a l ih => exact .cons rfl ih
          exact go as
        · rw [off b hb hb2] at q
          exact (I2.hok b u q).stay (fun c v _ y => hk c v y) (fun c y => kp c _ y) fun c xs y => kp c _ y
  refine ⟨.ref S, _, J, rfl, q _ S as kp newS eS (by omega) fun j t kv e1 e2 => ?_⟩
  obtain ⟨kv', v, f1, f2, f3, f4, f5, f6⟩ := at_ j t e1
  rw [e2] at f1
  cases f1
  exact ⟨v.2.1, f3, kp _ _ f5⟩
end
end WD
set_option Elab.async false
set_option linter.all false
set_option maxRecDepth 100000
set_option maxHeartbeats 2000000
/-! max(row, default=d) of a row that is not empty -/
namespace WD
open PySem PySem.Spec PyProof.Rows L2
open Sem (wp)
section
variable {prog : Program} {w : World} {A : Around} {R : Result → Shared → Prop} {I0 : Addr} {fp wr : List Addr} {n : Nat} {P : Nat → Value → Prop} {Sx : Nat → Heap → Prop} {dv : Value}
abbrev mkw (dv : Value) : List (Str × Value) := [("default", dv)]
theorem mx_name : (toString "max" ++ toString ".loop" : String) = "max.loop" := by decide
theorem mxd_loop (Wk : Walks prog w A.in1 I0 fp wr n P Sx) (bt : Nat → Nat → Bool) (hcmp : CmpOf prog w A.in1 .Gt P bt) (B0 : Addr) (hB : B0 ∉ fp) :
    ∀ (k j : Nat) (z : Shared) (vb : Value) (c : Nat), n - (j + 1) = k → j + 1 ≤ n → Sx (j + 1) z.heap → P (argBest bt j) vb →
    z.heap.get? B0 = some { cls := .type "list", dict := none, data := .seq #[vb, vb] c, slots := #[] } →
    (∀ v h' tk, P (argBest bt (n - 1)) v → (∀ b o, b ∉ wr → b ≠ B0 → z.heap.get? b = some o → h'.get? b = some o) → R (.ok (.ret v)) { z with heap := h', toks := tk }) →
    codeAny (model prog w) A (.builtin "max.loop" ⟨[.ref I0, .none, .ref B0], mkw dv⟩) R z := by
  have hBw : B0 ∉ wr := fun q => hB (Wk.sub _ q)
  intro k
  induction k with
  | zero =>
    intro j z vb c hk hj hst hPb hS hR
    have hin : j + 1 = n := by omega
    refine codeAny_builtin F.entry_max_loop ?_
    rw [Around.under_plainId F.plain_max_loop _]
    show wpAny _ A.in1 (seqItems? (.ref B0) >>= _) _ _ z
    refine wpAny_bind (wpAny_seqItems hS rfl ?_)
    show wpAny _ A.in1 (tryCatch (pyNext (.ref I0)) _ >>= _) _ _ z
    refine wpAny_bind (wpAny_tryCatch (Wk.done z _ _ (hin ▸ hst) fun h' tk hk' => ?_))
    have hS' := hk' B0 _ hBw hS
    show wpAny _ A.in1 (updateSeq B0 (fun _ => #[]) >>= _) _ _ _
    refine wpAny_bind (wpAny_updateSeq hS' rfl (wpAny_bind (wpAny_letGo (wpAny_pure ?_))))
    exact hR vb _ tk (by rw [← hin]; exact hPb) fun b o q1 q2 e => (Heap.get?_update_other _ _ (Ne.symm q2)).trans (hk' b o q1 e)
  | succ k ih =>
    intro j z vb c hk hj hst hPb hS hR
    have hlt : j + 1 < n := by omega
    refine codeAny_builtin F.entry_max_loop ?_
    rw [Around.under_plainId F.plain_max_loop _]
    show wpAny _ A.in1 (seqItems? (.ref B0) >>= _) _ _ z
    refine wpAny_bind (wpAny_seqItems hS rfl ?_)
    show wpAny _ A.in1 (tryCatch (pyNext (.ref I0)) _ >>= _) _ _ z
    refine wpAny_bind (wpAny_tryCatch (Wk.item (j + 1) z _ _ hlt hst fun v h' tk hP hst' hk' => ?_))
    have hS' := hk' B0 _ hBw hS
    show wpAny _ A.in1 (tryCatch (holding [v, v] (richCompare .Gt v vb >>= _)) _ >>= _) _ _ _
    refine wpAny_bind (wpAny_tryCatch (wpAny_holding (wpAny_bind (hcmp (j + 1) (argBest bt j) v vb _ _ _ hP hPb ?_))))
    refine wpAny_bind (wpAny_holding (wpAny_truthy_bool ?_))
    refine wpAny_bind (wpAny_letGo (wpAny_pure ?_))
    cases hb : bt (j + 1) (argBest bt j) with
    | true =>
      simp only [if_true]
      refine wpAny_bind (wpAny_updateSeq hS' rfl (wpAny_bind (wpAny_letGo ?_)))
      rw [mx_name]
      refine wpAny_pure ⟨plainId_quiet F.plain_max_loop _, ih (j + 1) _ v _ (by omega) hlt (Wk.frame _ _ _ hst' fun b q o e => (Heap.get?_update_other _ _ (fun h : B0 = b => hB (by rw [h]; exact q))).trans e) (by simp only [argBest, hb, if_true]; exact hP) (Heap.get?_update_self _ hS' rfl) fun v' h'' tk'' hP' hk'' => ?_⟩
      exact hR v' h'' tk'' hP' fun b o q1 q2 e => hk'' b o q1 q2 ((Heap.get?_update_other _ _ (Ne.symm q2)).trans (hk' b o q1 e))
    | false =>
      simp only [Bool.false_eq_true, if_false]
      refine wpAny_bind (wpAny_letGo ?_)
      rw [mx_name]
      exact wpAny_pure ⟨plainId_quiet F.plain_max_loop _, ih (j + 1) _ vb c (by omega) hlt hst' (by simp only [argBest, hb, Bool.false_eq_true, if_false]; exact hPb) hS' fun v' h'' tk'' hP' hk'' => hR v' h'' tk'' hP' fun b o q1 q2 e => hk'' b o q1 q2 (hk' b o q1 e)⟩
theorem mxd_first (Wk : Walks prog w A.in1 I0 fp wr n P Sx) (bt : Nat → Nat → Bool) (hcmp : CmpOf prog w A.in1 .Gt P bt) (B0 : Addr) (hB : B0 ∉ fp) (hn : 0 < n) {z : Shared} {c : Nat} (hst : Sx 0 z.heap)
    (hS : z.heap.get? B0 = some { cls := .type "list", dict := none, data := .seq #[] c, slots := #[] })
    (hR : ∀ v h' tk, P (argBest bt (n - 1)) v → (∀ b o, b ∉ wr → b ≠ B0 → z.heap.get? b = some o → h'.get? b = some o) → R (.ok (.ret v)) { z with heap := h', toks := tk }) :
    codeAny (model prog w) A (.builtin "max.loop" ⟨[.ref I0, .none, .ref B0], mkw dv⟩) R z := by
  have hBw : B0 ∉ wr := fun q => hB (Wk.sub _ q)
  refine codeAny_builtin F.entry_max_loop ?_
  rw [Around.under_plainId F.plain_max_loop _]
  show wpAny _ A.in1 (seqItems? (.ref B0) >>= _) _ _ z
  refine wpAny_bind (wpAny_seqItems hS rfl ?_)
  show wpAny _ A.in1 (tryCatch (pyNext (.ref I0)) _ >>= _) _ _ z
  refine wpAny_bind (wpAny_tryCatch (Wk.item 0 z _ _ hn hst fun v h' tk hP hst' hk' => ?_))
  have hS' := hk' B0 _ hBw hS
  show wpAny _ A.in1 (updateSeq B0 (fun _ => #[v, v]) >>= _) _ _ _
  refine wpAny_bind (wpAny_updateSeq hS' rfl ?_)
  rw [mx_name]
  refine wpAny_pure ⟨plainId_quiet F.plain_max_loop _, mxd_loop Wk bt hcmp B0 hB _ 0 _ v _ rfl hn (Wk.frame _ _ _ hst' fun b q o e => (Heap.get?_update_other _ _ (fun h : B0 = b => hB (by rw [h]; exact q))).trans e) hP (Heap.get?_update_self _ hS' rfl) fun v' h'' tk'' hP' hk'' => ?_⟩
  exact hR v' h'' tk'' hP' fun b o q1 q2 e => hk'' b o q1 q2 ((Heap.get?_update_other _ _ (Ne.symm q2)).trans (hk' b o q1 e))
end
theorem argsOk_maxD (a d : Value) : argsOk "max" ⟨[a], mkw d⟩ := by unfold argsOk; kernel_rfl
theorem call_fn_kw {prog : Program} {w : World} {A : Around} {E : Value → Shared → Prop} {s : Shared} {id : String} {b : Builtin} {args : List Value} {kw : List (Str × Value)} {Q : Value → Shared → Prop} (hk : builtinKind id = none) (hp : plainId id = true) (hb : entryFor table id = some b) (ha : argsOk id ⟨args, kw⟩)
    (hc : wpAny (model prog w) A.in1 (b ⟨args, kw⟩) (fun fin s' => match fin with
      | .done f => (match (Except.ok f : Result) with | .ok (.ret v) => Q v s' | .ok _ => False | .error e => E e s')
      | .again c' => c'.quiet = true ∧ codeAny (model prog w) A c' (fun r s' => match r with | .ok (.ret v) => Q v s' | .ok _ => False | .error e => E e s') s') E s) : wpAny (model prog w) A (call (.builtin id) args kw) Q E s := by
  refine wpAny_call (codeAny_call_builtin hp hb ?_)
  simp only [checkBuiltinCall, hk]
  cases hsig : Manifest.signature? id with
  | none => exact wpAny_pure hc
  | some sg =>
    simp only [argsOk, hsig] at ha
    have h2 : Bind.checkArgs id sg ⟨args, kw⟩ = pure () := ha
    show wpAny _ A.in1 (Bind.checkArgs id sg ⟨args, kw⟩) _ _ s
    rw [h2]; exact wpAny_pure hc
theorem call_maxD_walk {prog : Program} {w : World} {A : Around} {E : Value → Shared → Prop} {s : Shared} {x dv : Value} {Q : Value → Shared → Prop}
    (h : wpAny (model prog w) A.in1 (pyIter x) (fun it s₂ => ∃ I fp wr n P Sx bt, it = .ref I ∧ Walks prog w A.in1 I fp wr n P Sx ∧ Sx 0 s₂.heap ∧ (∀ b ∈ fp, b < s₂.heap.objs.size) ∧ 0 < n ∧ CmpOf prog w A.in1 .Gt P bt ∧
      ∀ v h' tk, P (argBest bt (n - 1)) v → (∀ b o, b ∉ wr → s₂.heap.get? b = some o → h'.get? b = some o) → Q v { s₂ with heap := h', toks := tk }) E s) :
    wpAny (model prog w) A (call (.builtin "max") [x] (mkw dv)) Q E s := by
  refine call_fn_kw F.kind_max F.plain_max F.entry_max (argsOk_maxD _ _) ?_
  show wpAny _ A.in1 (Builtin.Builtins.bindParams "max" ["key", "default"] 0 ⟨[], mkw dv⟩ >>= _) _ _ s
  refine wpAny_bind (wpAny_of_eq (show Builtin.Builtins.bindParams "max" ["key", "default"] 0 ⟨[], mkw dv⟩ = pure [none, some dv] from by kernel_rfl) ?_)
  refine wpAny_bind (wpAny_pure ?_)
  refine wpAny_bind (wpAny_mono h (fun it s₂ h₂ => ?_) fun _ _ e => e)
  obtain ⟨I, fp, wr, n, P, Sx, bt, rfl, Wk, hst, hfp, hn, hcmp, hQ⟩ := h₂
  refine wpAny_bind (wpAny_newObj_type ?_)
  have hBf : s₂.heap.objs.size ∉ fp := fun hm => Nat.lt_irrefl _ (hfp _ hm)
  rw [mx_name]
  refine wpAny_pure ⟨plainId_quiet F.plain_max_loop _, mxd_first Wk bt hcmp s₂.heap.objs.size hBf hn (Wk.frame _ _ _ hst fun b _ o e => Heap.get?_push_of_some _ e) (Heap.get?_push_size _ rfl) fun v h' tk hP hk => ?_⟩
  exact hQ v h' tk hP fun b o q e => hk b o q (Nat.ne_of_lt (Heap.lt_size e)) (Heap.get?_push_of_some _ e)
theorem argBest_lt (bt : Nat → Nat → Bool) : ∀ k, argBest bt k ≤ k
  | 0 => Nat.le_refl _
  | k + 1 => by unfold argBest; split; exact Nat.le_refl _; exact Nat.le_succ_of_le (argBest_lt bt k)
theorem argBest_max (f : Nat → Int) : ∀ (k i : Nat), i ≤ k → f i ≤ f (argBest (fun i j => decide (f i > f j)) k)
  | 0, i, h => by have : i = 0 := by omega
                  subst this; exact Int.le_refl _
  | k + 1, i, h => by
    have ih := argBest_max f k
    unfold argBest
    by_cases c : f (k + 1) > f (argBest (fun i j => decide (f i > f j)) k)
    · rw [if_pos (by simpa using c)]
      by_cases e : i = k + 1
      · subst e; exact Int.le_refl _
      · have := ih i (by omega); omega
    · rw [if_neg (by simpa using c)]
      by_cases e : i = k + 1
      · subst e; omega
      · exact ih i (by omega)
/-- max(t, default = ..), t a tuple of whole numbers, not empty -/
def rMaxD (K : PySem.W.Frag) : List V → List V → Hp → VK → Prop := fun xs zs H Q => ∃ (a : Addr) (ns : List Int) (z : V), xs = [V.ref a] ∧ zs = [z] ∧ SqT K H a (ns.map V.int) ∧ 0 < ns.length ∧ ∀ m, m ∈ ns → (∀ y ∈ ns, y ≤ m) → Q (.int m) H
theorem ck_maxD {X : Cx} (hc : X.calm = true) : CallRK X (.builtin "max") ["default"] (rMaxD X.K) := by
  intro pins s σ H xs zs us ws Q I r rz h
  obtain ⟨a, ns, z, rfl, rfl, hs, hne, q⟩ := h
  obtain ⟨u, rfl, ru⟩ := vals1 r
  obtain ⟨dv, rfl, rd⟩ := vals1 rz
  cases ru
  obtain ⟨its, rv, tp, hz⟩ := I.tuple hs
  have hl : ns.length = its.length := by have := rv.length; simpa using this
  have itm : ∀ (i : Nat) (v : Value), its.toArray[i]? = some v → ∃ t, v = Value.int (ns.getD i 0) t := fun i v e => by
    have e' : its[i]? = some v := by simpa using e
    have hlt : i < its.length := (List.getElem?_eq_some_iff.mp e').1
    have hlt2 : i < ns.length := by omega
    obtain ⟨u, hu, ru⟩ := rv.get (i := i) (x := .int ns[i]) (by rw [List.getElem?_map, List.getElem?_eq_getElem hlt2]; rfl)
    rw [e'] at hu
    cases hu
    obtain ⟨t, rfl⟩ := ru
    exact ⟨t, by rw [List.getD_eq_getElem?_getD, List.getElem?_eq_getElem hlt2]; rfl⟩
  show wpAny _ _ (call (.builtin "max") [Value.ref a] (mkw dv)) _ _ _
  refine call_maxD_walk (dv := dv) (wpAny_pyIter_tuple (show s.heap.IsTuple a its.toArray from tp) ?_)
  have al : a < s.heap.objs.size := tp.lt
  refine ⟨s.heap.objs.size, _, _, _, _, _, fun i j => decide (ns.getD i 0 > ns.getD j 0), rfl, Walks.tuple (A := X.A.in1) (I.ok.hd hc) s.heap.objs.size a (Nat.ne_of_lt al) its.toArray, ⟨⟨_, Heap.get?_push_size _ rfl, rfl, rfl⟩, (show s.heap.IsTuple a its.toArray from tp).at fun o e => Heap.get?_push_of_some _ e⟩, fun b hb => ?_, by simp; omega, fun i j vi vj s Q E h1 h2 hQ => ?_, fun v h' tk hv hk => ?_⟩
  · show b < (s.heap.push _).objs.size
    rw [Heap.size_push]
    rcases (show b = s.heap.objs.size ∨ b = a by simpa using hb) with rfl | rfl
    · exact Nat.lt_succ_self _
    · exact Nat.lt_succ_of_lt al
  · obtain ⟨t, rfl⟩ := itm i vi h1
    obtain ⟨t', rfl⟩ := itm j vj h2
    exact CmpOf.ints_gt (P := fun i v => ∃ t, v = Value.int (ns.getD i 0) t) (fun i => ns.getD i 0) (fun _ _ h => h) i j _ _ s Q E ⟨t, rfl⟩ ⟨t', rfl⟩ hQ
  · obtain ⟨t, rfl⟩ := itm _ v hv
    have hb := argBest_lt (fun i j => decide (ns.getD i 0 > ns.getD j 0)) (its.toArray.size - 1)
    have hsz : its.toArray.size = its.length := by simp
    refine ⟨.int _, H, I.kept (t' := tk) fun b o e => hk b o (by simp; exact Nat.ne_of_lt (Heap.lt_size e)) (Heap.get?_push_of_some _ e), ⟨t, rfl⟩, q _ ?_ fun y hy => ?_⟩
    · have hlt : argBest (fun i j => decide (ns.getD i 0 > ns.getD j 0)) (its.toArray.size - 1) < ns.length := by omega
      rw [List.getD_eq_getElem?_getD, List.getElem?_eq_getElem hlt]
      exact List.getElem_mem _
    · obtain ⟨i, hi⟩ := List.mem_iff_getElem?.mp hy
      have hlt : i < ns.length := (List.getElem?_eq_some_iff.mp hi).1
      have := argBest_max (fun i => ns.getD i 0) (its.toArray.size - 1) i (by omega)
      have e : ns.getD i 0 = y := by rw [List.getD_eq_getElem?_getD, hi]; rfl
      rw [← e]; exact this
/-- the greatest of a row, -1 of none -/
def lastOf (r : List Nat) : Int := r.foldr (fun (x : Nat) m => max (x : Int) m) (-1)
theorem lastOf_mem : ∀ (r : List Nat), r ≠ [] → ∃ x ∈ r, lastOf r = (x : Int)
  | [x], _ => ⟨x, by simp, by simp [lastOf]; omega⟩
  | x :: y :: r, _ => by
    obtain ⟨z, hz, e⟩ := lastOf_mem (y :: r) (by simp)
    have e2 : lastOf (x :: y :: r) = max (x : Int) (lastOf (y :: r)) := rfl
    rw [e2, e]
    by_cases h : (x : Int) ≤ z
    · exact ⟨z, List.mem_cons_of_mem _ hz, by omega⟩
    · exact ⟨x, by simp, by omega⟩
theorem lastOf_le : ∀ (r : List Nat), ∀ x ∈ r, (x : Int) ≤ lastOf r
  | y :: r, x, h => by
    have e2 : lastOf (y :: r) = max (y : Int) (lastOf r) := rfl
    rw [e2]
    rcases List.mem_cons.mp h with rfl | h
    · omega
    · have := lastOf_le r x h; omega
theorem ev_maxD {X : Cx} {a d : Expr} {ρ : Rho} {pos p' kp : Pos} {ts : List Nat} {T : Ty} (hm : X.mg "max" = none) (ha : EvD X a ρ (dRow ts)) (hd : EvE X d ρ T) (hne : ts ≠ []) (hc : X.calm = true := by rfl) (hg : Gl X "max" := by rfl)
    (hs : starEach (a :: []) X.env = (false, eval a X.env) :: starEach [] X.env := by rfl) (he : backTo pos (starEach [a] X.env) = (false, eval a X.env) :: backTo pos (starEach [] X.env) := by rfl) (hpl : (backTo pos (starEach [a] X.env)).any (·.1) = false := by rfl)
    (hall : (backToKw pos (keywordEach [⟨some "default", d, kp⟩] X.env)).all (·.1.isSome) = true := by rfl) (hnone : (backToKw pos (keywordEach [⟨some "default", d, kp⟩] X.env)).any (·.1.isNone) = false := by rfl) (hks : (backToKw pos (keywordEach [⟨some "default", d, kp⟩] X.env)).filterMap (·.1) = (["default"] : List Str) := by rfl) :
    EvD X (.Call (.Name "max" p') [a] [⟨some "default", d, kp⟩] pos) ρ (.int (lastOf ts)) := fun σ H sl =>
  ew_of (pe_callBK (ck_maxD hc) hg hm (by decide +kernel) pa_aw (pk_cons pe_ew pk_nil) (he := he) (hpl := hpl) (hall := hall) (hnone := hnone) (hks := hks)) (aw_of (pa_cons pe_ew pa_nil hs) (ew_mono (ha σ H sl) fun v H1 ⟨s1, r1⟩ => ew_mono (hd σ H1 (sl.same s1)) fun y H2 ⟨s2, r2⟩ => by
    obtain ⟨p, xs, rfl, h1, hz, hl, hi⟩ := Rp.tup_inv (Rp.same s2 r1)
    have e := rp_ints (bs := ts.map fun (n : Nat) => (n : Int)) (by simpa using hl) fun i v d e1 e2 => hi i v d e1 (by simpa [List.map_map] using e2)
    subst e
    refine ⟨p, _, y, rfl, rfl, SqT.of h1, by have := List.length_pos_iff.mpr hne; simpa using this, fun m hm1 hm2 => ?_⟩
    have em : m = lastOf ts := by
      obtain ⟨x, hx, e1⟩ := lastOf_mem ts hne
      obtain ⟨y, hy, e2⟩ := List.mem_map.mp hm1
      have h1 := hm2 x (List.mem_map.mpr ⟨x, hx, rfl⟩)
      have h2 := lastOf_le ts y hy
      omega
    rw [em]
    exact ⟨s1.trans s2, .int _⟩))
end WD
/-! the mathematics: what the defs compute, on lists of numbers -/
namespace WD
def spot (n : Nat) (ts : List Nat) : Nat := ts.foldl (fun acc t => acc * n + t) 0
def thingsAt (n : Nat) : Nat → Nat → List Nat
  | 0, _ => []
  | p + 1, s => thingsAt n p (s / n) ++ [s % n]
theorem thingsAt_len (n : Nat) : ∀ (p s : Nat), (thingsAt n p s).length = p
  | 0, _ => rfl
  | p + 1, s => by simp [thingsAt, thingsAt_len n p]
theorem thingsAt_lt {n : Nat} (hn : 0 < n) : ∀ (p s : Nat), ∀ x ∈ thingsAt n p s, x < n
  | 0, _, x, h => by simp [thingsAt] at h
  | p + 1, s, x, h => by
    simp only [thingsAt, List.mem_append, List.mem_singleton] at h
    rcases h with h | h
    · exact thingsAt_lt hn p _ x h
    · rw [h]; exact Nat.mod_lt _ hn
theorem thingsAt_front (n : Nat) : ∀ (p s : Nat), thingsAt n (p + 1) s = (s / n ^ p % n) :: thingsAt n p s
  | 0, s => by simp [thingsAt]
  | p + 1, s => by
    have ih := thingsAt_front n p (s / n)
    show thingsAt n (p + 1) (s / n) ++ [s % n] = _
    rw [ih, Nat.div_div_eq_div_mul, Nat.pow_succ, Nat.mul_comm n]
    rfl
theorem spot_snoc (n : Nat) (ts : List Nat) (t : Nat) : spot n (ts ++ [t]) = spot n ts * n + t := by simp [spot]
theorem spot_thingsAt {n : Nat} (hn : 0 < n) : ∀ (p s : Nat), s < n ^ p → spot n (thingsAt n p s) = s
  | 0, s, h => by simp at h; subst h; rfl
  | p + 1, s, h => by
    have h1 : s / n < n ^ p := by
      rw [Nat.div_lt_iff_lt_mul hn, ← Nat.pow_succ]; exact h
    show spot n (thingsAt n p (s / n) ++ [s % n]) = s
    rw [spot_snoc, spot_thingsAt hn p _ h1]
    exact Nat.div_add_mod' s n
theorem rev_ind {α : Type} {P : List α → Prop} (h0 : P []) (h1 : ∀ l a, P l → P (l ++ [a])) (l : List α) : P l := by
  have h : ∀ l : List α, P l.reverse := by
    intro l
    induction l with
    | nil => exact h0
    | cons a l ih => rw [List.reverse_cons]; exact h1 _ _ ih
  have := h l.reverse
  rwa [List.reverse_reverse] at this
theorem spot_lt {n : Nat} (hn : 0 < n) (ts : List Nat) : (∀ x ∈ ts, x < n) → spot n ts < n ^ ts.length := by
  refine rev_ind (P := fun ts => (∀ x ∈ ts, x < n) → spot n ts < n ^ ts.length) (fun _ => by simp [spot]) (fun ts t ih => ?_) ts
  · intro h
    rw [spot_snoc]
    have h1 := ih fun x hx => h x (List.mem_append_left _ hx)
    have h2 : t < n := h t (by simp)
    rw [List.length_append, List.length_singleton, Nat.pow_succ]
    calc spot n ts * n + t < spot n ts * n + n := by omega
      _ = (spot n ts + 1) * n := by rw [Nat.succ_mul]
      _ ≤ n ^ ts.length * n := Nat.mul_le_mul_right _ h1
theorem thingsAt_spot {n : Nat} (hn : 0 < n) (ts : List Nat) : (∀ x ∈ ts, x < n) → thingsAt n ts.length (spot n ts) = ts := by
  refine rev_ind (P := fun ts => (∀ x ∈ ts, x < n) → thingsAt n ts.length (spot n ts) = ts) (fun _ => rfl) (fun ts t ih => ?_) ts
  · intro h
    have h2 : t < n := h t (by simp)
    rw [spot_snoc, List.length_append, List.length_singleton]
    show thingsAt n ts.length ((spot n ts * n + t) / n) ++ [(spot n ts * n + t) % n] = _
    have e1 : (spot n ts * n + t) / n = spot n ts := by
      rw [Nat.mul_comm, Nat.mul_add_div hn, Nat.div_eq_of_lt h2]; rfl
    have e2 : (spot n ts * n + t) % n = t := by
      rw [Nat.mul_comm, Nat.mul_add_mod, Nat.mod_eq_of_lt h2]
    rw [e1, e2, ih fun x hx => h x (List.mem_append_left _ hx)]
/-- a deed's row of rows -/
def put (T : List Nat) (n : Nat) (rows : List (List Nat)) (w : Nat) : List Nat := (List.range w).map fun k => T.getD (spot n (rows.map fun r => r.getD k 0)) 0
abbrev Rel := Nat × List (List Nat)
def pick (lot : List (List Nat)) (p num : Nat) : List (List Nat) := (thingsAt lot.length p num).map fun i => lot.getD i []
def keepsAt (T : List Nat) (n p : Nat) (rel : Rel) (num : Nat) : Bool := rel.2.contains (put T n (pick rel.2 p num) rel.1)
def keepsB (T : List Nat) (n p : Nat) (rel : Rel) : Bool := (List.range (rel.2.length ^ p)).all (keepsAt T n p rel)
/-- the tables of so many cells, in order -/
def allT (n : Nat) : Nat → List (List Nat)
  | 0 => [[]]
  | c + 1 => (allT n c).flatMap fun t => (List.range n).map fun x => t ++ [x]
def ltR : List Nat → List Nat → Bool
  | [], [] => false
  | [], _ :: _ => true
  | _ :: _, [] => false
  | x :: xs, y :: ys => if x = y then ltR xs ys else decide (x < y)
structure RelOk (n : Nat) (rel : Rel) : Prop where
  wide : rel.1 ≤ 12
  few : rel.2.length ≤ 1000
  row : ∀ r ∈ rel.2, r.length = rel.1 ∧ ∀ x ∈ r, x < n
  up : ∀ i, i + 1 < rel.2.length → ltR (rel.2.getD i []) (rel.2.getD (i + 1) []) = true
end WD
set_option Elab.async false
set_option linter.all false
set_option maxRecDepth 100000
set_option maxHeartbeats 4000000
namespace WD
open PySem PySem.Spec PyProof.Rows L2
/-- the built-in names that the text leaves alone -/
structure Bi (mg : Str → Option Value) : Prop where
  isi : mg "isinstance" = none
  int : mg "int" = none
  bool : mg "bool" = none
  tuple : mg "tuple" = none
  str : mg "str" = none
  list : mg "list" = none
  len : mg "len" = none
  all : mg "all" = none
  range : mg "range" = none
  dict : mg "dict" = none
  sorted : mg "sorted" = none
  set : mg "set" = none
  enumerate : mg "enumerate" = none
  zip : mg "zip" = none
  max : mg "max" = none
section
variable {P : Program} {w : World} {K : PySem.W.Frag} {mg : Str → Option Value} {base : Heap}
abbrev FnD (K : PySem.W.Frag) (x : Str) (st : Stmt) (f : Addr) (fd : FuncData) : Prop := FunD K x x (defArgs st) (defBody st) (defScope st) [] [] f fd
theorem sc_is_whole : FnScope ["thing"] ["thing"] (defScope s_is_whole) := ⟨rfl, rfl, rfl, by decide +kernel, rfl, by decide +kernel, by decide +kernel⟩
def F_is_whole : List Ty → Ty → Prop := fun Ts T => ∃ i : Int, Ts = [dD (.int i)] ∧ T = dD (.bool true)
theorem ok_is_whole {f fd} (Fu : FnD K "is_whole" s_is_whole f fd) (hm : mg "is_whole" = some (.ref f)) (B : Bi mg) : Kn P w K mg base 1 "is_whole" F_is_whole := by
  refine kn_of Fu (fn_pure (o := .ret) Fu sc_is_whole ?_ (.inl fun _ => rfl) ?_) hm (fun _ _ _ _ _ _ us hl => match us, hl with | [_], _ => rfl)
  · rintro _ _ ⟨i, rfl, rfl⟩; rfl
  · rintro cdv A outer s H E hr _ _ ⟨i, rfl, rfl⟩
    show Bs _ (defBody s_is_whole) [some (dD (.int i))] _
    exact bs_one (b1_ret (ev_and (p := true) (q := true) (ev_isi "int" "int" true B.isi (ev_var 0) (ev_bty B.int)) fun _ => ev_one (ev_not (p := false) (ev_isi "int" "bool" false B.isi (ev_var 0) (ev_bty B.bool)))))
theorem sc_is_thing : FnScope ["thing", "size"] ["thing", "size"] (defScope s_is_thing) := ⟨rfl, rfl, rfl, by decide +kernel, rfl, by decide +kernel, by decide +kernel⟩
def F_is_thing : List Ty → Ty → Prop := fun Ts T => ∃ i n : Int, Ts = [dD (.int i), dD (.int n)] ∧ T = dD (.bool (decide (0 ≤ i) && decide (i < n)))
theorem ok_is_thing {f fd} (Fu : FnD K "is_thing" s_is_thing f fd) (hm : mg "is_thing" = some (.ref f)) (h1 : Kn P w K mg base 1 "is_whole" F_is_whole) : Kn P w K mg base 2 "is_thing" F_is_thing := by
  refine kn_of Fu (fn_pure (o := .ret) Fu sc_is_thing ?_ (.inl fun _ => rfl) ?_) hm (fun _ _ _ _ _ _ us hl => match us, hl with | [_, _], _ => rfl)
  · rintro _ _ ⟨i, n, rfl, rfl⟩; rfl
  · rintro cdv A outer s H E hr _ _ ⟨i, n, rfl, rfl⟩
    show Bs _ (defBody s_is_thing) [some (dD (.int i)), some (dD (.int n))] _
    exact bs_one (b1_ret (ev_and (p := true) (ev_call h1 hr (eva_cons (ev_var 0) eva_nil) ⟨i, rfl, rfl⟩) fun _ => ev_one (ev_chain2 op_le op_lt ev_int (ev_var 0) (ev_var 1))))
end
end WD
set_option Elab.async false
set_option linter.all false
set_option maxRecDepth 100000
set_option maxHeartbeats 4000000
namespace WD
open PySem PySem.Spec PyProof.Rows L2
section
variable {P : Program} {w : World} {K : PySem.W.Frag} {mg : Str → Option Value} {base : Heap}
/-! ### cells, spot_of, things_at -/
theorem sc_cells : FnScope ["size", "places", "found", "k"] ["size", "places"] (defScope s_cells) := ⟨rfl, rfl, rfl, by decide +kernel, rfl, by decide +kernel, by decide +kernel⟩
def F_cells : List Ty → Ty → Prop := fun Ts T => ∃ n p : Nat, Ts = [nt n, nt p] ∧ n < 1000000000 ∧ p ≤ 1000 ∧ T = nt (n ^ p)
theorem ok_cells {f fd} (Fu : FnD K "cells" s_cells f fd) (hm : mg "cells" = some (.ref f)) (B : Bi mg) : Kn P w K mg base 1 "cells" F_cells := by
  refine kn_of Fu (fn_pure (o := .ret) Fu sc_cells ?_ (.inl fun _ => rfl) ?_) hm (fun _ _ _ _ _ _ us hl => match us, hl with | [_, _], _ => rfl)
  · rintro _ _ ⟨n, p, rfl, _, _, rfl⟩; rfl
  · rintro cdv A outer s H E hr _ _ ⟨n, p, rfl, hn, hp, rfl⟩
    show Bs _ (defBody s_cells) [some (nt n), some (nt p), none, none] _
    refine bs_cons (b1_set 2 ev_int sc_cells.nd) (bs_cons (b1_for (n := p) (js := [3]) (fun i => [some (nt n), some (nt p), some (nt (n ^ i)), none]) _ (src_range B.range (ev_var 1) (by omega)) (pg_name (i := 3) sc_cells.nd rfl (Or.inl rfl)) (fun i _ => tgo_name) (fun i hi => .inl ?_)) (bs_one (b1_ret (ev_var 2))))
    refine bs_forget (bs_one (b1_set 2 ((ev_mul (i := ((n ^ i : Nat) : Int)) (j := (n : Int)) (ev_var 2) (ev_var 0) (.inr (by omega))).to (d' := .int ((n ^ (i + 1) : Nat) : Int)) (by rw [Nat.pow_succ, Int.natCast_mul])) sc_cells.nd)) ?_
    exact le_keep (le_keep (le_keep (le_drop le_nil)))
theorem sc_spot_of : FnScope ["things", "size", "found", "one"] ["things", "size"] (defScope s_spot_of) := ⟨rfl, rfl, rfl, by decide +kernel, rfl, by decide +kernel, by decide +kernel⟩
def F_spot_of : List Ty → Ty → Prop := fun Ts T => ∃ (ts : List Nat) (n : Nat), (Ts = [dD (dRow ts), nt n] ∨ Ts = [dD (dCol ts), nt n]) ∧ n < 1000000000 ∧ T = nt (spot n ts)
theorem spot_take (n : Nat) (ts : List Nat) (i : Nat) (h : i < ts.length) : spot n (ts.take (i + 1)) = spot n (ts.take i) * n + ts.getD i 0 := by
  rw [List.take_succ, List.getElem?_eq_getElem h, List.getD_eq_getElem?_getD, List.getElem?_eq_getElem h]
  exact spot_snoc _ _ _
theorem ok_spot_of {f fd} (Fu : FnD K "spot_of" s_spot_of f fd) (hm : mg "spot_of" = some (.ref f)) (B : Bi mg) : Kn P w K mg base 1 "spot_of" F_spot_of := by
  refine kn_of Fu (fn_pure (o := .ret) Fu sc_spot_of ?_ (.inl fun _ => rfl) ?_) hm (fun _ _ _ _ _ _ us hl => match us, hl with | [_, _], _ => rfl)
  · rintro _ _ ⟨ts, n, rfl | rfl, _, rfl⟩ <;> rfl
  · rintro cdv A outer s H E hr Ts _ ⟨ts, n, h, hn, rfl⟩
    obtain ⟨t, rfl, hs⟩ : ∃ t : PyData, Ts = [dD t, nt n] ∧ ∀ X : Cx, ∀ ρ, ∀ e, EvD X e ρ t → ∀ tg, Src X tg e ρ ts.length fun i => nt (ts.getD i 0) := by
      rcases h with rfl | rfl
      · exact ⟨dRow ts, rfl, fun X ρ e h tg => src_row h⟩
      · exact ⟨dCol ts, rfl, fun X ρ e h tg => src_col h⟩
    show Bs _ (defBody s_spot_of) [some (dD t), some (nt n), none, none] _
    refine bs_cons (b1_set 2 ev_int sc_spot_of.nd) (bs_cons (b1_for (n := ts.length) (js := [3]) (fun i => [some (dD t), some (nt n), some (nt (spot n (ts.take i))), none]) _ (hs _ _ _ (ev_var 0) _) (pg_name (i := 3) sc_spot_of.nd rfl (Or.inl rfl)) (fun i _ => tgo_name) (fun i hi => .inl ?_)) (bs_one (b1_ret ((ev_var 2).to (by rw [List.take_length])))))
    refine bs_forget (bs_one (b1_set 2 ((ev_add (ev_mul (i := ((spot n (ts.take i) : Nat) : Int)) (j := (n : Int)) (ev_var 2) (ev_var 1) (.inr (by omega))) (j := ((ts.getD i 0 : Nat) : Int)) (ev_var 3)).to (d' := .int ((spot n (ts.take (i + 1)) : Nat) : Int)) (by rw [spot_take n ts i hi, Int.natCast_add, Int.natCast_mul])) sc_spot_of.nd)) ?_
    exact le_keep (le_keep (le_keep (le_drop le_nil)))
theorem sc_things_at : FnScope ["spot", "places", "size", "found", "k"] ["spot", "places", "size"] (defScope s_things_at) := ⟨rfl, rfl, rfl, by decide +kernel, rfl, by decide +kernel, by decide +kernel⟩
def F_things_at : List Ty → Ty → Prop := fun Ts T => ∃ s p n : Nat, Ts = [nt s, nt p, nt n] ∧ 0 < n ∧ n < 1000000000 ∧ p ≤ 1000 ∧ T = dD (dRow (thingsAt n p s))
theorem ok_things_at {f fd} (Fu : FnD K "things_at" s_things_at f fd) (hm : mg "things_at" = some (.ref f)) (B : Bi mg) : Kn P w K mg base 1 "things_at" F_things_at := by
  refine kn_of Fu (fn_pure (o := .ret) Fu sc_things_at ?_ (.inl fun _ => rfl) ?_) hm (fun _ _ _ _ _ _ us hl => match us, hl with | [_, _, _], _ => rfl)
  · rintro _ _ ⟨n, p, _, rfl, _, _, _, rfl⟩; rfl
  · rintro cdv A outer st H E hr _ _ ⟨s, p, n, rfl, hn0, hn, hp, rfl⟩
    show Bs _ (defBody s_things_at) [some (nt s), some (nt p), some (nt n), none, none] _
    refine bs_cons (b1_set 3 (ev_tup evl_nil) sc_things_at.nd) (bs_cons (b1_for (n := p) (js := [4]) (fun i => [some (nt (s / n ^ i)), some (nt p), some (nt n), some (dD (dRow (thingsAt n i s))), none]) _ (src_range B.range (ev_var 1) (by omega)) (pg_name (i := 4) sc_things_at.nd rfl (Or.inl rfl)) (fun i _ => tgo_name) (fun i hi => .inl ?_) (by simp [dRow, thingsAt])) (bs_one (b1_ret (ev_var 3))))
    refine bs_forget (bs_cons (b1_set 3 ((ev_cat (ev_tup (evl_cons (ev_mod (i := ((s / n ^ i : Nat) : Int)) (j := (n : Int)) (ev_var 0) (ev_var 2) (by omega)) evl_nil)) (ev_var 3) (by simp [thingsAt_len]; omega)).to (d' := dRow (thingsAt n (i + 1) s)) ?_) sc_things_at.nd)
      (bs_one (b1_set 0 ((ev_fdiv (i := ((s / n ^ i : Nat) : Int)) (j := (n : Int)) (ev_var 0) (ev_var 2) ⟨by omega, by omega⟩).to (d' := .int ((s / n ^ (i + 1) : Nat) : Int)) (by rw [Nat.pow_succ, ← Nat.div_div_eq_div_mul]; norm_cast)) sc_things_at.nd))) ?_
    · rw [thingsAt_front]; simp [dRow]
    · exact le_keep (le_keep (le_keep (le_keep (le_drop le_nil))))
end
end WD
set_option Elab.async false
set_option linter.all false
set_option maxRecDepth 100000
set_option maxHeartbeats 4000000
namespace WD
open PySem PySem.Spec PyProof.Rows L2
/-- the module's constants -/
structure Co (mg : Str → Option Value) : Prop where
  things : ∃ t, mg "MOST_THINGS" = some (.int 9 t)
  deeds : ∃ t, mg "MOST_DEEDS" = some (.int 6 t)
  places : ∃ t, mg "MOST_PLACES" = some (.int 3 t)
  wideR : ∃ t, mg "MOST_WIDE_relations" = some (.int 12 t)
  tables : ∃ t, mg "MOST_TABLES" = some (.int 20000 t)
  wideD : ∃ t, mg "MOST_WIDE_deeds" = some (.int 81 t)
  small : ∃ t, mg "SMALL" = some (.str "abcdefghijklmnopqrstuvwxyz" t)
section
variable {P : Program} {w : World} {K : PySem.W.Frag} {mg : Str → Option Value} {base : Heap}
theorem dec_lt {x n : Nat} (h : x < n) : (decide ((0 : Int) ≤ (x : Int)) && decide ((x : Int) < (n : Int))) = true := by simp; omega
theorem sc_is_name : FnScope ["word", "sign"] ["word"] (defScope s_is_name) := ⟨rfl, rfl, rfl, by decide +kernel, rfl, by decide +kernel, by decide +kernel⟩
def NameOk (z : Str) : Prop := 2 ≤ z.length ∧ z.length ≤ 8 ∧ ∀ i, i < z.cps.toList.length → z.cps.toList.getD i 0 ∈ (("abcdefghijklmnopqrstuvwxyz" : Str)).cps.toList
def F_is_name : List Ty → Ty → Prop := fun Ts T => ∃ z : Str, Ts = [dD (.str z)] ∧ NameOk z ∧ T = dD (.bool true)
theorem ok_is_name {f fd} (Fu : FnD K "is_name" s_is_name f fd) (hm : mg "is_name" = some (.ref f)) (B : Bi mg) (C : Co mg) : Kn P w K mg base 1 "is_name" F_is_name := by
  refine kn_of Fu (fn_pure (o := .ret) Fu sc_is_name ?_ (.inl fun _ => rfl) ?_) hm (fun _ _ _ _ _ _ us hl => match us, hl with | [_], _ => rfl)
  · rintro _ _ ⟨z, rfl, _, rfl⟩; rfl
  · rintro cdv A outer s H E hr _ _ ⟨z, rfl, ⟨h1, h2, h3⟩, rfl⟩
    have hl : z.cps.toList.length = z.length := by simp [Str.length]
    show Bs _ (defBody s_is_name) [some (dD (.str z)), none] _
    refine bs_one (b1_ret (ev_and (p := true) (q := true) (ev_isi "str" "str" true B.isi (ev_var 0) (ev_bty B.str)) fun _ =>
      ev_and (p := true) (q := true) ((ev_chain2 op_le op_le ev_int (ev_len (d := .str z) (n := z.length) B.len (ev_var 0) (if_pos (small_line (by omega)))) ev_int).to (by simp; omega)) fun _ => ev_one ?_))
    refine (ev_allLc B.all (ev_lc (own := [("sign", 1)]) (g := gName 1) (js := [1]) sc_is_name.nd (src_str (ev_var 0)) (blkOk_by (own := [("sign", 1)]) (N := ["word", "sign"]) (sc := defScope s_is_name) (by decide +kernel)) (fun _ _ _ _ _ => pg_name (i := 1) sc_is_name.nd rfl (Or.inl rfl)) (by simp) (by omega) (fun i _ => tgo_name) (fun i hi s0 H0 C' cl fp => ev_inSign (ev_var 1) (ev_gstr C.small)))).to ?_
    rw [all_true fun i hi => decide_eq_true (h3 i hi)]
theorem sc_is_row : FnScope ["row", "wide", "size", "one"] ["row", "wide", "size"] (defScope s_is_row) := ⟨rfl, rfl, rfl, by decide +kernel, rfl, by decide +kernel, by decide +kernel⟩
def F_is_row : List Ty → Ty → Prop := fun Ts T => ∃ (r : List Nat) (n : Nat), Ts = [dD (dRow r), nt r.length, nt n] ∧ r.length ≤ 100000 ∧ (∀ x ∈ r, x < n) ∧ T = dD (.bool true)
theorem ok_is_row {f fd} (Fu : FnD K "is_row" s_is_row f fd) (hm : mg "is_row" = some (.ref f)) (B : Bi mg) (h1 : Kn P w K mg base 2 "is_thing" F_is_thing) : Kn P w K mg base 3 "is_row" F_is_row := by
  refine kn_of Fu (fn_pure (o := .ret) Fu sc_is_row ?_ (.inl fun _ => rfl) ?_) hm (fun _ _ _ _ _ _ us hl => match us, hl with | [_, _, _], _ => rfl)
  · rintro _ _ ⟨r, n, rfl, _, _, rfl⟩; rfl
  · rintro cdv A outer s H E hr _ _ ⟨r, n, rfl, hz, hx, rfl⟩
    show Bs _ (defBody s_is_row) [some (dD (dRow r)), some (nt r.length), some (nt n), none] _
    refine bs_one (b1_ret (ev_and (p := true) (q := true) (ev_isi "tuple" "tuple" true B.isi (ev_var 0) (ev_bty B.tuple)) fun _ =>
      ev_and (p := true) (q := true) ((ev_eqI (i := (r.length : Int)) (ev_len (n := r.length) B.len (ev_var 0) (by simp [dRow, lenD])) (ev_var 1)).to (by simp)) fun _ => ev_one ?_))
    refine (ev_allLc B.all (ev_lc (own := [("one", 3)]) (g := gName 3) (js := [3]) sc_is_row.nd (src_row (ev_var 0)) (blkOk_by (own := [("one", 3)]) (N := ["row", "wide", "size", "one"]) (sc := defScope s_is_row) (by decide +kernel)) (fun _ _ _ _ _ => pg_name (i := 3) sc_is_row.nd rfl (Or.inl rfl)) (by simp) hz (fun i _ => tgo_name)
      (fun i hi s0 H0 C' cl fp => ev_call h1 hr (eva_cons (ev_var 3) (eva_cons (ev_var 2) eva_nil)) ⟨((r.getD i 0 : Nat) : Int), (n : Int), rfl, rfl⟩))).to ?_
    rw [all_true fun i hi => ?_]
    have : r.getD i 0 < n := by
      rw [List.getD_eq_getElem?_getD, List.getElem?_eq_getElem hi]
      exact hx _ (List.getElem_mem _)
    exact dec_lt this
theorem sc_is_deed : FnScope ["deed", "size", "name", "places", "table"] ["deed", "size"] (defScope s_is_deed) := ⟨rfl, rfl, rfl, by decide +kernel, rfl, by decide +kernel, by decide +kernel⟩
def dDeed (z : Str) (p : Nat) (T : List Nat) : PyData := .tuple [.str z, .int (p : Int), dRow T]
structure DeedOk (n p : Nat) (T : List Nat) : Prop where
  n0 : 0 < n
  n9 : n ≤ 9
  p3 : p ≤ 3
  len : T.length = n ^ p
  lt : ∀ x ∈ T, x < n
theorem DeedOk.small {n p : Nat} {T : List Nat} (h : DeedOk n p T) : n ^ p ≤ 729 := by
  have h1 : n ^ p ≤ n ^ 3 := Nat.pow_le_pow_right h.n0 h.p3
  have h2 : n ^ 3 ≤ 9 ^ 3 := Nat.pow_le_pow_left h.n9 3
  omega
def F_is_deed : List Ty → Ty → Prop := fun Ts T => ∃ (z : Str) (p : Nat) (t : List Nat) (n : Nat), Ts = [dD (dDeed z p t), nt n] ∧ NameOk z ∧ DeedOk n p t ∧ T = dD (.bool true)
theorem ok_is_deed {f fd} (Fu : FnD K "is_deed" s_is_deed f fd) (hm : mg "is_deed" = some (.ref f)) (B : Bi mg) (C : Co mg) (h1 : Kn P w K mg base 1 "is_name" F_is_name) (h2 : Kn P w K mg base 1 "is_whole" F_is_whole) (h3 : Kn P w K mg base 1 "cells" F_cells) (h4 : Kn P w K mg base 3 "is_row" F_is_row) : Kn P w K mg base 4 "is_deed" F_is_deed := by
  refine kn_of Fu (fn_pure (o := .ret) Fu sc_is_deed ?_ (.inl fun _ => rfl) ?_) hm (fun _ _ _ _ _ _ us hl => match us, hl with | [_, _], _ => rfl)
  · rintro _ _ ⟨z, p, t, n, rfl, _, _, rfl⟩; rfl
  · rintro cdv A outer s H E hr _ _ ⟨z, p, t, n, rfl, hz, hd, rfl⟩
    have hr1 : Room 1 _ := hr.mono (by decide)
    show Bs _ (defBody s_is_deed) [some (dD (dDeed z p t)), some (nt n), none, none, none] _
    refine bs_cons (b1_ifF (et_w (ew_or (p := false) (q := false) (et_not (p := true) (et_val (ev_isi "tuple" "tuple" true B.isi (ev_var 0) (ev_bty B.tuple)))) fun _ => ew_or (p := false) (q := false) (et_neI (i := 3) (j := 3) (ev_len (n := 3) B.len (ev_var 0) rfl) ev_int) fun _ =>
      ew_or1 (et_not (p := true) (et_val (ev_call h1 hr1 (eva_cons (ev_ixT (i := 0) (ds := [.str z, .int (p : Int), dRow t]) (ev_var 0) ev_int rfl) eva_nil) ⟨z, rfl, hz, rfl⟩)))))) ?_
    refine bs_cons (b1_asg (ev_var 0) (pg_tup rfl (pgs_cons (pg_name (i := 2) sc_is_deed.nd rfl (Or.inl rfl)) (pgs_cons (pg_name (i := 3) sc_is_deed.nd rfl (Or.inl rfl)) (pgs_cons (pg_name (i := 4) sc_is_deed.nd rfl (Or.inl rfl)) pgs_nil)))) (tgo_tupD (ds := [.str z, .int (p : Int), dRow t]) (tgs_cons (tgs_cons (tgs_cons tgs_nil))))) ?_
    refine bs_cons (b1_ifF (et_w (ew_or (p := false) (q := false) (et_not (p := true) (et_val (ev_call h2 hr1 (eva_cons (ev_var 3) eva_nil) ⟨_, rfl, rfl⟩))) fun _ => ew_or1 (et_not (p := true) ((et_chain2 op_le op_le ev_int (ev_var 3) (ev_gint C.places)).to (by have := hd.p3; simp; omega)))))) ?_
    exact bs_one (b1_ret (ev_call h4 hr (eva_cons (ev_var 4) (eva_cons (ev_call h3 hr1 (eva_cons (ev_var 1) (eva_cons (ev_var 3) eva_nil)) ⟨n, p, rfl, by have := hd.n9; omega, by have := hd.p3; omega, rfl⟩) (eva_cons (ev_var 1) eva_nil))) ⟨t, n, by rw [hd.len], by have := hd.small; have := hd.len; omega, hd.lt, rfl⟩))
end
end WD
set_option Elab.async false
set_option linter.all false
set_option maxRecDepth 100000
set_option maxHeartbeats 4000000
namespace WD
open PySem PySem.Spec PyProof.Rows L2
theorem row_at {H : Hp} {v : V} {r : List Nat} (h : Rp H v (dRow r)) : ∃ a, v = .ref a ∧ H a = some (.tup ((r.map fun (n : Nat) => (n : Int)).map V.int)) := by
  obtain ⟨a, xs, rfl, h1, hz, hl, hi⟩ := Rp.tup_inv h
  have e := rp_ints (bs := r.map fun (n : Nat) => (n : Int)) (by simpa using hl) fun i v d e1 e2 => hi i v d e1 (by simpa [List.map_map] using e2)
  subst e
  exact ⟨a, rfl, h1⟩
theorem lexLt_ltR : ∀ (r s : List Nat), HT.lexLt (r.map fun (n : Nat) => (n : Int)) (s.map fun (n : Nat) => (n : Int)) = ltR r s
  | [], [] => rfl
  | [], _ :: _ => rfl
  | _ :: _, [] => rfl
  | x :: xs, y :: ys => by
    show (if (x : Int) = (y : Int) then _ else _) = (if x = y then _ else _)
    by_cases h : x = y
    · subst h; rw [if_pos rfl, if_pos rfl]; exact lexLt_ltR xs ys
    · rw [if_neg (by omega), if_neg h]; simp
section
variable {X : Cx} {a b : Expr} {ρ : Rho} {pos : Pos}
theorem et_ltRow {r s : List Nat} (hu : X.A.units < cLine) (ha : EvD X a ρ (dRow r)) (hb : EvD X b ρ (dRow s)) : EvT X (.Compare a [.Lt] [b] pos) ρ (ltR r s) := et_cmp (op_ltT hu) (nomark _) ha hb fun x y H Q r1 r2 k => by
  obtain ⟨p, rfl, h1⟩ := row_at r1
  obtain ⟨q, rfl, h2⟩ := row_at r2
  exact ⟨p, q, _, _, rfl, rfl, SqT.of h1, SqT.of h2, by rw [lexLt_ltR]; exact k _ (Same.refl H)⟩
end
def dRel (rel : Rel) : PyData := .tuple [.int (rel.1 : Int), dRows rel.2]
section
variable {P : Program} {w : World} {K : PySem.W.Frag} {mg : Str → Option Value} {base : Heap}
theorem sc_check_relation : FnScope ["size", "relation", "wide", "lot", "at", "row"] ["size", "relation"] (defScope s_check_relation) := ⟨rfl, rfl, rfl, by decide +kernel, rfl, by decide +kernel, by decide +kernel⟩
def F_check_relation : List Ty → Ty → Prop := fun Ts T => ∃ (n : Nat) (rel : Rel), Ts = [nt n, dD (dRel rel)] ∧ RelOk n rel ∧ T = dD .none
theorem getD_mem {α : Type} (l : List α) (i : Nat) (d : α) (h : i < l.length) : l.getD i d ∈ l := by rw [List.getD_eq_getElem?_getD, List.getElem?_eq_getElem h]; exact List.getElem_mem _
theorem ok_check_relation {f fd} (Fu : FnD K "check_relation" s_check_relation f fd) (hm : mg "check_relation" = some (.ref f)) (B : Bi mg) (C : Co mg) (h1 : Kn P w K mg base 1 "is_whole" F_is_whole) (h2 : Kn P w K mg base 3 "is_row" F_is_row) : Kn P w K mg base 4 "check_relation" F_check_relation := by
  refine kn_of Fu (fn_pureN Fu sc_check_relation ?_ ?_) hm (fun _ _ _ _ _ _ us hl => match us, hl with | [_, _], _ => rfl)
  · rintro _ _ ⟨n, rel, rfl, _, rfl⟩; exact ⟨rfl, rfl⟩
  · rintro cdv A outer s H E hr _ _ ⟨n, ⟨wd, lot⟩, rfl, ok, rfl⟩
    have hr1 : Room 1 _ := hr.mono (by decide)
    have hw : wd ≤ 12 := ok.wide
    apply Exists.intro
    show Bs _ (defBody s_check_relation) [some (nt n), some (dD (dRel (wd, lot))), none, none, none, none] _
    refine bs_cons (b1_ifF (et_w (ew_or (p := false) (q := false) (et_not (p := true) (et_val (ev_isi "tuple" "tuple" true B.isi (ev_var 1) (ev_bty B.tuple)))) fun _ => ew_or1 (et_neI (i := 2) (j := 2) (ev_len (n := 2) B.len (ev_var 1) rfl) ev_int)))) ?_
    refine bs_cons (b1_asg (ev_var 1) (pg_tup (n := 2) rfl (pgs_cons (pg_name (i := 2) sc_check_relation.nd rfl (Or.inl rfl)) (pgs_cons (pg_name (i := 3) sc_check_relation.nd rfl (Or.inl rfl)) pgs_nil))) (tgo_tupD (n := 2) (ds := [.int (wd : Int), dRows lot]) (tgs_cons (tgs_cons tgs_nil)))) ?_
    refine bs_cons (b1_ifF (et_w (ew_or (p := false) (q := false) (et_not (p := true) (et_val (ev_call h1 hr1 (eva_cons (ev_var 2) eva_nil) ⟨_, rfl, rfl⟩))) fun _ => ew_or (p := false) (q := false) (et_not (p := true) ((et_chain2 op_le op_le ev_int (ev_var 2) (ev_gint C.wideR)).to (by simp; omega))) fun _ =>
      ew_or1 (et_not (p := true) (et_val (ev_isi "list" "list" true B.isi (ev_var 3) (ev_bty B.list))))))) ?_
    refine bs_one (b1_for (n := lot.length) (js := [4, 5]) (fun i => [some (nt n), some (dD (dRel (wd, lot))), some (nt wd), some (dD (dRows lot)), none, none]) _ (src_enumRows B.enumerate (ev_var 3)) (pg_tup (n := 2) rfl (pgs_cons (pg_name (i := 4) sc_check_relation.nd rfl (Or.inl rfl)) (pgs_cons (pg_name (i := 5) sc_check_relation.nd rfl (Or.inl rfl)) pgs_nil))) (fun i hi => tgo_tupD (n := 2) (tgs_cons (tgs_cons tgs_nil))) fun i hi => .inl ?_)
    · have hrow := ok.row _ (getD_mem lot i [] hi)
      refine bs_forget (bs_one (b1_skip (et_w (ew_or (p := false) (q := decide (0 < (i : Int)) && !ltR (lot.getD (i - 1) []) (lot.getD i [])) (et_not (p := true) (et_val (ev_call h2 hr (eva_cons (ev_var 5) (eva_cons (ev_var 2) (eva_cons (ev_var 0) eva_nil))) ⟨lot.getD i [], n, by rw [hrow.1], by have := hrow.1; omega, hrow.2, rfl⟩))) fun _ =>
        ew_or1 (et_w (ew_and (et_gt (i := (i : Int)) (j := 0) (ev_var 4) ev_int) fun hp => ew_and1 (et_not (et_ltRow hr.units0 (ev_ixRows (i := i - 1) (ev_var 3) ((ev_sub (i := (i : Int)) (j := 1) (ev_var 4) ev_int).to (by have := of_decide_eq_true hp; congr 1; omega)) (by omega)) (ev_var 5))))))) ?_)) ?_
      · cases i with
        | zero => simp
        | succ j => have := ok.up j hi; simp only [Nat.add_sub_cancel]; rw [this]; simp
      · exact le_keep (le_keep (le_keep (le_keep (le_drop (le_drop le_nil)))))
theorem sc_graph : FnScope ["size", "deed", "name", "places", "table", "spot", "one"] ["size", "deed"] (defScope s_graph) := ⟨rfl, rfl, rfl, by decide +kernel, rfl, by decide +kernel, by decide +kernel⟩
/-- the rows of a deed's graph -/
def graphRows (n p : Nat) (t : List Nat) : List (List Nat) := (List.range t.length).map fun s => thingsAt n p s ++ [t.getD s 0]
def F_graph : List Ty → Ty → Prop := fun Ts T => ∃ (z : Str) (p : Nat) (t : List Nat) (n : Nat), Ts = [nt n, dD (dDeed z p t)] ∧ DeedOk n p t ∧ T = dD (dRel (p + 1, graphRows n p t))
theorem ok_graph {f fd} (Fu : FnD K "graph" s_graph f fd) (hm : mg "graph" = some (.ref f)) (B : Bi mg) (h1 : Kn P w K mg base 1 "things_at" F_things_at) : Kn P w K mg base 2 "graph" F_graph := by
  refine kn_of Fu (fn_pure (o := .ret) Fu sc_graph ?_ (.inl fun _ => rfl) ?_) hm (fun _ _ _ _ _ _ us hl => match us, hl with | [_, _], _ => rfl)
  · rintro _ _ ⟨z, p, t, n, rfl, _, rfl⟩; rfl
  · rintro cdv A outer s H E hr _ _ ⟨z, p, t, n, rfl, hd, rfl⟩
    show Bs _ (defBody s_graph) [some (nt n), some (dD (dDeed z p t)), none, none, none, none, none] _
    refine bs_cons (b1_asg (ev_var 1) (pg_tup rfl (pgs_cons (pg_name (i := 2) sc_graph.nd rfl (Or.inl rfl)) (pgs_cons (pg_name (i := 3) sc_graph.nd rfl (Or.inr rfl)) (pgs_cons (pg_name (i := 4) sc_graph.nd rfl (Or.inl rfl)) pgs_nil)))) (tgo_tupD (ds := [.str z, .int (p : Int), dRow t]) (tgs_cons (tgs_cons (tgs_cons tgs_nil))))) ?_
    refine bs_one (b1_ret (EvE.to (ev_tup (evl_cons ((ev_add (j := 1) (ev_var 3) ev_int).to (d' := .int ((p + 1 : Nat) : Int)) (by simp)) (evl_cons (ev_lc (own := [("spot", 5), ("one", 6)]) (js := [5, 6]) sc_graph.nd (src_enumRow B.enumerate (ev_var 4)) (blkOk_by (own := [("spot", 5), ("one", 6)]) (N := ["size", "deed", "name", "places", "table", "spot", "one"]) (sc := defScope s_graph) (by decide +kernel))
      (fun _ _ _ _ _ => pg_tup (n := 2) rfl (pgs_cons (pg_name (i := 5) sc_graph.nd rfl (Or.inl rfl)) (pgs_cons (pg_name (i := 6) sc_graph.nd rfl (Or.inl rfl)) pgs_nil))) (by simp) (by have := hd.small; have := hd.len; omega) (fun i hi => tgo_tupD (n := 2) (tgs_cons (tgs_cons tgs_nil)))
      (f := fun i => dRow (thingsAt n p i ++ [t.getD i 0])) (fun i hi s0 H0 C' cl fp => (ev_cat (ds := (thingsAt n p i).map fun (n : Nat) => PyData.int (n : Int)) (ev_call h1 hr (eva_cons (ev_var 5) (eva_cons (ev_var 3) (eva_cons (ev_var 0) eva_nil))) ⟨i, p, n, rfl, hd.n0, by have := hd.n9; omega, by have := hd.p3; omega, rfl⟩) (ev_tup (evl_cons (ev_var 6) evl_nil)) (by have := hd.p3; simp [thingsAt_len]; omega)).to (by simp [dRow]))) evl_nil))) ?_))
    simp [dRel, dRows, graphRows, List.map_map, Function.comp_def]
end
end WD
set_option Elab.async false
set_option linter.all false
set_option maxRecDepth 100000
set_option maxHeartbeats 1000000
/-! things that change (lists and dicts in the making, the well) stand aside; expressions and blocks that change them -/
namespace WD
open PySem PySem.Spec PyProof.Rows L2
structure Cn where
  R : Hp → HO → Prop
  mono : ∀ H H' o, Same H H' → R H o → R H' o
  loose : ∀ H o, R H o → Loose o
abbrev Asd := List (Addr × Cn)
inductive Sep : Hp → Asd → Hp → Prop
  | nil {G : Hp} : Sep G [] G
  | cons {G H : Hp} {A : Asd} {p : Addr} {C : Cn} {o : HO} (h : Sep G A H) (hp : H p = none) (hc : C.R G o) : Sep G ((p, C) :: A) (upd H p o)
section
variable {G G' H H' : Hp} {A A' B : Asd} {p : Addr} {C : Cn} {o : HO}
theorem Sep.same (h : Sep G A H) : Same G H := by
  induction h with
  | nil => exact Same.refl _
  | cons _ hp _ ih => exact ih.trans (same_new hp)
theorem Sep.off (h : Sep G A H) : ∀ q ∈ A, H q.1 ≠ none ∧ G q.1 = none := by
  induction h with
  | nil => intro q hq; cases hq
  | cons h hp _ ih =>
    intro q hq
    rcases List.mem_cons.mp hq with rfl | hq
    · exact ⟨(by rw [upd_same]; exact fun z => by cases z), h.same.free hp⟩
    · refine ⟨?_, (ih q hq).2⟩
      have := (ih q hq).1
      rw [upd_ne (fun z => this (by rw [z]; exact hp))]
      exact this
theorem Sep.tups (h : Sep G A H) {b : Addr} {xs : List V} (e : H b = some (.tup xs)) : G b = some (.tup xs) := by
  induction h with
  | nil => exact e
  | cons h hp hc ih => exact ih (upd_back e (loose_ne_tup (Cn.loose _ _ _ hc)))
theorem Sep.inv (h : Sep G ((p, C) :: A) H) : ∃ H1 o, H = upd H1 p o ∧ Sep G A H1 ∧ H1 p = none ∧ C.R G o := by
  cases h with
  | cons h hp hc => exact ⟨_, _, rfl, h, hp, hc⟩
theorem Sep.inv0 (h : Sep G [] H) : H = G := by cases h; rfl
/-- more has come -/
theorem Sep.split (h : Sep G A H) : ∀ {H' : Hp}, Same H H' → ∃ G', Sep G' A H' ∧ Same G G' ∧ ∀ Gx : Hp, (∀ q ∈ A, Gx q.1 = none) → Same Gx H' → Same Gx G' := by
  induction h with
  | nil => exact fun {H'} s => ⟨H', .nil, s, fun Gx _ k => k⟩
  | @cons H A p C o h hp hc ih =>
    intro H' s
    obtain ⟨H1, b1, b2, b3⟩ := split_at (s p _ upd_same)
    subst b2
    have c1 : Same H H1 := b3 H hp ((same_new hp).trans s)
    obtain ⟨G', s1, s2, s3⟩ := ih c1
    refine ⟨G', .cons s1 b1 (C.mono _ _ _ s2 hc), s2, fun Gx k1 k2 => ?_⟩
    exact s3 Gx (fun q hq => k1 q (List.mem_cons_of_mem _ hq)) (b3 Gx (k1 _ List.mem_cons_self) k2)
theorem upd_comm {p q : Addr} {o u : HO} (h : p ≠ q) : upd (upd H p o) q u = upd (upd H q u) p o := by
  funext b
  by_cases e1 : b = q
  · subst e1
    rw [upd_same, upd_ne (Ne.symm h), upd_same]
  · by_cases e2 : b = p
    · subst e2
      rw [upd_ne e1, upd_same, upd_same]
    · rw [upd_ne e1, upd_ne e2, upd_ne e2, upd_ne e1]
theorem Sep.perm (e : A.Perm B) : ∀ {G H : Hp}, Sep G A H → Sep G B H := by
  induction e with
  | nil => exact fun h => h
  | cons x _ ih =>
    intro G H h
    obtain ⟨p, C⟩ := x
    obtain ⟨H1, o, rfl, h1, hp, hc⟩ := h.inv
    exact .cons (ih h1) hp hc
  | swap x y l =>
    intro G H h
    obtain ⟨p, C⟩ := x
    obtain ⟨q, E⟩ := y
    obtain ⟨H1, o, rfl, h1, hp, hc⟩ := h.inv
    obtain ⟨H2, u, rfl, h2, hq, he⟩ := h1.inv
    have ne : q ≠ p := fun z => by rw [z, upd_same] at hp; cases hp
    have h3 : H2 q = none := by
      have := hp
      rwa [upd_ne ne] at this
    rw [upd_comm (Ne.symm ne)]
    exact .cons (.cons h2 h3 hc) (by rw [upd_ne (Ne.symm ne)]; exact hq) he
  | trans _ _ i1 i2 => exact fun h => i2 (i1 h)
/-- a new thing that does not change -/
theorem Sep.lay (h : Sep G A H) : ∀ {p : Addr} {o : HO}, H p = none → Sep (upd G p o) A (upd H p o) := by
  induction h with
  | nil => exact fun _ => .nil
  | @cons H A q C u h hq hc ih =>
    intro p o hp
    have ne : p ≠ q := fun z => by rw [z, upd_same] at hp; cases hp
    have hp' : H p = none := by rwa [upd_ne ne] at hp
    rw [upd_comm (Ne.symm ne)]
    exact .cons (ih hp') (by rw [upd_ne (Ne.symm ne)]; exact hq) (C.mono _ _ _ (same_new (h.same.free hp')) hc)
/-- it changes no more -/
theorem Sep.freeze (h : Sep G ((p, C) :: A) H) : ∃ o, C.R G o ∧ G p = none ∧ Sep (upd G p o) A H := by
  obtain ⟨H1, o, rfl, h1, hp, hc⟩ := h.inv
  exact ⟨o, hc, h1.same.free hp, h1.lay hp⟩
/-- less known -/
def Wk : Asd → Asd → Prop
  | [], [] => True
  | (p, C) :: A, (q, E) :: B => p = q ∧ (∀ H o, C.R H o → E.R H o) ∧ Wk A B
  | _, _ => False
theorem wk_refl : ∀ {A : Asd}, Wk A A
  | [] => trivial
  | (_, _) :: _ => ⟨rfl, fun _ _ h => h, wk_refl⟩
theorem Sep.wk (h : Sep G A H) : ∀ {B : Asd}, Wk A B → Sep G B H := by
  induction h with
  | nil =>
    intro B w
    cases B with
    | nil => exact .nil
    | cons b B => exact w.elim
  | cons h hp hc ih =>
    intro B w
    cases B with
    | nil => exact w.elim
    | cons b B =>
      obtain ⟨q, E⟩ := b
      obtain ⟨rfl, w2, w3⟩ := w
      exact .cons (ih w3) hp (w2 _ _ hc)
end
/-! ### the judgements -/
def EF (X : Cx) (e : Expr) (ρ : Rho) (A A' : Asd) (T : Ty) : Prop := ∀ σ G H, Sl G σ ρ → Sep G A H → EW X e σ H fun v H' => ∃ G', Same G G' ∧ Sep G' A' H' ∧ T.R G' v
def TF (X : Cx) (e : Expr) (ρ : Rho) (A A' : Asd) (P : Bool → Prop) : Prop := ∀ σ G H, Sl G σ ρ → Sep G A H → TW X e σ H fun v H' => ∃ G', Same G G' ∧ Sep G' A' H' ∧ P v
def AF (X : Cx) (es : List Expr) (ρ : Rho) (A A' : Asd) (Ts : List Ty) : Prop := ∀ σ G H, Sl G σ ρ → Sep G A H → AW X es σ H fun vs H' => ∃ G', Same G G' ∧ Sep G' A' H' ∧ Paired (fun v (T : Ty) => T.R G' v) vs Ts
/-! ### frames -/
section
variable {X : Cx} {σ : St} {G : Hp} {p : Addr} {o : HO}
theorem ew_asideT {e : Expr} {Q : VK} (h : EW X e σ G fun v G' => (∀ b xs, G b = some (.tup xs) → G' b = some (.tup xs)) ∧ Q v G') (hp : G p = none) (hl : Loose o) : EW X e σ (upd G p o) fun v H' => ∃ G', G' p = none ∧ H' = upd G' p o ∧ Q v G' := fun pins s I => by
  obtain ⟨ob, hob, J⟩ := inv_hide I hp hl
  refine thn (h _ s J) fun u s1 ⟨v, G', J', r, sm, q⟩ => ?_
  obtain ⟨g2, J2⟩ := inv_show I hl hob J' sm
  exact ⟨v, _, J2, r, G', g2, rfl, q⟩
theorem tw_asideT {e : Expr} {Q : Bool → Hp → Prop} (h : TW X e σ G fun v G' => (∀ b xs, G b = some (.tup xs) → G' b = some (.tup xs)) ∧ Q v G') (hp : G p = none) (hl : Loose o) : TW X e σ (upd G p o) fun v H' => ∃ G', G' p = none ∧ H' = upd G' p o ∧ Q v G' := fun pins s I => by
  obtain ⟨ob, hob, J⟩ := inv_hide I hp hl
  refine thn (h _ s J) fun u s1 ⟨G', J', sm, q⟩ => ?_
  obtain ⟨g2, J2⟩ := inv_show I hl hob J' sm
  exact ⟨_, J2, G', g2, rfl, q⟩
theorem aw_asideT {e : List Expr} {Q : List V → Hp → Prop} (h : AW X e σ G fun v G' => (∀ b xs, G b = some (.tup xs) → G' b = some (.tup xs)) ∧ Q v G') (hp : G p = none) (hl : Loose o) : AW X e σ (upd G p o) fun v H' => ∃ G', G' p = none ∧ H' = upd G' p o ∧ Q v G' := fun pos pins s I => by
  obtain ⟨ob, hob, J⟩ := inv_hide I hp hl
  refine thn (h pos _ s J) fun u s1 ⟨v, G', J', r, sm, q⟩ => ?_
  obtain ⟨g2, J2⟩ := inv_show I hl hob J' sm
  exact ⟨v, _, J2, r, G', g2, rfl, q⟩
theorem iw_asideT {tg iter : Expr} {R : It → Hp → Prop} (h : IW X tg iter σ G fun J G' => (∀ b xs, G b = some (.tup xs) → G' b = some (.tup xs)) ∧ R J G') (hp : G p = none) (hl : Loose o) : IW X tg iter σ (upd G p o) fun J H' => ∃ G', G' p = none ∧ H' = upd G' p o ∧ R J G' := fun pins s I => by
  obtain ⟨ob, hob, J⟩ := inv_hide I hp hl
  refine thn (h _ s J) fun u s1 k => thn k fun itv s2 ⟨it, fp, tn, J2, G', e, I2, T, t0, hf, sm, q⟩ => ?_
  obtain ⟨g2, I3⟩ := inv_show I hl hob I2 sm
  refine ⟨it, fp, tn, J2, _, e, I3, T, t0, fun b hb => ?_, G', g2, rfl, q⟩
  obtain ⟨f0, f1, f2, f3, f4, f5⟩ := hf b hb
  have ne : b ≠ p := fun z => f5 (p, ob) (List.mem_append_right _ List.mem_cons_self) z.symm
  exact ⟨by rw [upd_ne ne]; exact f0, f1, f2, f3, f4, fun q hq => f5 q (by
    rcases List.mem_append.mp hq with h | h
    · exact List.mem_append_left _ h
    · exact List.mem_append_right _ (List.mem_cons_of_mem _ h))⟩
end
section
variable {X : Cx} {e a b c elt iter tg : Expr} {es ifs : List Expr} {ρ ρ' : Rho} {T U Ta Tb : Ty} {pos p' : Pos} {d d' : PyData} {ds : List PyData} {A A' A1 A2 B : Asd} {p : Addr} {C : Cn}
theorem keep_of {G G' H H' : Hp} (h : Sep G A H) (s : Same G G') (h' : Sep G' A' H') : ∀ b xs, H b = some (.tup xs) → H' b = some (.tup xs) := fun b xs e => h'.same _ _ (s _ _ (h.tups e))
theorem ef_frame (h : EF X e ρ A A' T) : EF X e ρ ((p, C) :: A) ((p, C) :: A') T := fun σ G H sl sp => by
  obtain ⟨H1, o, rfl, h1, hp, hc⟩ := sp.inv
  refine ew_mono (ew_asideT (Q := fun v H' => ∃ G', Same G G' ∧ Sep G' A' H' ∧ T.R G' v) (ew_mono (h σ G H1 sl h1) fun v H' ⟨G', s, s2, r⟩ => ⟨keep_of h1 s s2, G', s, s2, r⟩) hp (C.loose _ _ hc)) fun v H' ⟨H2, g1, g2, G', s, s2, r⟩ => ?_
  subst g2
  exact ⟨G', s, .cons s2 g1 (C.mono _ _ _ s hc), r⟩
theorem tf_frame {P : Bool → Prop} (h : TF X e ρ A A' P) : TF X e ρ ((p, C) :: A) ((p, C) :: A') P := fun σ G H sl sp => by
  obtain ⟨H1, o, rfl, h1, hp, hc⟩ := sp.inv
  refine tw_mono (tw_asideT (Q := fun v H' => ∃ G', Same G G' ∧ Sep G' A' H' ∧ P v) (tw_mono (h σ G H1 sl h1) fun v H' ⟨G', s, s2, r⟩ => ⟨keep_of h1 s s2, G', s, s2, r⟩) hp (C.loose _ _ hc)) fun v H' ⟨H2, g1, g2, G', s, s2, r⟩ => ?_
  subst g2
  exact ⟨G', s, .cons s2 g1 (C.mono _ _ _ s hc), r⟩
theorem af_frame {Ts : List Ty} (h : AF X es ρ A A' Ts) : AF X es ρ ((p, C) :: A) ((p, C) :: A') Ts := fun σ G H sl sp => by
  obtain ⟨H1, o, rfl, h1, hp, hc⟩ := sp.inv
  refine aw_mono (aw_asideT (Q := fun vs H' => ∃ G', Same G G' ∧ Sep G' A' H' ∧ Paired (fun v (T : Ty) => T.R G' v) vs Ts) (aw_mono (h σ G H1 sl h1) fun v H' ⟨G', s, s2, r⟩ => ⟨keep_of h1 s s2, G', s, s2, r⟩) hp (C.loose _ _ hc)) fun v H' ⟨H2, g1, g2, G', s, s2, r⟩ => ?_
  subst g2
  exact ⟨G', s, .cons s2 g1 (C.mono _ _ _ s hc), r⟩
theorem ef_pure (h : EvE X e ρ T) : ∀ {A : Asd}, EF X e ρ A A T
  | [] => fun σ G H sl sp => by
    cases sp.inv0
    exact ew_mono (h σ _ sl) fun v H' ⟨s, r⟩ => ⟨H', s, .nil, r⟩
  | (p, C) :: A => ef_frame (ef_pure h)
theorem tf_pure {b : Bool} (h : EvT X e ρ b) : ∀ {A : Asd}, TF X e ρ A A fun c => c = b
  | [] => fun σ G H sl sp => by
    cases sp.inv0
    exact tw_mono (h σ _ sl) fun v H' ⟨s, r⟩ => ⟨H', s, .nil, r⟩
  | (p, C) :: A => tf_frame (tf_pure h)
theorem ef_imp (h : EF X e ρ A A' T) (k : ∀ H v, T.R H v → U.R H v) : EF X e ρ A A' U := fun σ G H sl sp => ew_mono (h σ G H sl sp) fun v H' ⟨G', s, s2, r⟩ => ⟨G', s, s2, k _ _ r⟩
theorem ef_wk (h : EF X e ρ A A' T) (w : Wk A' B) : EF X e ρ A B T := fun σ G H sl sp => ew_mono (h σ G H sl sp) fun v H' ⟨G', s, s2, r⟩ => ⟨G', s, s2.wk w, r⟩
theorem af_nil : AF X [] ρ A A [] := fun σ G H sl sp => aw_of pa_nil ⟨G, Same.refl G, sp, .nil⟩
theorem af_cons {Ts : List Ty} (h : EF X e ρ A A1 T) (h2 : AF X es ρ A1 A2 Ts) (hs : starEach (e :: es) X.env = (false, eval e X.env) :: starEach es X.env := by rfl) : AF X (e :: es) ρ A A2 (T :: Ts) := fun σ G H sl sp =>
  aw_of (pa_cons pe_ew pa_aw hs) (ew_mono (h σ G H sl sp) fun v H1 ⟨G1, s1, p1, r1⟩ => aw_mono (h2 σ G1 H1 (sl.same s1) p1) fun vs H2 ⟨G2, s2, p2, r2⟩ => ⟨G2, s1.trans s2, p2, .cons (T.mono _ _ _ s2 r1) r2⟩)
/-! ### what is walked, with effects: n things -/
def SF (X : Cx) (tg iter : Expr) (ρ : Rho) (A A' : Asd) (N : Nat → Prop) (Y : Nat → Ty) : Prop := ∀ σ G H, Sl G σ ρ → Sep G A H → ∀ R : It → Hp → Prop, (∀ J n H1 G1, N n → Same G G1 → Sep G1 A' H1 → Yl J G1 n Y → R J H1) → IW X tg iter σ H R
theorem iw_mono {R R' : It → Hp → Prop} {σ : St} {H : Hp} (h : IW X tg iter σ H R) (k : ∀ J H', R J H' → R' J H') : IW X tg iter σ H R' := fun pins s I => thn (h pins s I) fun u s1 q => thn q fun itv s2 ⟨it, fp, tn, J, H', a, b, c, d, e, f⟩ => ⟨it, fp, tn, J, H', a, b, c, d, e, k _ _ f⟩
theorem sf_frame {N : Nat → Prop} {Y : Nat → Ty} (h : SF X tg iter ρ A A' N Y) : SF X tg iter ρ ((p, C) :: A) ((p, C) :: A') N Y := fun σ G H sl sp R k => by
  obtain ⟨H1, o, rfl, h1, hp, hc⟩ := sp.inv
  refine iw_mono (iw_asideT (R := fun J H2 => ∃ n G1, N n ∧ Same G G1 ∧ Sep G1 A' H2 ∧ Yl J G1 n Y) (h σ G H1 sl h1 _ fun J n H2 G1 hn s s2 yl => ⟨keep_of h1 s s2, n, G1, hn, s, s2, yl⟩) hp (C.loose _ _ hc)) fun J H' ⟨H2, g1, g2, n, G1, hn, s, s2, yl⟩ => ?_
  subst g2
  exact k J n _ G1 hn s (.cons s2 g1 (C.mono _ _ _ s hc)) yl
theorem sf_pure {n : Nat} {Y : Nat → Ty} (h : Src X tg iter ρ n Y) : ∀ {A : Asd}, SF X tg iter ρ A A (fun m => m = n) Y
  | [] => fun σ G H sl sp R k => by
    cases sp.inv0
    exact h σ _ sl R fun J H1 s yl => k J n H1 H1 rfl s .nil yl
  | (p, C) :: A => sf_frame (sf_pure h)
/-! ### statements -/
inductive OutF where
  | next (ρ : Rho) (A : Asd) | ret (T : Ty) (A : Asd) | cont (ρ : Rho) (A : Asd)
def GoF (D : Ends) (G : Hp) : OutF → Prop
  | .next ρ A => ∀ σ' G' H', Same G G' → Sep G' A H' → Sl G' σ' ρ → D.nx σ' H'
  | .ret T A => ∀ v G' H', Same G G' → Sep G' A H' → T.R G' v → D.rt v H'
  | .cont ρ A => ∀ σ' G' H', Same G G' → Sep G' A H' → Sl G' σ' ρ → D.ct σ' H'
def BF (X : Cx) (sts : List Stmt) (ρ : Rho) (A : Asd) (o : OutF) : Prop := ∀ σ G H D, Sl G σ ρ → Sep G A H → GoF D G o → SW X sts D σ H
def B1F (X : Cx) (st : Stmt) (ρ : Rho) (A : Asd) (o : OutF) : Prop := ∀ σ G H D, Sl G σ ρ → Sep G A H → GoF D G o → S1 X st D σ H
theorem GoF.same {D : Ends} {G G' : Hp} {o : OutF} (h : GoF D G o) (e : Same G G') : GoF D G' o := by
  cases o with
  | next ρ A => exact fun σ' G2 H2 s l => h σ' G2 H2 (e.trans s) l
  | ret T A => exact fun σ' G2 H2 s l => h σ' G2 H2 (e.trans s) l
  | cont ρ A => exact fun σ' G2 H2 s l => h σ' G2 H2 (e.trans s) l
variable {st : Stmt} {sts rest : List Stmt} {o : OutF} {N : Nat → Prop} {Y : Nat → Ty}
theorem bs_of {T : Ty} (h : BF X sts ρ [] (.ret T [])) : Bs X sts ρ (.ret T) := fun σ H D sl g => h σ H H D sl .nil fun v G' H' s sp r => by
  cases sp.inv0
  exact g v _ s r
theorem bs_of_next (h : BF X sts ρ [] (.next ρ' [])) : Bs X sts ρ (.next ρ') := fun σ H D sl g => h σ H H D sl .nil fun v G' H' s sp r => by
  cases sp.inv0
  exact g v _ s r
theorem bf_nil : BF X [] ρ A (.next ρ A) := fun σ G H D sl sp g => sw_nil (g σ G H (Same.refl G) sp sl)
theorem bf_cons (h1 : B1F X st ρ A (.next ρ' A')) (h2 : BF X rest ρ' A' o) : BF X (st :: rest) ρ A o := fun σ G H D sl sp g =>
  sw_cons (h1 σ G H _ sl sp fun σ' G' H' s sp' sl' => h2 σ' G' H' D sl' sp' (g.same s))
theorem bf_one (h1 : B1F X st ρ A o) : BF X [st] ρ A o := fun σ G H D sl sp g => sw_one (h1 σ G H D sl sp g)
def OutF.isNext : OutF → Bool
  | .next _ _ => true
  | _ => false
theorem bf_stop (h1 : B1F X st ρ A o) (h : o.isNext = false := by rfl) : BF X (st :: rest) ρ A o := fun σ G H D sl sp g =>
  sw_cons (h1 σ G H _ sl sp (by
    cases o with
    | next ρ A => cases h
    | ret T A => exact g
    | cont ρ A => exact g))
theorem bf_forget (h : BF X sts ρ A (.next ρ' A')) {ρ'' : Rho} (l : Le ρ' ρ'') : BF X sts ρ A (.next ρ'' A') := fun σ G H D sl sp g => h σ G H D sl sp fun σ' G' H' s sp' sl' => g σ' G' H' s sp' (sl'.weak l.1 l.2)
theorem bf_from {ρ'' : Rho} (h : BF X sts ρ'' A o) (l : Le ρ ρ'') : BF X sts ρ A o := fun σ G H D sl sp g => h σ G H D (sl.weak l.1 l.2) sp g
theorem bf_wk (h : BF X sts ρ B o) (w : Wk A B) : BF X sts ρ A o := fun σ G H D sl sp g => h σ G H D sl (sp.wk w) g
theorem bf_perm (h : BF X sts ρ B o) (w : A.Perm B) : BF X sts ρ A o := fun σ G H D sl sp g => h σ G H D sl (sp.perm w) g
theorem bf_perm' (h : BF X sts ρ A (.next ρ' A')) (w : A'.Perm B) : BF X sts ρ A (.next ρ' B) := fun σ G H D sl sp g => h σ G H D sl sp fun σ' G' H' s sp' sl' => g σ' G' H' s (sp'.perm w) sl'
theorem bf_wk' (h : BF X sts ρ A (.next ρ' A')) (w : Wk A' B) : BF X sts ρ A (.next ρ' B) := fun σ G H D sl sp g => h σ G H D sl sp fun σ' G' H' s sp' sl' => g σ' G' H' s (sp'.wk w) sl'
theorem b1f_ret (h : EF X e ρ A A' T) : B1F X (.Return (some e) pos) ρ A (.ret T A') := fun σ G H D sl sp g => s1_of (ps_ret pe_ew) (ew_mono (h σ G H sl sp) fun v H' ⟨G', s, sp', r⟩ => g v G' H' s sp' r)
end
end WD
set_option Elab.async false
set_option linter.all false
set_option maxRecDepth 100000
set_option maxHeartbeats 1000000
namespace WD
open PySem PySem.Spec PyProof.Rows L2
/-- a thing at an address, nothing said of what it holds -/
def refT (p : Addr) : Ty := ⟨fun _ v => v = .ref p, fun _ _ _ _ h => h⟩
def exT {α : Type} (P : α → Prop) (F : α → Ty) : Ty := ⟨fun H v => ∃ a, P a ∧ (F a).R H v, fun H H' v s ⟨a, h, r⟩ => ⟨a, h, (F a).mono _ _ _ s r⟩⟩
def exC {α : Type} (P : α → Prop) (F : α → Cn) : Cn := ⟨fun H o => ∃ a, P a ∧ (F a).R H o, fun H H' v s ⟨a, h, r⟩ => ⟨a, h, (F a).mono _ _ _ s r⟩, fun H o ⟨a, _, r⟩ => (F a).loose _ _ r⟩
/-- data of which P holds -/
def exD (P : PyData → Prop) : Ty := exT P dD
/-- a list in the making, of things of Ys -/
def lstC (Ys : List Ty) : Cn := ⟨fun H o => ∃ xs, o = .lst xs ∧ xs.length ≤ sizeLine ∧ Paired (fun v (T : Ty) => T.R H v) xs Ys, fun H H' o s ⟨xs, e, z, h⟩ => ⟨xs, e, z, pair_same s h⟩, fun H o ⟨xs, e, _⟩ => by rw [e]; trivial⟩
/-- a list that changes no more -/
def lsT (Ys : List Ty) : Ty := ⟨fun H v => ∃ a xs, v = .ref a ∧ H a = some (.lst xs) ∧ xs.length ≤ sizeLine ∧ Paired (fun v (T : Ty) => T.R H v) xs Ys, fun H H' v s ⟨a, xs, e, h, z, r⟩ => ⟨a, xs, e, s _ _ h, z, pair_same s r⟩⟩
theorem lsT_data {H : Hp} {v : V} {ds : List PyData} (h : (lsT (ds.map dD)).R H v) : Rp H v (.list ds) := by
  obtain ⟨a, xs, rfl, h1, z, r⟩ := h
  have go : ∀ {xs : List V} {ds : List PyData}, Paired (fun v (T : Ty) => T.R H v) xs (ds.map dD) → Paired (fun v d => Rp H v d) xs ds := by
    intro xs ds
    induction ds generalizing xs with
    | nil => intro h; cases h; exact .nil
    | cons d ds ih => intro h; cases h with | cons r t => exact .cons r (ih t)
  have r2 := go r
  exact .lst h1 z (Paired.length r2) fun i v d e1 e2 => pair_at r2 i v d e1 e2
theorem data_lsT {H : Hp} {v : V} {ds : List PyData} (h : Rp H v (.list ds)) : (lsT (ds.map dD)).R H v := by
  obtain ⟨a, xs, rfl, h1, hz, hl, hi⟩ := Rp.lst_inv h
  exact ⟨a, xs, rfl, h1, hz, pair_of hl hi⟩
theorem paired_snoc {α β : Type} {F : α → β → Prop} : ∀ {xs : List α} {ys : List β} {x : α} {y : β}, Paired F xs ys → F x y → Paired F (xs ++ [x]) (ys ++ [y])
  | _, _, _, _, .nil, h => .cons h .nil
  | _, _, _, _, .cons r t, h => .cons r (paired_snoc t h)
theorem paired_app {α β : Type} {F : α → β → Prop} : ∀ {xs xs' : List α} {ys ys' : List β}, Paired F xs ys → Paired F xs' ys' → Paired F (xs ++ xs') (ys ++ ys')
  | _, _, _, _, .nil, h => h
  | _, _, _, _, .cons r t, h => .cons r (paired_app t h)
/-- what does not look at lists -/
def Flat (T : Ty) : Prop := ∀ G A H v, Sep G A H → T.R H v → T.R G v
theorem flat_of {d : PyData} (h : ∀ G A H v, Sep G A H → Rp H v d → Rp G v d) : Flat (dD d) := h
theorem flat_int {i : Int} : Flat (dD (.int i)) := fun G A H v _ r => by
  have r : Rp H v (.int i) := r
  rw [r.int_inv]; exact .int i
theorem flat_bool {i : Bool} : Flat (dD (.bool i)) := fun G A H v _ r => by
  have r : Rp H v (.bool i) := r
  rw [r.bl_inv]; exact .bl i
theorem flat_str {i : Str} : Flat (dD (.str i)) := fun G A H v _ r => by
  have r : Rp H v (.str i) := r
  rw [r.str_inv]; exact .str i
theorem flat_none : Flat (dD .none) := fun G A H v _ r => by
  have r : Rp H v .none := r
  rw [r.non_inv]; exact .non
theorem flat_tuple {ds : List PyData} (h : ∀ d ∈ ds, Flat (dD d)) : Flat (dD (.tuple ds)) := fun G A H v sp r => by
  obtain ⟨a, xs, rfl, h1, hz, hl, hi⟩ := Rp.tup_inv r
  exact .tup (sp.tups h1) hz hl fun i v d e1 e2 => h d (List.mem_of_getElem? e2) G A H v sp (hi i v d e1 e2)
theorem flat_row {r : List Nat} : Flat (dD (dRow r)) := flat_tuple fun d hd => by
  obtain ⟨n, _, rfl⟩ := List.mem_map.mp hd
  exact flat_int
theorem flat_ex {α : Type} {P : α → Prop} {F : α → Ty} (h : ∀ a, P a → Flat (F a)) : Flat (exT P F) := fun G A H v sp ⟨a, p, r⟩ => ⟨a, p, h a p G A H v sp r⟩
section
variable {X : Cx} {e a b c elt iter tg : Expr} {es ifs : List Expr} {ρ ρ' : Rho} {T U Ta Tb : Ty} {pos p' apos cpos : Pos} {d d' : PyData} {ds : List PyData} {A A' A1 A2 B : Asd} {p : Addr} {C : Cn} {st : Stmt} {sts rest : List Stmt} {o : OutF} {N : Nat → Prop} {Y : Nat → Ty} {Ys Zs : List Ty}
theorem ef_perm {B' : Asd} (h : EF X e ρ B B' T) (w : A.Perm B) (w' : B'.Perm A') : EF X e ρ A A' T := fun σ G H sl sp => ew_mono (h σ G H sl (sp.perm w)) fun v H' ⟨G', s, s2, r⟩ => ⟨G', s, s2.perm w', r⟩
/-- looked at from the whole -/
def View (ρ : Rho) (A : Asd) (ρ' : Rho) : Prop := ∀ σ G H, Sl G σ ρ → Sep G A H → Sl H σ ρ'
theorem ef_view (h : EvE X e ρ' T) (w : View ρ A ρ') (hf : Flat T) : EF X e ρ A A T := fun σ G H sl sp => ew_mono (h σ H (w σ G H sl sp)) fun v H' ⟨s, r⟩ => by
  obtain ⟨G', s1, s2, _⟩ := sp.split s
  exact ⟨G', s2, s1, hf _ _ _ _ s1 r⟩
theorem tf_view {b : Bool} (h : EvT X e ρ' b) (w : View ρ A ρ') : TF X e ρ A A fun c => c = b := fun σ G H sl sp => tw_mono (h σ H (w σ G H sl sp)) fun v H' ⟨s, r⟩ => by
  obtain ⟨G', s1, s2, _⟩ := sp.split s
  exact ⟨G', s2, s1, r⟩
theorem set_same {σ : St} {i : Nat} {v : V} (h : σ[i]? = some (some v)) : σ.set i (some v) = σ := by
  apply List.ext_getElem?
  intro j
  by_cases e : i = j
  · subst e
    have hl : i < σ.length := (List.getElem?_eq_some_iff.mp h).1
    rw [List.getElem?_set_self hl, h]
  · rw [List.getElem?_set_ne e]
theorem Sl.put {H : Hp} {σ : St} (sl : Sl H σ ρ) {i : Nat} {v : V} (h : σ[i]? = some (some v)) (r : T.R H v) : Sl H σ (ρ.set i (some T)) := by
  have := sl.set (i := i) (T := T) (v := v) r
  rwa [set_same h] at this
theorem view_lst {i : Nat} (hi : ρ[i]? = some (some (refT p)) := by rfl) : View ρ ((p, lstC Ys) :: A) (ρ.set i (some (lsT Ys))) := fun σ G H sl sp => by
  obtain ⟨v, e, rfl⟩ := sl.at_ i _ hi
  obtain ⟨H1, o, rfl, h1, hp, xs, rfl, hz, hc⟩ := sp.inv
  exact (sl.same sp.same).put e ⟨p, xs, rfl, upd_same, hz, pair_same (h1.same.trans (same_new hp)) hc⟩
theorem view_data {i : Nat} (hi : ρ[i]? = some (some (refT p)) := by rfl) : View ρ ((p, lstC (ds.map dD)) :: A) (ρ.set i (some (dD (.list ds)))) := fun σ G H sl sp => by
  obtain ⟨v, e, rfl⟩ := sl.at_ i _ hi
  obtain ⟨H1, o, rfl, h1, hp, xs, rfl, hz, hc⟩ := sp.inv
  exact (sl.same sp.same).put e (lsT_data ⟨p, xs, rfl, upd_same, hz, pair_same (h1.same.trans (same_new hp)) hc⟩)
/-! ### lists that change -/
theorem ef_append (ho : EvE X a ρ (refT p)) (he : EF X e ρ A A' T) (hz : Ys.length < 100000) (hbase : attributeBase a "append" X.env (eval a X.env) = eval a X.env := by rfl)
    (hfew : ((backTo cpos (starEach (e :: []) X.env)).all (fun x => !x.1) && (backToKw cpos (keywordEach [] X.env)).all (fun x => x.1.isSome)
      && decide ((e :: []).length + ([] : List Keyword).length + (if ([] : List Keyword).isEmpty then 0 else 1) < 30)) = true := by rfl)
    (hline : (apos.endLine == cpos.line) = true := by rfl) (hs : starEach (e :: []) X.env = (false, eval e X.env) :: starEach [] X.env := by rfl) (hplain : (backTo cpos (starEach [] X.env)).any (·.1) = false := by rfl) :
    EF X (.Call (.Attribute a "append" apos) [e] [] cpos) ρ ((p, lstC Ys) :: A) ((p, lstC (Ys ++ [T])) :: A') (dD .none) := fun σ G H sl sp =>
  ew_of (pe_bm F.plainAttrs_list F.slot_list_append F.type_list_append mt_append pe_ew (pa_cons pe_ew pa_nil hs) hbase hfew hline hs hplain) (ew_mono (ef_pure ho σ G H sl sp) fun v H1 ⟨G1, s1, sp1, r1⟩ => by
    cases (show v = .ref p from r1)
    refine ⟨?_, ?_⟩
    · obtain ⟨H2, o, rfl, h1, hp, xs, rfl, hz, hc⟩ := sp1.inv
      exact .inl ⟨rfl, xs, SqL.of upd_same⟩
    · refine ew_mono (ef_frame he σ G1 H1 (sl.same s1) sp1) fun y H2 ⟨G2, s2, sp2, r2⟩ => ?_
      obtain ⟨H3, o, rfl, h1, hp, xs, rfl, hz', hc⟩ := sp2.inv
      have hl := Paired.length hc
      have hz2 : xs.length + 1 ≤ sizeLine := small_line (by omega)
      refine ⟨p, xs, y, rfl, rfl, upd_same, by omega, G2, s1.trans s2, ?_, .non⟩
      rw [upd_upd]
      exact .cons h1 hp ⟨_, rfl, by simpa using hz2, paired_snoc hc r2⟩)
theorem ef_extend (ho : EvE X a ρ (refT p)) (he : EF X e ρ A A' (lsT Zs)) (hz : Ys.length + Zs.length ≤ 100000) (hbase : attributeBase a "extend" X.env (eval a X.env) = eval a X.env := by rfl)
    (hfew : ((backTo cpos (starEach (e :: []) X.env)).all (fun x => !x.1) && (backToKw cpos (keywordEach [] X.env)).all (fun x => x.1.isSome)
      && decide ((e :: []).length + ([] : List Keyword).length + (if ([] : List Keyword).isEmpty then 0 else 1) < 30)) = true := by rfl)
    (hline : (apos.endLine == cpos.line) = true := by rfl) (hs : starEach (e :: []) X.env = (false, eval e X.env) :: starEach [] X.env := by rfl) (hplain : (backTo cpos (starEach [] X.env)).any (·.1) = false := by rfl) :
    EF X (.Call (.Attribute a "extend" apos) [e] [] cpos) ρ ((p, lstC Ys) :: A) ((p, lstC (Ys ++ Zs)) :: A') (dD .none) := fun σ G H sl sp =>
  ew_of (pe_bm F.plainAttrs_list F.slot_list_extend F.type_list_extend mt_extend pe_ew (pa_cons pe_ew pa_nil hs) hbase hfew hline hs hplain) (ew_mono (ef_pure ho σ G H sl sp) fun v H1 ⟨G1, s1, sp1, r1⟩ => by
    cases (show v = .ref p from r1)
    refine ⟨?_, ?_⟩
    · obtain ⟨H2, o, rfl, h1, hp, xs, rfl, hz, hc⟩ := sp1.inv
      exact .inl ⟨rfl, xs, SqL.of upd_same⟩
    · refine ew_mono (ef_frame he σ G1 H1 (sl.same s1) sp1) fun y H2 ⟨G2, s2, sp2, rr⟩ => ?_
      obtain ⟨b, zs, rfl, hb, hzb, r2⟩ := rr
      have hb' := sp2.same _ _ hb
      obtain ⟨H3, o, rfl, h1, hp, xs, rfl, hz', hc⟩ := sp2.inv
      have hl := Paired.length hc
      have hl2 := Paired.length r2
      have hz2 : xs.length + zs.length ≤ sizeLine := small_line (by omega)
      refine ⟨p, b, xs, zs, rfl, rfl, upd_same, hb', hz2, G2, s1.trans s2, ?_, .non⟩
      rw [upd_upd]
      exact .cons h1 hp ⟨_, rfl, by simpa using hz2, paired_app hc r2⟩)
theorem ef_pop (ho : EvE X a ρ (refT p)) (hbase : attributeBase a "pop" X.env (eval a X.env) = eval a X.env := by rfl) (hline : (apos.endLine == cpos.line) = true := by rfl) :
    EF X (.Call (.Attribute a "pop" apos) [] [] cpos) ρ ((p, lstC (Ys ++ [T])) :: A) ((p, lstC Ys) :: A) T := fun σ G H sl sp =>
  ew_of (pe_bm0 F.plainAttrs_list F.slot_list_pop F.type_list_pop mt_pop pe_ew hbase hline) (ew_mono (ef_pure ho σ G H sl sp) fun v H1 ⟨G1, s1, sp1, r1⟩ => by
    cases (show v = .ref p from r1)
    obtain ⟨H2, o, rfl, h1, hp, xs, rfl, hz, hc⟩ := sp1.inv
    have split : ∀ {Ys : List Ty} {xs : List V}, Paired (fun v (T : Ty) => T.R G1 v) xs (Ys ++ [T]) → ∃ xs' y, xs = xs' ++ [y] ∧ Paired (fun v (T : Ty) => T.R G1 v) xs' Ys ∧ T.R G1 y := by
      intro Ys
      induction Ys with
      | nil => intro xs h; cases h with | cons r t => cases t; exact ⟨[], _, rfl, .nil, r⟩
      | cons Y Ys ih => intro xs h; cases h with | cons r t => obtain ⟨xs', y, e, k, q⟩ := ih t; exact ⟨_ :: xs', y, by rw [e]; rfl, .cons r k, q⟩
    obtain ⟨xs', y, rfl, k, q⟩ := split hc
    refine ⟨.inl ⟨rfl, _, SqL.of upd_same⟩, p, _, y, rfl, rfl, upd_same, by simp, G1, s1, ?_, q⟩
    rw [upd_upd, List.dropLast_concat]
    exact .cons h1 hp ⟨_, rfl, by have : (xs' ++ [y]).length = xs'.length + 1 := by simp
                                  omega, k⟩)
/-! ### statements -/
theorem b1f_expr (h : EF X e ρ A A' T) (hs : swapsWith e none pos.line X.env = pure false := by rfl) : B1F X (.Expr e pos) ρ A (.next ρ A') := fun σ G H D sl sp g => s1_of (ps_expr pe_ew hs) (ew_mono (h σ G H sl sp) fun v H' ⟨G', s, sp', r⟩ => g σ G' H' s sp' (sl.same s))
theorem b1f_set (i : Nat) {x : Str} (h : EF X e ρ A A' T) (hN : X.N.Nodup) (hi : X.N[i]? = some x := by rfl) (hx : Loc X.env.scope x := by first | exact Or.inl rfl | exact Or.inr rfl) (hs : swapsWith e (some (.Name x p')) pos.line X.env = pure false := by rfl) (hf : X.fn x = true ∨ X.env.scope.names.lookup x = some .local := by first | exact .inl rfl | exact .inr rfl) :
    B1F X (.Assign [.Name x p'] e pos) ρ A (.next (ρ.set i (some T)) A') := fun σ G H D sl sp g => s1_of (ps_set hN hi hx pe_ew hs hf) (ew_mono (h σ G H sl sp) fun v H' ⟨G', s, sp', r⟩ => g _ G' H' s sp' ((sl.same s).set r))
theorem b1f_asg {g : TG} {js : List Nat} (h : EF X e ρ A A' T) (hg : PG X tg g) (ht : TgGo g ρ T ρ' js) (hs : swapsWithSole [tg] e pos.line X.env = pure false := by rfl) (hw : swappedStores [tg] e X.env = pure none := by rfl)
    (h1 : (assignEach [tg] X.env).map (·.2) = [assign tg X.env] := by rfl) : B1F X (.Assign [tg] e pos) ρ A (.next ρ' A') := fun σ G H D sl sp k =>
  s1_of (ps_asg pe_ew hg hs hw h1) (ew_mono (h σ G H sl sp) fun v H' ⟨G', s, sp', r⟩ => ht v σ G' H' _ sp'.same (sl.same s) r fun σ' sl' _ => k σ' G' H' s sp' sl')
theorem b1f_cont : B1F X (.Continue pos) ρ A (.cont ρ A) := fun σ G H D sl sp g => s1_of ps_continue (g σ G H (Same.refl G) sp sl)
theorem b1f_if {Aa Bb : List Stmt} {P : Bool → Prop} (h : TF X c ρ A A' P) (h1 : P true → BF X Aa ρ A' o) (h2 : P false → BF X Bb ρ A' o) : B1F X (.If c Aa Bb pos) ρ A o := fun σ G H D sl sp g =>
  s1_of (ps_if pt_tw pss_sw pss_sw) (tw_mono (h σ G H sl sp) fun q H' ⟨G', s, sp', r⟩ => ite_b q (fun e => h1 (e ▸ r) σ G' H' D (sl.same s) sp' (g.same s)) (fun e => h2 (e ▸ r) σ G' H' D (sl.same s) sp' (g.same s)))
theorem b1f_skip {Aa : List Stmt} {q : Bool} (h : EvT X c ρ q) (e : q = false) : B1F X (.If c Aa [] pos) ρ A (.next ρ A) := b1f_if (tf_pure h) (fun z => by rw [e] at z; cases z) fun _ => bf_nil
theorem b1f_skipF {Aa : List Stmt} (h : TF X c ρ A A' fun q => q = false) : B1F X (.If c Aa [] pos) ρ A (.next ρ A') := b1f_if h (fun z => by cases z) fun _ => bf_nil
theorem b1f_then {Aa Bb : List Stmt} {q : Bool} (h : EvT X c ρ q) (e : q = true) (h1 : BF X Aa ρ A o) : B1F X (.If c Aa Bb pos) ρ A o := b1f_if (tf_pure h) (fun _ => h1) fun z => by rw [e] at z; cases z
/-- x = [..], a list that will change -/
theorem bf_new (i : Nat) {x : Str} {pl : Pos} (h : AF X es ρ A A' Ys) (hl : Ys.length ≤ 100000) (k : ∀ p, BF X rest (ρ.set i (some (refT p))) ((p, lstC Ys) :: A') o) (hN : X.N.Nodup) (hi : X.N[i]? = some x := by rfl) (hx : Loc X.env.scope x := by first | exact Or.inl rfl | exact Or.inr rfl)
    (hs : swapsWith (.List es pl) (some (.Name x p')) pos.line X.env = pure false := by rfl) (hf : X.fn x = true ∨ X.env.scope.names.lookup x = some .local := by first | exact .inl rfl | exact .inr rfl) : BF X (.Assign [.Name x p'] (.List es pl) pos :: rest) ρ A o := fun σ G H D sl sp g =>
  sw_cons (s1_of (ps_set hN hi hx (pe_lst pa_aw) hs hf) (aw_mono (h σ G H sl sp) fun vs H1 ⟨G1, s1, sp1, r1⟩ => ⟨by rw [Paired.length r1]; exact small_line hl, fun p hp =>
    k p _ G1 _ D ((sl.same s1).set (T := refT p) rfl) (.cons sp1 hp ⟨vs, rfl, by rw [Paired.length r1]; exact small_line hl, r1⟩) (g.same s1)⟩))
/-- it changes no more -/
theorem bf_freeze (i : Nat) (h : BF X sts (ρ.set i (some (lsT Ys))) A o) (hi : ρ[i]? = some (some (refT p)) := by rfl) : BF X sts ρ ((p, lstC Ys) :: A) o := fun σ G H D sl sp g => by
  obtain ⟨o', ⟨xs, rfl, hz, hc⟩, hp, sp'⟩ := sp.freeze
  obtain ⟨v, e, rfl⟩ := sl.at_ i _ hi
  exact h σ _ H D ((sl.same (same_new hp)).put e ⟨p, xs, rfl, upd_same, hz, pair_same (same_new hp) hc⟩) sp' (g.same (same_new hp))
theorem bf_freezeD (i : Nat) (h : BF X sts (ρ.set i (some (dD (.list ds)))) A o) (hi : ρ[i]? = some (some (refT p)) := by rfl) : BF X sts ρ ((p, lstC (ds.map dD)) :: A) o := fun σ G H D sl sp g => by
  obtain ⟨o', ⟨xs, rfl, hz, hc⟩, hp, sp'⟩ := sp.freeze
  obtain ⟨v, e, rfl⟩ := sl.at_ i _ hi
  exact h σ _ H D ((sl.same (same_new hp)).put e (lsT_data ⟨p, xs, rfl, upd_same, hz, pair_same (same_new hp) hc⟩)) sp' (g.same (same_new hp))
/-- some one of many -/
theorem bf_ex {α : Type} {P : α → Prop} {F : α → Ty} (i : Nat) (h : ∀ a, P a → BF X sts (ρ.set i (some (F a))) A o) (hi : ρ[i]? = some (some (exT P F)) := by rfl) : BF X sts ρ A o := fun σ G H D sl sp g => by
  obtain ⟨v, e, a, pa, r⟩ := sl.at_ i _ hi
  exact h a pa σ G H D (sl.put e r) sp g
theorem bf_exC {α : Type} {P : α → Prop} {F : α → Cn} (h : ∀ a, P a → BF X sts ρ ((p, F a) :: A) o) : BF X sts ρ ((p, exC P F) :: A) o := fun σ G H D sl sp g => by
  obtain ⟨H1, o', rfl, h1, hp, a, pa, hc⟩ := sp.inv
  exact h a pa σ G _ D sl (.cons h1 hp hc) g
/-- a loop whose turns all go on -/
theorem b1f_for {body : List Stmt} {g : TG} {js : List Nat} {n0 : Nat} (ρs ρt : Nat → Rho) (As : Nat → Asd) (hs : SF X tg iter ρ A (As 0) N Y) (hg : PG X tg g) (hN : ∀ n, N n → n ≤ n0) (ht : ∀ i, i < n0 → TgGo g (ρs i) (Y i) (ρt i) js)
    (hb : ∀ i, i < n0 → BF X body (ρt i) (As i) (.next (ρs (i + 1)) (As (i + 1))) ∨ BF X body (ρt i) (As i) (.cont (ρs (i + 1)) (As (i + 1)))) (hfin : ∀ n, N n → Le (ρs n) ρ' ∧ Wk (As n) A') (h0 : ρs 0 = ρ := by rfl) (hc : X.calm = true := by rfl) (hp : PassesOwn (model X.prog X.w) X.A X.env X.xe := by exact PassesOwn.never)
    (hf : ∀ x, foldedSetIterable iter X.env x = pure x := by intro _; rfl) : B1F X (.For tg iter body [] pos) ρ A (.next ρ' A') := fun σ G H D sl sp k =>
  s1_of (ps_for hp hc pi_iw hg pss_sw hf) (hs σ G H sl sp _ fun J n H1 G1 hn s1 sp1 yl => by
    have hle := hN n hn
    refine ⟨fun i m σ' H' => i ≤ n ∧ m = n - i ∧ ∃ G', Same G1 G' ∧ Sep G' (As i) H' ∧ Sl G' σ' (ρs i), ⟨n, Nat.zero_le _, rfl, G1, Same.refl _, sp1, by rw [h0]; exact sl.same s1⟩, ?_⟩
    rintro i m σ' H' ⟨hi, rfl, G', sG, sp', sl'⟩
    by_cases hlt : i < n
    · obtain ⟨go, yi⟩ := yl.go i _ (sG.trans sp'.same) hlt
      refine .inr ⟨go, fun σ' H' => i + 1 ≤ n ∧ ∃ G', Same G1 G' ∧ Sep G' (As (i + 1)) H' ∧ Sl G' σ' (ρs (i + 1)), fun σ' H' ⟨h1, h2⟩ => ⟨n - (i + 1), by omega, h1, rfl, h2⟩, fun x H2 y => ?_⟩
      obtain ⟨sy, Gx, a1, a2, a3, rx⟩ := yi x H2 y
      obtain ⟨G2, sp2, s2, k2⟩ := sp'.split sy
      have sx : Same Gx G2 := k2 Gx (fun q hq => a3 q.1 (sp'.off q hq).1 (sG.free (sp'.off q hq).2)) a2
      refine ht i (by omega) x σ' G2 H2 _ sp2.same (sl'.same s2) ((Y i).mono _ _ _ sx rx) fun σ2 sl2 _ => ?_
      rcases hb i (by omega) with h | h
      · exact h σ2 G2 H2 _ sl2 sp2 fun σ3 G3 H3 s3 sp3 sl3 => ⟨hlt, G3, (sG.trans s2).trans s3, sp3, sl3⟩
      · exact h σ2 G2 H2 _ sl2 sp2 fun σ3 G3 H3 s3 sp3 sl3 => ⟨hlt, G3, (sG.trans s2).trans s3, sp3, sl3⟩
    · have e : i = n := by omega
      subst e
      obtain ⟨l, w⟩ := hfin i hn
      exact .inl ⟨yl.stop _ _ (sG.trans sp'.same) (Nat.le_refl _), k σ' G' H' (s1.trans sG) (sp'.wk w) (sl'.weak l.1 l.2)⟩)
/-- while -/
theorem bf_while {ι : Type} {body : List Stmt} (I : ι → Prop) (μ : ι → Nat) (cond : ι → Bool) (step : ι → ι) (As : ι → Asd) (t0 : ι) (h0 : I t0) (ht : ∀ t, I t → TF X c ρ (As t) (As t) fun b => b = cond t)
    (hs : ∀ t, I t → cond t = true → I (step t) ∧ μ (step t) < μ t ∧ (BF X body ρ (As t) (.next ρ (As (step t))) ∨ BF X body ρ (As t) (.cont ρ (As (step t))))) (hk : ∀ t, I t → cond t = false → BF X rest ρ (As t) o) (hp : PassesOwn (model X.prog X.w) X.A X.env X.xe := by exact PassesOwn.never) :
    BF X (.While c body [] pos :: rest) ρ (As t0) o := fun σ G H D sl sp g =>
  sw_cons (s1_of (ps_while hp pt_tw pss_sw) (by
    refine ⟨fun m σ' H' => ∃ t G', I t ∧ μ t = m ∧ Same G G' ∧ Sep G' (As t) H' ∧ Sl G' σ' ρ, ⟨μ t0, t0, G, h0, rfl, Same.refl _, sp, sl⟩, ?_⟩
    rintro m σ' H' ⟨t, G', ht', rfl, s, sp', sl'⟩
    refine tw_mono (ht t ht' σ' G' H' sl' sp') fun b H2 ⟨G2, s2, sp2, e⟩ => ?_
    subst e
    refine ite_b _ (fun e => ?_) (fun e => ?_)
    · obtain ⟨i1, i2, i3⟩ := hs t ht' e
      refine ⟨fun σ'' H'' => ∃ G'', Same G G'' ∧ Sep G'' (As (step t)) H'' ∧ Sl G'' σ'' ρ, fun σ'' H'' ⟨G'', q1, q2, q3⟩ => ⟨μ (step t), i2, step t, G'', i1, rfl, q1, q2, q3⟩, ?_⟩
      rcases i3 with h | h
      · exact h σ' G2 H2 _ (sl'.same s2) sp2 fun σ3 G3 H3 s3 sp3 sl3 => ⟨G3, (s.trans s2).trans s3, sp3, sl3⟩
      · exact h σ' G2 H2 _ (sl'.same s2) sp2 fun σ3 G3 H3 s3 sp3 sl3 => ⟨G3, (s.trans s2).trans s3, sp3, sl3⟩
    · exact hk t ht' e σ' G2 H2 D (sl'.same s2) sp2 (g.same (s.trans s2))))
/-! ### comprehensions with effects -/
def EFB (X : Cx) (scope : Scope) (e : Expr) (ρ : Rho) (A A' : Asd) (T : Ty) : Prop := ∀ s0 H0 C cl fp, EF (X.blk s0 H0 scope (compEnvC scope cl C X.env) fp) e ρ A A' T
theorem ef_lc {scope : Scope} {own : List (Str × Nat)} {g : TG} {n0 : Nat} {F : Nat → Ty} {ρt : Nat → Rho} {js : List Nat} (As : Nat → Asd) (hN : X.N.Nodup) (hs : SF X tg iter ρ A (As 0) N Y) (ok : BlkOk X.N X.env.scope scope own) (hg : PgB X scope tg g)
    (hj : ∀ j ∈ js, j ∈ own.map (·.2)) (hNn : ∀ n, N n → n ≤ n0) (hn : n0 ≤ 100000) (ht : ∀ i, i < n0 → TgGo g (wipeR ρ (own.map (·.2))) (Y i) (ρt i) js) (he : ∀ i, i < n0 → EFB X scope elt (ρt i) (As i) (As (i + 1)) (F i)) (hfin : ∀ n, N n → Wk (As n) A')
    (hc : X.calm = true := by rfl) (hf : ∀ x, foldedSetIterable iter X.env x = pure x := by intro _; rfl) : EF X (.ListComp elt [⟨tg, iter, [], 0⟩] scope pos) ρ A A' (exT N fun n => lsT ((List.range n).map F)) := fun σ G H sl sp =>
  ew_of (pe_lc hc hN pi_iw ok hg (fun _ _ _ _ _ => pts_nil) (te := LW X scope elt) (fun s0 H0 C cl fp => ⟨fun pins s σ H Q I h => h s0 H0 C cl fp pins s I⟩) hf) (by
    refine hs σ G H sl sp _ fun J n H1 G1 hnn s1 sp1 yl => fun D hD => ?_
    have hle := hNn n hnn
    refine ⟨fun i m Hc => i ≤ n ∧ m = n - i ∧ ∃ G', Same G1 G' ∧ Sep G' ((D, lstC ((List.range i).map F)) :: As i) Hc, ⟨n, Nat.zero_le _, rfl, G1, Same.refl _, .cons sp1 hD ⟨[], rfl, Nat.zero_le _, .nil⟩⟩, ?_⟩
    rintro i m Hc ⟨hi, rfl, G', sG, sp'⟩
    by_cases hlt : i < n
    · obtain ⟨go, yi⟩ := yl.go i _ (sG.trans sp'.same) hlt
      refine .inr ⟨go, fun H' => i + 1 ≤ n ∧ ∃ G', Same G1 G' ∧ Sep G' ((D, lstC ((List.range (i + 1)).map F)) :: As (i + 1)) H', fun H' ⟨h1, h2⟩ => ⟨n - (i + 1), by omega, h1, rfl, h2⟩, fun x H' y => ?_⟩
      obtain ⟨sy, Gx, a1, a2, a3, rx⟩ := yi x H' y
      obtain ⟨G2, sp2, s2, k2⟩ := sp'.split sy
      have sx : Same Gx G2 := k2 Gx (fun q hq => a3 q.1 (sp'.off q hq).1 (sG.free (sp'.off q hq).2)) a2
      have sl1 : Sl G2 (wipe σ (own.map (·.2))) (wipeR ρ (own.map (·.2))) := (sl.same ((s1.trans sG).trans s2)).wipe _
      refine ht i (by omega) x _ G2 _ _ sp2.same sl1 ((Y i).mono _ _ _ sx rx) fun σ2 sl3 w => ?_
      refine ⟨(w _ hj).trans wipe_wipe, ?_⟩
      show LW X scope elt σ2 _ _
      intro s0 H0 C cl fp
      refine ew_mono (ef_frame (he i (by omega) s0 H0 C cl fp) σ2 G2 H' sl3 sp2) fun v H2 ⟨G3, s3, sp3, r3⟩ => ?_
      obtain ⟨H3, o, rfl, h1, hp, xs, rfl, hz, hx⟩ := sp3.inv
      have hl : xs.length = i := by simpa using Paired.length hx
      have hz2 : xs.length + 1 ≤ sizeLine := small_line (by omega)
      refine ⟨xs, upd_same, by omega, hlt, G3, (sG.trans s2).trans s3, ?_⟩
      rw [upd_upd, List.range_succ, List.map_append]
      exact .cons h1 hp ⟨_, rfl, by simpa using hz2, paired_snoc hx r3⟩
    · have e : i = n := by omega
      subst e
      refine .inl ⟨yl.stop _ _ (sG.trans sp'.same) (Nat.le_refl _), ?_⟩
      obtain ⟨o, ⟨xs, rfl, hz, hx⟩, hp, sp2⟩ := sp'.freeze
      exact ⟨_, (s1.trans sG).trans (same_new hp), sp2.wk (hfin i hnn), i, hnn, D, xs, rfl, upd_same, hz, pair_same (same_new hp) hx⟩)
end
end WD
set_option Elab.async false
set_option linter.all false
set_option maxRecDepth 100000
set_option maxHeartbeats 1000000
namespace WD
open PySem PySem.Spec PyProof.Rows L2
/-! ### rows as data -/
theorem canLay_ints : ∀ (r : List Nat), PyData.canLayAll0 (r.map fun (n : Nat) => .int (n : Int)) = true
  | [] => by simp [PyData.canLayAll0]
  | n :: r => by rw [List.map_cons]; simp [PyData.canLayAll0, PyData.canLay0, canLay_ints r]
theorem depth_ints : ∀ (r : List Nat), PyData.depthAll (r.map fun (n : Nat) => .int (n : Int)) ≤ 1
  | [] => by simp [PyData.depthAll]
  | n :: r => by rw [List.map_cons]; have := depth_ints r; simp [PyData.depthAll, PyData.depth]; omega
theorem eqv_ints : ∀ (r s : List Nat), PyData.eqvAll (r.map fun (n : Nat) => .int (n : Int)) (s.map fun (n : Nat) => .int (n : Int)) = decide (r = s)
  | [], [] => rfl
  | [], _ :: _ => rfl
  | _ :: _, [] => rfl
  | x :: r, y :: s => by
    rw [List.map_cons, List.map_cons]
    show (PyData.eqv (.int x) (.int y) && _) = _
    rw [eqv_ints r s]
    show (((x : Int) == (y : Int)) && _) = _
    by_cases h : x = y
    · subst h; simp
    · have : ((x : Int) == (y : Int)) = false := by simp; omega
      rw [this]; simp [h]
theorem eqv_row (r s : List Nat) : PyData.eqv (dRow r) (dRow s) = decide (r = s) := eqv_ints r s
theorem shaped_row (r : List Nat) : SeqAt.shaped (dRow r) = true := by
  have h1 := canLay_ints r
  have h2 := depth_ints r
  refine Bool.and_eq_true_iff.mpr ⟨by unfold dRow; rw [PyData.canLay0]; exact h1, decide_eq_true ?_⟩
  unfold dRow
  rw [PyData.depth]
  omega
theorem canLay_rows : ∀ (rs : List (List Nat)), PyData.canLayAll0 (rs.map dRow) = true
  | [] => by simp [PyData.canLayAll0]
  | r :: rs => by rw [List.map_cons]; simp [PyData.canLayAll0, dRow, PyData.canLay0, canLay_ints r, canLay_rows rs]
theorem depth_rows : ∀ (rs : List (List Nat)), PyData.depthAll (rs.map dRow) ≤ 2
  | [] => by simp [PyData.depthAll]
  | r :: rs => by rw [List.map_cons]; have := depth_rows rs; have := depth_ints r; simp [PyData.depthAll, dRow, PyData.depth]; omega
theorem shaped_rows (rs : List (List Nat)) : SeqAt.shaped (dRows rs) = true := by
  have h1 := canLay_rows rs
  have h2 := depth_rows rs
  refine Bool.and_eq_true_iff.mpr ⟨by unfold dRows; rw [PyData.canLay0]; exact h1, decide_eq_true ?_⟩
  unfold dRows
  rw [PyData.depth]
  omega
theorem eqv_rows : ∀ (r s : List (List Nat)), PyData.eqvAll (r.map dRow) (s.map dRow) = decide (r = s)
  | [], [] => rfl
  | [], _ :: _ => rfl
  | _ :: _, [] => rfl
  | x :: r, y :: s => by
    rw [List.map_cons, List.map_cons]
    show (PyData.eqv (dRow x) (dRow y) && _) = _
    rw [eqv_rows r s, eqv_row]
    by_cases h : x = y
    · subst h; simp
    · simp [h]
theorem any_rows (rs : List (List Nat)) (r : List Nat) : ((rs.map dRow).any fun z => PyData.eqv z (dRow r)) = decide (r ∈ rs) := by
  induction rs with
  | nil => rfl
  | cons x rs ih =>
    rw [List.map_cons, List.any_cons, ih, eqv_row]
    by_cases h : x = r
    · subst h; simp
    · have : ¬ r = x := fun z => h z.symm
      simp [h, this]
section
variable {X : Cx} {e a b c elt iter tg : Expr} {es : List Expr} {ρ ρ' : Rho} {T U Ta Tb : Ty} {pos p' apos cpos : Pos} {d d' : PyData} {ds : List PyData} {r s : List Nat} {rs ss : List (List Nat)}
theorem ev_inR (hu : X.A.units + 65 < cLine) (ha : EvD X a ρ (dRow r)) (hb : EvD X b ρ (dRows rs)) (hm : behindInMarks .In b = false := by rfl) : EvD X (.Compare a [.In] [b] pos) ρ (.bool (decide (r ∈ rs))) := (ev_in (pos := pos) hu ha hb (shaped_row r) (shaped_rows rs) hm).to (by rw [any_rows])
theorem et_inR (hu : X.A.units + 65 < cLine) (ha : EvD X a ρ (dRow r)) (hb : EvD X b ρ (dRows rs)) (hm : behindInMarks .In b = false := by rfl) : EvT X (.Compare a [.In] [b] pos) ρ (decide (r ∈ rs)) := (et_in (pos := pos) hu ha hb (shaped_row r) (shaped_rows rs) hm).to (by rw [any_rows])
theorem et_notinR (hu : X.A.units + 65 < cLine) (ha : EvD X a ρ (dRow r)) (hb : EvD X b ρ (dRows rs)) (hm : behindInMarks .NotIn b = false := by rfl) : EvT X (.Compare a [.NotIn] [b] pos) ρ (!decide (r ∈ rs)) := (et_notin (pos := pos) hu ha hb (shaped_row r) (shaped_rows rs) hm).to (by rw [any_rows])
theorem et_neR (hu : X.A.units + 64 < cLine) (ha : EvD X a ρ (dRows rs)) (hb : EvD X b ρ (dRows ss)) : EvT X (.Compare a [.NotEq] [b] pos) ρ (!decide (rs = ss)) := (et_ne (pos := pos) hu ha hb (shaped_rows rs) (shaped_rows ss)).to (by
  show (!PyData.eqvAll _ _) = _
  rw [eqv_rows])
theorem et_eqR (hu : X.A.units + 64 < cLine) (ha : EvD X a ρ (dRows rs)) (hb : EvD X b ρ (dRows ss)) : EvT X (.Compare a [.Eq] [b] pos) ρ (decide (rs = ss)) := (et_eq (pos := pos) hu ha hb (shaped_rows rs) (shaped_rows ss)).to (by
  show PyData.eqvAll _ _ = _
  rw [eqv_rows])
theorem ev_noRows : EvD X (.List [] pos) ρ (dRows []) := ev_lst evl_nil
/-! ### the rows of a lot, as a dict's keys -/
def keyOf (r : List Nat) : List Key := r.map fun (n : Nat) => Sum.inl (n : Int)
theorem keyOf_inj {r s : List Nat} (h : keyOf r = keyOf s) : r = s := by
  induction r generalizing s with
  | nil => cases s with | nil => rfl | cons _ _ => cases h
  | cons x r ih =>
    cases s with
    | nil => cases h
    | cons y s =>
      have h1 := (List.cons.inj h).1
      have h2 := ih (List.cons.inj h).2
      have h3 : (x : Int) = (y : Int) := Sum.inl.inj h1
      have : x = y := by omega
      rw [this, h2]
theorem keyOf_v (r : List Nat) : (keyOf r).map kV = (r.map fun (n : Nat) => (n : Int)).map V.int := by simp [keyOf, kV]
/-- a dict with the rows of lot as its keys -/
def knownT (lot : List (List Nat)) : Ty := ⟨fun H v => ∃ a, v = .ref a ∧ H a = some (.dT (lot.map fun r => (keyOf r, V.bl true))), fun _ _ _ s ⟨a, e, h⟩ => ⟨a, e, s _ _ h⟩⟩
theorem valV_known (lot : List (List Nat)) (r : List Nat) : (valV (lot.map fun r => (keyOf r, V.bl true)) (keyOf r)).isSome = decide (r ∈ lot) := by
  induction lot with
  | nil => rfl
  | cons x lot ih =>
    rw [List.map_cons]
    by_cases h : x = r
    · subst h
      simp [valV]
    · have h2 : ¬ keyOf x = keyOf r := fun z => h (keyOf_inj z)
      have h3 : ¬ r = x := fun z => h z.symm
      unfold valV at ih ⊢
      simp only [List.find?_cons, h2, decide_false]
      rw [ih]
      simp [h3]
theorem row_at' {H : Hp} {v : V} {r : List Nat} (h : Rp H v (dRow r)) : ∃ a, v = .ref a ∧ H a = some (.tup ((keyOf r).map kV)) := by
  obtain ⟨a, xs, rfl, h1, hz, hl, hi⟩ := Rp.tup_inv h
  have e := rp_ints (bs := r.map fun (n : Nat) => (n : Int)) (by simpa using hl) fun i v d e1 e2 => hi i v d e1 (by simpa [List.map_map] using e2)
  subst e
  exact ⟨a, rfl, by rw [keyOf_v]; exact h1⟩
/-- not in a dict of rows -/
theorem et_notinK (hu : X.A.units + 1 < cLine) (ha : EvD X a ρ (dRow r)) (hb : EvE X b ρ (knownT rs)) (hm : behindInMarks .NotIn b = false := by rfl) : EvT X (.Compare a [.NotIn] [b] pos) ρ (!decide (r ∈ rs)) := fun σ H sl =>
  tw_of (pt_cmp (pc_dnotin hu pe_ew pe_ew) hm) (ew_mono (ha σ H sl) fun x H1 ⟨s1, r1⟩ => ew_mono (hb σ H1 (sl.same s1)) fun y H2 ⟨s2, r2⟩ => by
    obtain ⟨q, rfl, hq⟩ := r2
    obtain ⟨t, rfl, ht⟩ := row_at' (Rp.same s2 r1)
    refine ⟨q, _, rfl, DGet.t hq ht, _, rfl, s1.trans s2, ?_⟩
    rw [valV_known])
end
end WD
set_option Elab.async false
set_option linter.all false
set_option maxRecDepth 100000
set_option maxHeartbeats 1000000
namespace WD
open PySem PySem.Spec PyProof.Rows L2
section
variable {X : Cx} {e a b c elt iter tg : Expr} {es : List Expr} {ρ ρ' : Rho} {T U Ta Tb : Ty} {pos p' apos cpos : Pos} {d d' : PyData} {ds : List PyData} {r s : List Nat} {rs ss : List (List Nat)}
/-- dict([(row, True) ..]) -/
theorem ev_dictK (hm : X.mg "dict" = none) (ha : EvD X a ρ (.list (rs.map fun r => .tuple [dRow r, .bool true]))) (hnd : rs.Nodup) (hu : X.A.units + 3 < cLine) (hc : X.calm = true := by rfl) (hg : Gl X "dict" := by rfl)
    (he : starEach (a :: []) X.env = (false, eval a X.env) :: starEach [] X.env := by rfl) (hpl : (backTo pos (starEach [] X.env)).any (·.1) = false := by rfl) : EvE X (.Call (.Name "dict" p') [a] [] pos) ρ (knownT rs) :=
  ev_ct1 (call_dictT hc hu) hm (by decide +kernel) ha (fun v H Q r k => by
    obtain ⟨q, xs, rfl, h1, hz, hl, hi⟩ := Rp.lst_inv r
    have go : ∀ (xs : List V) (rs : List (List Nat)), xs.length = rs.length → (∀ (i : Nat) (v : V) (d : PyData), xs[i]? = some v → (rs.map fun r => PyData.tuple [dRow r, .bool true])[i]? = some d → Rp H v d) →
        ∃ ps : List Addr, xs = ps.map V.ref ∧ Paired (fun p (kv : List Key × V) => ∃ b, SqT X.K H p [.ref b, kv.2] ∧ H b = some (.tup (kv.1.map kV))) ps (rs.map fun r => (keyOf r, V.bl true)) := by
      intro xs
      induction xs with
      | nil => intro rs hl _; cases rs with | nil => exact ⟨[], rfl, .nil⟩ | cons _ _ => cases hl
      | cons x xs ih =>
        intro rs hl hi
        cases rs with
        | nil => cases hl
        | cons r rs =>
          obtain ⟨ps, e, h⟩ := ih rs (Nat.succ.inj hl) fun i v d e1 e2 => hi (i + 1) v d (by simpa using e1) (by simpa using e2)
          obtain ⟨p, ys, rfl, hp, _, hyl, hy⟩ := Rp.tup_inv (hi 0 x _ rfl rfl)
          match ys, hyl with
          | [y1, y2], _ =>
            obtain ⟨b, rfl, hb⟩ := row_at' (hy 0 y1 _ rfl rfl)
            cases (Rp.bl_inv (hy 1 y2 _ rfl rfl))
            exact ⟨p :: ps, by rw [e]; rfl, .cons ⟨b, SqT.of hp, hb⟩ h⟩
    obtain ⟨ps, rfl, hps⟩ := go xs rs (by simpa using hl) hi
    refine ⟨q, ps, _, rfl, SqL.of h1, hps, ?_, fun p hp => k _ _ (same_new hp) ⟨p, rfl, upd_same⟩⟩
    have e : ((rs.map fun r => (keyOf r, V.bl true)).map (·.1)) = rs.map keyOf := by simp
    show ((rs.map fun r => (keyOf r, V.bl true)).map (·.1)).Nodup
    rw [e]
    exact List.Pairwise.map keyOf (fun a b h z => h (keyOf_inj z)) hnd) hg (by decide) (by decide) he hpl
/-! ### methods that only read -/
structure Km (P : Program) (w : World) (K : PySem.W.Frag) (mg : Str → Option Value) (base : Heap) (k : Nat) (C : Addr) (m : Str) (F : List Ty → Ty → Prop) : Prop where
  met : C8.Met P w K mg base k C m (spR F) []
def insT (C : Addr) (m : Str) (T : Ty) : Prop := ∀ H v, T.R H v → ∃ a dx fs, v = .ref a ∧ H a = some (.ins C dx fs) ∧ fs.lookup m = none
theorem ev_meth0 {m : Str} {C : Addr} {F : List Ty → Ty → Prop} {k : Nat} {pl : Sem Bool} (h : Km X.prog X.w X.K X.mg X.base k C m F) (hr : Room k X.A) (ha : EvE X a ρ U) (hi : insT C m U) (hF : F [U] T)
    (ht : eval (.Call (.Attribute a m apos) [] [] pos) X.env = (do
      let ov ← eval a X.env
      standAt apos.atName
      let (f, first) ← holding [ov] (getMethod ov m pl)
      callWith pos f first (backTo pos (starEach [] X.env)) (backToKw pos (keywordEach [] X.env))) := by rfl) : EvE X (.Call (.Attribute a m apos) [] [] pos) ρ T := fun σ H sl =>
  ew_of (C8.pe_mt0 (pl := pl) h.met hr (Nat.le_refl _) pe_ew ht) (ew_mono (ha σ H sl) fun x H1 ⟨s1, r1⟩ => by
    obtain ⟨p, dx, fs, rfl, hp, hl⟩ := hi _ _ r1
    exact ⟨p, dx, fs, rfl, hp, hl, [U], T, .cons r1 .nil, hF, fun v H' s r => ⟨s1.trans s, r⟩⟩)
theorem ev_meth {m : Str} {C : Addr} {F : List Ty → Ty → Prop} {k : Nat} {Ts : List Ty} {pl : Sem Bool} (h : Km X.prog X.w X.K X.mg X.base k C m F) (hr : Room k X.A) (ha : EvE X a ρ U) (hi : insT C m U) (hes : EvA X (e :: es) ρ Ts) (hF : F (U :: Ts) T)
    (hst : starEach (e :: es) X.env = (false, eval e X.env) :: starEach es X.env := by rfl) (hpl : (backTo pos (starEach es X.env)).any (·.1) = false := by rfl)
    (ht : eval (.Call (.Attribute a m apos) (e :: es) [] pos) X.env = (do
      let ov ← eval a X.env
      standAt apos.atName
      let (f, first) ← holding [ov] (getMethod ov m pl)
      callWith pos f first (backTo pos (starEach (e :: es) X.env)) (backToKw pos (keywordEach [] X.env))) := by rfl) : EvE X (.Call (.Attribute a m apos) (e :: es) [] pos) ρ T := fun σ H sl =>
  ew_of (C8.pe_mt (pl := pl) h.met hr (Nat.le_refl _) pe_ew pa_aw hst hpl ht) (ew_mono (ha σ H sl) fun x H1 ⟨s1, r1⟩ => by
    obtain ⟨p, dx, fs, rfl, hp, hl⟩ := hi _ _ r1
    refine ⟨p, dx, fs, rfl, hp, hl, aw_mono (hes σ H1 (sl.same s1)) fun vs H2 ⟨s2, r2⟩ => ⟨U :: Ts, T, ?_, hF, fun v H' s r => ⟨(s1.trans s2).trans s, r⟩⟩⟩
    rw [List.append_nil]
    exact .cons (U.mono _ _ _ s2 r1) r2)
/-- x.f -/
theorem ev_fld {f : Str} (ha : EvE X a ρ U) (h : ∀ H v, U.R H v → ∃ p C dx fs u, v = .ref p ∧ H p = some (.ins C dx fs) ∧ Cls X.K C ∧ NoAttr X.K C f ∧ fs.lookup f = some u ∧ T.R H u) (hb : attributeBase a f X.env (eval a X.env) = eval a X.env := by rfl) : EvE X (.Attribute a f pos) ρ T := fun σ H sl =>
  ew_of (pe_fld pe_ew hb) (ew_mono (ha σ H sl) fun x H1 ⟨s1, r1⟩ => by
    obtain ⟨p, C, dx, fs, u, rfl, hp, c, n, l, r⟩ := h _ _ r1
    exact ⟨p, C, dx, fs, u, rfl, hp, c, n, l, s1, r⟩)
end
end WD
namespace WD
theorem pick_len (lot : List (List Nat)) (p num : Nat) : (pick lot p num).length = p := by simp [pick, thingsAt_len]
theorem pick_mem {lot : List (List Nat)} {p num : Nat} (h : 0 < lot.length) : ∀ r ∈ pick lot p num, r ∈ lot := by
  intro r hr
  obtain ⟨i, hi, rfl⟩ := List.mem_map.mp hr
  have := thingsAt_lt h p num i hi
  rw [List.getD_eq_getElem?_getD, List.getElem?_eq_getElem this]
  exact List.getElem_mem _
theorem put_len (T : List Nat) (n : Nat) (rows : List (List Nat)) (w : Nat) : (put T n rows w).length = w := by simp [put]
theorem getD_lt {l : List Nat} {n : Nat} (h : ∀ x ∈ l, x < n) (hn : 0 < n) (i : Nat) : l.getD i 0 < n := by
  by_cases hi : i < l.length
  · rw [List.getD_eq_getElem?_getD, List.getElem?_eq_getElem hi]; exact h _ (List.getElem_mem _)
  · rw [List.getD_eq_getElem?_getD, List.getElem?_eq_none (by omega)]; exact hn
theorem put_lt {T : List Nat} {n : Nat} {rows : List (List Nat)} {w : Nat} (hn : 0 < n) (h : ∀ x ∈ T, x < n) : ∀ x ∈ put T n rows w, x < n := by
  intro x hx
  obtain ⟨k, _, rfl⟩ := List.mem_map.mp hx
  exact getD_lt h hn _
theorem col_lt {n : Nat} {rows : List (List Nat)} (hn : 0 < n) (h : ∀ r ∈ rows, ∀ x ∈ r, x < n) (k : Nat) : ∀ x ∈ rows.map (fun r => r.getD k 0), x < n := by
  intro x hx
  obtain ⟨r, hr, rfl⟩ := List.mem_map.mp hx
  exact getD_lt (h r hr) hn k
theorem col_spot_lt {n : Nat} {rows : List (List Nat)} (hn : 0 < n) (h : ∀ r ∈ rows, ∀ x ∈ r, x < n) (k : Nat) : spot n (rows.map fun r => r.getD k 0) < n ^ rows.length := by
  have := spot_lt hn _ (col_lt hn h k)
  simpa using this
theorem ltR_trans : ∀ (a b c : List Nat), ltR a b = true → ltR b c = true → ltR a c = true
  | [], [], _, h, _ => by cases h
  | [], _ :: _, [], _, h => by cases h
  | [], _ :: _, _ :: _, _, _ => rfl
  | _ :: _, [], _, h, _ => by cases h
  | _ :: _, _ :: _, [], _, h => by cases h
  | x :: a, y :: b, z :: c, h1, h2 => by
    unfold ltR at h1 h2 ⊢
    by_cases e1 : x = y
    · subst e1
      rw [if_pos rfl] at h1
      by_cases e2 : x = z
      · subst e2
        rw [if_pos rfl] at h2 ⊢
        exact ltR_trans a b c h1 h2
      · rw [if_neg e2] at h2 ⊢; exact h2
    · rw [if_neg e1] at h1
      by_cases e2 : y = z
      · subst e2
        rw [if_neg e1]; exact h1
      · rw [if_neg e2] at h2
        have h1 := of_decide_eq_true h1
        have h2 := of_decide_eq_true h2
        rw [if_neg (by omega)]
        exact decide_eq_true (by omega)
theorem ltR_irrefl : ∀ (a : List Nat), ltR a a = false
  | [] => rfl
  | x :: a => by unfold ltR; rw [if_pos rfl]; exact ltR_irrefl a
theorem RelOk.rise {n : Nat} {rel : Rel} (h : RelOk n rel) : ∀ d i, i + d + 1 < rel.2.length → ltR (rel.2.getD i []) (rel.2.getD (i + d + 1) []) = true
  | 0, i, hi => h.up i hi
  | d + 1, i, hi => ltR_trans _ _ _ (h.rise d i (by omega)) (h.up (i + d + 1) hi)
theorem RelOk.nodup {n : Nat} {rel : Rel} (h : RelOk n rel) : rel.2.Nodup := by
  rw [List.nodup_iff_pairwise_ne, List.pairwise_iff_getElem]
  intro i j hi hj hij e
  have h1 := h.rise (j - i - 1) i (by omega)
  have e2 : i + (j - i - 1) + 1 = j := by omega
  rw [e2, List.getD_eq_getElem?_getD, List.getD_eq_getElem?_getD, List.getElem?_eq_getElem hi, List.getElem?_eq_getElem hj] at h1
  simp only [Option.getD_some] at h1
  rw [e, ltR_irrefl] at h1
  cases h1
/-- the first that fails, or none does -/
theorem first_or (f : Nat → Bool) : ∀ n, (∀ i, i < n → f i = true) ∨ ∃ m, m < n ∧ f m = false ∧ ∀ i, i < m → f i = true
  | 0 => .inl fun i h => by omega
  | n + 1 => by
    rcases first_or f n with h | ⟨m, h1, h2, h3⟩
    · cases e : f n with
      | true =>
        refine .inl fun i hi => ?_
        by_cases hn : i = n
        · rw [hn]; exact e
        · exact h i (by omega)
      | false => exact .inr ⟨n, by omega, e, h⟩
    · exact .inr ⟨m, by omega, h2, h3⟩
end WD
set_option Elab.async false
set_option linter.all false
set_option maxRecDepth 100000
set_option maxHeartbeats 1000000
namespace WD
open PySem PySem.Spec PyProof.Rows L2
section
variable {X : Cx} {e a b c elt iter tg : Expr} {es ifs : List Expr} {ρ ρ' : Rho} {T U Ta Tb : Ty} {pos p' py spos : Pos} {A A' : Asd} {p : Addr} {st : Stmt} {sts rest : List Stmt} {o : OutF} {N : Nat → Prop} {Y : Nat → Ty}
theorem tlc_of {own : List (Str × Nat)} {scope : Scope} {g : TG} {n0 : Nat} {F : Nat → Ty} {ρt : Nat → Rho} {js : List Nat} (As : Nat → Asd) (hs : SF X tg iter ρ A (As 0) N Y)
    (hj : ∀ j ∈ js, j ∈ own.map (·.2)) (hNn : ∀ n, N n → n ≤ n0) (hn : n0 ≤ 100000) (ht : ∀ i, i < n0 → TgGo g (wipeR ρ (own.map (·.2))) (Y i) (ρt i) js) (he : ∀ i, i < n0 → EFB X scope elt (ρt i) (As i) (As (i + 1)) (F i))
    {σ : St} {G H : Hp} (sl : Sl G σ ρ) (sp : Sep G A H) {Q : VK} (k : ∀ D n G' H', N n → Same G G' → Sep G' ((D, lstC ((List.range n).map F)) :: As n) H' → Q (.ref D) H') :
    tLc (IW X tg iter) g (fun σ H Q => Q true H) (LW X scope elt) (own.map (·.2)) σ H Q := by
  refine hs σ G H sl sp _ fun J n H1 G1 hnn s1 sp1 yl => fun D hD => ?_
  have hle := hNn n hnn
  refine ⟨fun i m Hc => i ≤ n ∧ m = n - i ∧ ∃ G', Same G1 G' ∧ Sep G' ((D, lstC ((List.range i).map F)) :: As i) Hc, ⟨n, Nat.zero_le _, rfl, G1, Same.refl _, .cons sp1 hD ⟨[], rfl, Nat.zero_le _, .nil⟩⟩, ?_⟩
  rintro i m Hc ⟨hi, rfl, G', sG, sp'⟩
  by_cases hlt : i < n
  · obtain ⟨go, yi⟩ := yl.go i _ (sG.trans sp'.same) hlt
    refine .inr ⟨go, fun H' => i + 1 ≤ n ∧ ∃ G', Same G1 G' ∧ Sep G' ((D, lstC ((List.range (i + 1)).map F)) :: As (i + 1)) H', fun H' ⟨h1, h2⟩ => ⟨n - (i + 1), by omega, h1, rfl, h2⟩, fun x H' y => ?_⟩
    obtain ⟨sy, Gx, a1, a2, a3, rx⟩ := yi x H' y
    obtain ⟨G2, sp2, s2, k2⟩ := sp'.split sy
    have sx : Same Gx G2 := k2 Gx (fun q hq => a3 q.1 (sp'.off q hq).1 (sG.free (sp'.off q hq).2)) a2
    have sl1 : Sl G2 (wipe σ (own.map (·.2))) (wipeR ρ (own.map (·.2))) := (sl.same ((s1.trans sG).trans s2)).wipe _
    refine ht i (by omega) x _ G2 _ _ sp2.same sl1 ((Y i).mono _ _ _ sx rx) fun σ2 sl3 w => ?_
    refine ⟨(w _ hj).trans wipe_wipe, ?_⟩
    show LW X scope elt σ2 _ _
    intro s0 H0 C cl fp
    refine ew_mono (ef_frame (he i (by omega) s0 H0 C cl fp) σ2 G2 H' sl3 sp2) fun v H2 ⟨G3, s3, sp3, r3⟩ => ?_
    obtain ⟨H3, o, rfl, h1, hp, xs, rfl, hz, hx⟩ := sp3.inv
    have hl : xs.length = i := by simpa using Paired.length hx
    have hz2 : xs.length + 1 ≤ sizeLine := small_line (by omega)
    refine ⟨xs, upd_same, by omega, hlt, G3, (sG.trans s2).trans s3, ?_⟩
    rw [upd_upd, List.range_succ, List.map_append]
    exact .cons h1 hp ⟨_, rfl, by simpa using hz2, paired_snoc hx r3⟩
  · have e : i = n := by omega
    subst e
    exact .inl ⟨yl.stop _ _ (sG.trans sp'.same) (Nat.le_refl _), k D i G' Hc hnn (s1.trans sG) sp'⟩
/-- x = [.. for ..] on one line, x a local -/
theorem bf_setLc (i : Nat) {x : Str} {own : List (Str × Nat)} {scope : Scope} {g : TG} {n0 : Nat} {F : Nat → Ty} {ρt : Nat → Rho} {js : List Nat} (As : Nat → Asd) (hN : X.N.Nodup) (hs : SF X tg iter ρ A (As 0) N Y) (ok : BlkOk X.N X.env.scope scope own) (hg : PgB X scope tg g)
    (hj : ∀ j ∈ js, j ∈ own.map (·.2)) (hNn : ∀ n, N n → n ≤ n0) (hn : n0 ≤ 100000) (ht : ∀ i, i < n0 → TgGo g (wipeR ρ (own.map (·.2))) (Y i) (ρt i) js) (he : ∀ i, i < n0 → EFB X scope elt (ρt i) (As i) (As (i + 1)) (F i))
    (k : ∀ D n, N n → BF X rest (ρ.set i (some (refT D))) ((D, lstC ((List.range n).map F)) :: As n) o) (hi : X.N[i]? = some x := by rfl) (hyl : X.env.scope.names.lookup x = some .local := by rfl) (hkind : X.env.scope.kind = .function := by rfl) (hl : (py.line == pos.line) = true := by rfl)
    (hfree : (scope.names.any fun (n, k) => n == x && (k == .local || k == .cell)) = false := by decide +kernel)
    (hc : X.calm = true := by rfl) (hf : ∀ x, foldedSetIterable iter X.env x = pure x := by intro _; rfl) : BF X (.Assign [.Name x py] (.ListComp elt [⟨tg, iter, [], 0⟩] scope pos) spos :: rest) ρ A o := fun σ G H D sl sp gg =>
  sw_cons (s1_of (ps_setLc hc hN hi hyl (sw_true hkind hyl hl hfree) pi_iw ok hg (fun _ _ _ _ _ => pts_nil) (te := LW X scope elt) (fun s0 H0 C cl fp => ⟨fun pins s σ H Q I h => h s0 H0 C cl fp pins s I⟩) hf) (by
    refine tlc_of (js := js) As hs hj hNn hn ht he sl sp fun L n G' H' hn' s sp' => ?_
    exact k L n hn' _ G' H' D ((sl.same s).set (T := refT L) rfl) sp' (gg.same s)))
theorem bs_bf {T : Ty} {A0 : Asd} (h : BF X sts ρ [] (.ret T A0)) : A0 = [] → Bs X sts ρ (.ret T) := fun e => by subst e; exact bs_of h
/-- .. all plain -/
def Out.toF : Out → OutF
  | .next ρ => .next ρ []
  | .ret T => .ret T []
  | .cont ρ => .cont ρ []
  | .brk ρ => .cont ρ []
theorem bf_of (h : Bs X sts ρ (.next ρ')) : BF X sts ρ [] (.next ρ' []) := fun σ G H D sl sp g => by
  cases sp.inv0
  exact h σ _ D sl fun σ' H' s sl' => g σ' H' H' s .nil sl'
theorem bf_ofR (h : Bs X sts ρ (.ret T)) : BF X sts ρ [] (.ret T []) := fun σ G H D sl sp g => by
  cases sp.inv0
  exact h σ _ D sl fun v H' s r => g v H' H' s .nil r
theorem bf_ofO {o : Out} (h : Bs X sts ρ o) (hb : (∃ ρ', o = .next ρ') ∨ ∃ T, o = .ret T) : BF X sts ρ [] o.toF := by
  rcases hb with ⟨ρ', rfl⟩ | ⟨T, rfl⟩
  · exact bf_of h
  · exact bf_ofR h
theorem bs_ofO {o : Out} (h : BF X sts ρ [] o.toF) (hb : (∃ ρ', o = .next ρ') ∨ ∃ T, o = .ret T) : Bs X sts ρ o := by
  rcases hb with ⟨ρ', rfl⟩ | ⟨T, rfl⟩
  · exact bs_of_next h
  · exact bs_of h
theorem bs_setLc (i : Nat) {x : Str} {own : List (Str × Nat)} {scope : Scope} {g : TG} {n : Nat} {F : Nat → PyData} {ρt : Nat → Rho} {js : List Nat} {ob : Out} (hN : X.N.Nodup) (hs : Src X tg iter ρ n Y) (ok : BlkOk X.N X.env.scope scope own) (hg : PgB X scope tg g)
    (hj : ∀ j ∈ js, j ∈ own.map (·.2)) (hn : n ≤ 100000) (ht : ∀ i, i < n → TgGo g (wipeR ρ (own.map (·.2))) (Y i) (ρt i) js) (he : ∀ i, i < n → EvB X scope elt (ρt i) (dD (F i)))
    (k : Bs X rest (ρ.set i (some (dD (.list ((List.range n).map F))))) ob) (hb : (∃ ρ', ob = .next ρ') ∨ ∃ T, ob = .ret T := by first | exact .inl ⟨_, rfl⟩ | exact .inr ⟨_, rfl⟩) (hlen : i < ρ.length := by simp) (hi : X.N[i]? = some x := by rfl) (hyl : X.env.scope.names.lookup x = some .local := by rfl) (hkind : X.env.scope.kind = .function := by rfl) (hl : (py.line == pos.line) = true := by rfl)
    (hfree : (scope.names.any fun (n, k) => n == x && (k == .local || k == .cell)) = false := by decide +kernel)
    (hc : X.calm = true := by rfl) (hf : ∀ x, foldedSetIterable iter X.env x = pure x := by intro _; rfl) : Bs X (.Assign [.Name x py] (.ListComp elt [⟨tg, iter, [], 0⟩] scope pos) spos :: rest) ρ ob := by
  refine bs_ofO (bf_setLc i (fun _ => []) hN (sf_pure hs) ok hg hj (fun m h => Nat.le_of_eq h) hn ht (fun i hi s0 H0 C cl fp => ef_pure (he i hi s0 H0 C cl fp)) (fun D m hm => ?_) hi hyl hkind hl hfree hc hf) hb
  subst hm
  have e : ((List.range m).map fun i => dD (F i)) = ((List.range m).map F).map dD := by simp
  rw [e]
  refine bf_freezeD i ?_ (List.getElem?_set_self hlen)
  rw [List.set_set]
  exact bf_ofO k hb
end
end WD
set_option Elab.async false
set_option linter.all false
set_option maxRecDepth 100000
set_option maxHeartbeats 4000000
namespace WD
open PySem PySem.Spec PyProof.Rows L2
theorem pgn {X : Cx} {pos : Pos} (i : Nat) {x : Str} (hN : X.N.Nodup) (hi : X.N[i]? = some x := by rfl) (hx : Loc X.env.scope x := by first | exact Or.inl rfl | exact Or.inr rfl) (hf : X.fn x = true ∨ X.env.scope.names.lookup x = some .local := by first | exact .inl rfl | exact .inr rfl) : PG X (.Name x pos) (gName i) := pg_name hN hi hx hf
theorem src_rowsF {X : Cx} {tg iter : Expr} {ρ : Rho} {m : Nat} {f : Nat → List Nat} (h : EvD X iter ρ (dRows ((List.range m).map f))) : Src X tg iter ρ m (fun i => dD (dRow (f i))) :=
  src_congr (src_len (src_rows h) (by simp)) fun i hi => by
    rw [List.getD_eq_getElem?_getD, List.getElem?_map, List.getElem?_range hi]; rfl
theorem room3 {k : Nat} {A : Around} (r : Room k A) : A.units + 3 < cLine := by have := r.un; omega
theorem room65 {k : Nat} {A : Around} (r : Room k A) : A.units + 65 < cLine := by have := r.un; omega
theorem room1 {k : Nat} {A : Around} (r : Room k A) : A.units + 1 < cLine := by have := r.un; omega
theorem map_range_getD {α β : Type} (l : List α) (d : α) (f : α → β) : (List.range l.length).map (fun i => f (l.getD i d)) = l.map f := by
  apply List.ext_getElem
  · simp
  · intro i h1 h2
    have hi : i < l.length := by simpa using h1
    simp [List.getD_eq_getElem?_getD, List.getElem?_eq_getElem hi]
theorem bs_forOr {X : Cx} {tg iter : Expr} {ρ : Rho} {pos : Pos} {rest body : List Stmt} {o : Out} {g : TG} {n : Nat} {Y : Nat → Ty} {js : List Nat} (ok : Nat → Bool) (R : Nat → Ty) (ρs ρt : Nat → Rho) (hs : Src X tg iter ρ n Y) (hg : PG X tg g) (ht : ∀ i, i < n → TgGo g (ρs i) (Y i) (ρt i) js)
    (hb : ∀ i, i < n → (ok i = true → Bs X body (ρt i) (.next (ρs (i + 1)))) ∧ (ok i = false → Bs X body (ρt i) (.ret (R i)))) (h1 : (∀ i, i < n → ok i = true) → Bs X rest (ρs n) o) (h2 : ∀ m, m < n → ok m = false → (∀ i, i < m → ok i = true) → o = .ret (R m)) (h0 : ρs 0 = ρ := by rfl)
    (hc : X.calm = true := by rfl) (hp : PassesOwn (model X.prog X.w) X.A X.env X.xe := by exact PassesOwn.never) (hf : ∀ x, foldedSetIterable iter X.env x = pure x := by intro _; rfl) : Bs X (.For tg iter body [] pos :: rest) ρ o := by
  rcases first_or ok n with h | ⟨m, hm, e, h⟩
  · exact bs_cons (b1_for ρs ρt hs hg ht (fun i hi => .inl ((hb i hi).1 (h i hi))) h0 hc hp hf) (h1 h)
  · rw [h2 m hm e h]
    exact bs_stop (b1_forRet ρs ρt hs hg hm (fun i hi => ht i (by omega)) (fun i hi => .inl ((hb i (by omega)).1 (h i hi))) ((hb m hm).2 e) h0 hc hp hf)
section
variable {P : Program} {w : World} {K : PySem.W.Frag} {mg : Str → Option Value} {base : Heap}
def F_put : List Ty → Ty → Prop := fun Ts T => ∃ (t : List Nat) (n : Nat) (rows : List (List Nat)) (wd : Nat), Ts = [dD (dRow t), nt n, dD (dRows rows), nt wd] ∧ 0 < n ∧ n ≤ 9 ∧ 1 ≤ rows.length ∧ rows.length ≤ 3 ∧ wd ≤ 1000 ∧ t.length = n ^ rows.length ∧ (∀ r ∈ rows, r.length = wd ∧ ∀ x ∈ r, x < n) ∧ T = dD (dRow (put t n rows wd))
/-! ### led_out -/
theorem sc_led_out : FnScope ["size", "deed", "relation", "name", "places", "table", "wide", "lot", "known", "number", "rows", "row", "spot"] ["size", "deed", "relation"] (defScope s_led_out) := ⟨rfl, rfl, rfl, by decide +kernel, rfl, by decide +kernel, by decide +kernel⟩
def F_led_out : List Ty → Ty → Prop := fun Ts T => ∃ (z : Str) (p : Nat) (t : List Nat) (n : Nat) (rel : Rel), Ts = [nt n, dD (dDeed z p t), dD (dRel rel)] ∧ DeedOk n p t ∧ 1 ≤ p ∧ RelOk n rel ∧ rel.2.length ^ p ≤ 100000 ∧
  ((keepsB t n p rel = true ∧ T = dD .none) ∨ ∃ m, m < rel.2.length ^ p ∧ keepsAt t n p rel m = false ∧ (∀ i, i < m → keepsAt t n p rel i = true) ∧ T = dD (dRows (pick rel.2 p m)))
theorem ok_led_out {f fd} (Fu : FnD K "led_out" s_led_out f fd) (hm : mg "led_out" = some (.ref f)) (B : Bi mg) (h1 : Kn P w K mg base 4 "check_relation" F_check_relation) (h2 : Kn P w K mg base 1 "cells" F_cells) (h3 : Kn P w K mg base 1 "things_at" F_things_at) (h4 : Kn P w K mg base 2 "put_together" F_put) : Kn P w K mg base 5 "led_out" F_led_out := by
  refine kn_of Fu (fn_pure (o := .ret) Fu sc_led_out ?_ (.inl fun _ => rfl) ?_) hm (fun _ _ _ _ _ _ us hl => match us, hl with | [_, _, _], _ => rfl)
  · rintro _ _ ⟨z, p, t, n, rel, rfl, _⟩; rfl
  · rintro cdv A outer s H E hr _ T ⟨z, p, t, n, ⟨wd, lot⟩, rfl, hd, hp, ok, hsm, hT⟩
    have hr1 : Room 1 _ := hr.mono (by decide)
    have hr2 : Room 2 _ := hr.mono (by decide)
    have hw : wd ≤ 12 := ok.wide
    have hfew : lot.length ≤ 1000 := ok.few
    have hp3 := hd.p3
    show Bs _ (defBody s_led_out) [some (nt n), some (dD (dDeed z p t)), some (dD (dRel (wd, lot))), none, none, none, none, none, none, none, none, none, none] _
    refine bs_cons (b1_expr (ev_call h1 hr (eva_cons (ev_var 0) (eva_cons (ev_var 2) eva_nil)) ⟨n, _, rfl, ok, rfl⟩)) ?_
    refine bs_cons (b1_asg (ev_var 1) (pg_tup (n := 3) rfl (pgs_cons (pgn 3 sc_led_out.nd) (pgs_cons (pgn 4 sc_led_out.nd) (pgs_cons (pgn 5 sc_led_out.nd) pgs_nil)))) (tgo_tupD (n := 3) (ds := [.str z, .int (p : Int), dRow t]) (tgs_cons (tgs_cons (tgs_cons tgs_nil))))) ?_
    refine bs_cons (b1_asg (ev_var 2) (pg_tup (n := 2) rfl (pgs_cons (pgn 6 sc_led_out.nd) (pgs_cons (pgn 7 sc_led_out.nd) pgs_nil))) (tgo_tupD (n := 2) (ds := [.int (wd : Int), dRows lot]) (tgs_cons (tgs_cons tgs_nil)))) ?_
    refine bs_cons (b1_set 8 (ev_dictK (rs := lot) B.dict ((ev_lc (own := [("row", 11)]) (js := [11]) sc_led_out.nd (src_rows (ev_var 7)) (blkOk_by (own := [("row", 11)]) (N := ["size", "deed", "relation", "name", "places", "table", "wide", "lot", "known", "number", "rows", "row", "spot"]) (sc := defScope s_led_out) (by decide +kernel)) (fun _ _ _ _ _ => pgn 11 sc_led_out.nd) (by simp) (by omega) (fun i hi => tgo_name)
      (f := fun i => .tuple [dRow (lot.getD i []), .bool true]) (fun i hi s0 H0 C' cl fp => ev_tup (evl_cons (ev_var 11) (evl_cons ev_bl evl_nil)))).to ?_) ok.nodup (room3 hr)) sc_led_out.nd) ?_
    · congr 1
      exact map_range_getD lot [] fun r => PyData.tuple [dRow r, .bool true]
    refine bs_forOr (n := lot.length ^ p) (js := [9]) (keepsAt t n p (wd, lot)) (fun m => dD (dRows (pick lot p m))) (fun i => [some (nt n), some (dD (dDeed z p t)), some (dD (dRel (wd, lot))), some (dD (.str z)), some (nt p), some (dD (dRow t)), some (nt wd), some (dD (dRows lot)), some (knownT lot), none, none, none, none]) _
      (src_range B.range (ev_call h2 hr1 (eva_cons (ev_len (n := lot.length) B.len (ev_var 7) (by simp [dRows, lenD])) (eva_cons (ev_var 4) eva_nil)) ⟨lot.length, p, rfl, by omega, by omega, rfl⟩) (by have hsm : lot.length ^ p ≤ 100000 := hsm; omega)) (pgn 9 sc_led_out.nd) (fun i hi => tgo_name)
      (fun i hi => ?_) (fun h => ?_) (fun m hm h h' => ?_)
    · have hl0 : 0 < lot.length := by
        rcases Nat.eq_zero_or_pos lot.length with h | h
        · rw [h, Nat.zero_pow (by omega)] at hi; omega
        · exact h
      have hrow : ∀ r ∈ pick lot p i, r.length = wd ∧ ∀ x ∈ r, x < n := fun r hr => ok.row r (pick_mem hl0 r hr)
      have hrows : (PyData.list ((List.range (thingsAt lot.length p i).length).map fun j => dRow (lot.getD ((thingsAt lot.length p i).getD j 0) []))) = dRows (pick lot p i) := by
        unfold dRows pick; congr 1; rw [map_range_getD (thingsAt lot.length p i) 0 fun k => dRow (lot.getD k []), List.map_map]; rfl
      refine ⟨fun e => ?_, fun e => ?_⟩ <;> refine bs_setLc 10 (own := [("spot", 12)]) (js := [12]) (F := fun j => dRow (lot.getD ((thingsAt lot.length p i).getD j 0) [])) sc_led_out.nd (src_row (ev_call h3 hr1 (eva_cons (ev_var 9) (eva_cons (ev_var 4) (eva_cons (ev_len (n := lot.length) B.len (ev_var 7) (by simp [dRows, lenD])) eva_nil))) ⟨i, p, lot.length, rfl, hl0, by omega, by omega, rfl⟩))
          (blkOk_by (own := [("spot", 12)]) (N := ["size", "deed", "relation", "name", "places", "table", "wide", "lot", "known", "number", "rows", "row", "spot"]) (sc := defScope s_led_out) (by decide +kernel)) (fun _ _ _ _ _ => pgn 12 sc_led_out.nd) (by simp) (by rw [thingsAt_len]; omega) (fun j hj => tgo_name)
          (fun j hj s0 H0 C' cl fp => ev_ixRows (ev_var 7) (ev_var 12) (getD_lt (thingsAt_lt hl0 p i) hl0 j)) ?_ <;> rw [hrows]
      · refine bs_forget (bs_one (b1_skip (et_notinK (room1 hr) (ev_call h4 hr2 (eva_cons (ev_var 5) (eva_cons (ev_var 0) (eva_cons (ev_var 10) (eva_cons (ev_var 6) eva_nil)))) ⟨t, n, pick lot p i, wd, rfl, hd.n0, hd.n9, by rw [pick_len]; omega, by rw [pick_len]; omega, by omega, by rw [pick_len, hd.len], hrow, rfl⟩) (ev_var 8)) ?_)) ?_
        · unfold keepsAt at e; simpa using e
        · exact le_keep (le_keep (le_keep (le_keep (le_keep (le_keep (le_keep (le_keep (le_keep (le_drop (le_drop (le_keep (le_keep le_nil))))))))))))
      · refine bs_one (b1_then (et_notinK (room1 hr) (ev_call h4 hr2 (eva_cons (ev_var 5) (eva_cons (ev_var 0) (eva_cons (ev_var 10) (eva_cons (ev_var 6) eva_nil)))) ⟨t, n, pick lot p i, wd, rfl, hd.n0, hd.n9, by rw [pick_len]; omega, by rw [pick_len]; omega, by omega, by rw [pick_len, hd.len], hrow, rfl⟩) (ev_var 8)) ?_ (bs_one (b1_ret (ev_var 10))))
        unfold keepsAt at e; simpa using e
    · rcases hT with ⟨_, rfl⟩ | ⟨m, hm, hf, _, _⟩
      · exact bs_one (b1_ret ev_non)
      · rw [h m hm] at hf; cases hf
    · rcases hT with ⟨hk, _⟩ | ⟨m', hm', hf, hb, rfl⟩
      · have := List.all_eq_true.mp hk m (List.mem_range.mpr hm)
        rw [this] at h; cases h
      · have e : m = m' := by
          rcases Nat.lt_trichotomy m m' with q | q | q
          · rw [hb m q] at h; cases h
          · exact q
          · rw [h' m' q] at hf; cases hf
        rw [e]
/-! ### check_out -/
theorem sc_check_out : FnScope ["size", "deed", "relation", "rows", "name", "places", "table", "at", "row"] ["size", "deed", "relation", "rows"] (defScope s_check_out) := ⟨rfl, rfl, rfl, by decide +kernel, rfl, by decide +kernel, by decide +kernel⟩
def F_check_out : List Ty → Ty → Prop := fun Ts T => ∃ (z : Str) (p : Nat) (t : List Nat) (n : Nat) (rel : Rel) (m : Nat), Ts = [nt n, dD (dDeed z p t), dD (dRel rel), dD (dRows (pick rel.2 p m))] ∧ DeedOk n p t ∧ 1 ≤ p ∧ RelOk n rel ∧ 0 < rel.2.length ∧ keepsAt t n p rel m = false ∧ T = dD .none
theorem ok_check_out {f fd} (Fu : FnD K "check_out" s_check_out f fd) (hm : mg "check_out" = some (.ref f)) (B : Bi mg) (h1 : Kn P w K mg base 4 "check_relation" F_check_relation) (h4 : Kn P w K mg base 2 "put_together" F_put) : Kn P w K mg base 5 "check_out" F_check_out := by
  refine kn_of Fu (fn_pureN Fu sc_check_out ?_ ?_) hm (fun _ _ _ _ _ _ us hl => match us, hl with | [_, _, _, _], _ => rfl)
  · rintro _ _ ⟨z, p, t, n, rel, m, rfl, _, _, _, _, _, rfl⟩; exact ⟨rfl, rfl⟩
  · rintro cdv A outer s H E hr _ _ ⟨z, p, t, n, ⟨wd, lot⟩, m, rfl, hd, hp, ok, hl0, hk, rfl⟩
    have hr2 : Room 2 _ := hr.mono (by decide)
    have hw : wd ≤ 12 := ok.wide
    have hp3 := hd.p3
    have hrow : ∀ r ∈ pick lot p m, r.length = wd ∧ ∀ x ∈ r, x < n := fun r hr => ok.row r (pick_mem hl0 r hr)
    apply Exists.intro
    show Bs _ (defBody s_check_out) [some (nt n), some (dD (dDeed z p t)), some (dD (dRel (wd, lot))), some (dD (dRows (pick lot p m))), none, none, none, none, none] _
    refine bs_cons (b1_expr (ev_call h1 hr (eva_cons (ev_var 0) (eva_cons (ev_var 2) eva_nil)) ⟨n, _, rfl, ok, rfl⟩)) ?_
    refine bs_cons (b1_asg (ev_var 1) (pg_tup (n := 3) rfl (pgs_cons (pgn 4 sc_check_out.nd) (pgs_cons (pgn 5 sc_check_out.nd) (pgs_cons (pgn 6 sc_check_out.nd) pgs_nil)))) (tgo_tupD (n := 3) (ds := [.str z, .int (p : Int), dRow t]) (tgs_cons (tgs_cons (tgs_cons tgs_nil))))) ?_
    refine bs_cons (b1_ifF (et_w (ew_or (p := false) (q := false) (et_not (p := true) (et_val (ev_isi "list" "list" true B.isi (ev_var 3) (ev_bty B.list)))) fun _ => ew_or1 ((et_neI (i := (p : Int)) (j := (p : Int)) (ev_len (n := p) B.len (ev_var 3) (by simp [dRows, lenD, pick_len])) (ev_var 5)).to (by simp))))) ?_
    refine bs_cons (b1_for (n := p) (js := [7, 8]) (fun i => [some (nt n), some (dD (dDeed z p t)), some (dD (dRel (wd, lot))), some (dD (dRows (pick lot p m))), some (dD (.str z)), some (nt p), some (dD (dRow t)), none, none]) _ (src_len (src_enumRows B.enumerate (ev_var 3)) (pick_len lot p m)) (pg_tup (n := 2) rfl (pgs_cons (pgn 7 sc_check_out.nd) (pgs_cons (pgn 8 sc_check_out.nd) pgs_nil)))
      (fun i hi => tgo_tupD (n := 2) (tgs_cons (tgs_cons tgs_nil))) fun i hi => .inl ?_) ?_
    · refine bs_forget (bs_one (b1_skip (et_notinR (room65 hr) (ev_var 8) (ev_ixT (i := 1) (d := dRows lot) (ds := [.int (wd : Int), dRows lot]) (ev_var 2) ev_int rfl)) ?_)) ?_
      · have := pick_mem hl0 (p := p) (num := m) _ (getD_mem (pick lot p m) i [] (by rw [pick_len]; exact hi))
        show (!decide ((pick lot p m).getD i [] ∈ lot)) = false
        rw [decide_eq_true this]; rfl
      · exact le_keep (le_keep (le_keep (le_keep (le_keep (le_keep (le_keep (le_drop (le_drop le_nil))))))))
    · refine bs_one (b1_skip (et_inR (room65 hr) (ev_call h4 hr2 (eva_cons (ev_var 6) (eva_cons (ev_var 0) (eva_cons (ev_var 3) (eva_cons (ev_ixT (i := 0) (d := .int (wd : Int)) (ds := [.int (wd : Int), dRows lot]) (ev_var 2) ev_int rfl) eva_nil)))) ⟨t, n, pick lot p m, wd, rfl, hd.n0, hd.n9, by rw [pick_len]; omega, by rw [pick_len]; omega, by omega, by rw [pick_len, hd.len], hrow, rfl⟩)
        (ev_ixT (i := 1) (d := dRows lot) (ds := [.int (wd : Int), dRows lot]) (ev_var 2) ev_int rfl)) ?_)
      unfold keepsAt at hk; simpa using hk
/-! ### check_many -/
theorem sc_check_many : FnScope ["size", "places", "many", "k"] ["size", "places"] (defScope s_check_many) := ⟨rfl, rfl, rfl, by decide +kernel, rfl, by decide +kernel, by decide +kernel⟩
def F_check_many : List Ty → Ty → Prop := fun Ts T => ∃ (n p : Nat), Ts = [nt n, nt p] ∧ 0 < n ∧ n ≤ 9 ∧ p ≤ 3 ∧ n ^ (n ^ p) ≤ 20000 ∧ T = dD .none
theorem ok_check_many {f fd} (Fu : FnD K "check_many" s_check_many f fd) (hm : mg "check_many" = some (.ref f)) (B : Bi mg) (C : Co mg) (h2 : Kn P w K mg base 1 "cells" F_cells) : Kn P w K mg base 2 "check_many" F_check_many := by
  refine kn_of Fu (fn_pureN Fu sc_check_many ?_ ?_) hm (fun _ _ _ _ _ _ us hl => match us, hl with | [_, _], _ => rfl)
  · rintro _ _ ⟨n, p, rfl, _, _, _, _, rfl⟩; exact ⟨rfl, rfl⟩
  · rintro cdv A outer s H E hr _ _ ⟨n, p, rfl, hn0, hn9, hp3, hmany, rfl⟩
    have hc : n ^ p ≤ 729 := (⟨hn0, hn9, hp3, List.length_replicate (n := n ^ p) (a := 0), fun x hx => by rw [List.eq_of_mem_replicate hx]; exact hn0⟩ : DeedOk n p (List.replicate (n ^ p) 0)).small
    apply Exists.intro
    show Bs _ (defBody s_check_many) [some (nt n), some (nt p), none, none] _
    refine bs_cons (b1_set 2 (T := nt (n ^ 0)) ev_int sc_check_many.nd) ?_
    refine bs_one (b1_for (n := n ^ p) (js := [3]) (fun i => [some (nt n), some (nt p), some (nt (n ^ i)), none]) _ (src_range B.range (ev_call h2 hr (eva_cons (ev_var 0) (eva_cons (ev_var 1) eva_nil)) ⟨n, p, rfl, by omega, by omega, rfl⟩) (by omega)) (pgn 3 sc_check_many.nd) (fun i hi => tgo_name) fun i hi => .inl ?_)
    have hle : n ^ (i + 1) ≤ 20000 := Nat.le_trans (Nat.pow_le_pow_right hn0 hi) hmany
    refine bs_forget (bs_cons (b1_set 2 ((ev_mul (i := ((n ^ i : Nat) : Int)) (j := (n : Int)) (ev_var 2) (ev_var 0) (.inr (by omega))).to (d' := .int ((n ^ (i + 1) : Nat) : Int)) (by rw [Nat.pow_succ, Int.natCast_mul])) sc_check_many.nd) (bs_one (b1_skip (et_gt (i := ((n ^ (i + 1) : Nat) : Int)) (j := 20000) (ev_var 2) (ev_gint C.tables)) (decide_eq_false (by omega))))) ?_
    exact le_keep (le_keep (le_keep (le_drop le_nil)))
/-! ### argument_rows -/
theorem sc_argument_rows : FnScope ["size", "places", "some", "spot", "things", "k"] ["size", "places"] (defScope s_argument_rows) := ⟨rfl, rfl, rfl, by decide +kernel, rfl, by decide +kernel, by decide +kernel⟩
/-- the rows that pick a place -/
def argRows (n p : Nat) : List (List Nat) := (List.range p).map fun k => (List.range (n ^ p)).map fun s => (thingsAt n p s).getD k 0
def F_argument_rows : List Ty → Ty → Prop := fun Ts T => ∃ (n p : Nat), Ts = [nt n, nt p] ∧ 0 < n ∧ n ≤ 9 ∧ p ≤ 3 ∧ T = dD (dRows (argRows n p))
theorem ok_argument_rows {f fd} (Fu : FnD K "argument_rows" s_argument_rows f fd) (hm : mg "argument_rows" = some (.ref f)) (B : Bi mg) (h2 : Kn P w K mg base 1 "cells" F_cells) (h3 : Kn P w K mg base 1 "things_at" F_things_at) : Kn P w K mg base 2 "argument_rows" F_argument_rows := by
  refine kn_of Fu (fn_pure (o := .ret) Fu sc_argument_rows ?_ (.inl fun _ => rfl) ?_) hm (fun _ _ _ _ _ _ us hl => match us, hl with | [_, _], _ => rfl)
  · rintro _ _ ⟨n, p, rfl, _, _, _, rfl⟩; rfl
  · rintro cdv A outer s H E hr _ _ ⟨n, p, rfl, hn0, hn9, hp3, rfl⟩
    have hc : n ^ p ≤ 729 := (⟨hn0, hn9, hp3, List.length_replicate (n := n ^ p) (a := 0), fun x hx => by rw [List.eq_of_mem_replicate hx]; exact hn0⟩ : DeedOk n p (List.replicate (n ^ p) 0)).small
    show Bs _ (defBody s_argument_rows) [some (nt n), some (nt p), none, none, none, none] _
    refine bs_cons (b1_set 2 ((ev_lc (own := [("spot", 3)]) (js := [3]) (f := fun j => dRow (thingsAt n p j)) sc_argument_rows.nd (src_range B.range (ev_call h2 hr (eva_cons (ev_var 0) (eva_cons (ev_var 1) eva_nil)) ⟨n, p, rfl, by omega, by omega, rfl⟩) (by omega)) (blkOk_by (own := [("spot", 3)]) (N := ["size", "places", "some", "spot", "things", "k"]) (sc := defScope s_argument_rows) (by decide +kernel))
      (fun _ _ _ _ _ => pgn 3 sc_argument_rows.nd) (by simp) (by omega) (fun j hj => tgo_name) (fun j hj s0 H0 C' cl fp => ev_call h3 hr (eva_cons (ev_var 3) (eva_cons (ev_var 1) (eva_cons (ev_var 0) eva_nil))) ⟨j, p, n, rfl, hn0, by omega, by omega, rfl⟩)).to (d' := dRows ((List.range (n ^ p)).map (thingsAt n p))) (by simp [dRows, List.map_map, Function.comp_def])) sc_argument_rows.nd) ?_
    refine bs_one (b1_ret (EvE.to (ev_lc (own := [("k", 5)]) (js := [5]) (f := fun k => dRow ((List.range (n ^ p)).map fun s => (thingsAt n p s).getD k 0)) sc_argument_rows.nd (src_range B.range (ev_var 1) (by omega)) (blkOk_by (own := [("k", 5)]) (N := ["size", "places", "some", "spot", "things", "k"]) (sc := defScope s_argument_rows) (by decide +kernel))
      (fun _ _ _ _ _ => pgn 5 sc_argument_rows.nd) (by simp) (by omega) (fun j hj => tgo_name) (fun k hk s0 H0 C' cl fp => ?_)) ?_))
    · refine (ev_tuple B.tuple (ev_lc (own := [("things", 4)]) (js := [4]) (f := fun s => .int (((thingsAt n p s).getD k 0 : Nat) : Int)) sc_argument_rows.nd (src_rowsF (ev_var 2)) (blkOk_by (own := [("things", 4)]) (N := ["size", "places", "some", "spot", "things", "k"]) (by rfl))
        (fun _ _ _ _ _ => pgn 4 sc_argument_rows.nd) (by simp) (by omega) (fun j hj => tgo_name) (fun j hj s0 H0 C' cl fp => (ev_ixRow (ts := thingsAt n p j) (ev_var 4) (ev_var 5) (by rw [thingsAt_len]; exact hk)).to rfl))).to ?_
      simp [dRow, List.map_map, Function.comp_def]
    · simp [dRows, argRows, List.map_map, Function.comp_def]
end
end WD
set_option Elab.async false
set_option linter.all false
set_option maxRecDepth 100000
set_option maxHeartbeats 1000000
/-! dicts in the making -/
namespace WD
open PySem PySem.Spec PyProof.Rows L2
/-- a dict in the making, rows its keys -/
def dtC (U : Ty) (ks : List (List Nat)) : Cn := ⟨fun H o => ∃ kvs, o = .dT kvs ∧ Paired (fun (kv : List Key × V) r => kv.1 = keyOf r ∧ U.R H kv.2) kvs ks, fun H H' o s ⟨kvs, e, h⟩ => ⟨kvs, e, Paired.mapP h fun _ _ q => ⟨q.1, U.mono _ _ _ s q.2⟩⟩, fun H o ⟨kvs, e, _⟩ => by rw [e]; trivial⟩
def addK (ks : List (List Nat)) (r : List Nat) : List (List Nat) := if r ∈ ks then ks else ks ++ [r]
theorem put_pair {U : Ty} {H : Hp} {r : List Nat} {v : V} (hv : U.R H v) : ∀ {kvs : List (List Key × V)} {ks : List (List Nat)}, Paired (fun (kv : List Key × V) r => kv.1 = keyOf r ∧ U.R H kv.2) kvs ks →
    (kvs.any fun kv => decide (kv.1 = keyOf r)) = decide (r ∈ ks) ∧ Paired (fun (kv : List Key × V) r => kv.1 = keyOf r ∧ U.R H kv.2) (kvs.map fun kv => if kv.1 = keyOf r then (kv.1, v) else kv) ks
  | _, _, .nil => ⟨rfl, .nil⟩
  | _, _, .cons (a := kv) (b := k) h t => by
    obtain ⟨h1, h2⟩ := put_pair hv (r := r) t
    refine ⟨?_, .cons ?_ h2⟩
    · rw [List.any_cons, h1, h.1]
      by_cases e : k = r
      · subst e; simp
      · have e1 : ¬ keyOf k = keyOf r := fun z => e (keyOf_inj z)
        have e2 : ¬ r = k := fun z => e z.symm
        simp [e1, e2]
    · show (if kv.1 = keyOf r then (kv.1, v) else kv).1 = keyOf k ∧ U.R H (if kv.1 = keyOf r then (kv.1, v) else kv).2
      by_cases e : kv.1 = keyOf r
      · rw [if_pos e]; exact ⟨h.1, hv⟩
      · rw [if_neg e]; exact h
theorem putK_pair {U : Ty} {H : Hp} {r : List Nat} {v : V} (hv : U.R H v) {kvs : List (List Key × V)} {ks : List (List Nat)} (h : Paired (fun (kv : List Key × V) r => kv.1 = keyOf r ∧ U.R H kv.2) kvs ks) :
    Paired (fun (kv : List Key × V) r => kv.1 = keyOf r ∧ U.R H kv.2) (putK kvs (keyOf r) v) (addK ks r) := by
  obtain ⟨h1, h2⟩ := put_pair hv (r := r) h
  unfold putK addK
  rw [h1]
  by_cases e : r ∈ ks
  · rw [if_pos e, if_pos (decide_eq_true e)]; exact h2
  · rw [if_neg e, if_neg (by simpa using e)]; exact paired_snoc h ⟨rfl, hv⟩
section
variable {X : Cx} {e a b c elt iter tg v k : Expr} {es ifs : List Expr} {ρ ρ' : Rho} {T U Ta Tb : Ty} {pos p' py pd spos : Pos} {A A' : Asd} {p : Addr} {st : Stmt} {sts rest : List Stmt} {o : OutF} {r : List Nat} {ks : List (List Nat)}
theorem bf_newT (U : Ty) (i : Nat) {x : Str} (k : ∀ p, BF X rest (ρ.set i (some (refT p))) ((p, dtC U []) :: A) o) (hN : X.N.Nodup) (hi : X.N[i]? = some x := by rfl) (hx : Loc X.env.scope x := by first | exact Or.inl rfl | exact Or.inr rfl)
    (hs : swapsWith (.Dict [] [] pd) (some (.Name x p')) pos.line X.env = pure false := by rfl) (hf : X.fn x = true ∨ X.env.scope.names.lookup x = some .local := by first | exact .inl rfl | exact .inr rfl) : BF X (.Assign [.Name x p'] (.Dict [] [] pd) pos :: rest) ρ A o := fun σ G H D sl sp g =>
  sw_cons (s1_of (ps_set hN hi hx pe_dnewT hs hf) (fun p hp => k p _ G _ D (sl.set (T := refT p) rfl) (.cons sp hp ⟨[], rfl, .nil⟩) g))
theorem b1f_dput (hu : X.A.units + 1 < cLine) (ho : EvE X a ρ (refT p)) (hk : EvD X k ρ (dRow r)) (hv : EvE X v ρ U) (hl : ks.length < 100000) (hs : swapsWith v (some (.Subscript a k p')) pos.line X.env = pure false := by rfl) :
    B1F X (.Assign [.Subscript a k p'] v pos) ρ ((p, dtC U ks) :: A) (.next ρ ((p, dtC U (addK ks r)) :: A)) := fun σ G H D sl sp g =>
  s1_of (ps_dput hu pe_ew pe_ew pe_ew hs) (ew_mono (ef_pure hv σ G H sl sp) fun x H1 ⟨G1, s1, sp1, r1⟩ => ew_mono (ef_pure ho σ G1 H1 (sl.same s1) sp1) fun y H2 ⟨G2, s2, sp2, r2⟩ => ew_mono (ef_pure hk σ G2 H2 (sl.same (s1.trans s2)) sp2) fun z H3 ⟨G3, s3, sp3, r3⟩ => by
    cases (show y = .ref p from r2)
    have rz := Rp.same sp3.same r3
    obtain ⟨t, rfl, ht⟩ := row_at' rz
    obtain ⟨H4, o', rfl, h1, hp, kvs, rfl, hc⟩ := sp3.inv
    have hl2 := Paired.length hc
    have hln : kvs.length < sizeLine := by rw [sizeLine_eq]; omega
    refine ⟨p, _, rfl, DPut.t upd_same ht hln, ?_⟩
    rw [upd_upd]
    exact g σ G3 _ ((s1.trans s2).trans s3) (.cons h1 hp ⟨_, rfl, putK_pair (U.mono _ _ _ (s2.trans s3) r1) hc⟩) (sl.same ((s1.trans s2).trans s3)))
/-- such a dict, once it changes no more -/
def dtT (U : Ty) (ks : List (List Nat)) : Ty := ⟨fun H v => ∃ a kvs, v = .ref a ∧ H a = some (.dT kvs) ∧ Paired (fun (kv : List Key × V) r => kv.1 = keyOf r ∧ U.R H kv.2) kvs ks, fun H H' v s ⟨a, kvs, e, h, q⟩ => ⟨a, kvs, e, s _ _ h, Paired.mapP q fun _ _ q => ⟨q.1, U.mono _ _ _ s q.2⟩⟩⟩
theorem bf_freezeT (i : Nat) (h : BF X sts (ρ.set i (some (dtT U ks))) A o) (hi : ρ[i]? = some (some (refT p)) := by rfl) : BF X sts ρ ((p, dtC U ks) :: A) o := fun σ G H D sl sp g => by
  obtain ⟨o', ⟨kvs, rfl, hc⟩, hp, sp'⟩ := sp.freeze
  obtain ⟨v, e, rfl⟩ := sl.at_ i _ hi
  exact h σ _ H D ((sl.same (same_new hp)).put e ⟨p, kvs, rfl, upd_same, Paired.mapP hc fun _ _ q => ⟨q.1, U.mono _ _ _ (same_new hp) q.2⟩⟩) sp' (g.same (same_new hp))
/-- list(d.items()) -/
theorem ev_items {apos cpos : Pos} (hm : X.mg "list" = none) (ha : EvE X a ρ (dtT U ks)) (hl : ks.length ≤ 100000) (hw : ∀ r ∈ ks, r.length ≤ 100000) (hc : X.calm = true := by rfl) (hg : Gl X "list" := by rfl) (hbase : attributeBase a "items" X.env (eval a X.env) = eval a X.env := by rfl) (hline : (apos.endLine == cpos.line) = true := by rfl)
    (hs : starEach [.Call (.Attribute a "items" apos) [] [] cpos] X.env = (false, eval (.Call (.Attribute a "items" apos) [] [] cpos) X.env) :: starEach [] X.env := by rfl) :
    EvE X (.Call (.Name "list" p') [.Call (.Attribute a "items" apos) [] [] cpos] [] pos) ρ (lsT (ks.map fun r => tupT [dD (dRow r), U])) := fun σ H sl =>
  ew_of (pe_itemsT hc pe_ew hg hm (by decide +kernel) hbase hline hs) (ew_mono (ha σ H sl) fun x H1 ⟨s1, r1⟩ => by
    obtain ⟨d, kvs, rfl, hd, hp⟩ := r1
    refine ⟨d, kvs, rfl, hd, fun H' q ts sm _ hq hl2 hts => ⟨s1.trans sm, q, _, rfl, hq, ?_, ?_⟩⟩
    · rw [List.length_map, hl2, Paired.length hp]; exact small_line hl
    · have go : ∀ (ts : List Addr) (kvs : List (List Key × V)) (ks : List (List Nat)), ts.length = kvs.length → (∀ (j : Nat) (t : Addr) (kv : List Key × V), ts[j]? = some t → kvs[j]? = some kv → ∃ b, H' t = some (.tup [.ref b, kv.2]) ∧ H' b = some (.tup (kv.1.map kV))) →
          Paired (fun (kv : List Key × V) r => kv.1 = keyOf r ∧ U.R H1 kv.2) kvs ks → (∀ r ∈ ks, r.length ≤ 100000) → Paired (fun v (T : Ty) => T.R H' v) (ts.map V.ref) (ks.map fun r => tupT [dD (dRow r), U]) := by
        intro ts
        induction ts with
        | nil => intro kvs ks h1 _ h3 _; cases h3 with | nil => exact .nil | cons _ _ => cases h1
        | cons t ts ih =>
          intro kvs ks h1 h2 h3 h4
          cases h3 with
          | nil => cases h1
          | @cons kv r kvs ks h h3 =>
            obtain ⟨b, e1, e2⟩ := h2 0 t kv rfl rfl
            refine .cons ⟨t, _, rfl, e1, .cons ?_ (.cons (U.mono _ _ _ sm h.2) .nil)⟩ (ih kvs ks (Nat.succ.inj h1) (fun j t kv q1 q2 => h2 (j + 1) t kv (by simpa using q1) (by simpa using q2)) h3 fun r hr => h4 r (List.mem_cons_of_mem _ hr))
            rw [h.1, keyOf_v] at e2
            refine .tup e2 ?_ (by simp) fun i v d e3 e4 => ?_
            · rw [List.length_map, List.length_map]; exact small_line (h4 r List.mem_cons_self)
            · rw [List.map_map, List.getElem?_map] at e3
              rw [List.getElem?_map] at e4
              cases hz : r[i]? with
              | none => rw [hz] at e3; cases e3
              | some z => rw [hz] at e3 e4; cases e3; cases e4; exact .int _
      exact go ts kvs ks hl2 hts hp hw)
end
end WD
set_option Elab.async false
set_option linter.all false
set_option maxRecDepth 100000
set_option maxHeartbeats 4000000
namespace WD
open PySem PySem.Spec PyProof.Rows L2
/-- what a deed's table must keep: at the spots, a row of the lot -/
abbrev Dm := List Nat × List (List Nat)
def spotsAt (n p : Nat) (lot : List (List Nat)) (wd num : Nat) : List Nat := (List.range wd).map fun k => spot n ((pick lot p num).map fun r => r.getD k 0)
def ksOf (n p : Nat) (lot : List (List Nat)) (wd : Nat) : Nat → List (List Nat)
  | 0 => []
  | i + 1 => addK (ksOf n p lot wd i) (spotsAt n p lot wd i)
theorem addK_len (ks : List (List Nat)) (r : List Nat) : (addK ks r).length ≤ ks.length + 1 := by
  unfold addK; split <;> simp
theorem addK_mem {ks : List (List Nat)} {r x : List Nat} : x ∈ addK ks r ↔ x ∈ ks ∨ x = r := by
  unfold addK
  split
  · rename_i h
    exact ⟨fun q => .inl q, fun q => by rcases q with q | rfl; exact q; exact h⟩
  · simp
theorem ksOf_len (n p : Nat) (lot : List (List Nat)) (wd : Nat) : ∀ i, (ksOf n p lot wd i).length ≤ i
  | 0 => by simp [ksOf]
  | i + 1 => by have := ksOf_len n p lot wd i; have := addK_len (ksOf n p lot wd i) (spotsAt n p lot wd i); show (addK _ _).length ≤ _; omega
theorem ksOf_mem {n p : Nat} {lot : List (List Nat)} {wd : Nat} {x : List Nat} : ∀ {i : Nat}, x ∈ ksOf n p lot wd i ↔ ∃ j, j < i ∧ x = spotsAt n p lot wd j
  | 0 => by simp [ksOf]
  | i + 1 => by
    show x ∈ addK _ _ ↔ _
    rw [addK_mem, ksOf_mem]
    constructor
    · rintro (⟨j, h, e⟩ | e)
      · exact ⟨j, by omega, e⟩
      · exact ⟨i, by omega, e⟩
    · rintro ⟨j, h, e⟩
      by_cases q : j = i
      · subst q; exact .inr e
      · exact .inl ⟨j, by omega, e⟩
/-- the demands of a relation -/
def dems (n p : Nat) (rel : Rel) : List Dm := (ksOf n p rel.2 rel.1 (rel.2.length ^ p)).map fun r => (r, rel.2)
def DmT (d : Dm) : Ty := tupT [dD (dRow d.1), knownT d.2]
section
variable {P : Program} {w : World} {K : PySem.W.Frag} {mg : Str → Option Value} {base : Heap}
theorem sc_demands_of : FnScope ["size", "places", "relation", "wide", "lot", "known", "found", "number", "rows", "row", "spot", "k"] ["size", "places", "relation"] (defScope s_demands_of) := ⟨rfl, rfl, rfl, by decide +kernel, rfl, by decide +kernel, by decide +kernel⟩
def F_demands_of : List Ty → Ty → Prop := fun Ts T => ∃ (n p : Nat) (rel : Rel), Ts = [nt n, nt p, dD (dRel rel)] ∧ 0 < n ∧ n ≤ 9 ∧ 1 ≤ p ∧ p ≤ 3 ∧ RelOk n rel ∧ rel.2.length ^ p ≤ 10000 ∧ T = lsT ((dems n p rel).map DmT)
theorem ok_demands_of {f fd} (Fu : FnD K "demands_of" s_demands_of f fd) (hm : mg "demands_of" = some (.ref f)) (B : Bi mg) (h2 : Kn P w K mg base 1 "cells" F_cells) (h3 : Kn P w K mg base 1 "things_at" F_things_at) (h4 : Kn P w K mg base 1 "spot_of" F_spot_of) : Kn P w K mg base 2 "demands_of" F_demands_of := by
  refine kn_of Fu (fn_pure (o := .ret) Fu sc_demands_of ?_ (.inl fun _ => rfl) ?_) hm (fun _ _ _ _ _ _ us hl => match us, hl with | [_, _, _], _ => rfl)
  · rintro _ _ ⟨n, p, rel, rfl, _, _, _, _, _, _, rfl⟩; rfl
  · rintro cdv A outer s H E hr _ _ ⟨n, p, ⟨wd, lot⟩, rfl, hn0, hn9, hp1, hp3, ok, hsm, rfl⟩
    have hsm : lot.length ^ p ≤ 10000 := hsm
    have hw : wd ≤ 12 := ok.wide
    have hfew : lot.length ≤ 1000 := ok.few
    refine bs_of ?_
    show BF _ (defBody s_demands_of) [some (nt n), some (nt p), some (dD (dRel (wd, lot))), none, none, none, none, none, none, none, none, none] [] _
    refine bf_cons (b1f_asg (ef_pure (ev_var 2)) (pg_tup (n := 2) rfl (pgs_cons (pgn 3 sc_demands_of.nd) (pgs_cons (pgn 4 sc_demands_of.nd) pgs_nil))) (tgo_tupD (n := 2) (ds := [.int (wd : Int), dRows lot]) (tgs_cons (tgs_cons tgs_nil)))) ?_
    refine bf_cons (b1f_set 5 (ef_pure (ev_dictK (rs := lot) B.dict ((ev_lc (own := [("row", 9)]) (js := [9]) sc_demands_of.nd (src_rows (ev_var 4)) (blkOk_by (own := [("row", 9)]) (N := ["size", "places", "relation", "wide", "lot", "known", "found", "number", "rows", "row", "spot", "k"]) (sc := defScope s_demands_of) (by decide +kernel)) (fun _ _ _ _ _ => pgn 9 sc_demands_of.nd) (by simp) (by omega) (fun i hi => tgo_name)
      (f := fun i => .tuple [dRow (lot.getD i []), .bool true]) (fun i hi s0 H0 C' cl fp => ev_tup (evl_cons (ev_var 9) (evl_cons ev_bl evl_nil)))).to ?_) ok.nodup (room3 hr))) sc_demands_of.nd) ?_
    · congr 1
      exact map_range_getD lot [] fun r => PyData.tuple [dRow r, .bool true]
    refine bf_newT (knownT lot) 6 (fun D => ?_) sc_demands_of.nd
    refine bf_cons (b1f_for (n0 := lot.length ^ p) (js := [7]) (A' := [(D, dtC (knownT lot) (ksOf n p lot wd (lot.length ^ p)))]) (fun i => [some (nt n), some (nt p), some (dD (dRel (wd, lot))), some (nt wd), some (dD (dRows lot)), some (knownT lot), some (refT D), none, none, none, none, none]) _ (fun i => [(D, dtC (knownT lot) (ksOf n p lot wd i))])
      (sf_pure (src_range B.range (ev_call h2 hr (eva_cons (ev_len (n := lot.length) B.len (ev_var 4) (by simp [dRows, lenD])) (eva_cons (ev_var 1) eva_nil)) ⟨lot.length, p, rfl, by omega, by omega, rfl⟩) (by omega))) (pgn 7 sc_demands_of.nd) (fun m h => Nat.le_of_eq h) (fun i hi => tgo_name) (fun i hi => .inl ?_) (fun m h => by subst h; exact ⟨le_refl, wk_refl⟩)) ?_
    · have hl0 : 0 < lot.length := by
        rcases Nat.eq_zero_or_pos lot.length with h | h
        · rw [h, Nat.zero_pow (by omega)] at hi; omega
        · exact h
      have hrow : ∀ r ∈ pick lot p i, r.length = wd ∧ ∀ x ∈ r, x < n := fun r hr => ok.row r (pick_mem hl0 r hr)
      have hrows : (PyData.list ((List.range (thingsAt lot.length p i).length).map fun j => dRow (lot.getD ((thingsAt lot.length p i).getD j 0) []))) = dRows (pick lot p i) := by
        unfold dRows pick; congr 1; rw [map_range_getD (thingsAt lot.length p i) 0 fun k => dRow (lot.getD k []), List.map_map]; rfl
      have hks := ksOf_len n p lot wd i
      refine bf_cons (b1f_set 8 (T := dD (dRows (pick lot p i))) (ef_pure (EvE.to (ev_lc (own := [("spot", 10)]) (js := [10]) (f := fun j => dRow (lot.getD ((thingsAt lot.length p i).getD j 0) [])) sc_demands_of.nd (src_row (ev_call h3 hr (eva_cons (ev_var 7) (eva_cons (ev_var 1) (eva_cons (ev_len (n := lot.length) B.len (ev_var 4) (by simp [dRows, lenD])) eva_nil))) ⟨i, p, lot.length, rfl, hl0, by omega, by omega, rfl⟩))
          (blkOk_by (own := [("spot", 10)]) (N := ["size", "places", "relation", "wide", "lot", "known", "found", "number", "rows", "row", "spot", "k"]) (sc := defScope s_demands_of) (by decide +kernel)) (fun _ _ _ _ _ => pgn 10 sc_demands_of.nd) (by simp) (by rw [thingsAt_len]; omega) (fun j hj => tgo_name)
          (fun j hj s0 H0 C' cl fp => ev_ixRows (ev_var 4) (ev_var 10) (getD_lt (thingsAt_lt hl0 p i) hl0 j))) (by rw [hrows]))) sc_demands_of.nd) ?_
      refine bf_forget (bf_one (b1f_dput (room1 hr) (ev_var 6) (r := spotsAt n p lot wd i) (EvE.to (ev_tuple B.tuple (ev_lc (own := [("k", 11)]) (js := [11]) (f := fun k => .int ((spot n ((pick lot p i).map fun r => r.getD k 0) : Nat) : Int)) sc_demands_of.nd (src_range B.range (ev_var 3) (by omega)) (blkOk_by (own := [("k", 11)]) (N := ["size", "places", "relation", "wide", "lot", "known", "found", "number", "rows", "row", "spot", "k"]) (sc := defScope s_demands_of) (by decide +kernel))
        (fun _ _ _ _ _ => pgn 11 sc_demands_of.nd) (by simp) (by omega) (fun k hk => tgo_name) (fun k hk s0 H0 C' cl fp => ev_call h4 hr (eva_cons (T := dD (dCol ((pick lot p i).map fun r => r.getD k 0))) (EvE.to (ev_lc (own := [("row", 9)]) (js := [9]) (f := fun j => .int ((((pick lot p i).getD j []).getD k 0 : Nat) : Int)) sc_demands_of.nd (src_rows (ev_var 8)) (blkOk_by (own := [("row", 9)]) (N := ["size", "places", "relation", "wide", "lot", "known", "found", "number", "rows", "row", "spot", "k"]) (by rfl))
          (fun _ _ _ _ _ => pgn 9 sc_demands_of.nd) (by simp) (by rw [pick_len]; omega) (fun j hj => tgo_name) (fun j hj s0 H0 C' cl fp => ev_ixRow (ev_var 9) (ev_var 11) (by rw [(hrow _ (getD_mem _ _ [] hj)).1]; exact hk))) ?_) (eva_cons (ev_var 0) eva_nil)) ⟨_, n, .inr rfl, by omega, rfl⟩))) ?_) (ev_var 5) (by omega))) ?_
      · unfold dCol
        rw [List.map_map]
        exact congrArg (fun l => dD (PyData.list l)) (map_range_getD (pick lot p i) [] fun r => PyData.int ((r.getD k 0 : Nat) : Int))
      · simp [dRow, spotsAt, List.map_map, Function.comp_def]
      · exact le_keep (le_keep (le_keep (le_keep (le_keep (le_keep (le_keep (le_drop (le_drop (le_keep (le_keep (le_keep le_nil)))))))))))
    · refine bf_freezeT 6 (bf_one (b1f_ret (ef_pure (EvE.to (ev_items B.list (ev_var 6) (by have := ksOf_len n p lot wd (lot.length ^ p); omega) fun r hr => ?_) ?_))))
      · obtain ⟨j, _, rfl⟩ := ksOf_mem.mp hr
        simp [spotsAt]; omega
      · unfold dems; rw [List.map_map]; rfl
end
end WD
set_option Elab.async false
set_option linter.all false
set_option maxRecDepth 100000
set_option maxHeartbeats 4000000
namespace WD
open PySem PySem.Spec PyProof.Rows L2
theorem src_lsT {X : Cx} {tg iter : Expr} {ρ : Rho} {Ys : List Ty} (h : EvE X iter ρ (lsT Ys)) : Src X tg iter ρ Ys.length (fun i => Ys.getD i (dD .none)) := fun σ H sl R k =>
  iw_of (pi_list pe_ew) (ew_mono (h σ H sl) fun v H1 ⟨s1, r1⟩ => by
    obtain ⟨a, xs, rfl, h1, hz, hp⟩ := r1
    have hl := Paired.length hp
    refine ⟨a, rfl, ⟨xs, SqL.of h1⟩, k _ _ s1 ⟨fun i H2 s2 hlt => ?_, fun i H2 s2 hle => ⟨xs, SqL.of (s2 _ _ h1), by omega⟩⟩⟩
    have hlt2 : i < xs.length := by omega
    refine ⟨⟨xs, xs[i], SqL.of (s2 _ _ h1), List.getElem?_eq_getElem hlt2⟩, fun x H' y => ?_⟩
    obtain ⟨e, y⟩ := y
    subst e
    have e1 := y xs (SqL.of (s2 _ _ h1))
    refine ⟨Same.refl _, _, Same.refl _, s2, fun b _ h => h, ?_⟩
    have e2 : Ys[i]? = some (Ys.getD i (dD .none)) := by rw [List.getElem?_eq_getElem hlt, List.getD_eq_getElem?_getD, List.getElem?_eq_getElem hlt]; rfl
    exact pair_at hp i x _ e1 e2)
theorem src_lsM {α : Type} {X : Cx} {tg iter : Expr} {ρ : Rho} {l : List α} {f : α → Ty} (d : α) (h : EvE X iter ρ (lsT (l.map f))) : Src X tg iter ρ l.length (fun i => f (l.getD i d)) :=
  src_congr (src_len (src_lsT h) (by simp)) fun i hi => by rw [getD_map f l i d _ hi]
/-! ### by_last -/
abbrev Gq := Int × Addr × List Dm
def dkC (es : List (Int × Addr)) : Cn := ⟨fun _ o => o = .dK (es.map fun e => ((Sum.inl e.1 : Key), V.ref e.2)), fun _ _ _ _ h => h, fun _ o h => by rw [h]; trivial⟩
def qAs (D : Addr) (qs : List Gq) : Asd := (D, dkC (qs.map fun q => (q.1, q.2.1))) :: qs.map fun q => (q.2.1, lstC (q.2.2.map DmT))
structure GrpOk (ds : List Dm) (qs : List Gq) : Prop where
  nd : (qs.map (·.1)).Nodup
  it : ∀ q ∈ qs, q.2.2 = ds.filter (fun d => decide (lastOf d.1 = q.1))
  all : ∀ d ∈ ds, lastOf d.1 ∈ qs.map (·.1)
theorem valV_q (k : Int) : ∀ (es : List (Int × Addr)), (valV (es.map fun e => ((Sum.inl e.1 : Key), V.ref e.2)) (Sum.inl k) = none ∧ k ∉ es.map (·.1)) ∨ ∃ e1 a e2, es = e1 ++ (k, a) :: e2 ∧ valV (es.map fun e => ((Sum.inl e.1 : Key), V.ref e.2)) (Sum.inl k) = some (.ref a)
  | [] => .inl ⟨rfl, by simp⟩
  | e :: es => by
    by_cases h : e.1 = k
    · subst h
      exact .inr ⟨[], e.2, es, rfl, valV_pos (p := ((Sum.inl e.1 : Key), V.ref e.2)) rfl⟩
    · have h2 : ¬ (Sum.inl e.1 : Key) = Sum.inl k := fun z => h (Sum.inl.inj z)
      have e3 : valV ((e :: es).map fun e => ((Sum.inl e.1 : Key), V.ref e.2)) (Sum.inl k) = valV (es.map fun e => ((Sum.inl e.1 : Key), V.ref e.2)) (Sum.inl k) := valV_neg (p := ((Sum.inl e.1 : Key), V.ref e.2)) h2
      rcases valV_q k es with ⟨q1, q2⟩ | ⟨e1, a, e2, q1, q2⟩
      · exact .inl ⟨e3.trans q1, by rw [List.map_cons, List.mem_cons]; rintro (z | z); exact h z.symm; exact q2 z⟩
      · exact .inr ⟨e :: e1, a, e2, by rw [q1]; rfl, e3.trans q2⟩
theorem grp_old {ds : List Dm} {q1 q2 : List Gq} {k : Int} {a : Addr} {it : List Dm} {d : Dm} (h : GrpOk ds (q1 ++ (k, a, it) :: q2)) (hk : lastOf d.1 = k) : GrpOk (ds ++ [d]) (q1 ++ (k, a, it ++ [d]) :: q2) := by
  have hkeys : (q1 ++ (k, a, it ++ [d]) :: q2).map (·.1) = (q1 ++ (k, a, it) :: q2).map (·.1) := by simp
  refine ⟨by rw [hkeys]; exact h.nd, fun q hq => ?_, fun x hx => ?_⟩
  · have hnd := h.nd
    rw [List.map_append, List.map_cons, List.nodup_append] at hnd
    rw [List.filter_append]
    rcases List.mem_append.mp hq with hq | hq
    · have ne : ¬ lastOf d.1 = q.1 := fun z => hnd.2.2 q.1 (List.mem_map.mpr ⟨q, hq, rfl⟩) k (by simp) (by rw [← z, hk])
      rw [h.it q (List.mem_append_left _ hq)]
      simp [ne]
    · rcases List.mem_cons.mp hq with rfl | hq
      · have := h.it (k, a, it) (by simp)
        simp only at this ⊢
        rw [← this]; simp [hk]
      · have ne : ¬ lastOf d.1 = q.1 := fun z => (List.nodup_cons.mp hnd.2.1).1 (by rw [← hk, z]; exact List.mem_map.mpr ⟨q, hq, rfl⟩)
        rw [h.it q (List.mem_append_right _ (List.mem_cons_of_mem _ hq))]
        simp [ne]
  · rw [hkeys]
    rcases List.mem_append.mp hx with hx | hx
    · exact h.all x hx
    · have : x = d := by simpa using hx
      rw [this, hk]; simp
theorem grp_new {ds : List Dm} {qs : List Gq} {k : Int} {a : Addr} {d : Dm} (h : GrpOk ds qs) (hk : lastOf d.1 = k) (hn : k ∉ qs.map (·.1)) : GrpOk (ds ++ [d]) (qs ++ [(k, a, [d])]) := by
  refine ⟨?_, fun q hq => ?_, fun x hx => ?_⟩
  · rw [List.map_append, List.nodup_append]
    refine ⟨h.nd, by simp, fun x hx y hy e => ?_⟩
    have : y = k := by simpa using hy
    rw [e, this] at hx; exact hn hx
  · rw [List.filter_append]
    rcases List.mem_append.mp hq with hq | hq
    · have ne : ¬ lastOf d.1 = q.1 := fun z => hn (by rw [← hk, z]; exact List.mem_map.mpr ⟨q, hq, rfl⟩)
      rw [h.it q hq]; simp [ne]
    · have : q = (k, a, [d]) := by simpa using hq
      subst this
      have e : ds.filter (fun d => decide (lastOf d.1 = k)) = [] := by
        rw [List.filter_eq_nil_iff]
        intro x hx z
        exact hn (by rw [← of_decide_eq_true z]; exact h.all x hx)
      simp only
      rw [e]; simp [hk]
  · rw [List.map_append, List.mem_append]
    rcases List.mem_append.mp hx with hx | hx
    · exact .inl (h.all x hx)
    · have : x = d := by simpa using hx
      rw [this, hk]; simp
theorem by_step {X : Cx} {a kE tE : Expr} {ρ : Rho} {p1 apos cpos apos1 cpos1 : Pos} {D : Addr} {ds : List Dm} {qs : List Gq} {d : Dm} (ho : EvE X a ρ (refT D)) (hk : EvD X kE ρ (.int (lastOf d.1))) (ht : EvE X tE ρ (DmT d)) (g : GrpOk ds qs) (hl : qs.length < 100000) (hl2 : ds.length < 100000)
    (m : M2 X a "setdefault" apos1 kE (.List [] p1) cpos1)
    (hbase : attributeBase (.Call (.Attribute a "setdefault" apos1) [kE, .List [] p1] [] cpos1) "append" X.env (eval (.Call (.Attribute a "setdefault" apos1) [kE, .List [] p1] [] cpos1) X.env) = eval (.Call (.Attribute a "setdefault" apos1) [kE, .List [] p1] [] cpos1) X.env := by rfl)
    (hfew : ((backTo cpos (starEach (tE :: []) X.env)).all (fun x => !x.1) && (backToKw cpos (keywordEach [] X.env)).all (fun x => x.1.isSome)
      && decide ((tE :: []).length + ([] : List Keyword).length + (if ([] : List Keyword).isEmpty then 0 else 1) < 30)) = true := by rfl)
    (hline : (apos.endLine == cpos.line) = true := by rfl) (hs : starEach (tE :: []) X.env = (false, eval tE X.env) :: starEach [] X.env := by rfl) (hplain : (backTo cpos (starEach [] X.env)).any (·.1) = false := by rfl)
    {σ : St} {G H : Hp} (sl : Sl G σ ρ) (sp : Sep G (qAs D qs) H) :
    EW X (.Call (.Attribute (.Call (.Attribute a "setdefault" apos1) [kE, .List [] p1] [] cpos1) "append" apos) [tE] [] cpos) σ H fun _ H' => ∃ G' qs', Same G G' ∧ Sep G' (qAs D qs') H' ∧ GrpOk (ds ++ [d]) qs' ∧ qs'.length ≤ qs.length + 1 :=
  ew_of (pe_bm F.plainAttrs_list F.slot_list_append F.type_list_append mt_append (pe_dsetd pe_ew pe_ew pe_ew m) (pa_cons pe_ew pa_nil hs) hbase hfew hline hs hplain) (ew_mono (ef_pure ho σ G H sl sp) fun x H1 ⟨G1, s1, sp1, r1⟩ => by
    cases (show x = .ref D from r1)
    refine ⟨D, rfl, ?_, ?_⟩
    · obtain ⟨H2, o, rfl, h1, hp, hc⟩ := sp1.inv
      cases (show o = _ from hc)
      exact .inl ⟨_, .inl upd_same⟩
    · refine ew_mono (ef_pure hk σ G1 H1 (sl.same s1) sp1) fun y H2 ⟨G2, s2, sp2, r2⟩ => ?_
      refine ew_of (pe_lst pa_nil) ⟨Nat.zero_le _, fun q hq => ?_⟩
      have ey : y = .int (lastOf d.1) := Rp.int_inv r2
      subst ey
      have s12 := s1.trans s2
      obtain ⟨H2', o, rfl, h1, hp, hc⟩ := sp2.inv
      cases (show o = _ from hc)
      have ne : q ≠ D := fun z => by rw [z, upd_same] at hq; cases hq
      have hq' : H2' q = none := by rwa [upd_ne ne] at hq
      refine ⟨_, Sum.inl (lastOf d.1), by rw [upd_ne (Ne.symm ne)]; exact upd_same, rfl, by rw [sizeLine_eq]; simp; omega, fun v hv => ?_, fun hv => ?_⟩
      · rcases valV_q (lastOf d.1) (qs.map fun q => (q.1, q.2.1)) with ⟨z1, _⟩ | ⟨e1, b, e2, z1, z2⟩
        · rw [z1] at hv; cases hv
        · rw [z2] at hv
          cases hv
          obtain ⟨q1, qr, rfl, rfl, hr⟩ := List.map_eq_append_iff.mp z1
          obtain ⟨⟨k', b', it⟩, q2, rfl, he, rfl⟩ := List.map_eq_cons_iff.mp hr
          obtain ⟨he1, he2⟩ := Prod.mk.inj he
          have he1 : k' = lastOf d.1 := he1
          have he2 : b' = b := he2
          subst k' b'
          have sp3 := sp2.lay (o := .lst []) hq
          have pm : (qAs D (q1 ++ (lastOf d.1, b, it) :: q2)).Perm ((b, lstC (it.map DmT)) :: (D, dkC ((q1 ++ (lastOf d.1, b, it) :: q2).map fun q => (q.1, q.2.1))) :: (q1 ++ q2).map fun q => (q.2.1, lstC (q.2.2.map DmT))) := by
            unfold qAs
            refine (List.Perm.cons _ ?_).trans (List.Perm.swap _ _ _)
            have e1 : ∀ f : Gq → Addr × Cn, (q1 ++ (lastOf d.1, b, it) :: q2).map f = q1.map f ++ f (lastOf d.1, b, it) :: q2.map f := fun f => by simp
            have e2 : ∀ f : Gq → Addr × Cn, (q1 ++ q2).map f = q1.map f ++ q2.map f := fun f => by simp
            rw [e1, e2]
            exact List.perm_middle
          have sp4 := sp3.perm pm
          refine ⟨?_, ?_⟩
          · obtain ⟨H5, o5, e5, h5, hp5, xs, rfl, _, _⟩ := sp4.inv
            exact .inl ⟨rfl, xs, SqL.of (by rw [e5]; exact upd_same)⟩
          · refine ew_mono (ef_pure ht σ _ _ ((sl.same s12).same (same_new (sp2.same.free hq))) sp4) fun t H6 ⟨G6, s6, sp6, r6⟩ => ?_
            obtain ⟨H7, o7, rfl, h7, hp7, xs, rfl, hz7, hc7⟩ := sp6.inv
            have hlen : xs.length = it.length := by simpa using Paired.length hc7
            have hit : it.length ≤ ds.length := by
              have := g.it (lastOf d.1, b, it) (by simp)
              simp only at this
              rw [this]; exact List.length_filter_le _ _
            have hz : xs.length + 1 ≤ sizeLine := small_line (by omega)
            refine ⟨b, xs, t, rfl, rfl, upd_same, by omega, G6, q1 ++ (lastOf d.1, b, it ++ [d]) :: q2, (s12.trans (same_new (sp2.same.free hq))).trans s6, ?_, grp_old g rfl, by simp⟩
            rw [upd_upd]
            have sp8 : Sep G6 ((b, lstC ((it ++ [d]).map DmT)) :: (D, dkC ((q1 ++ (lastOf d.1, b, it) :: q2).map fun q => (q.1, q.2.1))) :: (q1 ++ q2).map fun q => (q.2.1, lstC (q.2.2.map DmT))) (upd H7 b (.lst (xs ++ [t]))) :=
              .cons h7 hp7 ⟨_, rfl, by simpa using hz, by rw [List.map_append]; exact paired_snoc hc7 r6⟩
            refine sp8.perm ?_
            unfold qAs
            have ek : ((q1 ++ (lastOf d.1, b, it ++ [d]) :: q2).map fun q => (q.1, q.2.1)) = ((q1 ++ (lastOf d.1, b, it) :: q2).map fun q => (q.1, q.2.1)) := by simp
            rw [ek]
            refine (List.Perm.swap _ _ _).trans (List.Perm.cons _ ?_)
            have e1 : ∀ f : Gq → Addr × Cn, (q1 ++ (lastOf d.1, b, it ++ [d]) :: q2).map f = q1.map f ++ f (lastOf d.1, b, it ++ [d]) :: q2.map f := fun f => by simp
            have e2 : ∀ f : Gq → Addr × Cn, (q1 ++ q2).map f = q1.map f ++ q2.map f := fun f => by simp
            rw [e1, e2]
            exact List.perm_middle.symm
      · rcases valV_q (lastOf d.1) (qs.map fun q => (q.1, q.2.1)) with ⟨z1, z0⟩ | ⟨e1, b, e2, z1, z2⟩
        · rw [putK_new _ z1]
          have e0 : upd (upd (upd H2' D (.dK ((qs.map fun q => (q.1, q.2.1)).map fun e => ((Sum.inl e.1 : Key), V.ref e.2)))) q (.lst [])) D (.dK ((qs.map fun q => (q.1, q.2.1)).map (fun e => ((Sum.inl e.1 : Key), V.ref e.2)) ++ [(Sum.inl (lastOf d.1), V.ref q)])) =
              upd (upd H2' D (.dK ((qs.map fun q => (q.1, q.2.1)).map (fun e => ((Sum.inl e.1 : Key), V.ref e.2)) ++ [(Sum.inl (lastOf d.1), V.ref q)]))) q (.lst []) := by
            rw [upd_comm (Ne.symm ne), upd_upd, upd_comm ne]
          rw [e0]
          have sp3 : Sep G2 ((q, lstC []) :: (D, dkC ((qs.map fun q => (q.1, q.2.1)) ++ [(lastOf d.1, q)])) :: qs.map fun q => (q.2.1, lstC (q.2.2.map DmT))) (upd (upd H2' D (.dK ((qs.map fun q => (q.1, q.2.1)).map (fun e => ((Sum.inl e.1 : Key), V.ref e.2)) ++ [(Sum.inl (lastOf d.1), V.ref q)]))) q (.lst [])) :=
            .cons (.cons h1 hp (by show _ = HO.dK _; rw [List.map_append]; rfl)) (by rw [upd_ne ne]; exact hq') ⟨[], rfl, Nat.zero_le _, .nil⟩
          refine ⟨.inl ⟨rfl, [], SqL.of upd_same⟩, ew_mono (ef_pure ht σ _ _ (sl.same s12) sp3) fun t H6 ⟨G6, s6, sp6, r6⟩ => ?_⟩
          obtain ⟨H7, o7, rfl, h7, hp7, xs, rfl, hz7, hc7⟩ := sp6.inv
          cases hc7
          refine ⟨q, [], t, rfl, rfl, upd_same, by rw [sizeLine_eq]; decide, G6, qs ++ [(lastOf d.1, q, [d])], s12.trans s6, ?_, grp_new g rfl (by simpa [List.map_map] using z0), by simp⟩
          rw [upd_upd]
          have sp8 : Sep G6 ((q, lstC [DmT d]) :: (D, dkC ((qs.map fun q => (q.1, q.2.1)) ++ [(lastOf d.1, q)])) :: qs.map fun q => (q.2.1, lstC (q.2.2.map DmT))) (upd H7 q (.lst ([] ++ [t]))) :=
            .cons h7 hp7 ⟨_, rfl, by rw [sizeLine_eq]; show 1 ≤ 16777216; decide, .cons r6 .nil⟩
          refine sp8.perm ?_
          unfold qAs
          rw [List.map_append, List.map_append]
          refine (List.Perm.swap _ _ _).trans (List.Perm.cons _ ?_)
          exact (List.perm_append_singleton _ _).symm
        · rw [z2] at hv; cases hv)
/-- demands by the last cell they look at -/
def byT (ds : List Dm) : Ty := ⟨fun H v => ∃ a kvs, v = .ref a ∧ H a = some (.dK kvs) ∧ ∀ k : Int, (valV kvs (Sum.inl k) = none ∧ ds.filter (fun d => decide (lastOf d.1 = k)) = []) ∨ ∃ v, valV kvs (Sum.inl k) = some v ∧ (lsT ((ds.filter fun d => decide (lastOf d.1 = k)).map DmT)).R H v,
  fun H H' v s ⟨a, kvs, e, h, q⟩ => ⟨a, kvs, e, s _ _ h, fun k => by
    rcases q k with h | ⟨v, h1, h2⟩
    · exact .inl h
    · exact .inr ⟨v, h1, Ty.mono _ _ _ _ s h2⟩⟩⟩
theorem sep_at {G H : Hp} {A : Asd} (sp : Sep G A H) : ∀ {p : Addr} {C : Cn}, (p, C) ∈ A → ∃ o, H p = some o ∧ C.R G o := by
  induction sp with
  | nil => intro p C h; cases h
  | cons h hp hc ih =>
    intro p C hm
    rcases List.mem_cons.mp hm with e | hm
    · cases e; exact ⟨_, upd_same, hc⟩
    · obtain ⟨o, h1, h2⟩ := ih hm
      exact ⟨o, same_new hp _ _ h1, h2⟩
theorem by_end {G H : Hp} {D : Addr} {ds : List Dm} {qs : List Gq} (sp : Sep G (qAs D qs) H) (g : GrpOk ds qs) : (byT ds).R H (.ref D) := by
  obtain ⟨o, hD, hc⟩ := sep_at sp (p := D) (C := dkC (qs.map fun q => (q.1, q.2.1))) List.mem_cons_self
  cases (show o = _ from hc)
  refine ⟨D, _, rfl, hD, fun k => ?_⟩
  rcases valV_q k (qs.map fun q => (q.1, q.2.1)) with ⟨z1, z0⟩ | ⟨e1, b, e2, z1, z2⟩
  · refine .inl ⟨z1, ?_⟩
    rw [List.filter_eq_nil_iff]
    intro x hx z
    have := g.all x hx
    rw [of_decide_eq_true z] at this
    exact z0 (by simpa [List.map_map] using this)
  · refine .inr ⟨_, z2, ?_⟩
    obtain ⟨q1, qr, rfl, rfl, hr⟩ := List.map_eq_append_iff.mp z1
    obtain ⟨⟨k', b', it⟩, q2, rfl, he, rfl⟩ := List.map_eq_cons_iff.mp hr
    obtain ⟨he1, he2⟩ := Prod.mk.inj he
    have he1 : k' = k := he1
    have he2 : b' = b := he2
    subst k' b'
    obtain ⟨o, hb, xs, rfl, hz, hc⟩ := sep_at sp (p := b) (C := lstC (it.map DmT)) (List.mem_cons_of_mem _ (List.mem_map.mpr ⟨(k, b, it), by simp, rfl⟩))
    have := g.it (k, b, it) (by simp)
    simp only at this
    rw [← this]
    exact ⟨b, xs, rfl, hb, hz, pair_same sp.same hc⟩
section
variable {P : Program} {w : World} {K : PySem.W.Frag} {mg : Str → Option Value} {base : Heap}
theorem sc_by_last : FnScope ["demands", "found", "spots", "known"] ["demands"] (defScope s_by_last) := ⟨rfl, rfl, rfl, by decide +kernel, rfl, by decide +kernel, by decide +kernel⟩
def F_by_last : List Ty → Ty → Prop := fun Ts T => ∃ (ds : List Dm), Ts = [lsT (ds.map DmT)] ∧ ds.length ≤ 50000 ∧ (∀ d ∈ ds, d.1 ≠ []) ∧ T = byT ds
theorem ok_by_last {f fd} (Fu : FnD K "by_last" s_by_last f fd) (hm : mg "by_last" = some (.ref f)) (B : Bi mg) : Kn P w K mg base 1 "by_last" F_by_last := by
  refine kn_of Fu (fn_pure (o := .ret) Fu sc_by_last ?_ (.inl fun _ => rfl) ?_) hm (fun _ _ _ _ _ _ us hl => match us, hl with | [_], _ => rfl)
  · rintro _ _ ⟨ds, rfl, _, _, rfl⟩; rfl
  · rintro cdv A outer s H E hr _ _ ⟨ds, rfl, hl, hne, rfl⟩
    intro σ H D sl gg
    show SW _ (defBody s_by_last) D σ H
    refine sw_cons (s1_of (ps_set (i := 1) sc_by_last.nd rfl (.inl rfl) pe_dnewK) (fun p hp => ?_))
    have sl1 : Sl H (σ.set 1 (some (.ref p))) [some (lsT (ds.map DmT)), some (refT p), none, none] := sl.set (i := 1) (T := refT p) rfl
    refine sw_cons (s1_of (ps_for (g := gTup K 2 (gCons (gName 2) (gCons (gName 3) gNil))) PassesOwn.never rfl pi_iw (pg_tup (n := 2) rfl (pgs_cons (pgn 2 sc_by_last.nd) (pgs_cons (pgn 3 sc_by_last.nd) pgs_nil))) pss_sw)
      (sf_pure (src_lsM ([], []) (ev_var 0)) (A := qAs p []) _ H _ sl1 (.cons .nil hp rfl) _ fun J n H1 G1 hn s1 sp1 yl => ?_))
    subst hn
    refine ⟨fun i m σ' H' => i ≤ ds.length ∧ m = ds.length - i ∧ ∃ G' qs, Same G1 G' ∧ Sep G' (qAs p qs) H' ∧ GrpOk (ds.take i) qs ∧ qs.length ≤ i ∧ Sl G' σ' [some (lsT (ds.map DmT)), some (refT p), none, none], ⟨ds.length, Nat.zero_le _, rfl, G1, [], Same.refl _, sp1, ⟨by simp, by simp, by simp⟩, Nat.le_refl _, sl1.same s1⟩, ?_⟩
    rintro i m σ' H' ⟨hi, rfl, G', qs, sG, sp', g, hq, sl'⟩
    by_cases hlt : i < ds.length
    · obtain ⟨go, yi⟩ := yl.go i _ (sG.trans sp'.same) hlt
      refine .inr ⟨go, fun σ' H' => i + 1 ≤ ds.length ∧ ∃ G' qs, Same G1 G' ∧ Sep G' (qAs p qs) H' ∧ GrpOk (ds.take (i + 1)) qs ∧ qs.length ≤ i + 1 ∧ Sl G' σ' [some (lsT (ds.map DmT)), some (refT p), none, none], fun σ' H' ⟨h1, h2⟩ => ⟨ds.length - (i + 1), by omega, h1, rfl, h2⟩, fun x H2 y => ?_⟩
      obtain ⟨sy, Gx, a1, a2, a3, rx⟩ := yi x H2 y
      obtain ⟨G2, sp2, s2, k2⟩ := sp'.split sy
      have sx : Same Gx G2 := k2 Gx (fun q hq => a3 q.1 (sp'.off q hq).1 (sG.free (sp'.off q hq).2)) a2
      have ht : TgGo (gTup K 2 (gCons (gName 2) (gCons (gName 3) gNil))) [some (lsT (ds.map DmT)), some (refT p), none, none] (DmT (ds.getD i ([], []))) _ [2, 3] := tgo_tup (n := 2) (tgs_cons (tgs_cons tgs_nil))
      refine ht x σ' G2 H2 _ sp2.same (sl'.same s2) (Ty.mono _ _ _ _ sx rx) fun σ2 sl2 _ => ?_
      refine sw_one (s1_of (ps_expr pe_ew) (ew_mono (by_step (ds := ds.take i) (d := ds.getD i ([], [])) (ev_var 1) (ev_maxD B.max (ev_var 2) (ev_neg ev_int) (hne _ (getD_mem ds i _ hlt))) (ev_tupT (eva_cons (ev_var 2) (eva_cons (ev_var 3) eva_nil))) g (by omega) (by rw [List.length_take]; omega) ⟨rfl, rfl, rfl, rfl⟩ (sl := sl2) (sp := sp2)) fun v H3 ⟨G3, qs', s3, sp3, g3, hl3⟩ => ?_))
      refine ⟨hlt, G3, qs', (sG.trans s2).trans s3, sp3, ?_, by omega, (sl2.same s3).weak rfl ?_⟩
      · have e : ds.take (i + 1) = ds.take i ++ [ds.getD i ([], [])] := by
          rw [List.take_succ, List.getElem?_eq_getElem hlt, List.getD_eq_getElem?_getD, List.getElem?_eq_getElem hlt]; rfl
        rw [e]; exact g3
      · exact (le_keep (le_keep (le_drop (le_drop le_nil)))).2
    · have e : i = ds.length := by omega
      subst e
      refine .inl ⟨yl.stop _ _ (sG.trans sp'.same) (Nat.le_refl _), sw_one (b1_ret (T := byT ds) (ρ := [none, some (byT ds), none, none]) (ev_var 1) σ' H' D ?_ ?_)⟩
      · rw [List.take_length] at g
        obtain ⟨v, e1, e2⟩ := sl'.at_ 1 _ rfl
        cases (show v = .ref p from e2)
        have := (sl'.same sp'.same).put (i := 1) (T := byT ds) e1 (by_end sp' g)
        exact this.weak rfl (le_drop (le_keep (le_keep (le_keep le_nil)))).2
      · exact fun v H3 s3 r3 => gg v H3 (((s1.trans sG).trans sp'.same).trans s3) r3
end
end WD
set_option Elab.async false
set_option linter.all false
set_option maxRecDepth 100000
set_option maxHeartbeats 4000000
namespace WD
open PySem PySem.Spec PyProof.Rows L2
/-- a table passes the demands whose last cell is its last -/
def standsB (t : List Nat) (ds : List Dm) : Bool := (ds.filter fun d => decide (lastOf d.1 = (t.length : Int) - 1)).all fun d => decide (d.1.map (fun s => t.getD s 0) ∈ d.2)
/-- d.get(k, []) of such a dict -/
theorem ev_getBy {X : Cx} {a kE : Expr} {ρ : Rho} {p1 apos cpos : Pos} {ds : List Dm} {k : Int} (hu : X.A.units + 1 < cLine) (ha : EvE X a ρ (byT ds)) (hk : EvD X kE ρ (.int k)) (m : M2 X a "get" apos kE (.List [] p1) cpos := by exact ⟨rfl, rfl, rfl, rfl⟩) :
    EvE X (.Call (.Attribute a "get" apos) [kE, .List [] p1] [] cpos) ρ (lsT ((ds.filter fun d => decide (lastOf d.1 = k)).map DmT)) := fun σ H sl =>
  ew_of (pe_dget2 hu pe_ew pe_ew pe_ew m) (ew_mono (ha σ H sl) fun x H1 ⟨s1, r1⟩ => by
    obtain ⟨D, kvs, rfl, hD, hk1⟩ := r1
    refine ⟨D, rfl, .inl ⟨kvs, .inl hD⟩, ew_mono (hk σ H1 (sl.same s1)) fun y H2 ⟨s2, r2⟩ => ?_⟩
    cases (Rp.int_inv r2)
    refine ew_of (pe_lst pa_nil) ⟨Nat.zero_le _, fun q hq => ⟨_, DGet.k (k := Sum.inl k) (same_new hq _ _ (s2 _ _ hD)), (s1.trans s2).trans (same_new hq), ?_⟩⟩
    rcases hk1 k with ⟨h1, h2⟩ | ⟨v, h1, h2⟩
    · rw [h1, h2]
      exact ⟨q, [], rfl, upd_same, Nat.zero_le _, .nil⟩
    · rw [h1]
      exact Ty.mono _ _ _ _ (s2.trans (same_new hq)) h2)
section
variable {P : Program} {w : World} {K : PySem.W.Frag} {mg : Str → Option Value} {base : Heap}
theorem sc_stands : FnScope ["table", "demands", "spots", "known", "spot"] ["table", "demands"] (defScope s_stands) := ⟨rfl, rfl, rfl, by decide +kernel, rfl, by decide +kernel, by decide +kernel⟩
def F_stands : List Ty → Ty → Prop := fun Ts T => ∃ (t : List Nat) (ds : List Dm), Ts = [dD (dRow t), byT ds] ∧ t.length ≤ 1000 ∧ (∀ d ∈ ds, d.1.length ≤ 1000) ∧ T = dD (.bool (standsB t ds))
theorem ok_stands {f fd} (Fu : FnD K "stands" s_stands f fd) (hm : mg "stands" = some (.ref f)) (B : Bi mg) : Kn P w K mg base 1 "stands" F_stands := by
  refine kn_of Fu (fn_pure (o := .ret) Fu sc_stands ?_ (.inl fun _ => rfl) ?_) hm (fun _ _ _ _ _ _ us hl => match us, hl with | [_, _], _ => rfl)
  · rintro _ _ ⟨t, ds, rfl, _, _, rfl⟩; rfl
  · rintro cdv A outer s H E hr _ _ ⟨t, ds, rfl, htl, hsl, rfl⟩
    show Bs _ (defBody s_stands) [some (dD (dRow t)), some (byT ds), none, none, none] _
    generalize hfs : (ds.filter fun d => decide (lastOf d.1 = (t.length : Int) - 1)) = fs
    have hb : standsB t ds = fs.all fun d => decide (d.1.map (fun s => t.getD s 0) ∈ d.2) := by unfold standsB; rw [hfs]
    have hfm : ∀ d ∈ fs, d ∈ ds ∧ lastOf d.1 = (t.length : Int) - 1 := fun d hd => by
      rw [← hfs] at hd
      have := List.mem_filter.mp hd
      exact ⟨this.1, of_decide_eq_true this.2⟩
    refine bs_forOr (n := fs.length) (js := [2, 3]) (fun i => decide (((fs.getD i ([], [])).1.map (fun s => t.getD s 0)) ∈ (fs.getD i ([], [])).2)) (fun _ => dD (.bool false)) (fun i => [some (dD (dRow t)), some (byT ds), none, none, none]) _
      (src_lsM ([], []) (hfs ▸ ev_getBy (room1 hr) (ev_var 1) (ev_sub (i := (t.length : Int)) (j := 1) (ev_len (n := t.length) B.len (ev_var 0) (by simp [dRow, lenD])) ev_int))) (pg_tup (n := 2) rfl (pgs_cons (pgn 2 sc_stands.nd) (pgs_cons (pgn 3 sc_stands.nd) pgs_nil))) (fun i hi => tgo_tup (n := 2) (tgs_cons (tgs_cons tgs_nil)))
      (fun i hi => ?_) (fun h => ?_) (fun m hm h h' => ?_)
    · obtain ⟨hd1, hd2⟩ := hfm _ (getD_mem fs i ([], []) hi)
      have hlt : ∀ j, j < (fs.getD i ([], [])).1.length → (fs.getD i ([], [])).1.getD j 0 < t.length := fun j hj => by
        have := lastOf_le (fs.getD i ([], [])).1 _ (getD_mem _ j 0 hj)
        omega
      have hev : EvT (cxOf CX0 P w K mg base ["table", "demands", "spots", "known", "spot"] "stands" (defScope s_stands) f cdv A outer s H E).nox (match (defBody s_stands).getD 0 (.Pass ⟨0, 0, 0, 0⟩) with | .For _ _ ((.If c _ _ _) :: _) _ _ => c | _ => .Constant .none 0 ⟨0, 0, 0, 0⟩)
          (([some (dD (dRow t)), some (byT ds), none, none, none].set 2 (some (dD (dRow (fs.getD i ([], [])).1)))).set 3 (some (knownT (fs.getD i ([], [])).2))) (!decide (((fs.getD i ([], [])).1.map (fun s => t.getD s 0)) ∈ (fs.getD i ([], [])).2)) :=
        et_notinK (room1 hr) (r := (fs.getD i ([], [])).1.map fun s => t.getD s 0) (EvE.to (ev_tuple B.tuple (ev_lc (own := [("spot", 4)]) (js := [4]) (f := fun j => .int ((t.getD ((fs.getD i ([], [])).1.getD j 0) 0 : Nat) : Int)) sc_stands.nd (src_row (ev_var 2)) (blkOk_by (own := [("spot", 4)]) (N := ["table", "demands", "spots", "known", "spot"]) (sc := defScope s_stands) (by decide +kernel))
          (fun _ _ _ _ _ => pgn 4 sc_stands.nd) (by simp) (by have := hsl _ hd1; omega) (fun j hj => tgo_name) (fun j hj s0 H0 C' cl fp => ev_ixRow (ev_var 0) (ev_var 4) (hlt j hj)))) (by
            unfold dRow; rw [List.map_map]
            exact congrArg (fun l => dD (PyData.tuple l)) (map_range_getD (fs.getD i ([], [])).1 0 fun s => PyData.int ((t.getD s 0 : Nat) : Int)))) (ev_var 3)
      refine ⟨fun e => ?_, fun e => ?_⟩
      · refine bs_forget (bs_one (b1_skip hev (by rw [e]; rfl))) (le_keep (le_keep (le_drop (le_drop (le_keep le_nil)))))
      · exact bs_one (b1_then hev (by rw [e]; rfl) (bs_one (b1_ret ev_bl)))
    · have : standsB t ds = true := by
        rw [hb, List.all_eq_true]
        intro d hd
        obtain ⟨i, hi, rfl⟩ := List.mem_iff_getElem.mp hd
        have := h i hi
        rwa [List.getD_eq_getElem?_getD, List.getElem?_eq_getElem hi] at this
      rw [this]
      exact bs_one (b1_ret ev_bl)
    · have : standsB t ds = false := by
        rw [hb, Bool.eq_false_iff]
        intro z
        have := List.all_eq_true.mp z _ (getD_mem fs m ([], []) hm)
        rw [this] at h; cases h
      rw [this]
end
end WD
/-! the walk over the tables, cell by cell -/
namespace WD
def leaves (ok : List Nat → Bool) (n : Nat) : Nat → List Nat → List (List Nat)
  | 0, t => if ok t then [t] else []
  | k + 1, t => if ok t then (List.range n).flatMap (fun x => leaves ok n k (t ++ [x])) else []
def nodes (n : Nat) : Nat → Nat
  | 0 => 1
  | k + 1 => 1 + n * nodes n k
theorem nodes_pos (n : Nat) : ∀ k, 1 ≤ nodes n k
  | 0 => Nat.le_refl _
  | k + 1 => by show 1 ≤ 1 + _; omega
abbrev Stk := List (List Nat) × List (List Nat)
def stepK (ok : List Nat → Bool) (n c : Nat) (s : Stk) : Stk :=
  let t := s.1.getLast?.getD []
  if ok t = false then (s.1.dropLast, s.2)
  else if t.length < c then (s.1.dropLast ++ (List.range n).map (fun i => t ++ [n - 1 - i]), s.2)
  else (s.1.dropLast, s.2 ++ [t])
def todo (ok : List Nat → Bool) (n c : Nat) (ws : List (List Nat)) : List (List Nat) := ws.reverse.flatMap fun w => leaves ok n (c - w.length) w
def muK (n c : Nat) (s : Stk) : Nat := (s.1.map fun w => nodes n (c - w.length)).sum
structure InvK (ok : List Nat → Bool) (n c : Nat) (s : Stk) : Prop where
  len : ∀ w ∈ s.1, w.length ≤ c ∧ ∀ x ∈ w, x < n
  res : s.2 ++ todo ok n c s.1 = leaves ok n c []
  mu : muK n c s ≤ nodes n c
theorem rev_range {α : Type} (f : Nat → α) : ∀ n, ((List.range n).map fun i => f (n - 1 - i)).reverse = (List.range n).map f := by
  intro n
  apply List.ext_getElem
  · simp
  · intro i h1 h2
    have hi : i < n := by simpa using h2
    simp only [List.getElem_reverse, List.getElem_map, List.getElem_range, List.length_map, List.length_range]
    congr 1
    omega
theorem sum_const (n c : Nat) : ((List.range n).map fun _ => c).sum = n * c := by
  induction n with
  | zero => simp
  | succ n ih => rw [List.range_succ, List.map_append, List.sum_append, ih]; simp [Nat.succ_mul]
theorem len_le_mu {n c : Nat} (s : Stk) : s.1.length ≤ muK n c s := by
  obtain ⟨ws, fs⟩ := s
  show ws.length ≤ (ws.map _).sum
  induction ws with
  | nil => simp
  | cons w ws ih => have := nodes_pos n (c - w.length); simp only [List.length_cons, List.map_cons, List.sum_cons]; omega
theorem invK_start (ok : List Nat → Bool) (n c : Nat) : InvK ok n c ([[]], []) := ⟨by simp, by simp [todo], by simp [muK]⟩
theorem leaves_lt {ok : List Nat → Bool} {n c : Nat} {w : List Nat} (h : w.length < c) (hk : ok w = true) : leaves ok n (c - w.length) w = (List.range n).flatMap fun x => leaves ok n (c - (w.length + 1)) (w ++ [x]) := by
  have e : c - w.length = (c - (w.length + 1)) + 1 := by omega
  rw [e]
  show (if ok w = true then _ else _) = _
  rw [if_pos hk]
theorem leaves_no {ok : List Nat → Bool} {n k : Nat} {w : List Nat} (hk : ok w = false) : leaves ok n k w = [] := by
  cases k with
  | zero => show (if ok w = true then _ else _) = _; rw [hk]; rfl
  | succ k => show (if ok w = true then _ else _) = _; rw [hk]; rfl
theorem todo_snoc (ok : List Nat → Bool) (n c : Nat) (ws : List (List Nat)) (t : List Nat) : todo ok n c (ws ++ [t]) = leaves ok n (c - t.length) t ++ todo ok n c ws := by
  unfold todo; rw [List.reverse_append]; simp
theorem mu_snoc (n c : Nat) (ws fs : List (List Nat)) (t : List Nat) : muK n c (ws ++ [t], fs) = muK n c (ws, fs) + nodes n (c - t.length) := by
  unfold muK; simp
theorem invK_step {ok : List Nat → Bool} {n c : Nat} {ws fs : List (List Nat)} {t : List Nat} (h : InvK ok n c (ws ++ [t], fs)) : InvK ok n c (stepK ok n c (ws ++ [t], fs)) ∧ muK n c (stepK ok n c (ws ++ [t], fs)) < muK n c (ws ++ [t], fs) := by
  have ht := h.len t (by simp)
  have hw : ∀ w ∈ ws, w.length ≤ c ∧ ∀ x ∈ w, x < n := fun w hw => h.len w (by simp [hw])
  have hres := h.res
  have hmu := h.mu
  simp only at hres
  rw [todo_snoc] at hres
  rw [mu_snoc] at hmu
  unfold stepK
  simp only [List.getLast?_append, List.getLast?_singleton, Option.some_or, Option.getD_some, List.dropLast_concat]
  rw [mu_snoc]
  have hp := nodes_pos n (c - t.length)
  by_cases h1 : ok t = false
  · rw [if_pos h1]
    rw [leaves_no h1] at hres
    exact ⟨⟨hw, by simpa using hres, by omega⟩, by omega⟩
  · rw [if_neg h1]
    have h1' : ok t = true := by simpa using h1
    by_cases h2 : t.length < c
    · rw [if_pos h2]
      rw [leaves_lt h2 h1'] at hres
      have e : c - t.length = (c - (t.length + 1)) + 1 := by omega
      have hmu2 : muK n c (ws ++ (List.range n).map (fun i => t ++ [n - 1 - i]), fs) = muK n c (ws, fs) + n * nodes n (c - (t.length + 1)) := by
        unfold muK
        simp only [List.map_append, List.sum_append, List.map_map]
        congr 1
        rw [← sum_const]
        congr 1
        apply List.map_congr_left
        intro i _
        simp
      have hn : nodes n (c - t.length) = 1 + n * nodes n (c - (t.length + 1)) := by rw [e]; rfl
      refine ⟨⟨fun w hw' => ?_, ?_, ?_⟩, ?_⟩
      · rcases List.mem_append.mp hw' with q | q
        · exact hw w q
        · obtain ⟨i, hi, rfl⟩ := List.mem_map.mp q
          have hi := List.mem_range.mp hi
          refine ⟨by simp; omega, fun x hx => ?_⟩
          rcases List.mem_append.mp hx with z | z
          · exact ht.2 x z
          · have : x = n - 1 - i := by simpa using z
            omega
      · simp only
        rw [← hres]
        congr 1
        unfold todo
        rw [List.reverse_append, List.flatMap_append, rev_range (fun x => t ++ [x])]
        congr 1
        rw [List.flatMap_map]
        congr 1
        funext x
        simp
      · rw [hmu2]; omega
      · rw [hmu2]; omega
    · rw [if_neg h2]
      have e : c - t.length = 0 := by omega
      rw [e] at hres
      have e2 : leaves ok n 0 t = [t] := by show (if ok t = true then _ else _) = _; rw [if_pos h1']
      rw [e2] at hres
      have e3 : muK n c (ws, fs ++ [t]) = muK n c (ws, fs) := rfl
      exact ⟨⟨hw, by simpa using hres, by rw [e3]; omega⟩, by rw [e3]; omega⟩
end WD
set_option Elab.async false
set_option linter.all false
set_option maxRecDepth 100000
set_option maxHeartbeats 4000000
namespace WD
open PySem PySem.Spec PyProof.Rows L2
/-! ### defs with defaults -/
structure KnD (P : Program) (w : World) (K : PySem.W.Frag) (mg : Str → Option Value) (base : Heap) (k : Nat) (x : Str) (F : List Ty → Ty → Prop) (dvs : List V) : Prop where
  ex : ∃ (f : Addr) (fd : FuncData) (ps : List Str) (ds : List Value), FnOk P w K mg base CX0 k f fd ps (spR F) ∧ mg x = some (.ref f) ∧ PySem.W.keepIn K (.ref f) = true ∧ Binds K fd ps ds ∧ Vals dvs ds
section
variable {X : Cx} {e a b c : Expr} {es : List Expr} {ρ ρ' : Rho} {T : Ty} {pos p' : Pos} {A B : Asd}
theorem ev_callD {x : Str} {F : List Ty → Ty → Prop} {k : Nat} {Ts Us : List Ty} {dvs : List V} (h : KnD X.prog X.w X.K X.mg X.base k x F dvs) (hr : Room k X.A) (ha : EvA X (a :: es) ρ Ts) (hU : ∀ H, Paired (fun v (T : Ty) => T.R H v) dvs Us) (hF : F (Ts ++ Us) T) (hg : Gl X x := by rfl) (hdb : (x == ("__debug__" : Str)) = false := by decide)
    (he : starEach (a :: es) X.env = (false, eval a X.env) :: starEach es X.env := by rfl) (hpl : (backTo pos (starEach es X.env)).any (·.1) = false := by rfl) : EvE X (.Call (.Name x p') (a :: es) [] pos) ρ T := by
  obtain ⟨f, fd, ps, ds, G, hm, kp, hb, hd⟩ := h.ex
  exact fun σ H sl => ew_of (pe_call G hr hg hm kp hb hd pass0 pa_aw hdb he hpl) (aw_mono (ha σ H sl) fun vs H1 ⟨s1, r1⟩ => ⟨Ts ++ Us, T, paired_app r1 (hU H1), hF, fun v H2 s2 r2 => ⟨s1.trans s2, r2⟩⟩)
theorem view_perm (h : View ρ B ρ') (w : A.Perm B) : View ρ A ρ' := fun σ G H sl sp => h σ G H sl (sp.perm w)
end
def dRels (rels : List Rel) : PyData := .list (rels.map dRel)
def rowT (r : List Nat) : Ty := dD (dRow r)
theorem rowT_map (rs : List (List Nat)) : rs.map rowT = (rs.map dRow).map dD := by rw [List.map_map]; rfl
def demsAll (n p : Nat) (rels : List Rel) : List Dm := rels.flatMap (dems n p)
theorem dems_len (n p : Nat) (rel : Rel) : (dems n p rel).length ≤ rel.2.length ^ p := by unfold dems; rw [List.length_map]; exact ksOf_len _ _ _ _ _
/-- the tables that keep all, in order -/
def kept (n p : Nat) (rels : List Rel) : List (List Nat) := leaves (fun t => standsB t (demsAll n p rels)) n (n ^ p) []
structure RelsOk (n p : Nat) (rels : List Rel) : Prop where
  few : rels.length ≤ 20
  ok : ∀ r ∈ rels, RelOk n r ∧ 1 ≤ r.1 ∧ r.2.length ^ p ≤ 1000
structure SizeOk (n p : Nat) : Prop where
  n0 : 0 < n
  n9 : n ≤ 9
  p1 : 1 ≤ p
  p3 : p ≤ 3
  many : n ^ (n ^ p) ≤ 20000
  nodes : nodes n (n ^ p) ≤ 40000
section
variable {P : Program} {w : World} {K : PySem.W.Frag} {mg : Str → Option Value} {base : Heap}
theorem sc_keeping : FnScope ["size", "relations", "places", "most", "relation", "demands", "found", "waiting", "table", "one"] ["size", "relations", "places", "most"] (defScope s_keeping) := ⟨rfl, rfl, rfl, by decide +kernel, rfl, by decide +kernel, by decide +kernel⟩
def F_keeping : List Ty → Ty → Prop := fun Ts T => ∃ (n p : Nat) (rels : List Rel), Ts = [nt n, dD (dRels rels), nt p, nt 2000] ∧ SizeOk n p ∧ RelsOk n p rels ∧ (kept n p rels).length ≤ 2000 ∧ T = dD (dRows (kept n p rels))
def wAs (W F : Addr) (s : Stk) : Asd := [(W, lstC (s.1.map rowT)), (F, lstC (s.2.map rowT))]
theorem dems_take (n p : Nat) (rels : List Rel) (i : Nat) (hi : i < rels.length) : demsAll n p (rels.take (i + 1)) = demsAll n p (rels.take i) ++ dems n p (rels.getD i (0, [])) := by
  unfold demsAll
  rw [List.take_succ, List.getElem?_eq_getElem hi, List.getD_eq_getElem?_getD, List.getElem?_eq_getElem hi]
  show List.flatMap (dems n p) (rels.take i ++ [rels[i]]) = _
  rw [List.flatMap_append, List.flatMap_singleton]
  rfl
theorem demsAll_len {n p : Nat} {rels : List Rel} (h : ∀ r ∈ rels, r.2.length ^ p ≤ 1000) : (demsAll n p rels).length ≤ rels.length * 1000 := by
  induction rels with
  | nil => simp [demsAll]
  | cons r rels ih =>
    have h1 := ih fun r hr => h r (List.mem_cons_of_mem _ hr)
    have h2 := dems_len n p r
    have h3 := h r List.mem_cons_self
    have e : demsAll n p (r :: rels) = dems n p r ++ demsAll n p rels := by simp [demsAll]
    rw [e, List.length_append, List.length_cons]
    omega
theorem fn_pureD {x qual : Str} {params : Arguments} {body : List Stmt} {scope : Scope} {dvs : List V} {kws : List (Str × V)} {f : Addr} {fd : FuncData} {N ps : List Str} {k : Nat} {F : List Ty → Ty → Prop}
    (Fu : FunD K x qual params body scope dvs kws f fd) (S : FnScope N ps scope) (hl : ∀ Ts T, F Ts T → Ts.length = ps.length)
    (hb : ∀ (cdv : Value) (A : Around) (outer : List Env) (s : Shared) (H : Hp) (E : XK), Room k (A.deeper (envOfC qual scope s.heap.objs.size f cdv)) → ∀ Ts T, F Ts T → Bs (cxOf CX0 P w K mg base N qual scope f cdv A outer s H E).nox body (Ts.map some ++ List.replicate (N.length - Ts.length) none) (.ret T)) :
    FnOk P w K mg base CX0 (k + 1) f fd ps (spR F) := by
  refine Fu.ok S (fun vs H Q E h => ?_) fun cdv A outer s H vs Q E hr h => ?_
  · obtain ⟨Ts, T, hp, hF, _⟩ := h
    rw [Paired.length hp]; exact hl _ _ hF
  · obtain ⟨Ts, T, hp, hF, hQ⟩ := h
    exact ⟨_, PSs.nox pss_sw, hb cdv A outer s H E hr Ts T hF _ H _ (sl_start hp) hQ⟩
theorem ok_keeping_fn {f fd} (Fu : FunD K "keeping" "keeping" (defArgs s_keeping) (defBody s_keeping) (defScope s_keeping) [.int 2000] [] f fd) (B : Bi mg) (C : Co mg) (h1 : Kn P w K mg base 1 "is_whole" F_is_whole) (h2 : Kn P w K mg base 4 "check_relation" F_check_relation) (h3 : Kn P w K mg base 2 "check_many" F_check_many)
    (h4 : Kn P w K mg base 2 "demands_of" F_demands_of) (h5 : Kn P w K mg base 1 "by_last" F_by_last) (h6 : Kn P w K mg base 1 "stands" F_stands) (h7 : Kn P w K mg base 1 "cells" F_cells) : FnOk P w K mg base CX0 5 f fd ["size", "relations", "places", "most"] (spR F_keeping) := by
  refine fn_pureD Fu sc_keeping ?_ ?_
  · rintro _ _ ⟨n, p, rels, rfl, _⟩; rfl
  · rintro cdv A outer s H E hr _ _ ⟨n, p, rels, rfl, so, ro, hk, rfl⟩
    have hr1 : Room 1 _ := hr.mono (by decide)
    have hr2 : Room 2 _ := hr.mono (by decide)
    have hn9 := so.n9
    have hn0 := so.n0
    have hp1 := so.p1
    have hp3 := so.p3
    have hfew := ro.few
    have hnp : n ^ p ≤ 729 := (⟨hn0, hn9, hp3, List.length_replicate (n := n ^ p) (a := 0), fun x hx => by rw [List.eq_of_mem_replicate hx]; exact hn0⟩ : DeedOk n p (List.replicate (n ^ p) 0)).small
    refine bs_of ?_
    show BF _ (defBody s_keeping) [some (nt n), some (dD (dRels rels)), some (nt p), some (nt 2000), none, none, none, none, none, none] [] _
    refine bf_cons (b1f_skip (et_w (ew_or (p := false) (q := false) (et_not (p := true) (et_val (ev_call h1 hr1 (eva_cons (ev_var 2) eva_nil) ⟨_, rfl, rfl⟩))) fun _ => ew_or1 (et_not (p := true) ((et_chain2 op_le op_le ev_int (ev_var 2) (ev_gint C.places)).to (by simp; omega))))) rfl) ?_
    refine bf_cons (b1f_skip (et_not (p := true) (et_val (ev_isi "list" "list" true B.isi (ev_var 1) (ev_bty B.list)))) rfl) ?_
    refine bf_cons (b1f_for (n0 := rels.length) (js := [4]) (ρ' := [some (nt n), some (dD (dRels rels)), some (nt p), some (nt 2000), none, none, none, none, none, none]) (A' := []) (fun i => [some (nt n), some (dD (dRels rels)), some (nt p), some (nt 2000), none, none, none, none, none, none]) _ (fun _ => [])
      (sf_pure (src_congr (src_len (src_list (ds := rels.map dRel) (ev_var 1)) (by simp)) fun i hi => by rw [getD_map dRel rels i (0, []) _ hi])) (pgn 4 sc_keeping.nd) (fun m h => Nat.le_of_eq h) (fun i hi => tgo_name) (fun i hi => .inl ?_) (fun m h => ⟨le_refl, wk_refl⟩)) ?_
    · exact bf_forget (bf_one (b1f_expr (ef_pure (ev_call h2 hr (eva_cons (ev_var 0) (eva_cons (ev_var 4) eva_nil)) ⟨n, _, rfl, (ro.ok _ (getD_mem rels i _ hi)).1, rfl⟩)))) (le_keep (le_keep (le_keep (le_keep (le_drop (le_keep (le_keep (le_keep (le_keep (le_keep le_nil))))))))))
    refine bf_cons (b1f_expr (ef_pure (ev_call h3 hr2 (eva_cons (ev_var 0) (eva_cons (ev_var 2) eva_nil)) ⟨n, p, rfl, hn0, hn9, hp3, so.many, rfl⟩))) ?_
    refine bf_new 5 af_nil (by simp) (fun L => ?_) sc_keeping.nd
    have hlen : ∀ i, i ≤ rels.length → (demsAll n p (rels.take i)).length ≤ 20000 := fun i hi => by
      have := demsAll_len (n := n) (p := p) (rels := rels.take i) fun r hr => (ro.ok r (List.mem_of_mem_take hr)).2.2
      rw [List.length_take] at this
      have : min i rels.length ≤ 20 := by omega
      omega
    refine bf_cons (b1f_for (n0 := rels.length) (js := [4]) (ρ' := [some (nt n), some (dD (dRels rels)), some (nt p), some (nt 2000), none, some (refT L), none, none, none, none]) (A' := [(L, lstC ((demsAll n p rels).map DmT))]) (fun i => [some (nt n), some (dD (dRels rels)), some (nt p), some (nt 2000), none, some (refT L), none, none, none, none]) _ (fun i => [(L, lstC ((demsAll n p (rels.take i)).map DmT))])
      (sf_pure (src_congr (src_len (src_list (ds := rels.map dRel) (ev_var 1)) (by simp)) fun i hi => by rw [getD_map dRel rels i (0, []) _ hi])) (pgn 4 sc_keeping.nd) (fun m h => Nat.le_of_eq h) (fun i hi => tgo_name) (fun i hi => .inl ?_) (fun m h => by subst h; rw [List.take_length]; exact ⟨le_refl, wk_refl⟩)) ?_
    · obtain ⟨k1, k2, k3⟩ := ro.ok _ (getD_mem rels i (0, []) hi)
      have hl1 := hlen (i + 1) hi
      rw [dems_take n p rels i hi, List.length_append] at hl1
      rw [dems_take n p rels i hi, List.map_append]
      exact bf_forget (bf_one (b1f_expr (ef_extend (ev_var 5) (ef_pure (ev_call h4 hr2 (eva_cons (ev_var 0) (eva_cons (ev_var 2) (eva_cons (ev_var 4) eva_nil))) ⟨n, p, _, rfl, hn0, hn9, hp1, hp3, k1, by omega, rfl⟩)) (by rw [List.length_map, List.length_map]; omega)))) (le_keep (le_keep (le_keep (le_keep (le_drop (le_keep (le_keep (le_keep (le_keep (le_keep le_nil))))))))))
    refine bf_freeze 5 ?_
    have hda := hlen rels.length (Nat.le_refl _)
    rw [List.take_length] at hda
    have hdm : ∀ d ∈ demsAll n p rels, ∃ r ∈ rels, ∃ j, d.1 = spotsAt n p r.2 r.1 j := fun d hd => by
      obtain ⟨r, hr, hd⟩ := List.mem_flatMap.mp hd
      obtain ⟨x, hx, rfl⟩ := List.mem_map.mp hd
      obtain ⟨j, _, rfl⟩ := ksOf_mem.mp hx
      exact ⟨r, hr, j, rfl⟩
    have hne : ∀ d ∈ demsAll n p rels, d.1 ≠ [] := fun d hd => by
      obtain ⟨r, hr, j, e⟩ := hdm d hd
      have := (ro.ok r hr).2.1
      rw [e]
      intro z
      have z2 := congrArg List.length z
      simp [spotsAt] at z2
      omega
    refine bf_cons (b1f_set 5 (ef_pure (ev_call h5 hr1 (eva_cons (ev_var 5) eva_nil) ⟨demsAll n p rels, rfl, by omega, hne, rfl⟩)) sc_keeping.nd) ?_
    have hdl : ∀ d ∈ demsAll n p rels, d.1.length ≤ 1000 := fun d hd => by
      obtain ⟨r, hr, j, e⟩ := hdm d hd
      have := (ro.ok r hr).1.wide
      rw [e]; simp [spotsAt]; omega
    refine bf_new 6 af_nil (by simp) (fun Fa => ?_) sc_keeping.nd
    refine bf_new 7 (Ys := [rowT []]) (af_cons (ef_pure (ev_tup evl_nil)) af_nil) (by simp) (fun Wa => ?_) sc_keeping.nd
    generalize hds : demsAll n p rels = ds at *
    have hK : kept n p rels = leaves (fun t => standsB t ds) n (n ^ p) [] := by unfold kept; rw [hds]
    rw [hK] at hk ⊢
    refine bf_while (ι := Stk) (ρ := [some (nt n), some (dD (dRels rels)), some (nt p), some (nt 2000), none, some (byT ds), some (refT Fa), some (refT Wa), none, none]) (InvK (fun t => standsB t ds) n (n ^ p)) (muK n (n ^ p)) (fun s => !decide (s.1 = [])) (stepK (fun t => standsB t ds) n (n ^ p)) (wAs Wa Fa) ([[]], []) (invK_start _ _ _) (fun s hs => ?_) (fun s hs hc => ?_) (fun s hs hc => ?_)
    · exact tf_view (et_neR hr.units (rs := s.1) (ss := []) (ev_var 7) ev_noRows) (fun σ G H sl sp => view_data (i := 7) (ds := s.1.map dRow) rfl σ G H sl (by unfold wAs at sp; rw [rowT_map] at sp; exact sp))
    · obtain ⟨ws, fs⟩ := s
      have hne : ws ≠ [] := by simpa using hc
      obtain ⟨w', t, rfl⟩ : ∃ w' t, ws = w' ++ [t] := ⟨_, _, (List.dropLast_concat_getLast hne).symm⟩
      obtain ⟨i1, i2⟩ := invK_step hs
      refine ⟨i1, i2, ?_⟩
      have ht := hs.len t (by simp)
      have hws : w'.length + 1 ≤ 40000 := by
        have h1 := len_le_mu (n := n) (c := n ^ p) (w' ++ [t], fs)
        have h2 := hs.mu
        have h3 := so.nodes
        simp at h1
        omega
      have hmap : (w' ++ [t]).map rowT = w'.map rowT ++ [rowT t] := by simp
      have hpop : wAs Wa Fa (w' ++ [t], fs) = (Wa, lstC (w'.map rowT ++ [rowT t])) :: [(Fa, lstC (fs.map rowT))] := by unfold wAs; rw [hmap]
      rw [hpop]
      have hst : stepK (fun t => standsB t ds) n (n ^ p) (w' ++ [t], fs) = if standsB t ds = false then (w', fs) else if t.length < n ^ p then (w' ++ (List.range n).map (fun i => t ++ [n - 1 - i]), fs) else (w', fs ++ [t]) := by
        unfold stepK
        simp only [List.getLast?_append, List.getLast?_singleton, Option.some_or, Option.getD_some, List.dropLast_concat]
      have hstand : ∀ {b}, standsB t ds = b → EvT (cxOf CX0 P w K mg base ["size", "relations", "places", "most", "relation", "demands", "found", "waiting", "table", "one"] "keeping" (defScope s_keeping) f cdv A outer s H E).nox (match (defBody s_keeping).getD 9 (.Pass ⟨0, 0, 0, 0⟩) with | .While _ (_ :: (.If c _ _ _) :: _) _ _ => c | _ => .Constant .none 0 ⟨0, 0, 0, 0⟩)
          [some (nt n), some (dD (dRels rels)), some (nt p), some (nt 2000), none, some (byT ds), some (refT Fa), some (refT Wa), some (rowT t), none] (!b) := fun {b} e => by
        subst e
        exact et_not (et_val (ev_call h6 hr1 (eva_cons (ev_var 8) (eva_cons (ev_var 5) eva_nil)) ⟨t, ds, rfl, by omega, hdl, rfl⟩))
      have hcell : EvT (cxOf CX0 P w K mg base ["size", "relations", "places", "most", "relation", "demands", "found", "waiting", "table", "one"] "keeping" (defScope s_keeping) f cdv A outer s H E).nox (match (defBody s_keeping).getD 9 (.Pass ⟨0, 0, 0, 0⟩) with | .While _ (_ :: _ :: (.If c _ _ _) :: _) _ _ => c | _ => .Constant .none 0 ⟨0, 0, 0, 0⟩)
          [some (nt n), some (dD (dRels rels)), some (nt p), some (nt 2000), none, some (byT ds), some (refT Fa), some (refT Wa), some (rowT t), none] (decide ((t.length : Int) < ((n ^ p : Nat) : Int))) :=
        et_lt (ev_len (d := dRow t) (n := t.length) B.len (ev_var 8) (by simp [dRow, lenD])) (ev_call h7 hr1 (eva_cons (ev_var 0) (eva_cons (ev_var 2) eva_nil)) ⟨n, p, rfl, by omega, by omega, rfl⟩)
      rw [hst]
      by_cases q1 : standsB t ds = false
      · rw [if_pos q1]
        refine .inr (bf_cons (b1f_set 8 (ef_pop (ev_var 7)) sc_keeping.nd) ?_)
        refine bf_stop (o := .cont _ _) ?_ rfl
        intro σ G H D sl sp g
        refine b1f_then (hstand q1) rfl (bf_one b1f_cont) σ G H D sl sp ?_
        exact fun σ' G' H' s' sp' sl' => g σ' G' H' s' sp' (sl'.weak rfl (le_keep (le_keep (le_keep (le_keep (le_keep (le_keep (le_keep (le_keep (le_drop (le_keep le_nil)))))))))).2)
      · rw [if_neg q1]
        have q1' : standsB t ds = true := by simpa using q1
        by_cases q2 : t.length < n ^ p
        · rw [if_pos q2]
          refine .inr (bf_cons (b1f_set 8 (ef_pop (ev_var 7)) sc_keeping.nd) (bf_cons (b1f_skip (hstand q1') rfl) ?_))
          refine bf_stop (o := .cont _ _) ?_ rfl
          intro σ G H D sl sp g
          refine b1f_then hcell (decide_eq_true (by omega)) (bf_cons (b1f_expr (ef_extend (Zs := ((List.range n).map fun i => t ++ [n - 1 - i]).map rowT) (ev_var 7) (ef_pure ?_) (by simp; omega))) (bf_one b1f_cont)) σ G H D sl sp ?_
          · refine EvE.to (EvE.imp (U := lsT (((List.range n).map fun i => dRow (t ++ [n - 1 - i])).map dD)) (ev_lc (own := [("one", 9)]) (js := [9]) sc_keeping.nd (src_down (n := n) B.range (ev_sub (i := (n : Int)) (j := 1) (ev_var 0) ev_int) (ev_neg ev_int) (ev_neg ev_int) (by omega)) (blkOk_by (own := [("one", 9)]) (N := ["size", "relations", "places", "most", "relation", "demands", "found", "waiting", "table", "one"]) (sc := defScope s_keeping) (by decide +kernel))
              (fun _ _ _ _ _ => pgn 9 sc_keeping.nd) (by simp) (by omega) (fun j hj => tgo_name) (fun j hj s0 H0 C' cl fp => (ev_cat (ds := t.map fun (n : Nat) => PyData.int (n : Int)) (es' := [.int ((n : Int) - 1 - j)]) (ev_var 8) (ev_tup (evl_cons (ev_var 9) evl_nil)) (by simp; omega)).to (by
                have : ((n : Int) - 1 - j) = ((n - 1 - j : Nat) : Int) := by omega
                rw [this]; simp [dRow]))) fun H v h => data_lsT h) (by simp [List.map_map, Function.comp_def, rowT])
          · refine fun σ' G' H' s' sp' sl' => g σ' G' H' s' ?_ (sl'.weak rfl (le_keep (le_keep (le_keep (le_keep (le_keep (le_keep (le_keep (le_keep (le_drop (le_keep le_nil)))))))))).2)
            unfold wAs
            rw [List.map_append]
            exact sp'
        · rw [if_neg q2]
          have hfl : fs.length + 1 ≤ 2000 := by
            have h1 := hs.res
            rw [todo_snoc] at h1
            have e2 : leaves (fun t => standsB t ds) n (n ^ p - t.length) t = [t] := by
              have : n ^ p - t.length = 0 := by omega
              rw [this]
              show (if standsB t ds = true then _ else _) = _
              rw [if_pos q1']
            rw [e2] at h1
            have h2 := congrArg List.length h1
            simp at h2
            omega
          refine .inl (bf_cons (b1f_set 8 (ef_pop (ev_var 7)) sc_keeping.nd) (bf_cons (b1f_skip (hstand q1') rfl) (bf_cons (b1f_skip hcell (decide_eq_false (by omega))) ?_)))
          refine bf_cons (b1f_skipF (Aa := _) (tf_view (b := false) ((et_eqI (i := (fs.length : Int)) (j := 2000) (ev_len (d := dRows fs) (n := fs.length) B.len (ev_var 6) (by simp [dRows, lenD])) (ev_var 3)).to (decide_eq_false (by omega))) (view_perm (view_data (i := 6) (ds := fs.map dRow) (p := Fa) rfl) (by rw [← rowT_map]; exact List.Perm.swap _ _ _)))) ?_
          refine bf_forget (bf_one (b1f_expr (ef_perm (ef_append (Ys := fs.map rowT) (T := rowT t) (ev_var 6) (ef_pure (ev_var 8)) (by simp; omega)) (List.Perm.swap _ _ _) ?_))) (le_keep (le_keep (le_keep (le_keep (le_keep (le_keep (le_keep (le_keep (le_drop (le_keep le_nil))))))))))
          unfold wAs
          rw [List.map_append]
          exact List.Perm.swap _ _ _
    · obtain ⟨ws, fs⟩ := s
      have e0 : ws = [] := by simpa using hc
      subst e0
      have hr := hs.res
      simp only [todo] at hr
      have hr : fs = leaves (fun t => standsB t ds) n (n ^ p) [] := by simpa using hr
      subst hr
      refine bf_perm (B := [(Fa, lstC ((leaves (fun t => standsB t ds) n (n ^ p) []).map rowT)), (Wa, lstC [])]) ?_ (List.Perm.swap _ _ _)
      rw [rowT_map]
      refine bf_freezeD 6 (bf_freeze 7 (bf_one (b1f_ret (ef_pure (ev_var 6)))))
end
end WD
set_option Elab.async false
set_option linter.all false
set_option maxRecDepth 100000
set_option maxHeartbeats 4000000
namespace WD
open PySem PySem.Spec PyProof.Rows L2
/-! ### houses -/
abbrev Dd := Str × Nat × List Nat
def dDd (d : Dd) : PyData := dDeed d.1 d.2.1 d.2.2
/-- the dict of the deeds by their names -/
def bnT (ds : List Dd) : Ty := ⟨fun H v => ∃ D kvs, v = .ref D ∧ H D = some (.dK kvs) ∧ Paired (fun (kv : Key × V) (d : Dd) => kv.1 = Sum.inr d.1 ∧ Rp H kv.2 (dDd d)) kvs ds, fun H H' v s ⟨D, kvs, e, h, q⟩ => ⟨D, kvs, e, s _ _ h, Paired.mapP q fun _ _ q => ⟨q.1, q.2.same s⟩⟩⟩
def HouseT (C : Addr) (n : Nat) (ds : List Dd) : Ty := ⟨fun H v => ∃ a dx u, v = .ref a ∧ H a = some (.ins C dx [("size", .int (n : Int)), ("by_name", u)]) ∧ (bnT ds).R H u, fun H H' v s ⟨a, dx, u, e, h, q⟩ => ⟨a, dx, u, e, s _ _ h, (bnT ds).mono _ _ _ s q⟩⟩
structure HsK (K : PySem.W.Frag) (C : Addr) : Prop where
  c : Cls K C
  ns : NoAttr K C "size"
  nb : NoAttr K C "by_name"
theorem house_ins {C : Addr} {n : Nat} {ds : List Dd} {m : Str} (h1 : (m == ("size" : Str)) = false := by decide) (h2 : (m == ("by_name" : Str)) = false := by decide) : insT C m (HouseT C n ds) := fun H v ⟨a, dx, u, e, h, _⟩ => ⟨a, dx, _, e, h, by
  show List.lookup m [(("size" : Str), V.int (n : Int)), (("by_name" : Str), u)] = none
  simp [List.lookup, h1, h2]⟩
section
variable {X : Cx} {a b : Expr} {ρ : Rho} {pos p' : Pos} {C : Addr} {n : Nat} {ds : List Dd}
theorem ev_size (hk : HsK X.K C) (ha : EvE X a ρ (HouseT C n ds)) (hb : attributeBase a "size" X.env (eval a X.env) = eval a X.env := by rfl) : EvE X (.Attribute a "size" pos) ρ (nt n) := ev_fld ha (fun H v ⟨q, dx, u, e, h, _⟩ => ⟨q, C, dx, _, .int (n : Int), e, h, hk.c, hk.ns, rfl, .int _⟩) hb
theorem ev_byname (hk : HsK X.K C) (ha : EvE X a ρ (HouseT C n ds)) (hb : attributeBase a "by_name" X.env (eval a X.env) = eval a X.env := by rfl) : EvE X (.Attribute a "by_name" pos) ρ (bnT ds) := ev_fld ha (fun H v ⟨q, dx, u, e, h, r⟩ => ⟨q, C, dx, _, u, e, h, hk.c, hk.nb, rfl, r⟩) hb
theorem ev_names (hm : X.mg "list" = none) (ha : EvE X a ρ (bnT ds)) (hl : ds.length ≤ 1000) (hc : X.calm = true := by rfl) (hg : Gl X "list" := by rfl) (he : starEach (a :: []) X.env = (false, eval a X.env) :: starEach [] X.env := by rfl) (hpl : (backTo pos (starEach [] X.env)).any (·.1) = false := by rfl) : EvD X (.Call (.Name "list" p') [a] [] pos) ρ (.list (ds.map fun d => .str d.1)) :=
  ev_ct1 (call_listD hc) hm (by decide +kernel) ha (fun v H Q r k => by
    obtain ⟨D, kvs, rfl, hD, hp⟩ := r
    refine ⟨D, kvs, rfl, .inl hD, fun p hp' => k _ _ (same_new hp') (Rp.lst_new hp' (by rw [List.length_map, Paired.length hp]; exact small_line (by omega)) ?_)⟩
    have go : ∀ {kvs : List (Key × V)} {ds : List Dd}, Paired (fun (kv : Key × V) (d : Dd) => kv.1 = Sum.inr d.1 ∧ Rp H kv.2 (dDd d)) kvs ds → Paired (fun v d => Rp H v d) (kvs.map fun kv => kV kv.1) (ds.map fun d => PyData.str d.1) := by
      intro kvs ds h
      induction h with
      | nil => exact .nil
      | @cons kv d _ _ r t ih => exact .cons (by show Rp H (kV kv.1) (.str d.1); rw [r.1]; exact .str _) ih
    exact go hp) hg (by decide) (by decide) he hpl
theorem valV_bn {H : Hp} {z : Str} : ∀ {kvs : List (Key × V)} {ds : List Dd} {d : Dd}, Paired (fun (kv : Key × V) (d : Dd) => kv.1 = Sum.inr d.1 ∧ Rp H kv.2 (dDd d)) kvs ds → ds.find? (fun d => decide (d.1 = z)) = some d → ∃ v, valV kvs (Sum.inr z : Key) = some v ∧ Rp H v (dDd d)
  | _, _, _, .nil, h => by cases h
  | _, _, _, .cons (a := kv) (b := e) r t, h => by
    rw [List.find?_cons] at h
    by_cases q : e.1 = z
    · rw [decide_eq_true q] at h
      cases h
      exact ⟨kv.2, valV_pos (by rw [r.1, q]), r.2⟩
    · rw [decide_eq_false q] at h
      obtain ⟨v, h1, h2⟩ := valV_bn t h
      exact ⟨v, by rw [valV_neg (by rw [r.1]; exact fun w => q (Sum.inr.inj w))]; exact h1, h2⟩
theorem et_notinB {z : Str} {d : Dd} (hu : X.A.units + 1 < cLine) (ha : EvD X a ρ (.str z)) (hb : EvE X b ρ (bnT ds)) (hf : ds.find? (fun d => decide (d.1 = z)) = some d) (hm : behindInMarks .NotIn b = false := by rfl) : EvT X (.Compare a [.NotIn] [b] pos) ρ false := fun σ H sl =>
  tw_of (pt_cmp (pc_dnotin hu pe_ew pe_ew) hm) (ew_mono (ha σ H sl) fun x H1 ⟨s1, r1⟩ => ew_mono (hb σ H1 (sl.same s1)) fun y H2 ⟨s2, r2⟩ => by
    obtain ⟨D, kvs, rfl, hD, hp⟩ := r2
    cases (Rp.str_inv r1)
    obtain ⟨v, h1, h2⟩ := valV_bn hp hf
    refine ⟨D, _, rfl, DGet.k (k := Sum.inr z) hD, _, rfl, s1.trans s2, ?_⟩
    rw [h1]; rfl)
theorem ev_getB {z : Str} {d : Dd} (hu : X.A.units + 1 < cLine) (ha : EvE X a ρ (bnT ds)) (hb : EvD X b ρ (.str z)) (hf : ds.find? (fun d => decide (d.1 = z)) = some d) (hs : NoSl b := by exact fun _ _ => rfl) : EvD X (.Subscript a b pos) ρ (dDd d) := fun σ H sl =>
  ew_of (pe_dget hu pe_ew pe_ew hs) (ew_mono (ha σ H sl) fun x H1 ⟨s1, r1⟩ => ew_mono (hb σ H1 (sl.same s1)) fun y H2 ⟨s2, r2⟩ => by
    obtain ⟨D, kvs, rfl, hD, hp⟩ := (bnT ds).mono _ _ _ s2 r1
    cases (Rp.str_inv r2)
    obtain ⟨v, h1, h2⟩ := valV_bn hp hf
    exact ⟨D, v, rfl, by rw [← h1]; exact DGet.k (k := Sum.inr z) hD, s1.trans s2, h2⟩)
end
section
variable {P : Program} {w : World} {K : PySem.W.Frag} {mg : Str → Option Value} {base : Heap} {C : Addr}
theorem km_of {m qual : Str} {params : Arguments} {body : List Stmt} {scope : Scope} {f : Addr} {fd : FuncData} {ps : List Str} {k : Nat} {F : List Ty → Ty → Prop}
    (Fu : FunD K m qual params body scope [] [] f fd) (c : Cls K C) (me : Meth K C m f) (h : FnOk P w K mg base CX0 k f fd ps (spR F)) (hb : ∀ (kV doc pm : Value) (an : Option Addr) (cdv ct : Value) (us : List Value), us.length = ps.length → bindArgs (PySem.W.fnOf m qual params body scope .none kV doc pm an cdv ct) ⟨us, []⟩ = pure (ps.zip us)) : Km P w K mg base k C m F :=
  ⟨⟨f, fd, ps, [], c, me, h, Fu.bindsN hb, .nil⟩⟩
abbrev MtD (K : PySem.W.Frag) (m q : Str) (st : Stmt) (f : Addr) (fd : FuncData) : Prop := FunD K m q (defArgs st) (defBody st) (defScope st) [] [] f fd
theorem sc_Hthings : FnScope ["self"] ["self"] (defScope sH_things) := ⟨rfl, rfl, rfl, by decide +kernel, rfl, by decide +kernel, by decide +kernel⟩
def F_things (C : Addr) : List Ty → Ty → Prop := fun Ts T => ∃ n ds, Ts = [HouseT C n ds] ∧ T = nt n
theorem ok_Hthings {f fd} (Fu : MtD K "things" "House.things" sH_things f fd) (hk : HsK K C) (me : Meth K C "things" f) : Km P w K mg base 1 C "things" (F_things C) := by
  refine km_of Fu hk.c me (fn_pure (o := .ret) Fu sc_Hthings ?_ (.inl fun _ => rfl) ?_) (fun _ _ _ _ _ _ us hl => match us, hl with | [_], _ => rfl)
  · rintro _ _ ⟨n, ds, rfl, rfl⟩; rfl
  · rintro cdv A outer s H E hr _ _ ⟨n, ds, rfl, rfl⟩
    show Bs _ (defBody sH_things) [some (HouseT C n ds)] _
    exact bs_one (b1_ret (ev_size hk (ev_var 0)))
theorem sc_Hnames : FnScope ["self"] ["self"] (defScope sH_names) := ⟨rfl, rfl, rfl, by decide +kernel, rfl, by decide +kernel, by decide +kernel⟩
def F_names (C : Addr) : List Ty → Ty → Prop := fun Ts T => ∃ n ds, Ts = [HouseT C n ds] ∧ ds.length ≤ 1000 ∧ T = dD (.list (ds.map fun d => .str d.1))
theorem ok_Hnames {f fd} (Fu : MtD K "names" "House.names" sH_names f fd) (B : Bi mg) (hk : HsK K C) (me : Meth K C "names" f) : Km P w K mg base 1 C "names" (F_names C) := by
  refine km_of Fu hk.c me (fn_pure (o := .ret) Fu sc_Hnames ?_ (.inl fun _ => rfl) ?_) (fun _ _ _ _ _ _ us hl => match us, hl with | [_], _ => rfl)
  · rintro _ _ ⟨n, ds, rfl, _, rfl⟩; rfl
  · rintro cdv A outer s H E hr _ _ ⟨n, ds, rfl, hl, rfl⟩
    show Bs _ (defBody sH_names) [some (HouseT C n ds)] _
    exact bs_one (b1_ret (ev_names B.list (ev_byname hk (ev_var 0)) hl))
theorem sc_Hdeed : FnScope ["self", "name"] ["self", "name"] (defScope sH_deed) := ⟨rfl, rfl, rfl, by decide +kernel, rfl, by decide +kernel, by decide +kernel⟩
def F_deed (C : Addr) : List Ty → Ty → Prop := fun Ts T => ∃ n ds z d, Ts = [HouseT C n ds, dD (.str z)] ∧ ds.find? (fun d => decide (d.1 = z)) = some d ∧ T = dD (dDd d)
theorem ok_Hdeed {f fd} (Fu : MtD K "deed" "House.deed" sH_deed f fd) (hk : HsK K C) (me : Meth K C "deed" f) : Km P w K mg base 1 C "deed" (F_deed C) := by
  refine km_of Fu hk.c me (fn_pure (o := .ret) Fu sc_Hdeed ?_ (.inl fun _ => rfl) ?_) (fun _ _ _ _ _ _ us hl => match us, hl with | [_, _], _ => rfl)
  · rintro _ _ ⟨n, ds, z, d, rfl, _, rfl⟩; rfl
  · rintro cdv A outer s H E hr _ _ ⟨n, ds, z, d, rfl, hf, rfl⟩
    show Bs _ (defBody sH_deed) [some (HouseT C n ds), some (dD (.str z))] _
    exact bs_cons (b1_ifF (et_notinB (room1 hr) (ev_var 1) (ev_byname hk (ev_var 0)) hf)) (bs_one (b1_ret (ev_getB (room1 hr) (ev_byname hk (ev_var 0)) (ev_var 1) hf)))
theorem sc_Hplaces : FnScope ["self", "name"] ["self", "name"] (defScope sH_places) := ⟨rfl, rfl, rfl, by decide +kernel, rfl, by decide +kernel, by decide +kernel⟩
def F_places (C : Addr) : List Ty → Ty → Prop := fun Ts T => ∃ n ds z d, Ts = [HouseT C n ds, dD (.str z)] ∧ ds.find? (fun d => decide (d.1 = z)) = some d ∧ T = nt d.2.1
theorem ok_Hplaces {f fd} (Fu : MtD K "places" "House.places" sH_places f fd) (hk : HsK K C) (me : Meth K C "places" f) (h1 : Km P w K mg base 1 C "deed" (F_deed C)) : Km P w K mg base 2 C "places" (F_places C) := by
  refine km_of Fu hk.c me (fn_pure (o := .ret) Fu sc_Hplaces ?_ (.inl fun _ => rfl) ?_) (fun _ _ _ _ _ _ us hl => match us, hl with | [_, _], _ => rfl)
  · rintro _ _ ⟨n, ds, z, d, rfl, _, rfl⟩; rfl
  · rintro cdv A outer s H E hr _ _ ⟨n, ds, z, d, rfl, hf, rfl⟩
    show Bs _ (defBody sH_places) [some (HouseT C n ds), some (dD (.str z))] _
    exact bs_one (b1_ret (ev_ixT (i := 1) (d := .int (d.2.1 : Int)) (ds := [.str d.1, .int (d.2.1 : Int), dRow d.2.2]) (ev_meth (T := dD (dDd d)) h1 hr (ev_var 0) house_ins (eva_cons (ev_var 1) eva_nil) ⟨n, ds, z, d, rfl, hf, rfl⟩) ev_int rfl))
/-! ### steps -/
inductive Stp where
  | gv (k : Nat) | cl (z : Str) (as : List Nat)
def dStp : Stp → PyData
  | .gv k => .tuple [.int (k : Int)]
  | .cl z as => .tuple (.str z :: as.map fun (n : Nat) => .int (n : Int))
def dSteps (ss : List Stp) : PyData := .list (ss.map dStp)
def strOkD (z : Str) : Bool := PyData.canLay0 (.str z)
/-- a good step, so many behind it -/
def StpOk (ds : List Dd) (p at_ : Nat) : Stp → Prop
  | .gv k => k < p
  | .cl z as => (∃ d, ds.find? (fun d => decide (d.1 = z)) = some d ∧ d.2.1 = p) ∧ strOkD z = true ∧ as.length = p ∧ ∀ a ∈ as, a < at_
theorem sc_is_given : FnScope ["step", "givens"] ["step", "givens"] (defScope s_is_given) := ⟨rfl, rfl, rfl, by decide +kernel, rfl, by decide +kernel, by decide +kernel⟩
def F_is_given : List Ty → Ty → Prop := fun Ts T => ∃ (s : Stp) (p : Nat), Ts = [dD (dStp s), nt p] ∧ ((∃ k, s = .gv k ∧ k < p ∧ T = dD (.bool true)) ∨ ∃ z as, s = .cl z as ∧ as ≠ [] ∧ T = dD (.bool false))
theorem ok_is_given {f fd} (Fu : FnD K "is_given" s_is_given f fd) (hm : mg "is_given" = some (.ref f)) (B : Bi mg) (h1 : Kn P w K mg base 1 "is_whole" F_is_whole) : Kn P w K mg base 2 "is_given" F_is_given := by
  refine kn_of Fu (fn_pure (o := .ret) Fu sc_is_given ?_ (.inl fun _ => rfl) ?_) hm (fun _ _ _ _ _ _ us hl => match us, hl with | [_, _], _ => rfl)
  · rintro _ _ ⟨s, p, rfl, _⟩; rfl
  · rintro cdv A outer s0 H E hr _ _ ⟨s, p, rfl, ⟨k, rfl, hk, rfl⟩ | ⟨z, as, rfl, hne, rfl⟩⟩
    · show Bs _ (defBody s_is_given) [some (dD (.tuple [.int (k : Int)])), some (nt p)] _
      exact bs_one (b1_ret (ev_and (p := true) (q := true) (ev_isi "tuple" "tuple" true B.isi (ev_var 0) (ev_bty B.tuple)) fun _ => ev_and (p := true) (q := true) ((ev_eqI (i := 1) (j := 1) (ev_len (n := 1) B.len (ev_var 0) rfl) ev_int).to rfl) fun _ =>
        ev_and (p := true) (q := true) (ev_call h1 hr (eva_cons (ev_ixT (i := 0) (d := .int (k : Int)) (ds := [.int (k : Int)]) (ev_var 0) ev_int rfl) eva_nil) ⟨_, rfl, rfl⟩) fun _ => ev_one ((ev_chain2 op_le op_lt (i := 0) (j := (k : Int)) (k := (p : Int)) ev_int (ev_ixT (i := 0) (d := .int (k : Int)) (ds := [.int (k : Int)]) (ev_var 0) ev_int rfl) (ev_var 1)).to (by rw [dec_lt hk]))))
    · show Bs _ (defBody s_is_given) [some (dD (.tuple (.str z :: as.map fun (n : Nat) => .int (n : Int)))), some (nt p)] _
      have hl : 0 < as.length := List.length_pos_iff.mpr hne
      exact bs_one (b1_ret (ev_and (p := true) (q := false) (ev_isi "tuple" "tuple" true B.isi (ev_var 0) (ev_bty B.tuple)) fun _ => (ev_and (p := false) (q := false) ((ev_eqI (i := ((as.length + 1 : Nat) : Int)) (j := 1) (ev_len (n := as.length + 1) B.len (ev_var 0) (by simp [lenD])) ev_int).to (by rw [decide_eq_false (by omega)])) fun z => by cases z)))
theorem cut1 (z : Str) (as : List Nat) : PyData.tuple (cutD (.str z :: as.map fun (n : Nat) => .int (n : Int)) (some 1) none) = dRow as := by
  simp [cutD, dRow]
  exact List.take_of_length_le (by simp)
theorem sc_is_step : FnScope ["house", "step", "at", "givens", "one"] ["house", "step", "at", "givens"] (defScope s_is_step) := ⟨rfl, rfl, rfl, by decide +kernel, rfl, by decide +kernel, by decide +kernel⟩
def F_is_step (C : Addr) : List Ty → Ty → Prop := fun Ts T => ∃ (n : Nat) (ds : List Dd) (s : Stp) (at_ p : Nat), Ts = [HouseT C n ds, dD (dStp s), nt at_, nt p] ∧ ds.length ≤ 1000 ∧ (∀ d ∈ ds, strOkD d.1 = true) ∧ 1 ≤ p ∧ p ≤ 3 ∧ StpOk ds p at_ s ∧ T = dD (.bool true)
theorem canLay_strs : ∀ (ds : List Dd), (∀ d ∈ ds, strOkD d.1 = true) → PyData.canLayAll0 (ds.map fun d => .str d.1) = true
  | [], _ => by simp [PyData.canLayAll0]
  | d :: ds, h => by
    rw [List.map_cons, PyData.canLayAll0, canLay_strs ds fun d hd => h d (List.mem_cons_of_mem _ hd)]
    have := h d List.mem_cons_self
    unfold strOkD at this
    rw [this]; rfl
theorem depth_strs : ∀ (ds : List Dd), PyData.depthAll (ds.map fun d => .str d.1) = 0
  | [] => by simp [PyData.depthAll]
  | d :: ds => by rw [List.map_cons, PyData.depthAll, depth_strs ds, PyData.depth]; rfl
theorem shaped_strs {ds : List Dd} (h : ∀ d ∈ ds, strOkD d.1 = true) : SeqAt.shaped (.list (ds.map fun d => .str d.1)) = true :=
  Bool.and_eq_true_iff.mpr ⟨by rw [PyData.canLay0]; exact canLay_strs ds h, decide_eq_true (by rw [PyData.depth, depth_strs]; decide)⟩
theorem shaped_str {z : Str} (h : strOkD z = true) : SeqAt.shaped (.str z) = true := Bool.and_eq_true_iff.mpr ⟨h, decide_eq_true (by rw [PyData.depth]; decide)⟩
theorem shaped_cl {z : Str} {as : List Nat} (h : strOkD z = true) : SeqAt.shaped (dStp (.cl z as)) = true := by
  have h2 := depth_ints as
  refine Bool.and_eq_true_iff.mpr ⟨?_, decide_eq_true ?_⟩
  · unfold dStp
    rw [PyData.canLay0, PyData.canLayAll0, canLay_ints as]
    unfold strOkD at h
    rw [h]; rfl
  · unfold dStp
    rw [PyData.depth, PyData.depthAll, PyData.depth]; omega
theorem any_strs {z : Str} {d : Dd} : ∀ {ds : List Dd}, ds.find? (fun d => decide (d.1 = z)) = some d → ((ds.map fun d => PyData.str d.1).any fun x => PyData.eqv x (.str z)) = true
  | [], h => by cases h
  | e :: ds, h => by
    rw [List.map_cons, List.any_cons]
    rw [List.find?_cons] at h
    by_cases q : e.1 = z
    · rw [q]
      show ((z == z) || _) = true
      simp
    · rw [decide_eq_false q] at h
      rw [any_strs h]; simp
theorem ok_is_step {f fd} (Fu : FnD K "is_step" s_is_step f fd) (hm : mg "is_step" = some (.ref f)) (B : Bi mg) (hk : HsK K C) (h1 : Kn P w K mg base 2 "is_given" F_is_given) (h2 : Km P w K mg base 1 C "names" (F_names C)) (h3 : Km P w K mg base 2 C "places" (F_places C)) (h4 : Kn P w K mg base 1 "is_whole" F_is_whole) : Kn P w K mg base 3 "is_step" (F_is_step C) := by
  refine kn_of Fu (fn_pure (o := .ret) Fu sc_is_step ?_ (.inl fun _ => rfl) ?_) hm (fun _ _ _ _ _ _ us hl => match us, hl with | [_, _, _, _], _ => rfl)
  · rintro _ _ ⟨n, ds, s, at_, p, rfl, _⟩; rfl
  · rintro cdv A outer s0 H E hr _ _ ⟨n, ds, s, at_, p, rfl, hdl, hso, hp1, hp3, ok, rfl⟩
    have hr1 : Room 1 _ := hr.mono (by decide)
    cases s with
    | gv k =>
      show Bs _ (defBody s_is_step) [some (HouseT C n ds), some (dD (dStp (.gv k))), some (nt at_), some (nt p), none] _
      exact bs_stop (b1_ifT (et_val (ev_call h1 hr (eva_cons (ev_var 1) (eva_cons (ev_var 3) eva_nil)) ⟨_, p, rfl, .inl ⟨k, rfl, ok, rfl⟩⟩)) (bs_one (b1_ret ev_bl)))
    | cl z as =>
      obtain ⟨⟨d, hf, hdp⟩, hz, hal, hlt⟩ := ok
      have hne : as ≠ [] := fun e => by rw [e] at hal; simp at hal; omega
      have hix : ∀ {X : Cx} {ρ : Rho} {b : Expr} {pos : Pos} {e : Expr}, EvD X e ρ (dStp (.cl z as)) → EvD X b ρ (.int ((0 : Nat) : Int)) → PlainIx b → EvD X (.Subscript e b pos) ρ (.str z) := fun h1 h2 h3 => ev_ixT (i := 0) (d := .str z) (ds := .str z :: as.map fun (n : Nat) => .int (n : Int)) h1 h2 rfl h3
      show Bs _ (defBody s_is_step) [some (HouseT C n ds), some (dD (dStp (.cl z as))), some (nt at_), some (nt p), none] _
      refine bs_cons (b1_skip (et_val (ev_call h1 hr (eva_cons (ev_var 1) (eva_cons (ev_var 3) eva_nil)) ⟨_, p, rfl, .inr ⟨z, as, rfl, hne, rfl⟩⟩)) rfl) ?_
      refine bs_cons (b1_skip (et_w (ew_or (p := false) (q := false) (et_not (p := true) (et_val (ev_isi "tuple" "tuple" true B.isi (ev_var 1) (ev_bty B.tuple)))) fun _ => ew_or (p := false) (q := false) ((et_eq hr.units (d' := .tuple []) (ev_var 1) (ev_tup evl_nil) (shaped_cl hz) rfl).to rfl) fun _ =>
        ew_or (p := false) (q := false) (et_not (p := true) (et_val (ev_isi "str" "str" true B.isi (hix (ev_var 1) ev_int (fun _ _ => rfl)) (ev_bty B.str)))) fun _ => ew_or1 ((et_notin (room65 hr) (hix (ev_var 1) ev_int (fun _ _ => rfl)) (ev_meth0 h2 hr1 (ev_var 0) house_ins ⟨n, ds, rfl, hdl, rfl⟩) (shaped_str hz) (shaped_strs hso)).to (by rw [any_strs hf]; rfl)))) rfl) ?_
      refine bs_cons (b1_skip (et_neI (i := ((p + 1 : Nat) : Int)) (j := ((p + 1 : Nat) : Int)) (ev_len (n := p + 1) B.len (ev_var 1) (by simp [dStp, lenD, hal])) ((ev_add (i := (p : Int)) (j := 1) (ev_meth (T := nt p) h3 hr (ev_var 0) house_ins (eva_cons (hix (ev_var 1) ev_int (fun _ _ => rfl)) eva_nil) ⟨n, ds, z, d, rfl, hf, by rw [hdp]⟩) ev_int).to (by simp))) (by simp)) ?_
      refine bs_one (b1_ret ?_)
      refine (ev_allLc B.all (f := fun i => true) (n := as.length) (ev_lc (own := [("one", 4)]) (js := [4]) sc_is_step.nd (src_row (ts := as) ((ev_sliceT (m := some 1) (n := none) (ev_var 1) (eo_some (n := 1) ev_int) eo_none).to (cut1 z as))) (blkOk_by (own := [("one", 4)]) (N := ["house", "step", "at", "givens", "one"]) (sc := defScope s_is_step) (by decide +kernel))
        (fun _ _ _ _ _ => pgn 4 sc_is_step.nd) (by simp) (by omega) (fun i hi => tgo_name) (fun i hi s0 H0 C' cl fp => ev_and (p := true) (q := true) (ev_call h4 hr1 (eva_cons (ev_var 4) eva_nil) ⟨_, rfl, rfl⟩) fun _ => ev_one ((ev_chain2 op_le op_lt (i := 0) (j := ((as.getD i 0 : Nat) : Int)) (k := (at_ : Int)) ev_int (ev_var 4) (ev_var 2)).to (by rw [dec_lt (hlt _ (getD_mem as i 0 hi))]))))).to ?_
      rw [all_true fun i hi => rfl]
end
end WD
set_option Elab.async false
set_option linter.all false
set_option maxRecDepth 100000
set_option maxHeartbeats 4000000
namespace WD
open PySem PySem.Spec PyProof.Rows L2
section
variable {X : Cx} {e a b : Expr} {ρ : Rho} {T : Ty} {pos p' apos cpos : Pos} {A A' : Asd} {p : Addr} {Ys : List Ty}
/-- .. what is added may look at the list -/
theorem ef_appendV (ho : EvE X a ρ (refT p)) (he : EF X e ρ ((p, lstC Ys) :: A) ((p, lstC Ys) :: A') T) (hz : Ys.length < 100000) (hbase : attributeBase a "append" X.env (eval a X.env) = eval a X.env := by rfl)
    (hfew : ((backTo cpos (starEach (e :: []) X.env)).all (fun x => !x.1) && (backToKw cpos (keywordEach [] X.env)).all (fun x => x.1.isSome)
      && decide ((e :: []).length + ([] : List Keyword).length + (if ([] : List Keyword).isEmpty then 0 else 1) < 30)) = true := by rfl)
    (hline : (apos.endLine == cpos.line) = true := by rfl) (hs : starEach (e :: []) X.env = (false, eval e X.env) :: starEach [] X.env := by rfl) (hplain : (backTo cpos (starEach [] X.env)).any (·.1) = false := by rfl) :
    EF X (.Call (.Attribute a "append" apos) [e] [] cpos) ρ ((p, lstC Ys) :: A) ((p, lstC (Ys ++ [T])) :: A') (dD .none) := fun σ G H sl sp =>
  ew_of (pe_bm F.plainAttrs_list F.slot_list_append F.type_list_append mt_append pe_ew (pa_cons pe_ew pa_nil hs) hbase hfew hline hs hplain) (ew_mono (ef_pure ho σ G H sl sp) fun v H1 ⟨G1, s1, sp1, r1⟩ => by
    cases (show v = .ref p from r1)
    refine ⟨?_, ?_⟩
    · obtain ⟨H2, o, rfl, h1, hp, xs, rfl, hz, hc⟩ := sp1.inv
      exact .inl ⟨rfl, xs, SqL.of upd_same⟩
    · refine ew_mono (he σ G1 H1 (sl.same s1) sp1) fun y H2 ⟨G2, s2, sp2, r2⟩ => ?_
      obtain ⟨H3, o, rfl, h1, hp, xs, rfl, hz', hc⟩ := sp2.inv
      have hl := Paired.length hc
      have hz2 : xs.length + 1 ≤ sizeLine := small_line (by omega)
      refine ⟨p, xs, y, rfl, rfl, upd_same, by omega, G2, s1.trans s2, ?_, .non⟩
      rw [upd_upd]
      exact .cons h1 hp ⟨_, rfl, by simpa using hz2, paired_snoc hc r2⟩)
end
def tblOf (ds : List Dd) (z : Str) : List Nat := match ds.find? (fun d => decide (d.1 = z)) with
  | some d => d.2.2
  | none => []
def outS (ds : List Dd) (n : Nat) (rows : List (List Nat)) (wd : Nat) (acc : List (List Nat)) : Stp → List Nat
  | .gv k => rows.getD k []
  | .cl z as => put (tblOf ds z) n (as.map fun a => acc.getD a []) wd
def runS (ds : List Dd) (n : Nat) (rows : List (List Nat)) (wd : Nat) (ss : List Stp) : List (List Nat) := ss.foldl (fun acc s => acc ++ [outS ds n rows wd acc s]) []
theorem runS_snoc (ds : List Dd) (n : Nat) (rows : List (List Nat)) (wd : Nat) (ss : List Stp) (s : Stp) : runS ds n rows wd (ss ++ [s]) = runS ds n rows wd ss ++ [outS ds n rows wd (runS ds n rows wd ss) s] := by simp [runS]
theorem runS_len (ds : List Dd) (n : Nat) (rows : List (List Nat)) (wd : Nat) (ss : List Stp) : (runS ds n rows wd ss).length = ss.length := by
  refine rev_ind (P := fun ss => (runS ds n rows wd ss).length = ss.length) rfl (fun ss s ih => ?_) ss
  rw [runS_snoc, List.length_append, List.length_append, ih]; rfl
structure RunOk (n p : Nat) (ds : List Dd) (rows : List (List Nat)) (wd : Nat) : Prop where
  p1 : 1 ≤ p
  dd : ∀ d ∈ ds, DeedOk n p d.2.2 ∧ d.2.1 = p
  rl : rows.length = p
  rr : ∀ r ∈ rows, r.length = wd ∧ ∀ x ∈ r, x < n
  n0 : 0 < n
def StepsOk (ds : List Dd) (p : Nat) (ss : List Stp) : Prop := ∀ i, i < ss.length → StpOk ds p i (ss.getD i (.gv 0))
theorem tblOf_ok {n p : Nat} {ds : List Dd} {rows : List (List Nat)} {wd : Nat} (ro : RunOk n p ds rows wd) {z : Str} {d : Dd} (hf : ds.find? (fun d => decide (d.1 = z)) = some d) : tblOf ds z = d.2.2 ∧ DeedOk n p d.2.2 := by
  unfold tblOf
  rw [hf]
  exact ⟨rfl, (ro.dd d (List.mem_of_find?_eq_some hf)).1⟩
theorem take_snoc {α : Type} (l : List α) (d : α) (i : Nat) (h : i < l.length) : l.take (i + 1) = l.take i ++ [l.getD i d] := by
  rw [List.take_succ, List.getElem?_eq_getElem h, List.getD_eq_getElem?_getD, List.getElem?_eq_getElem h]; rfl
theorem runS_ok {n p : Nat} {ds : List Dd} {rows : List (List Nat)} {wd : Nat} (ro : RunOk n p ds rows wd) {ss : List Stp} (so : StepsOk ds p ss) : ∀ i, i ≤ ss.length → ∀ r ∈ runS ds n rows wd (ss.take i), r.length = wd ∧ ∀ x ∈ r, x < n
  | 0, _ => by simp [runS]
  | i + 1, hi => by
    have ih := runS_ok ro so i (by omega)
    rw [take_snoc ss (.gv 0) i (by omega), runS_snoc]
    intro r hr
    rcases List.mem_append.mp hr with hr | hr
    · exact ih r hr
    · have hr : r = outS ds n rows wd (runS ds n rows wd (ss.take i)) (ss.getD i (.gv 0)) := by simpa using hr
      have hs := so i (by omega)
      subst hr
      cases e : ss.getD i (.gv 0) with
      | gv k =>
        rw [e] at hs
        exact ro.rr _ (getD_mem rows k [] (by rw [ro.rl]; exact hs))
      | cl z as =>
        rw [e] at hs
        obtain ⟨⟨d, hf, _⟩, _, hal, hlt⟩ := hs
        obtain ⟨t1, t2⟩ := tblOf_ok ro hf
        show (put (tblOf ds z) n _ wd).length = wd ∧ ∀ x ∈ put (tblOf ds z) n _ wd, x < n
        rw [t1]
        exact ⟨put_len _ _ _ _, put_lt ro.n0 t2.lt⟩
section
variable {P : Program} {w : World} {K : PySem.W.Frag} {mg : Str → Option Value} {base : Heap} {C : Addr}
theorem src_steps {X : Cx} {tg iter : Expr} {ρ : Rho} {ss : List Stp} (h : EvD X iter ρ (dSteps ss)) : Src X tg iter ρ ss.length (fun i => dD (dStp (ss.getD i (.gv 0)))) := src_congr (src_len (src_list (ds := ss.map dStp) h) (by simp)) fun i hi => by rw [getD_map dStp ss i (.gv 0) _ hi]
theorem src_enumSteps {X : Cx} {a : Expr} {ρ : Rho} {pos p' : Pos} {elts : List Expr} {kk : Nat} {tpos : Pos} {ss : List Stp} (hm : X.mg "enumerate" = none) (h : EvD X a ρ (dSteps ss)) (hg : Gl X "enumerate" := by rfl) (he : starEach (a :: []) X.env = (false, eval a X.env) :: starEach [] X.env := by rfl) :
    Src X (.Tuple elts kk tpos) (.Call (.Name "enumerate" p') [a] [] pos) ρ ss.length (fun i => dD (.tuple [.int (i : Int), dStp (ss.getD i (.gv 0))])) := src_congr (src_len (src_enum (ds := ss.map dStp) hm h hg he) (by simp)) fun i hi => by rw [getD_map dStp ss i (.gv 0) _ hi]
theorem sc_check_steps : FnScope ["house", "steps", "givens", "at", "step"] ["house", "steps", "givens"] (defScope s_check_steps) := ⟨rfl, rfl, rfl, by decide +kernel, rfl, by decide +kernel, by decide +kernel⟩
def F_check_steps (C : Addr) : List Ty → Ty → Prop := fun Ts T => ∃ (n : Nat) (ds : List Dd) (ss : List Stp) (p : Nat), Ts = [HouseT C n ds, dD (dSteps ss), nt p] ∧ ds.length ≤ 1000 ∧ (∀ d ∈ ds, strOkD d.1 = true) ∧ 1 ≤ p ∧ p ≤ 3 ∧ StepsOk ds p ss ∧ T = dD .none
theorem ok_check_steps {f fd} (Fu : FnD K "check_steps" s_check_steps f fd) (hm : mg "check_steps" = some (.ref f)) (B : Bi mg) (h1 : Kn P w K mg base 3 "is_step" (F_is_step C)) : Kn P w K mg base 4 "check_steps" (F_check_steps C) := by
  refine kn_of Fu (fn_pureN Fu sc_check_steps ?_ ?_) hm (fun _ _ _ _ _ _ us hl => match us, hl with | [_, _, _], _ => rfl)
  · rintro _ _ ⟨n, ds, ss, p, rfl, _, _, _, _, _, rfl⟩; exact ⟨rfl, rfl⟩
  · rintro cdv A outer s H E hr _ _ ⟨n, ds, ss, p, rfl, hdl, hso, hp1, hp3, ok, rfl⟩
    apply Exists.intro
    show Bs _ (defBody s_check_steps) [some (HouseT C n ds), some (dD (dSteps ss)), some (nt p), none, none] _
    refine bs_cons (b1_skip (et_not (p := true) (et_val (ev_isi "list" "list" true B.isi (ev_var 1) (ev_bty B.list)))) rfl) ?_
    refine bs_one (b1_for (n := ss.length) (js := [3, 4]) (fun i => [some (HouseT C n ds), some (dD (dSteps ss)), some (nt p), none, none]) _ (src_enumSteps B.enumerate (ev_var 1)) (pg_tup (n := 2) rfl (pgs_cons (pgn 3 sc_check_steps.nd) (pgs_cons (pgn 4 sc_check_steps.nd) pgs_nil))) (fun i hi => tgo_tupD (n := 2) (tgs_cons (tgs_cons tgs_nil))) fun i hi => .inl ?_)
    exact bs_forget (bs_one (b1_skip (et_not (p := true) (et_val (ev_call h1 hr (eva_cons (ev_var 0) (eva_cons (ev_var 4) (eva_cons (ev_var 3) (eva_cons (ev_var 2) eva_nil)))) ⟨n, ds, _, i, p, rfl, hdl, hso, hp1, hp3, ok i hi, rfl⟩))) rfl)) (le_keep (le_keep (le_keep (le_drop (le_drop le_nil)))))
/-! ### run -/
theorem sc_run : FnScope ["house", "steps", "rows", "wide", "found", "step", "name", "places", "table", "one"] ["house", "steps", "rows", "wide"] (defScope s_run) := ⟨rfl, rfl, rfl, by decide +kernel, rfl, by decide +kernel, by decide +kernel⟩
def F_run (C : Addr) : List Ty → Ty → Prop := fun Ts T => ∃ (n p : Nat) (ds : List Dd) (ss : List Stp) (rows : List (List Nat)) (wd : Nat), Ts = [HouseT C n ds, dD (dSteps ss), dD (dRows rows), nt wd] ∧ RunOk n p ds rows wd ∧ p ≤ 3 ∧ n ≤ 9 ∧ wd ≤ 1000 ∧ ss.length ≤ 1000 ∧ StepsOk ds p ss ∧ T = dD (dRows (runS ds n rows wd ss))
theorem ok_run {f fd} (Fu : FnD K "run" s_run f fd) (hm : mg "run" = some (.ref f)) (B : Bi mg) (h1 : Km P w K mg base 1 C "deed" (F_deed C)) (h2 : Km P w K mg base 1 C "things" (F_things C)) (h3 : Kn P w K mg base 2 "put_together" F_put) : Kn P w K mg base 3 "run" (F_run C) := by
  refine kn_of Fu (fn_pure (o := .ret) Fu sc_run ?_ (.inl fun _ => rfl) ?_) hm (fun _ _ _ _ _ _ us hl => match us, hl with | [_, _, _, _], _ => rfl)
  · rintro _ _ ⟨n, p, ds, ss, rows, wd, rfl, _⟩; rfl
  · rintro cdv A outer s H E hr _ _ ⟨n, p, ds, ss, rows, wd, rfl, ro, hp3, hn9, hwd, hsl, so, rfl⟩
    have hr1 : Room 1 _ := hr.mono (by decide)
    have hp1 := ro.p1
    refine bs_of ?_
    show BF _ (defBody s_run) [some (HouseT C n ds), some (dD (dSteps ss)), some (dD (dRows rows)), some (nt wd), none, none, none, none, none, none] [] _
    refine bf_new 4 af_nil (by simp) (fun L => ?_) sc_run.nd
    refine bf_cons (b1f_for (n0 := ss.length) (js := [5]) (ρ' := [some (HouseT C n ds), some (dD (dSteps ss)), some (dD (dRows rows)), some (nt wd), some (refT L), none, none, none, none, none]) (A' := [(L, lstC ((runS ds n rows wd ss).map rowT))]) (fun i => [some (HouseT C n ds), some (dD (dSteps ss)), some (dD (dRows rows)), some (nt wd), some (refT L), none, none, none, none, none]) _ (fun i => [(L, lstC ((runS ds n rows wd (ss.take i)).map rowT))])
      (sf_pure (src_steps (ev_var 1))) (pgn 5 sc_run.nd) (fun m h => Nat.le_of_eq h) (fun i hi => tgo_name) (fun i hi => .inl ?_) (fun m h => by subst h; rw [List.take_length]; exact ⟨le_refl, wk_refl⟩)) ?_
    · have hs := so i hi
      have hrow := runS_ok ro so i (by omega)
      have hlen : (runS ds n rows wd (ss.take i)).length = i := by rw [runS_len, List.length_take]; omega
      rw [take_snoc ss (.gv 0) i hi, runS_snoc, List.map_append]
      generalize hacc : runS ds n rows wd (ss.take i) = acc at *
      cases e : ss.getD i (.gv 0) with
      | gv k =>
        rw [e] at hs
        refine bf_forget (bf_one (b1f_if (tf_pure (et_not (p := false) (et_val (ev_isi (d := .int (k : Int)) "int" "str" false B.isi (ev_ixT (i := 0) (d := .int (k : Int)) (ds := [.int (k : Int)]) (ev_var 5) ev_int rfl) (ev_bty B.str))))) (fun _ => bf_one (b1f_expr (ef_append (T := rowT (rows.getD k [])) (ev_var 4) (ef_pure (ev_ixRows (i := k) (ev_var 2) (ev_ixT (i := 0) (d := .int (k : Int)) (ds := [.int (k : Int)]) (ev_var 5) ev_int rfl) (by rw [ro.rl]; exact hs))) (by rw [List.length_map, hlen]; omega)))) (fun z => by cases z)))
          (le_keep (le_keep (le_keep (le_keep (le_keep (le_drop (le_keep (le_keep (le_keep (le_keep le_nil))))))))))
      | cl z as =>
        rw [e] at hs
        obtain ⟨⟨d, hf, hdp⟩, hz, hal, hlt⟩ := hs
        obtain ⟨t1, t2⟩ := tblOf_ok ro hf
        have hix : ∀ {X : Cx} {ρ : Rho} {b : Expr} {pos : Pos} {e : Expr}, EvD X e ρ (dStp (.cl z as)) → EvD X b ρ (.int ((0 : Nat) : Int)) → PlainIx b → EvD X (.Subscript e b pos) ρ (.str z) := fun h1 h2 h3 => ev_ixT (i := 0) (d := .str z) (ds := .str z :: as.map fun (n : Nat) => .int (n : Int)) h1 h2 rfl h3
        have hout : outS ds n rows wd acc (.cl z as) = put d.2.2 n (as.map fun a => acc.getD a []) wd := by show put (tblOf ds z) n _ wd = _; rw [t1]
        rw [hout]
        have hrs : ∀ r ∈ as.map (fun a => acc.getD a []), r.length = wd ∧ ∀ x ∈ r, x < n := fun r hr => by
          obtain ⟨a, ha, rfl⟩ := List.mem_map.mp hr
          exact hrow _ (getD_mem acc a [] (by rw [hlen]; exact hlt a ha))
        refine bf_forget (bf_one (b1f_if (tf_pure (et_not (p := true) (et_val (ev_isi (d := .str z) "str" "str" true B.isi (hix (ev_var 5) ev_int (fun _ _ => rfl)) (ev_bty B.str))))) (fun z => by cases z) (fun _ => bf_cons (b1f_asg (ef_pure (ev_meth (T := dD (dDd d)) h1 hr1 (ev_var 0) house_ins (eva_cons (hix (ev_var 5) ev_int (fun _ _ => rfl)) eva_nil) ⟨n, ds, z, d, rfl, hf, rfl⟩))
            (pg_tup (n := 3) rfl (pgs_cons (pgn 6 sc_run.nd) (pgs_cons (pgn 7 sc_run.nd) (pgs_cons (pgn 8 sc_run.nd) pgs_nil)))) (tgo_tupD (n := 3) (ds := [.str d.1, .int (d.2.1 : Int), dRow d.2.2]) (tgs_cons (tgs_cons (tgs_cons tgs_nil)))))
          (bf_one (b1f_expr (ef_appendV (T := rowT (put d.2.2 n (as.map fun a => acc.getD a []) wd)) (ev_var 4) (ef_view (ev_call h3 hr (eva_cons (ev_var 8) (eva_cons (ev_meth0 h2 hr1 (ev_var 0) house_ins ⟨n, ds, rfl, rfl⟩) (eva_cons (T := dD (dRows (as.map fun a => acc.getD a []))) (EvE.to (ev_lc (own := [("one", 9)]) (js := [9]) (f := fun j => dRow (acc.getD (as.getD j 0) [])) sc_run.nd (src_row (ts := as) ((ev_sliceT (m := some 1) (n := none) (ev_var 5) (eo_some (n := 1) ev_int) eo_none).to (cut1 z as))) (blkOk_by (own := [("one", 9)]) (N := ["house", "steps", "rows", "wide", "found", "step", "name", "places", "table", "one"]) (sc := defScope s_run) (by decide +kernel))
              (fun _ _ _ _ _ => pgn 9 sc_run.nd) (by simp) (by omega) (fun j hj => tgo_name) (fun j hj s0 H0 C' cl fp => ev_ixRows (rs := acc) (ev_var 4) (ev_var 9) (by rw [hlen]; exact hlt _ (getD_mem as j 0 hj)))) ?_) (eva_cons (ev_var 3) eva_nil)))) ⟨d.2.2, n, _, wd, rfl, ro.n0, hn9, by rw [List.length_map]; omega, by rw [List.length_map]; omega, hwd, by rw [List.length_map, hal]; exact t2.len, hrs, rfl⟩) (fun σ G H sl sp => view_data (i := 4) (ds := acc.map dRow) rfl σ G H sl (by rw [rowT_map] at sp; exact sp)) flat_row) (by rw [List.length_map, hlen]; omega)))))))
          (le_keep (le_keep (le_keep (le_keep (le_keep (le_drop (le_drop (le_drop (le_drop (le_keep le_nil))))))))))
        unfold dRows
        rw [List.map_map]
        exact congrArg (fun l => dD (PyData.list l)) (map_range_getD as 0 fun a => dRow (acc.getD a []))
    · rw [rowT_map]
      exact bf_freezeD 4 (bf_one (b1f_ret (ef_pure (ev_var 4))))
end
end WD
set_option Elab.async false
set_option linter.all false
set_option maxRecDepth 100000
set_option maxHeartbeats 4000000
namespace WD
open PySem PySem.Spec PyProof.Rows L2
section
variable {P : Program} {w : World} {K : PySem.W.Frag} {mg : Str → Option Value} {base : Heap} {C : Addr}
theorem sc_check_places : FnScope ["house", "places", "wide"] ["house", "places"] (defScope s_check_places) := ⟨rfl, rfl, rfl, by decide +kernel, rfl, by decide +kernel, by decide +kernel⟩
def F_check_places (C : Addr) : List Ty → Ty → Prop := fun Ts T => ∃ (n p : Nat) (ds : List Dd), Ts = [HouseT C n ds, nt p] ∧ n ≤ 9 ∧ p ≤ 3 ∧ n ^ p ≤ 81 ∧ T = dD .none
theorem ok_check_places {f fd} (Fu : FnD K "check_places" s_check_places f fd) (hm : mg "check_places" = some (.ref f)) (Cm : Co mg) (h1 : Kn P w K mg base 1 "is_whole" F_is_whole) (h2 : Kn P w K mg base 1 "cells" F_cells) (h3 : Km P w K mg base 1 C "things" (F_things C)) : Kn P w K mg base 2 "check_places" (F_check_places C) := by
  refine kn_of Fu (fn_pureN Fu sc_check_places ?_ ?_) hm (fun _ _ _ _ _ _ us hl => match us, hl with | [_, _], _ => rfl)
  · rintro _ _ ⟨n, p, ds, rfl, _, _, _, rfl⟩; exact ⟨rfl, rfl⟩
  · rintro cdv A outer s H E hr _ _ ⟨n, p, ds, rfl, hn, hp, hc, rfl⟩
    apply Exists.intro
    show Bs _ (defBody s_check_places) [some (HouseT C n ds), some (nt p), none] _
    refine bs_cons (b1_skip (et_w (ew_or (p := false) (q := false) (et_not (p := true) (et_val (ev_call h1 hr (eva_cons (ev_var 1) eva_nil) ⟨_, rfl, rfl⟩))) fun _ => ew_or1 (et_not (p := true) ((et_chain2 op_le op_le (i := 0) (j := (p : Int)) (k := 3) ev_int (ev_var 1) (ev_gint Cm.places)).to (by simp; omega))))) rfl) ?_
    refine bs_cons (b1_set 2 (T := nt (n ^ p)) (ev_call h2 hr (eva_cons (ev_meth0 h3 hr (ev_var 0) house_ins ⟨n, ds, rfl, rfl⟩) (eva_cons (ev_var 1) eva_nil)) ⟨n, p, rfl, by omega, by omega, rfl⟩) sc_check_places.nd) ?_
    exact bs_one (b1_skip (et_gt (i := ((n ^ p : Nat) : Int)) (j := 81) (ev_var 2) (ev_gint Cm.wideD)) (decide_eq_false (by omega)))
/-! ### table_of -/
theorem canLay_stp {ds : List Dd} {p a : Nat} {s : Stp} (h : StpOk ds p a s) : PyData.canLay0 (dStp s) = true ∧ PyData.depth (dStp s) ≤ 2 := by
  cases s with
  | gv k => exact ⟨by unfold dStp; simp [PyData.canLay0, PyData.canLayAll0], by unfold dStp; simp [PyData.depth, PyData.depthAll]⟩
  | cl z as =>
    have h2 := depth_ints as
    have hz := h.2.1
    refine ⟨?_, ?_⟩
    · unfold dStp
      rw [PyData.canLay0, PyData.canLayAll0, canLay_ints as]
      unfold strOkD at hz
      rw [hz]; rfl
    · unfold dStp
      rw [PyData.depth, PyData.depthAll, PyData.depth]; omega
theorem lay_all : ∀ (ss : List Stp), (∀ s ∈ ss, PyData.canLay0 (dStp s) = true ∧ PyData.depth (dStp s) ≤ 2) → PyData.canLayAll0 (ss.map dStp) = true ∧ PyData.depthAll (ss.map dStp) ≤ 2
  | [], _ => ⟨by simp [PyData.canLayAll0], by simp [PyData.depthAll]⟩
  | s :: ss, h => by
    obtain ⟨h1, h2⟩ := lay_all ss fun s hs => h s (List.mem_cons_of_mem _ hs)
    obtain ⟨h3, h4⟩ := h s List.mem_cons_self
    rw [List.map_cons, PyData.canLayAll0, PyData.depthAll, h1, h3]
    exact ⟨rfl, by omega⟩
theorem shaped_steps {ds : List Dd} {p : Nat} {ss : List Stp} (h : StepsOk ds p ss) : SeqAt.shaped (dSteps ss) = true := by
  obtain ⟨h1, h2⟩ := lay_all ss fun s hs => by
    obtain ⟨i, hi, rfl⟩ := List.mem_iff_getElem.mp hs
    have := h i hi
    rw [List.getD_eq_getElem?_getD, List.getElem?_eq_getElem hi] at this
    exact canLay_stp this
  exact Bool.and_eq_true_iff.mpr ⟨by unfold dSteps; rw [PyData.canLay0]; exact h1, decide_eq_true (by unfold dSteps; rw [PyData.depth]; omega)⟩
theorem argRows_ok {n p : Nat} (hn : 0 < n) : (argRows n p).length = p ∧ ∀ r ∈ argRows n p, r.length = n ^ p ∧ ∀ x ∈ r, x < n := by
  refine ⟨by simp [argRows], fun r hr => ?_⟩
  obtain ⟨k, hk, rfl⟩ := List.mem_map.mp hr
  refine ⟨by simp, fun x hx => ?_⟩
  obtain ⟨s, hs, rfl⟩ := List.mem_map.mp hx
  exact getD_lt (thingsAt_lt hn p s) hn k
theorem sc_table_of : FnScope ["house", "steps", "places", "wide"] ["house", "steps", "places"] (defScope s_table_of) := ⟨rfl, rfl, rfl, by decide +kernel, rfl, by decide +kernel, by decide +kernel⟩
structure TabOk (n p : Nat) (ds : List Dd) (ss : List Stp) : Prop where
  n0 : 0 < n
  n9 : n ≤ 9
  p1 : 1 ≤ p
  p3 : p ≤ 3
  wide : n ^ p ≤ 81
  few : ds.length ≤ 1000
  dd : ∀ d ∈ ds, DeedOk n p d.2.2 ∧ d.2.1 = p
  so : ∀ d ∈ ds, strOkD d.1 = true
  st : StepsOk ds p ss
  ne : ss ≠ []
  sl : ss.length ≤ 1000
theorem TabOk.run {n p : Nat} {ds : List Dd} {ss : List Stp} (h : TabOk n p ds ss) : RunOk n p ds (argRows n p) (n ^ p) := ⟨h.p1, h.dd, (argRows_ok h.n0).1, (argRows_ok h.n0).2, h.n0⟩
def tabS (n p : Nat) (ds : List Dd) (ss : List Stp) : List Nat := (runS ds n (argRows n p) (n ^ p) ss).getD (ss.length - 1) []
def F_table_of (C : Addr) : List Ty → Ty → Prop := fun Ts T => ∃ (n p : Nat) (ds : List Dd) (ss : List Stp), Ts = [HouseT C n ds, dD (dSteps ss), nt p] ∧ TabOk n p ds ss ∧ T = dD (dRow (tabS n p ds ss))
theorem ok_table_of {f fd} (Fu : FnD K "table_of" s_table_of f fd) (hm : mg "table_of" = some (.ref f)) (h1 : Kn P w K mg base 2 "check_places" (F_check_places C)) (h2 : Kn P w K mg base 4 "check_steps" (F_check_steps C)) (h3 : Kn P w K mg base 1 "cells" F_cells) (h4 : Km P w K mg base 1 C "things" (F_things C)) (h5 : Kn P w K mg base 3 "run" (F_run C)) (h6 : Kn P w K mg base 2 "argument_rows" F_argument_rows) : Kn P w K mg base 5 "table_of" (F_table_of C) := by
  refine kn_of Fu (fn_pure (o := .ret) Fu sc_table_of ?_ (.inl fun _ => rfl) ?_) hm (fun _ _ _ _ _ _ us hl => match us, hl with | [_, _, _], _ => rfl)
  · rintro _ _ ⟨n, p, ds, ss, rfl, _⟩; rfl
  · rintro cdv A outer s H E hr _ _ ⟨n, p, ds, ss, rfl, ok, rfl⟩
    have hr1 : Room 1 _ := hr.mono (by decide)
    have hr2 : Room 2 _ := hr.mono (by decide)
    have hr3 : Room 3 _ := hr.mono (by decide)
    have hn9 := ok.n9
    have hp3 := ok.p3
    have hl : 0 < ss.length := List.length_pos_iff.mpr ok.ne
    show Bs _ (defBody s_table_of) [some (HouseT C n ds), some (dD (dSteps ss)), some (nt p), none] _
    refine bs_cons (b1_expr (ev_call h1 hr2 (eva_cons (ev_var 0) (eva_cons (ev_var 2) eva_nil)) ⟨n, p, ds, rfl, ok.n9, ok.p3, ok.wide, rfl⟩)) ?_
    refine bs_cons (b1_expr (ev_call h2 hr (eva_cons (ev_var 0) (eva_cons (ev_var 1) (eva_cons (ev_var 2) eva_nil))) ⟨n, ds, ss, p, rfl, ok.few, ok.so, ok.p1, ok.p3, ok.st, rfl⟩)) ?_
    refine bs_cons (b1_skip (et_eq hr.units (d' := .list []) (ev_var 1) (ev_lst evl_nil) (shaped_steps ok.st) rfl) ?_) ?_
    · cases ss with
      | nil => exact absurd rfl ok.ne
      | cons s ss => rfl
    refine bs_cons (b1_set 3 (T := nt (n ^ p)) (ev_call h3 hr1 (eva_cons (ev_meth0 h4 hr1 (ev_var 0) house_ins ⟨n, ds, rfl, rfl⟩) (eva_cons (ev_var 2) eva_nil)) ⟨n, p, rfl, by omega, by omega, rfl⟩) sc_table_of.nd) ?_
    refine bs_one (b1_ret (ev_lastL (ds := (runS ds n (argRows n p) (n ^ p) ss).map dRow) (d := dRow (tabS n p ds ss)) (ev_call h5 hr3 (eva_cons (ev_var 0) (eva_cons (ev_var 1) (eva_cons (T := dD (dRows (argRows n p))) (ev_call h6 hr2 (eva_cons (ev_meth0 h4 hr1 (ev_var 0) house_ins ⟨n, ds, rfl, rfl⟩) (eva_cons (ev_var 2) eva_nil)) ⟨n, p, rfl, ok.n0, ok.n9, ok.p3, rfl⟩) (eva_cons (ev_var 3) eva_nil)))) ⟨n, p, ds, ss, argRows n p, n ^ p, rfl, ok.run, hp3, hn9, by have := ok.wide; omega, ok.sl, ok.st, rfl⟩) (ev_neg ev_int) ?_))
    rw [List.length_map, runS_len, List.getElem?_map]
    unfold tabS
    rw [List.getD_eq_getElem?_getD, List.getElem?_eq_getElem (by rw [runS_len]; omega)]
    rfl
/-! ### House(size, deeds) -/
def kvE (xs : List V) (ds : List Dd) : List (Key × V) := (xs.zip ds).map fun q => ((Sum.inr q.2.1 : Key), q.1)
def dkE (kvs : List (Key × V)) : Cn := ⟨fun _ o => o = .dK kvs, fun _ _ _ _ h => h, fun _ o h => by rw [h]; trivial⟩
def eqT (x : V) (d : PyData) : Ty := ⟨fun H v => v = x ∧ Rp H v d, fun _ _ _ s h => ⟨h.1, h.2.same s⟩⟩
structure HseOk (n : Nat) (ds : List Dd) : Prop where
  n0 : 0 < n
  n9 : n ≤ 9
  few : ds.length ≤ 6
  ok : ∀ d ∈ ds, NameOk d.1 ∧ DeedOk n d.2.1 d.2.2
  nd : (ds.map (·.1)).Nodup
def spInit (C : Addr) : Sp := fun vs H Q _ => ∃ (H0 : Hp) (a dx l : Addr) (n : Nat) (ds : List Dd) (xs : List V), vs = [.ref a, .int (n : Int), .ref l] ∧ H = upd (upd H0 dx (.own a)) a (.ins C dx []) ∧ H0 a = none ∧ H0 dx = none ∧ dx ≠ a ∧ H0 l = some (.lst xs) ∧ Paired (fun v d => Rp H0 v d) xs (ds.map dDd) ∧ HseOk n ds ∧
  ∀ D H', Same H0 H' → H' a = some (.ins C dx [("size", .int (n : Int)), ("by_name", .ref D)]) → H' D = some (.dK (kvE xs ds)) → Q .non H'
theorem sc_Hinit : FnScope ["self", "size", "deeds", "found", "at", "deed"] ["self", "size", "deeds"] (defScope sH_init) := ⟨rfl, rfl, rfl, by decide +kernel, rfl, by decide +kernel, by decide +kernel⟩
theorem valV_kvE {z : Str} : ∀ {xs : List V} {ds : List Dd}, z ∉ ds.map (·.1) → valV (kvE xs ds) (Sum.inr z : Key) = none
  | [], _, _ => rfl
  | _ :: _, [], _ => rfl
  | x :: xs, d :: ds, h => by
    have h1 : ¬ d.1 = z := fun e => h (by rw [← e]; simp)
    have h2 : z ∉ ds.map (·.1) := fun e => h (List.mem_cons_of_mem _ e)
    show valV (((Sum.inr d.1 : Key), x) :: kvE xs ds) (Sum.inr z) = none
    rw [valV_neg (by exact fun e => h1 (Sum.inr.inj e)), valV_kvE h2]
theorem sw_step {X : Cx} {st : Stmt} {rest : List Stmt} {ρ ρ' : Rho} {A A' : Asd} {D : Ends} {σ : L2.St} {G H : Hp} (h : B1F X st ρ A (.next ρ' A')) (sl : Sl G σ ρ) (sp : Sep G A H) (k : ∀ σ' G' H', Same G G' → Sep G' A' H' → Sl G' σ' ρ' → SW X rest D σ' H') : SW X (st :: rest) D σ H := sw_cons (h σ G H _ sl sp k)
theorem ev_at {X : Cx} {e : Expr} {ρ : Rho} {T : Ty} {σ : L2.St} {H : Hp} (h : EvE X e ρ T) (sl : Sl H σ ρ) : EW X e σ H fun v H' => Same H H' ∧ T.R H' v := h σ H sl
theorem eqT_data {H : Hp} {v : V} {xs : List V} {ds : List Dd} (hlen : xs.length = ds.length) (h : (lsT ((xs.zip ds).map fun q => eqT q.1 (dDd q.2))).R H v) : Rp H v (.list (ds.map dDd)) := by
  obtain ⟨a, ys, rfl, h1, hz, hp⟩ := h
  have hl := Paired.length hp
  refine .lst h1 hz (by rw [hl]; simp [hlen]) fun i v d e1 e2 => ?_
  rw [List.getElem?_map] at e2
  have hi : i < ds.length := by
    rcases Nat.lt_or_ge i ds.length with h | h
    · exact h
    · rw [List.getElem?_eq_none h] at e2; cases e2
  rw [List.getElem?_eq_getElem hi] at e2
  cases e2
  have hi2 : i < xs.length := by omega
  have e3 : ((xs.zip ds).map fun q => eqT q.1 (dDd q.2))[i]? = some (eqT xs[i] (dDd ds[i])) := by
    rw [List.getElem?_map, (List.getElem?_zip_eq_some (z := (xs[i], ds[i]))).mpr ⟨List.getElem?_eq_getElem hi2, List.getElem?_eq_getElem hi⟩]; rfl
  exact (pair_at hp i v _ e1 e3).2
theorem src_enumLs {X : Cx} {a : Expr} {ρ : Rho} {pos p' : Pos} {elts : List Expr} {kk : Nat} {tpos : Pos} {Ys : List Ty} (hm : X.mg "enumerate" = none) (h : EvE X a ρ (lsT Ys)) (hg : Gl X "enumerate" := by rfl) (he : starEach (a :: []) X.env = (false, eval a X.env) :: starEach [] X.env := by rfl) :
    Src X (.Tuple elts kk tpos) (.Call (.Name "enumerate" p') [a] [] pos) ρ Ys.length (fun i => tupT [nt i, Ys.getD i (dD .none)]) := fun σ H sl R k =>
  iw_of (pi_enum hg hm pa_aw he) (aw_of (pa_cons pe_ew pa_nil he) (ew_mono (h σ H sl) fun v H1 ⟨s1, r1⟩ => by
    obtain ⟨a, xs, rfl, h1, hz, hp⟩ := r1
    have hl := Paired.length hp
    refine ⟨a, xs, rfl, SqL.of h1, k _ _ s1 ⟨fun i H2 s2 hlt => ?_, fun i H2 s2 hle => ⟨xs, SqL.of (s2 _ _ h1), by omega⟩⟩⟩
    have hlt2 : i < xs.length := by omega
    refine ⟨⟨xs, xs[i], SqL.of (s2 _ _ h1), List.getElem?_eq_getElem hlt2⟩, fun x H' y => ?_⟩
    obtain ⟨p, z, rfl, hp', rfl, y⟩ := y
    have e1 := y xs (SqL.of (s2 _ _ h1))
    refine ⟨same_new hp', _, same_new (s2.free hp'), same_upd s2, fun b h1 h2 => by rw [upd_ne (fun z => h1 (by rw [z]; exact hp'))]; exact h2, ?_⟩
    have e2 : Ys[i]? = some (Ys.getD i (dD .none)) := by rw [List.getElem?_eq_getElem hlt, List.getD_eq_getElem?_getD, List.getElem?_eq_getElem hlt]; rfl
    exact ⟨p, _, rfl, upd_same, .cons (.int _) (.cons (Ty.mono _ _ _ _ (same_new (s2.free hp')) (pair_at hp i z _ e1 e2)) .nil)⟩))
def dkT (kvs : List (Key × V)) : Ty := ⟨fun H v => ∃ D, v = .ref D ∧ H D = some (.dK kvs), fun _ _ _ s ⟨D, e, h⟩ => ⟨D, e, s _ _ h⟩⟩
section
variable {X : Cx} {a b k v : Expr} {ρ : Rho} {pos p' : Pos} {z : Str} {kvs : List (Key × V)} {D : Addr} {A : Asd}
theorem et_inE (hu : X.A.units + 1 < cLine) (ha : EvD X a ρ (.str z)) (hb : EvE X b ρ (dkT kvs)) (hf : valV kvs (Sum.inr z : Key) = none) (hm : behindInMarks .In b = false := by rfl) : EvT X (.Compare a [.In] [b] pos) ρ false := fun σ H sl =>
  tw_of (pt_cmp (pc_din hu pe_ew pe_ew) hm) (ew_mono (ha σ H sl) fun x H1 ⟨s1, r1⟩ => ew_mono (hb σ H1 (sl.same s1)) fun y H2 ⟨s2, r2⟩ => by
    obtain ⟨D, rfl, hD⟩ := r2
    cases (Rp.str_inv r1)
    refine ⟨D, _, rfl, DGet.k (k := Sum.inr z) hD, _, rfl, s1.trans s2, ?_⟩
    rw [hf]; rfl)
theorem view_dk {i : Nat} (hi : ρ[i]? = some (some (refT D)) := by rfl) : View ρ ((D, dkE kvs) :: A) (ρ.set i (some (dkT kvs))) := fun σ G H sl sp => by
  obtain ⟨v, e, rfl⟩ := sl.at_ i _ hi
  obtain ⟨H1, o, rfl, h1, hp, hc⟩ := sp.inv
  cases (show o = _ from hc)
  exact (sl.same sp.same).put e ⟨D, rfl, upd_same⟩
theorem b1f_dputE {x : V} {d : PyData} (hu : X.A.units + 1 < cLine) (ho : EvE X a ρ (refT D)) (hk : EvD X k ρ (.str z)) (hv : EvE X v ρ (eqT x d)) (hl : kvs.length < 100000) (hs : swapsWith v (some (.Subscript a k p')) pos.line X.env = pure false := by rfl) :
    B1F X (.Assign [.Subscript a k p'] v pos) ρ ((D, dkE kvs) :: A) (.next ρ ((D, dkE (putK kvs (Sum.inr z : Key) x)) :: A)) := fun σ G H Dn sl sp g =>
  s1_of (ps_dput hu pe_ew pe_ew pe_ew hs) (ew_mono (ef_pure hv σ G H sl sp) fun y1 H1 ⟨G1, s1, sp1, r1⟩ => ew_mono (ef_pure ho σ G1 H1 (sl.same s1) sp1) fun y H2 ⟨G2, s2, sp2, r2⟩ => ew_mono (ef_pure hk σ G2 H2 (sl.same (s1.trans s2)) sp2) fun y3 H3 ⟨G3, s3, sp3, r3⟩ => by
    cases (show y = .ref D from r2)
    cases (Rp.str_inv r3)
    cases (show y1 = x from r1.1)
    obtain ⟨H4, o', rfl, h1, hp, hc⟩ := sp3.inv
    cases (show o' = _ from hc)
    have hln : kvs.length < sizeLine := by rw [sizeLine_eq]; omega
    refine ⟨D, _, rfl, DPut.k (k := Sum.inr z) upd_same hln, ?_⟩
    rw [upd_upd]
    exact g σ G3 _ ((s1.trans s2).trans s3) (.cons h1 hp rfl) (sl.same ((s1.trans s2).trans s3)))
end
theorem kvE_take {xs : List V} {ds : List Dd} (hlen : xs.length = ds.length) (hnd : (ds.map (·.1)).Nodup) (i : Nat) (hi : i < ds.length) : valV (kvE (xs.take i) (ds.take i)) (Sum.inr (ds.getD i ("", 0, [])).1 : Key) = none ∧ kvE (xs.take (i + 1)) (ds.take (i + 1)) = kvE (xs.take i) (ds.take i) ++ [((Sum.inr (ds.getD i ("", 0, [])).1 : Key), xs.getD i .non)] := by
  refine ⟨valV_kvE fun h => ?_, ?_⟩
  · obtain ⟨d, hd, e⟩ := List.mem_map.mp h
    obtain ⟨j, hj, hd⟩ := List.mem_iff_getElem.mp hd
    rw [List.length_take] at hj
    rw [List.getElem_take] at hd
    rw [List.getD_eq_getElem?_getD, List.getElem?_eq_getElem hi] at e
    rw [← hd] at e
    have := (List.getElem_inj (i := j) (j := i) (h₀ := by rw [List.length_map]; omega) (h₁ := by rw [List.length_map]; exact hi) hnd).mp (by rw [List.getElem_map, List.getElem_map]; exact e)
    omega
  · unfold kvE
    rw [take_snoc xs .non i (by omega), take_snoc ds ("", 0, []) i hi, List.zip_append (by simp [hlen]), List.map_append]
    rfl
theorem ok_Hinit {f fd} (Fu : MtD K "__init__" "House.__init__" sH_init f fd) (B : Bi mg) (Cm : Co mg) (hk : HsK K C) (h1 : Kn P w K mg base 1 "is_whole" F_is_whole) (h2 : Kn P w K mg base 4 "is_deed" F_is_deed) : FnOk P w K mg base CX0 5 f fd ["self", "size", "deeds"] (spInit C) := by
  refine Fu.ok sc_Hinit ?_ ?_
  · rintro vs H Q E ⟨H0, a, dx, l, n, ds, xs, rfl, _⟩; rfl
  · rintro cdv A outer s H vs Q E hr ⟨H0, a, dx, l, n, ds, xs, rfl, rfl, ha, hdx, hne, hl, hp, ok, hQ⟩
    have hr1 : Room 1 _ := hr.mono (by decide)
    have hn9 := ok.n9
    have hn0 := ok.n0
    refine ⟨_, PSs.nox pss_sw, ?_⟩
    have hs0 : Same H0 (upd (upd H0 dx (.own a)) a (.ins C dx [])) := (same_new hdx).trans (same_new (by rw [upd_ne (Ne.symm hne)]; exact ha))
    have hlen : xs.length = ds.length := by have := Paired.length hp; simpa using this
    show SW _ (defBody sH_init) _ (start _ [.ref a, .int (n : Int), .ref l]) _
    have hpx : ∀ {H : Hp} {xs : List V} {ds : List Dd}, Paired (fun v d => Rp H v d) xs (ds.map dDd) → Paired (fun v (T : Ty) => T.R H v) xs ((xs.zip ds).map fun q => eqT q.1 (dDd q.2)) := by
      intro H xs ds
      induction xs generalizing ds with
      | nil => intro h; cases ds with | nil => exact .nil | cons _ _ => cases h
      | cons x xs ih =>
        intro h
        cases ds with
        | nil => cases h
        | cons d ds => cases h with | cons r t => exact .cons ⟨rfl, r⟩ (ih t)
    have sl0 : Sl (upd (upd H0 dx (.own a)) a (.ins C dx [])) (start ["self", "size", "deeds", "found", "at", "deed"] [.ref a, .int (n : Int), .ref l]) [some (refT a), some (nt n), some (lsT ((xs.zip ds).map fun q => eqT q.1 (dDd q.2))), none, none, none] :=
      sl_start (Ts := [refT a, nt n, lsT ((xs.zip ds).map fun q => eqT q.1 (dDd q.2))]) (.cons rfl (.cons (.int _) (.cons ⟨l, xs, rfl, hs0 _ _ hl, small_line (by have := ok.few; omega), pair_same hs0 (hpx hp)⟩ .nil)))
    have hdt : ∀ {X : Cx} {ρ : Rho} {e : Expr}, EvE X e ρ (lsT ((xs.zip ds).map fun q => eqT q.1 (dDd q.2))) → EvD X e ρ (.list (ds.map dDd)) := fun h => h.imp fun H v h => eqT_data hlen h
    refine sw_step (b1f_skip (A := []) (et_w (ew_or (p := false) (q := false) (et_not (p := true) (et_val (ev_call h1 hr1 (eva_cons (ev_var 1) eva_nil) ⟨_, rfl, rfl⟩))) fun _ => ew_or1 (et_not (p := true) ((et_chain2 op_le op_le (i := 1) (j := (n : Int)) (k := 9) ev_int (ev_var 1) (ev_gint Cm.things)).to (by simp; omega))))) rfl) sl0 .nil fun σ1 G1 H1 s1 sp1 sl1 => ?_
    refine sw_step (b1f_skip (A := []) (et_w (ew_or (p := false) (q := false) (et_not (p := true) (et_val (ev_isi "list" "list" true B.isi (hdt (ev_var 2)) (ev_bty B.list)))) fun _ => ew_or1 ((et_gt (i := (ds.length : Int)) (j := 6) (ev_len (n := ds.length) B.len (hdt (ev_var 2)) (by simp [lenD])) (ev_gint Cm.deeds)).to (decide_eq_false (by have := ok.few; omega))))) rfl) sl1 sp1 fun σ2 G2 H2 s2 sp2 sl2 => ?_
    refine sw_cons (s1_of (ps_set (i := 3) sc_Hinit.nd rfl (.inl rfl) pe_dnewK) (fun D hD => ?_))
    have sl3 : Sl G2 (σ2.set 3 (some (.ref D))) [some (refT a), some (nt n), some (lsT ((xs.zip ds).map fun q => eqT q.1 (dDd q.2))), some (refT D), none, none] := sl2.set (i := 3) (T := refT D) rfl
    have hz : ((xs.zip ds).map fun q => eqT q.1 (dDd q.2)).length = ds.length := by simp [hlen]
    refine sw_step (b1f_for (n0 := ds.length) (js := [4, 5]) (A' := [(D, dkE (kvE xs ds))]) (ρ' := [some (refT a), some (nt n), some (lsT ((xs.zip ds).map fun q => eqT q.1 (dDd q.2))), some (refT D), none, none]) (fun i => [some (refT a), some (nt n), some (lsT ((xs.zip ds).map fun q => eqT q.1 (dDd q.2))), some (refT D), none, none]) _ (fun i => [(D, dkE (kvE (xs.take i) (ds.take i)))])
      (sf_pure (src_len (src_enumLs B.enumerate (ev_var 2)) hz)) (pg_tup (n := 2) rfl (pgs_cons (pgn 4 sc_Hinit.nd) (pgs_cons (pgn 5 sc_Hinit.nd) pgs_nil))) (fun m h => Nat.le_of_eq h) (fun i hi => tgo_tup (n := 2) (tgs_cons (tgs_cons tgs_nil))) (fun i hi => .inl ?_) (fun m h => by subst h; rw [List.take_length, List.take_of_length_le (by omega)]; exact ⟨le_refl, wk_refl⟩)) sl3 (.cons sp2 hD rfl) fun σ4 G4 H4 s4 sp4 sl4 => ?_
    · have hi2 : i < xs.length := by omega
      have hY : ((xs.zip ds).map fun q => eqT q.1 (dDd q.2)).getD i (dD .none) = eqT (xs.getD i .non) (dDd (ds.getD i ("", 0, []))) := by
        rw [List.getD_eq_getElem?_getD, List.getElem?_map, (List.getElem?_zip_eq_some (z := (xs[i], ds[i]))).mpr ⟨List.getElem?_eq_getElem hi2, List.getElem?_eq_getElem hi⟩, List.getD_eq_getElem?_getD, List.getD_eq_getElem?_getD, List.getElem?_eq_getElem hi2, List.getElem?_eq_getElem hi]; rfl
      rw [hY]
      obtain ⟨d1, d2⟩ := ok.ok _ (getD_mem ds i ("", 0, []) hi)
      obtain ⟨k1, k2⟩ := kvE_take hlen ok.nd i hi
      generalize hd : ds.getD i ("", 0, []) = d at *
      have hed : ∀ {X : Cx} {ρ : Rho} {e : Expr}, EvE X e ρ (eqT (xs.getD i .non) (dDd d)) → EvD X e ρ (dDd d) := fun h => h.imp fun H v h => h.2
      have hz : ∀ {X : Cx} {ρ : Rho} {b : Expr} {pos : Pos} {e : Expr}, EvE X e ρ (eqT (xs.getD i .non) (dDd d)) → EvD X b ρ (.int ((0 : Nat) : Int)) → PlainIx b → EvD X (.Subscript e b pos) ρ (.str d.1) := fun h1 h2 h3 => ev_ixT (i := 0) (d := .str d.1) (ds := [.str d.1, .int (d.2.1 : Int), dRow d.2.2]) (hed h1) h2 rfl h3
      refine bf_cons (b1f_skipF (tf_view (b := false) (et_w (ew_or (p := false) (q := false) (et_not (p := true) (et_val (ev_call h2 hr (eva_cons (hed (ev_var 5)) (eva_cons (ev_var 1) eva_nil)) ⟨d.1, d.2.1, d.2.2, n, rfl, d1, d2, rfl⟩))) fun _ => ew_or1 (et_inE (room1 hr) (hz (ev_var 5) ev_int (fun _ _ => rfl)) (ev_var 3) k1))) (view_dk (i := 3) rfl))) ?_
      rw [k2, ← putK_new _ k1]
      refine bf_forget (bf_one (b1f_dputE (room1 hr) (ev_var 3) (hz (ev_var 5) ev_int (fun _ _ => rfl)) (ev_var 5) (by have := ok.few; unfold kvE; simp; omega))) (le_keep (le_keep (le_keep (le_keep (le_drop (le_drop le_nil))))))
    · obtain ⟨va, ea, rfl⟩ := sl4.at_ 0 _ rfl
      have hsT : Same (upd (upd H0 dx (.own a)) a (.ins C dx [])) G4 := (s1.trans s2).trans s4
      have hGa : G4 a = some (.ins C dx []) := hsT _ _ upd_same
      obtain ⟨H5, o5, rfl, h5, hD5, hc5⟩ := sp4.inv
      cases (show o5 = _ from hc5)
      have e5 := h5.inv0
      subst e5
      have hDa : D ≠ a := fun z => by rw [z, hGa] at hD5; cases hD5
      have sl5 := sl4.same (sp4.same)
      refine sw_cons (s1_of (ps_fld pe_ew pe_ew rfl) (ew_mono (ev_at (T := nt n) (ev_var 1) sl5) fun y H6 ⟨s6, r6⟩ => ew_mono (ev_at (T := refT a) (ev_var 0) (sl5.same s6)) fun x H7 ⟨s7, r7⟩ => ?_))
      cases (Rp.int_inv r6)
      cases (show x = .ref a from r7)
      have ha7 : H7 a = some (.ins C dx []) := (s6.trans s7) _ _ (by rw [upd_ne (Ne.symm hDa)]; exact hGa)
      have hD7 : H7 D = some (.dK (kvE xs ds)) := (s6.trans s7) _ _ upd_same
      refine ⟨a, C, dx, [], rfl, ha7, hk.c, hk.ns, by decide, ?_⟩
      have slr : ∀ H, Sl H σ4 [some (refT a), none, none, some (refT D), none, none] := fun H => ⟨sl4.len, fun i T q => by
        rcases i with _ | _ | _ | _ | i
        · cases q; exact ⟨_, ea, rfl⟩
        · cases q
        · cases q
        · cases q
          obtain ⟨v, e, r⟩ := sl4.at_ 3 _ rfl
          cases (show v = .ref D from r)
          exact ⟨_, e, rfl⟩
        · exfalso
          rcases i with _ | _ | i
          · cases q
          · cases q
          · simp at q⟩
      refine sw_one (s1_of (ps_fld pe_ew pe_ew rfl) (ew_mono (ev_at (T := refT D) (ev_var 3) (slr _)) fun y H8 ⟨s8, r8⟩ => ew_mono (ev_at (T := refT a) (ev_var 0) (slr _)) fun x H9 ⟨s9, r9⟩ => ?_))
      cases (show y = .ref D from r8)
      cases (show x = .ref a from r9)
      have s89 := s8.trans s9
      have ha9 : H9 a = some (.ins C dx [("size", .int (n : Int))]) := s89 _ _ upd_same
      have hD9 : H9 D = some (.dK (kvE xs ds)) := s89 _ _ (by rw [upd_ne hDa]; exact hD7)
      refine ⟨a, C, dx, _, rfl, ha9, hk.c, hk.nb, (by show 1 < 1000; decide), hQ D _ ?_ upd_same (by rw [upd_ne hDa]; exact hD9)⟩
      intro b u e
      have nb : b ≠ a := fun z => by rw [z, ha] at e; cases e
      rw [upd_ne nb]
      refine s89 _ _ ?_
      rw [upd_ne nb]
      exact (s6.trans s7) _ _ (sp4.same _ _ (hsT _ _ (hs0 _ _ e)))
end
/-- House(size, deeds) -/
theorem ev_house {X : Cx} {e1 e2 : Expr} {ρ : Rho} {p pos : Pos} {C : Addr} {n : Nat} {ds : List Dd} (c : C8.Mak X.prog X.w X.K X.mg X.base 5 "House" C (spInit C) []) (hr : Room 6 X.A) (h1 : EvD X e1 ρ (.int (n : Int))) (h2 : EvD X e2 ρ (.list (ds.map dDd))) (ok : HseOk n ds) (hg : Gl X "House" := by rfl)
    (he : starEach (e1 :: [e2]) X.env = (false, eval e1 X.env) :: starEach [e2] X.env := by rfl) (he2 : starEach (e2 :: []) X.env = (false, eval e2 X.env) :: starEach [] X.env := by rfl) (hpl : (backTo pos (starEach [e2] X.env)).any (·.1) = false := by rfl) : EvE X (.Call (.Name "House" p) [e1, e2] [] pos) ρ (HouseT C n ds) := fun σ H sl =>
  ew_of (C8.pe_mk c hr (Nat.le_refl _) hg pa_aw (by decide) he hpl) (aw_of (pa_cons pe_ew (pa_cons pe_ew pa_nil he2) he) (ew_mono (h1 σ H sl) fun v1 H1 ⟨s1, r1⟩ => ew_mono (h2 σ H1 (sl.same s1)) fun v2 H2 ⟨s2, r2⟩ => by
    cases (Rp.int_inv r1)
    obtain ⟨l, xs, rfl, hl, hz, hll, hi⟩ := Rp.lst_inv r2
    intro x dx hx hdx hne
    have hp : ∀ {xs : List V} {ds : List PyData}, xs.length = ds.length → (∀ (i : Nat) (v : V) (d : PyData), xs[i]? = some v → ds[i]? = some d → Rp H2 v d) → Paired (fun v d => Rp H2 v d) xs ds := by
      intro xs
      induction xs with
      | nil => intro ds h _; cases ds with | nil => exact .nil | cons _ _ => cases h
      | cons x xs ih =>
        intro ds h k
        cases ds with
        | nil => cases h
        | cons d ds => exact .cons (k 0 x d rfl rfl) (ih (Nat.succ.inj h) fun i v e h1 h2 => k (i + 1) v e (by simpa using h1) (by simpa using h2))
    have hp2 := hp hll hi
    refine ⟨H2, x, dx, l, n, ds, xs, rfl, rfl, hx, hdx, hne, hl, hp2, ok, fun D H' s ha hD => ⟨rfl, (s1.trans s2).trans s, x, dx, .ref D, rfl, ha, D, _, rfl, hD, ?_⟩⟩
    have go : ∀ {xs : List V} {ds : List Dd}, Paired (fun v d => Rp H2 v d) xs (ds.map dDd) → Paired (fun (kv : Key × V) (d : Dd) => kv.1 = Sum.inr d.1 ∧ Rp H' kv.2 (dDd d)) (kvE xs ds) ds := by
      intro xs
      induction xs with
      | nil => intro ds h; cases ds with | nil => exact .nil | cons _ _ => cases h
      | cons x xs ih =>
        intro ds h
        cases ds with
        | nil => cases h
        | cons d ds => cases h with | cons r t => exact .cons ⟨rfl, r.same s⟩ (ih t)
    exact go hp2))
end WD
set_option Elab.async false
set_option linter.all false
set_option maxRecDepth 100000
set_option maxHeartbeats 4000000
namespace WD
open PySem PySem.Spec PyProof.Rows L2
/-! ### the well -/
def w3 (a b d : Int) : List PyData := [.int a, .int b, .int d]
abbrev W3 := Int × Int × Int
def wOk (c : Nat) (q : W3) : Prop := 0 ≤ q.1 ∧ 0 ≤ q.2.1 ∧ q.2.1 < 8589934592 ∧ 0 ≤ q.2.2 ∧ q.2.2 ≤ (c : Int)
def wellC (c : Nat) : Cn := exC (wOk c) fun q => lstC ((w3 q.1 q.2.1 q.2.2).map dD)
abbrev lim : Nat := 1000000000
theorem wk_well {W : Addr} {c c' : Nat} {A : Asd} (h : c ≤ c') : Wk ((W, wellC c) :: A) ((W, wellC c') :: A) := ⟨rfl, fun H o ⟨q, ⟨h1, h2, h3, h4, h5⟩, r⟩ => ⟨q, ⟨h1, h2, h3, h4, by omega⟩, r⟩, wk_refl⟩
def ltT (m : Nat) : Ty := exT (fun k : Nat => k < m) nt
theorem flat_nt {m : Nat} : Flat (nt m) := flat_int
theorem flat_lt {m : Nat} : Flat (ltT m) := flat_ex fun _ _ => flat_int
/-- called with the well and things of Ts it hands back one of T, k draws at most -/
def spW (F : List Ty → Ty → Nat → Prop) : Sp := fun vs H Q _ => ∃ (W : Addr) (us : List V) (Ts : List Ty) (T : Ty) (k c : Nat) (G : Hp), vs = .ref W :: us ∧ Paired (fun v (T : Ty) => T.R G v) us Ts ∧ F Ts T k ∧ c + k ≤ lim ∧ Sep G [(W, wellC c)] H ∧ ∀ v G' H', Same G G' → Sep G' [(W, wellC (c + k))] H' → T.R G' v → Q v H'
structure Kw (P : Program) (w : World) (K : PySem.W.Frag) (mg : Str → Option Value) (base : Heap) (k : Nat) (x : Str) (F : List Ty → Ty → Nat → Prop) : Prop where
  ex : ∃ (f : Addr) (fd : FuncData) (ps : List Str), FnOk P w K mg base CX0 k f fd ps (spW F) ∧ mg x = some (.ref f) ∧ PySem.W.keepIn K (.ref f) = true ∧ Binds K fd ps []
section
variable {X : Cx} {e a b : Expr} {es : List Expr} {ρ ρ' : Rho} {T U : Ty} {pos p' p2 : Pos} {A A' B : Asd} {p W : Addr} {Ys : List Ty} {st : Stmt} {sts : List Stmt} {o : OutF}
theorem ef_callW {x : Str} {F : List Ty → Ty → Nat → Prop} {lv k c : Nat} {Ts : List Ty} (h : Kw X.prog X.w X.K X.mg X.base lv x F) (hr : Room lv X.A) (ha : EvE X a ρ (refT W)) (hes : AF X es ρ A A' Ts) (pm : A'.Perm ((W, wellC c) :: B)) (hF : ∀ H vs, Paired (fun v (T : Ty) => T.R H v) vs Ts → ∃ Ts', Paired (fun v (T : Ty) => T.R H v) vs Ts' ∧ F Ts' T k) (hc : c + k ≤ lim) (hfl : B = [] ∨ Flat T)
    (hg : Gl X x := by rfl) (hdb : (x == ("__debug__" : Str)) = false := by decide) (he : starEach (a :: es) X.env = (false, eval a X.env) :: starEach es X.env := by rfl) (hpl : (backTo pos (starEach es X.env)).any (·.1) = false := by rfl) : EF X (.Call (.Name x p') (a :: es) [] pos) ρ A ((W, wellC (c + k)) :: B) T := fun σ G H sl sp => by
  obtain ⟨f, fd, ps, Fn, hm, kp, hb⟩ := h.ex
  refine ew_of (pe_call Fn hr hg hm kp hb .nil pass0 pa_aw hdb he hpl) (aw_of (pa_cons pe_ew pa_aw he) (ew_mono (ef_pure ha σ G H sl sp) fun v H1 ⟨G1, s1, sp1, r1⟩ => aw_mono (hes σ G1 H1 (sl.same s1) sp1) fun vs H2 ⟨G2, s2, sp2, r2⟩ => ?_))
  cases (show v = .ref W from r1)
  obtain ⟨H3, o, rfl, h3, hp, hcn⟩ := (sp2.perm pm).inv
  obtain ⟨Ts', q1, q2⟩ := hF _ _ (pair_same h3.same r2)
  refine ⟨W, vs, Ts', T, k, c, H3, by rw [List.append_nil], q1, q2, hc, .cons .nil hp ((wellC c).mono _ _ _ h3.same hcn), fun v G' H' s sp' r => ?_⟩
  obtain ⟨H4, o', rfl, h4, hp4, hc4⟩ := sp'.inv
  have e4 := h4.inv0
  subst e4
  obtain ⟨G5, sp5, s5, k5⟩ := h3.split s
  rcases hfl with rfl | fl
  · cases sp5.inv0
    exact ⟨_, (s1.trans s2).trans s5, .cons .nil hp4 hc4, r⟩
  · refine ⟨G5, (s1.trans s2).trans s5, .cons sp5 hp4 ?_, fl _ _ _ _ sp5 r⟩
    obtain ⟨q, q1, xs, q2, q3, q4⟩ := hc4
    refine ⟨q, q1, xs, q2, q3, ?_⟩
    have go : ∀ {xs : List V} {is : List PyData}, (∀ d ∈ is, ∃ i : Int, d = .int i) → Paired (fun v (T : Ty) => T.R H4 v) xs (is.map dD) → Paired (fun v (T : Ty) => T.R G5 v) xs (is.map dD) := by
      intro xs is
      induction is generalizing xs with
      | nil => intro _ h; cases h; exact .nil
      | cons d is ih =>
        intro hi h
        cases h with
        | cons r t =>
          obtain ⟨i, rfl⟩ := hi d List.mem_cons_self
          have r : Rp H4 _ (.int i) := r
          exact .cons (by rw [r.int_inv]; exact .int i) (ih (fun d hd => hi d (List.mem_cons_of_mem _ hd)) t)
    exact go (fun d hd => by simp only [w3, List.mem_cons, List.not_mem_nil, or_false] at hd; rcases hd with rfl | rfl | rfl <;> exact ⟨_, rfl⟩) q4
theorem fn_well {P : Program} {w : World} {K : PySem.W.Frag} {mg : Str → Option Value} {base : Heap} {x qual : Str} {params : Arguments} {body : List Stmt} {scope : Scope} {f : Addr} {fd : FuncData} {N ps : List Str} {k : Nat} {F : List Ty → Ty → Nat → Prop}
    (Fu : FunD K x qual params body scope [] [] f fd) (S : FnScope N ps scope) (hl : ∀ Ts T k, F Ts T k → Ts.length + 1 = ps.length)
    (hb : ∀ (cdv : Value) (A : Around) (outer : List Env) (s : Shared) (H : Hp) (E : XK), Room k (A.deeper (envOfC qual scope s.heap.objs.size f cdv)) → ∀ W Ts T kk c, F Ts T kk → c + kk ≤ lim → BF (cxOf CX0 P w K mg base N qual scope f cdv A outer s H E).nox body ((refT W :: Ts).map some ++ List.replicate (N.length - (Ts.length + 1)) none) [(W, wellC c)] (.ret T [(W, wellC (c + kk))])) :
    FnOk P w K mg base CX0 (k + 1) f fd ps (spW F) := by
  refine Fu.ok S (fun vs H Q E h => ?_) fun cdv A outer s H vs Q E hr h => ?_
  · obtain ⟨W, us, Ts, T, kk, c, G, rfl, hp, hF, _⟩ := h
    rw [List.length_cons, Paired.length hp]; exact hl _ _ _ hF
  · obtain ⟨W, us, Ts, T, kk, c, G, rfl, hp, hF, hc, sp, hQ⟩ := h
    refine ⟨_, PSs.nox pss_sw, ?_⟩
    exact hb cdv A outer s H E hr W Ts T kk c hF hc _ G H _ (sl_start (Ts := refT W :: Ts) (.cons rfl hp)) sp fun v G' H' s' sp' r => hQ v G' H' s' sp' r
theorem kw_of {P : Program} {w : World} {K : PySem.W.Frag} {mg : Str → Option Value} {base : Heap} {x qual : Str} {params : Arguments} {body : List Stmt} {scope : Scope} {f : Addr} {fd : FuncData} {ps : List Str} {k : Nat} {F : List Ty → Ty → Nat → Prop}
    (Fu : FunD K x qual params body scope [] [] f fd) (h : FnOk P w K mg base CX0 k f fd ps (spW F)) (hm : mg x = some (.ref f)) (hb : ∀ (kV doc pm : Value) (an : Option Addr) (cdv ct : Value) (us : List Value), us.length = ps.length → bindArgs (PySem.W.fnOf x qual params body scope .none kV doc pm an cdv ct) ⟨us, []⟩ = pure (ps.zip us)) : Kw P w K mg base k x F :=
  ⟨f, fd, ps, h, hm, Fu.kp, Fu.bindsN hb⟩
/-- xs[i] = v, xs a list that changes -/
theorem b1f_lput {i : Nat} (ho : EvE X a ρ (refT p)) (hi : EvD X b ρ (.int (i : Int))) (he : EF X e ρ ((p, lstC Ys) :: A) ((p, lstC Ys) :: A) T) (hl : i < Ys.length)
    (ha : ∀ v, assign (.Subscript a b p') X.env v = (do
      let ov ← holding [v] (eval a X.env)
      let iv ← holding [v, ov] (eval b X.env)
      standAt p'
      holding [v, ov, iv] (setItem ov iv v)
      release [v, ov, iv] []) := by intro _; rfl) (hs : swapsWithSole [.Subscript a b p'] e pos.line X.env = pure false := by rfl) (hw : swappedStores [.Subscript a b p'] e X.env = pure none := by rfl)
    (h1 : (assignEach [.Subscript a b p'] X.env).map (·.2) = [assign (.Subscript a b p') X.env] := by rfl) :
    B1F X (.Assign [.Subscript a b p'] e pos) ρ ((p, lstC Ys) :: A) (.next ρ ((p, lstC (Ys.set i T)) :: A)) := fun σ G H D sl sp g =>
  s1_of (ps_asg pe_ew (pg_sub pe_ew pe_ew set_list ha) hs hw h1) (ew_mono (he σ G H sl sp) fun v H1 ⟨G1, s1, sp1, r1⟩ => ew_mono (ef_pure ho σ G1 H1 (sl.same s1) sp1) fun x H2 ⟨G2, s2, sp2, r2⟩ => ew_mono (ef_pure hi σ G2 H2 (sl.same (s1.trans s2)) sp2) fun y H3 ⟨G3, s3, sp3, r3⟩ => by
    cases (show x = .ref p from r2)
    cases (Rp.int_inv r3)
    obtain ⟨H4, o', rfl, h4, hp, xs, rfl, hz, hc⟩ := sp3.inv
    have hlx := Paired.length hc
    refine ⟨p, xs, i, i, rfl, rfl, upd_same, ?_, ?_⟩
    · unfold ixN
      rw [if_pos (by omega), if_pos (by omega)]; simp
    · rw [upd_upd]
      refine g σ G3 _ ((s1.trans s2).trans s3) (.cons h4 hp ⟨_, rfl, by rw [List.length_set]; exact hz, ?_⟩) (sl.same ((s1.trans s2).trans s3))
      have go : ∀ {xs : List V} {Ys : List Ty} {i : Nat}, Paired (fun v (T : Ty) => T.R G3 v) xs Ys → Paired (fun v (T : Ty) => T.R G3 v) (xs.set i v) (Ys.set i T) := by
        intro xs Ys i h
        induction h generalizing i with
        | nil => exact .nil
        | cons r t ih =>
          cases i with
          | zero => exact .cons (T.mono _ _ _ (s2.trans s3) r1) t
          | succ i => exact .cons r (ih)
      exact go hc)
end
section
variable {P : Program} {w : World} {K : PySem.W.Frag} {mg : Str → Option Value} {base : Heap}
theorem sc_draw : FnScope ["_law_well_here", "_law_many", "_law_found", "_law_number"] ["_law_well_here", "_law_many"] (defScope s_law_draw) := ⟨rfl, rfl, rfl, by decide +kernel, rfl, by decide +kernel, by decide +kernel⟩
def F_draw : List Ty → Ty → Nat → Prop := fun Ts T k => ∃ m : Nat, Ts = [nt m] ∧ 0 < m ∧ m ≤ 1000000 ∧ T = ltT m ∧ k = 1
theorem int_lt {m : Nat} {i : Int} (h1 : 0 ≤ i) (h2 : i < (m : Int)) {H : Hp} {v : V} (h : Rp H v (.int i)) : (ltT m).R H v := ⟨i.toNat, by omega, by
  have : ((i.toNat : Nat) : Int) = i := by omega
  show Rp H v (.int ((i.toNat : Nat) : Int))
  rw [this]; exact h⟩
theorem ok_draw {f fd} (Fu : FnD K "_law_draw" s_law_draw f fd) (hm : mg "_law_draw" = some (.ref f)) : Kw P w K mg base 1 "_law_draw" F_draw := by
  refine kw_of Fu (fn_well Fu sc_draw ?_ ?_) hm (fun _ _ _ _ _ _ us hl => match us, hl with | [_, _], _ => rfl)
  · rintro _ _ _ ⟨m, rfl, _⟩; rfl
  · rintro cdv A outer s H E hr W _ _ _ c ⟨m, rfl, hm0, hm1, rfl, rfl⟩ hc
    have hc : c + 1 ≤ 1000000000 := hc
    show BF _ (defBody s_law_draw) [some (refT W), some (nt m), none, none] [(W, wellC c)] (.ret (ltT m) [(W, wellC (c + 1))])
    refine bf_exC (P := wOk c) (F := fun q => lstC ((w3 q.1 q.2.1 q.2.2).map dD)) fun q hq => ?_
    obtain ⟨a, b, d⟩ := q
    obtain ⟨h1, h2, h3, h4, h5⟩ := hq
    have h1 : 0 ≤ a := h1
    have h2 : 0 ≤ b := h2
    have h3 : b < 8589934592 := h3
    have h4 : 0 ≤ d := h4
    have h5 : d ≤ (c : Int) := h5
    have vw : ∀ {ρ : Rho} {a b d : Int}, ρ[0]? = some (some (refT W)) → View ρ [(W, lstC ((w3 a b d).map dD))] (ρ.set 0 (some (dD (.list (w3 a b d))))) := fun h => view_data h
    by_cases ha : 0 < a
    · have e1 := Int.emod_nonneg a (show (m : Int) ≠ 0 by omega)
      have e2 := Int.emod_lt_of_pos a (show (0 : Int) < m by omega)
      refine bf_stop (b1f_if (tf_view ((et_gt (i := a) (j := 0) (ev_ixL (i := 0) (ds := w3 a b d) (d := .int a) (ev_var 0) ev_int rfl) ev_int).to (decide_eq_true ha)) (vw rfl)) (fun _ => ?_) (fun z => by cases z))
      refine bf_cons (b1f_set 2 (T := dD (.int (a % m))) (ef_view (ev_mod (i := a) (j := (m : Int)) (ev_ixL (i := 0) (ds := w3 a b d) (d := .int a) (ev_var 0) ev_int rfl) (ev_var 1) (by omega)) (vw rfl) flat_int) sc_draw.nd) ?_
      refine bf_cons (b1f_lput (i := 0) (T := dD (.int (a / m))) (ev_var 0) ev_int (ef_view (ev_fdiv (i := a) (j := (m : Int)) (ev_ixL (i := 0) (ds := w3 a b d) (d := .int a) (ev_var 0) ev_int rfl) (ev_var 1) ⟨by omega, by omega⟩) (vw rfl) flat_int) (by show 0 < 3; decide)) ?_
      refine bf_one (b1f_ret (ef_wk (ef_imp (ef_pure (ev_var 2)) fun H v h => int_lt e1 e2 h) ⟨rfl, fun H o h => ⟨(a / m, b, d), ⟨Int.ediv_nonneg h1 (by omega), h2, h3, h4, by show d ≤ ((c + 1 : Nat) : Int); omega⟩, h⟩, trivial⟩))
    · refine bf_cons (b1f_skipF (tf_view ((et_gt (i := a) (j := 0) (ev_ixL (i := 0) (ds := w3 a b d) (d := .int a) (ev_var 0) ev_int rfl) ev_int).to (decide_eq_false ha)) (vw rfl))) ?_
      refine bf_cons (b1f_lput (i := 2) (T := dD (.int (d + 1))) (ev_var 0) ev_int (ef_view (ev_add (i := d) (j := 1) (ev_ixL (i := 2) (ds := w3 a b d) (d := .int d) (ev_var 0) ev_int rfl) ev_int) (vw rfl) flat_int) (by show 2 < 3; decide)) ?_
      show BF _ _ _ [(W, lstC ((w3 a b (d + 1)).map dD))] _
      have p1 : (0 : Int) < 2147483629 := by decide
      generalize hx : b + 15485863 * (d + 1) = x
      have hx0 : 0 ≤ x := by omega
      have hx1 : x < 18446744073709551616 := by omega
      generalize hn : x ^ 3 % 2147483629 = n1
      have n0 : 0 ≤ n1 := by rw [← hn]; exact Int.emod_nonneg _ (by decide)
      have n2 : n1 < 2147483629 := by rw [← hn]; exact Int.emod_lt_of_pos _ p1
      refine bf_cons (b1f_set 3 (T := dD (.int n1)) (ef_view (EvE.to (ev_mod (i := x ^ 3) (j := 2147483629) (EvE.to (ev_pow (i := x) (j := 3) (EvE.to (ev_add (i := b) (j := 15485863 * (d + 1)) (ev_ixL (i := 1) (ds := w3 a b (d + 1)) (d := .int b) (ev_var 0) ev_int rfl) (ev_mul (i := 15485863) (j := d + 1) ev_int (ev_ixL (i := 2) (ds := w3 a b (d + 1)) (d := .int (d + 1)) (ev_var 0) ev_int rfl) (.inl (by decide)))) (by rw [hx])) ev_int ⟨by decide, by decide, by omega⟩) rfl) ev_int p1) (by rw [hn])) (vw rfl) flat_int) sc_draw.nd) ?_
      have d0 := Int.ediv_nonneg n0 (show (0 : Int) ≤ 1009 by decide)
      refine bf_cons (b1f_set 3 (T := dD (.int (n1 * (n1 / 1009 + 69621 + (d + 1)) % 2147483647))) (ef_view (ev_mod (i := n1 * (n1 / 1009 + 69621 + (d + 1))) (j := 2147483647) (ev_mul (i := n1) (j := n1 / 1009 + 69621 + (d + 1)) (ev_var 3) (ev_add (i := n1 / 1009 + 69621) (j := d + 1) (ev_add (i := n1 / 1009) (j := 69621) (ev_fdiv (i := n1) (j := 1009) (ev_var 3) ev_int ⟨by decide, by decide⟩) ev_int) (ev_ixL (i := 2) (ds := w3 a b (d + 1)) (d := .int (d + 1)) (ev_var 0) ev_int rfl)) (.inl ⟨by omega, by omega⟩)) ev_int (by decide)) (vw rfl) flat_int) sc_draw.nd) ?_
      generalize n1 * (n1 / 1009 + 69621 + (d + 1)) % 2147483647 = n3
      refine bf_one (b1f_ret (ef_wk (ef_imp (ef_pure (ev_mod (i := n3 / 11) (j := (m : Int)) (ev_fdiv (i := n3) (j := 11) (ev_var 3) ev_int ⟨by decide, by decide⟩) (ev_var 1) (by omega))) fun H v h => int_lt (Int.emod_nonneg _ (by omega)) (Int.emod_lt_of_pos _ (by omega)) h) ⟨rfl, fun H o h => ⟨(a, b, d + 1), ⟨h1, h2, h3, by show 0 ≤ d + 1; omega, by show d + 1 ≤ ((c + 1 : Nat) : Int); omega⟩, h⟩, trivial⟩))
end
end WD
set_option Elab.async false
set_option linter.all false
set_option maxRecDepth 100000
set_option maxHeartbeats 4000000
namespace WD
open PySem PySem.Spec PyProof.Rows L2
theorem evl_at {X : Cx} {es : List Expr} {ρ : Rho} {ds : List PyData} {σ : L2.St} {H : Hp} (h : EvL X es ρ ds) (sl : Sl H σ ρ) : AW X es σ H fun vs H' => Same H H' ∧ Paired (fun v d => Rp H' v d) vs ds := h σ H sl
def spN : Sp := fun vs H Q _ => ∃ (cell : Int) (k : Nat), vs = [.int cell, .int (k : Int)] ∧ k ≤ 1000 ∧ ∀ W G' H', Same H G' → Sep G' [(W, wellC 0)] H' → Q (.ref W) H'
section
variable {P : Program} {w : World} {K : PySem.W.Frag} {mg : Str → Option Value} {base : Heap}
theorem sc_well : FnScope ["_law_cell", "_law_k"] ["_law_cell", "_law_k"] (defScope s_law_well) := ⟨rfl, rfl, rfl, by decide +kernel, rfl, by decide +kernel, by decide +kernel⟩
theorem ok_well {f fd} (Fu : FnD K "_law_well" s_law_well f fd) (B : Bi mg) : FnOk P w K mg base CX0 1 f fd ["_law_cell", "_law_k"] spN := by
  refine Fu.ok sc_well ?_ ?_
  · rintro vs H Q E ⟨cell, k, rfl, _⟩; rfl
  · rintro cdv A outer s H vs Q E hr ⟨cell, k, rfl, hk, hQ⟩
    refine ⟨_, PSs.nox pss_sw, ?_⟩
    have sl0 : Sl H (start ["_law_cell", "_law_k"] [.int cell, .int (k : Int)]) [some (dD (.int cell)), some (nt k)] := sl_start (Ts := [dD (.int cell), nt k]) (.cons (.int _) (.cons (.int _) .nil))
    show SW _ (defBody s_law_well) _ _ _
    have hbit : ∀ b : Bool, (if b then (1 : Int) else 0) = 0 ∨ (if b then (1 : Int) else 0) = 1 := fun b => by cases b <;> simp
    refine sw_one (s1_of (ps_ret pe_ew) (ew_of (pe_lst pa_aw) (aw_mono (evl_at (ds := [.int (cell * (if decide ((1000000000000000000 : Int) ≤ cell) then 1 else 0)), .int (cell % 2147483647 + 7919 * (k : Int)), .int 0]) (evl_cons (ev_mul (i := cell) (j := if decide ((1000000000000000000 : Int) ≤ cell) then 1 else 0) (ev_var 0) (ev_intB B.int (EvE.to (ev_ge (i := cell) (j := 1000000000000000000) (ev_var 0) (EvE.to (ev_pow (i := 10) (j := 18) ev_int ev_int ⟨by decide, by decide, by decide⟩) rfl)) rfl)) (.inr (by
        rcases hbit (decide ((1000000000000000000 : Int) ≤ cell)) with h | h <;> rw [h] <;> decide)))
      (evl_cons (ev_add (i := cell % 2147483647) (j := 7919 * (k : Int)) (ev_mod (i := cell) (j := 2147483647) (ev_var 0) ev_int (by decide)) (ev_mul (i := 7919) (j := (k : Int)) ev_int (ev_var 1) (.inl (by decide)))) (evl_cons ev_int evl_nil))) sl0) fun xs H1 ⟨s1, r1⟩ => ⟨by rw [Paired.length r1]; exact small_line (by simp), fun p hp => ?_⟩)))
    refine hQ p H1 _ s1 (.cons .nil hp ⟨(cell * (if decide ((1000000000000000000 : Int) ≤ cell) then 1 else 0), cell % 2147483647 + 7919 * (k : Int), 0), ⟨?_, ?_, ?_, Int.le_refl _, Int.le_refl _⟩, xs, rfl, by rw [Paired.length r1]; exact small_line (by simp), ?_⟩)
    · by_cases h : (1000000000000000000 : Int) ≤ cell
      · simp only [decide_eq_true h, if_true]; omega
      · simp only [decide_eq_false h]; simp
    · have := Int.emod_nonneg cell (show (2147483647 : Int) ≠ 0 by decide)
      show 0 ≤ cell % 2147483647 + 7919 * (k : Int); omega
    · have := Int.emod_lt_of_pos cell (show (0 : Int) < 2147483647 by decide)
      show cell % 2147483647 + 7919 * (k : Int) < 8589934592; omega
    · have go : ∀ {xs : List V} {ds : List PyData}, Paired (fun v d => Rp H1 v d) xs ds → Paired (fun v (T : Ty) => T.R H1 v) xs (ds.map dD) := by
        intro xs ds h
        induction h with
        | nil => exact .nil
        | cons r t ih => exact .cons r ih
      exact go r1
/-! ### _law_all, _law_spot -/
theorem sc_lall : FnScope ["_law_size", "_law_places", "_law_found", "_law_k", "_law_longer", "_law_row", "_law_thing"] ["_law_size", "_law_places"] (defScope s_law_all) := ⟨rfl, rfl, rfl, by decide +kernel, rfl, by decide +kernel, by decide +kernel⟩
theorem allT_len (n : Nat) : ∀ c, (allT n c).length = n ^ c
  | 0 => rfl
  | c + 1 => by
    show ((allT n c).flatMap _).length = _
    rw [List.length_flatMap]
    have : (List.map (fun t : List Nat => ((List.range n).map fun x => t ++ [x]).length) (allT n c)) = (List.map (fun _ => n) (allT n c)) := by
      apply List.map_congr_left; intro t _; simp
    rw [this, List.map_const', List.sum_replicate_nat, allT_len n c, Nat.pow_succ]
theorem allT_mem {n : Nat} : ∀ {c : Nat} {t : List Nat}, t ∈ allT n c ↔ t.length = c ∧ ∀ x ∈ t, x < n
  | 0, t => by
    show t ∈ [[]] ↔ _
    constructor
    · intro h
      have : t = [] := by simpa using h
      subst this; simp
    · rintro ⟨h, _⟩
      have : t = [] := List.length_eq_zero_iff.mp h
      subst this; simp
  | c + 1, t => by
    show t ∈ (allT n c).flatMap _ ↔ _
    rw [List.mem_flatMap]
    constructor
    · rintro ⟨u, hu, ht⟩
      obtain ⟨x, hx, rfl⟩ := List.mem_map.mp ht
      obtain ⟨h1, h2⟩ := allT_mem.mp hu
      refine ⟨by simp [h1], fun y hy => ?_⟩
      rcases List.mem_append.mp hy with h | h
      · exact h2 y h
      · have : y = x := by simpa using h
        rw [this]; exact List.mem_range.mp hx
    · rintro ⟨h1, h2⟩
      have hne : t ≠ [] := fun e => by rw [e] at h1; simp at h1
      have e := List.dropLast_concat_getLast hne
      refine ⟨t.dropLast, allT_mem.mpr ⟨by simp [h1], fun x hx => h2 x ((List.dropLast_sublist _).subset hx)⟩, List.mem_map.mpr ⟨t.getLast hne, List.mem_range.mpr (h2 _ (List.getLast_mem hne)), e⟩⟩
def longer (n : Nat) (rs : List (List Nat)) : List (List Nat) := rs.flatMap fun t => (List.range n).map fun x => t ++ [x]
theorem longer_take (n : Nat) (rs : List (List Nat)) (i : Nat) (hi : i < rs.length) : longer n (rs.take (i + 1)) = longer n (rs.take i) ++ (List.range n).map fun x => rs.getD i [] ++ [x] := by
  unfold longer
  rw [take_snoc rs [] i hi, List.flatMap_append, List.flatMap_singleton]
theorem longer_len (n : Nat) (rs : List (List Nat)) : (longer n rs).length = rs.length * n := by
  unfold longer
  rw [List.length_flatMap]
  have : (List.map (fun t : List Nat => ((List.range n).map fun x => t ++ [x]).length) rs) = (List.map (fun _ => n) rs) := by
    apply List.map_congr_left; intro t _; simp
  rw [this, List.map_const', List.sum_replicate_nat]
def F_lall : List Ty → Ty → Prop := fun Ts T => ∃ (n p : Nat), Ts = [nt n, nt p] ∧ 0 < n ∧ n ≤ 9 ∧ p ≤ 9 ∧ n ^ p ≤ 5000 ∧ T = dD (dRows (allT n p))
theorem ok_lall {f fd} (Fu : FnD K "_law_all" s_law_all f fd) (hm : mg "_law_all" = some (.ref f)) (B : Bi mg) : Kn P w K mg base 1 "_law_all" F_lall := by
  refine kn_of Fu (fn_pure (o := .ret) Fu sc_lall ?_ (.inl fun _ => rfl) ?_) hm (fun _ _ _ _ _ _ us hl => match us, hl with | [_, _], _ => rfl)
  · rintro _ _ ⟨n, p, rfl, _⟩; rfl
  · rintro cdv A outer s H E hr _ _ ⟨n, p, rfl, hn0, hn9, hp9, hsm, rfl⟩
    refine bs_of ?_
    show BF _ (defBody s_law_all) [some (nt n), some (nt p), none, none, none, none, none] [] _
    refine bf_cons (b1f_set 2 (T := dD (dRows (allT n 0))) (ef_pure (ev_lst (evl_cons (ev_tup evl_nil) evl_nil))) sc_lall.nd) ?_
    refine bf_cons (b1f_for (n0 := p) (js := [3]) (ρ' := [some (nt n), some (nt p), some (dD (dRows (allT n p))), none, none, none, none]) (A' := []) (fun i => [some (nt n), some (nt p), some (dD (dRows (allT n i))), none, none, none, none]) _ (fun _ => []) (sf_pure (src_range B.range (ev_var 1) (by omega))) (pgn 3 sc_lall.nd) (fun m h => Nat.le_of_eq h) (fun i hi => tgo_name) (fun i hi => .inl ?_) (fun m h => by subst h; exact ⟨le_refl, wk_refl⟩)) (bf_one (b1f_ret (ef_pure (ev_var 2))))
    have hle : n ^ (i + 1) ≤ n ^ p := Nat.pow_le_pow_right hn0 hi
    have hlen := allT_len n i
    have hpow : n ^ i * n ≤ 5000 := by
      have e : n ^ (i + 1) = n ^ i * n := Nat.pow_succ ..
      omega
    refine bf_new 4 af_nil (by simp) (fun L => ?_) sc_lall.nd
    generalize hrs : allT n i = rs at *
    have hall : allT n (i + 1) = longer n rs := by rw [← hrs]; rfl
    refine bf_cons (b1f_for (n0 := rs.length) (js := [5]) (ρ' := [some (nt n), some (nt p), some (dD (dRows rs)), some (nt i), some (refT L), none, none]) (A' := [(L, lstC ((longer n rs).map rowT))]) (fun j => [some (nt n), some (nt p), some (dD (dRows rs)), some (nt i), some (refT L), none, none]) _ (fun j => [(L, lstC ((longer n (rs.take j)).map rowT))])
      (sf_pure (src_rows (ev_var 2))) (pgn 5 sc_lall.nd) (fun m h => Nat.le_of_eq h) (fun j hj => tgo_name) (fun j hj => .inl ?_) (fun m h => by subst h; rw [List.take_length]; exact ⟨le_refl, wk_refl⟩) rfl) ?_
    · have hlj := longer_len n (rs.take (j + 1))
      rw [longer_take n rs j hj, List.length_append] at hlj
      rw [List.length_take] at hlj
      have hmul : min (j + 1) rs.length * n ≤ rs.length * n := Nat.mul_le_mul_right _ (by omega)
      have hmul2 : rs.length * n ≤ 5000 := by rw [hlen]; exact hpow
      have hrow : (rs.getD j []).length ≤ 9 := by
        have := (allT_mem (n := n) (c := i) (t := rs.getD j [])).mp (by rw [hrs]; exact getD_mem rs j [] hj)
        omega
      rw [longer_take n rs j hj, List.map_append]
      refine bf_forget (bf_one (b1f_expr (ef_extend (Zs := ((List.range n).map fun x => rs.getD j [] ++ [x]).map rowT) (ev_var 4) (ef_pure ?_) (by simp only [List.length_map, List.length_range] at hlj ⊢; omega)))) (le_keep (le_keep (le_keep (le_keep (le_keep (le_drop (le_keep le_nil)))))))
      refine EvE.to (EvE.imp (U := lsT (((List.range n).map fun x => dRow (rs.getD j [] ++ [x])).map dD)) (ev_lc (own := [("_law_thing", 6)]) (js := [6]) sc_lall.nd (src_range (n := n) B.range (ev_var 0) (by omega)) (blkOk_by (own := [("_law_thing", 6)]) (N := ["_law_size", "_law_places", "_law_found", "_law_k", "_law_longer", "_law_row", "_law_thing"]) (sc := defScope s_law_all) (by decide +kernel))
        (fun _ _ _ _ _ => pgn 6 sc_lall.nd) (by simp) (by omega) (fun x hx => tgo_name) (fun x hx s0 H0 C' cl fp => (ev_cat (ds := (rs.getD j []).map fun (n : Nat) => PyData.int (n : Int)) (es' := [.int (x : Int)]) (ev_var 5) (ev_tup (evl_cons (ev_var 6) evl_nil)) (by simp only [List.length_map, List.length_singleton]; omega)).to (by simp [dRow]))) fun H v h => data_lsT h) (by simp [List.map_map, Function.comp_def, rowT])
    · rw [rowT_map]
      refine bf_freezeD 4 (bf_forget (bf_one (b1f_set 2 (T := dD (dRows (longer n rs))) (ef_pure (ev_var 4)) sc_lall.nd)) ?_)
      rw [hall]
      exact le_keep (le_keep (le_keep (le_drop (le_drop (le_keep (le_keep le_nil))))))
theorem sc_lspot : FnScope ["_law_things", "_law_size", "_law_found", "_law_one"] ["_law_things", "_law_size"] (defScope s_law_spot) := ⟨rfl, rfl, rfl, by decide +kernel, rfl, by decide +kernel, by decide +kernel⟩
theorem ok_lspot {f fd} (Fu : FnD K "_law_spot" s_law_spot f fd) (hm : mg "_law_spot" = some (.ref f)) (B : Bi mg) : Kn P w K mg base 1 "_law_spot" F_spot_of := by
  refine kn_of Fu (fn_pure (o := .ret) Fu sc_lspot ?_ (.inl fun _ => rfl) ?_) hm (fun _ _ _ _ _ _ us hl => match us, hl with | [_, _], _ => rfl)
  · rintro _ _ ⟨ts, n, rfl | rfl, _, rfl⟩ <;> rfl
  · rintro cdv A outer s H E hr Ts _ ⟨ts, n, h, hn, rfl⟩
    obtain ⟨t, rfl, hs⟩ : ∃ t : PyData, Ts = [dD t, nt n] ∧ ∀ X : Cx, ∀ ρ, ∀ e, EvD X e ρ t → ∀ tg, Src X tg e ρ ts.length fun i => nt (ts.getD i 0) := by
      rcases h with rfl | rfl
      · exact ⟨dRow ts, rfl, fun X ρ e h tg => src_row h⟩
      · exact ⟨dCol ts, rfl, fun X ρ e h tg => src_col h⟩
    show Bs _ (defBody s_law_spot) [some (dD t), some (nt n), none, none] _
    refine bs_cons (b1_set 2 ev_int sc_lspot.nd) (bs_cons (b1_for (n := ts.length) (js := [3]) (fun i => [some (dD t), some (nt n), some (nt (spot n (ts.take i))), none]) _ (hs _ _ _ (ev_var 0) _) (pgn 3 sc_lspot.nd) (fun i _ => tgo_name) (fun i hi => .inl ?_)) (bs_one (b1_ret ((ev_var 2).to (by rw [List.take_length])))))
    refine bs_forget (bs_one (b1_set 2 ((ev_add (ev_mul (i := ((spot n (ts.take i) : Nat) : Int)) (j := (n : Int)) (ev_var 2) (ev_var 1) (.inr (by omega))) (j := ((ts.getD i 0 : Nat) : Int)) (ev_var 3)).to (d' := .int ((spot n (ts.take (i + 1)) : Nat) : Int)) (by rw [spot_take n ts i hi, Int.natCast_add, Int.natCast_mul])) sc_lspot.nd)) ?_
    exact le_keep (le_keep (le_keep (le_drop le_nil)))
end
end WD
set_option Elab.async false
set_option linter.all false
set_option maxRecDepth 100000
set_option maxHeartbeats 4000000
namespace WD
open PySem PySem.Spec PyProof.Rows L2
section
variable {P : Program} {w : World} {K : PySem.W.Frag} {mg : Str → Option Value} {base : Heap}
theorem sc_iskept : FnScope ["_law_size", "_law_places", "_law_table", "_law_relations_here", "_law_relation_here", "_law_rows"] ["_law_size", "_law_places", "_law_table", "_law_relations_here"] (defScope s_law_is_kept) := ⟨rfl, rfl, rfl, by decide +kernel, rfl, by decide +kernel, by decide +kernel⟩
def F_iskept : List Ty → Ty → Prop := fun Ts T => ∃ (n p : Nat) (t : List Nat) (rels : List Rel), Ts = [nt n, nt p, dD (dRow t), dD (dRels rels)] ∧ DeedOk n p t ∧ 1 ≤ p ∧ (∀ r ∈ rels, RelOk n r ∧ r.2.length ^ p ≤ 100000) ∧ T = dD (.bool (rels.all (keepsB t n p)))
theorem ok_iskept {f fd} (Fu : FnD K "_law_is_kept" s_law_is_kept f fd) (hm : mg "_law_is_kept" = some (.ref f)) (h1 : Kn P w K mg base 5 "led_out" F_led_out) (h2 : Kn P w K mg base 5 "check_out" F_check_out) : Kn P w K mg base 6 "_law_is_kept" F_iskept := by
  refine kn_of Fu (fn_pure (o := .ret) Fu sc_iskept ?_ (.inl fun _ => rfl) ?_) hm (fun _ _ _ _ _ _ us hl => match us, hl with | [_, _, _, _], _ => rfl)
  · rintro _ _ ⟨n, p, t, rels, rfl, _⟩; rfl
  · rintro cdv A outer s H E hr _ _ ⟨n, p, t, rels, rfl, hd, hp, ro, rfl⟩
    show Bs _ (defBody s_law_is_kept) [some (nt n), some (nt p), some (dD (dRow t)), some (dD (dRels rels)), none, none] _
    have hdeed : ∀ {X : Cx} {ρ : Rho} {pos p1 : Pos} {j k} {a b : Expr}, EvD X a ρ (.int (p : Int)) → EvD X b ρ (dRow t) → starEach (.Constant (.str "one") j p1 :: [a, b]) X.env = (false, eval (.Constant (.str "one") j p1) X.env) :: starEach [a, b] X.env → starEach (a :: [b]) X.env = (false, eval a X.env) :: starEach [b] X.env → starEach (b :: []) X.env = (false, eval b X.env) :: starEach [] X.env →
      EvD X (.Tuple [.Constant (.str "one") j p1, a, b] k pos) ρ (dDeed "one" p t) := fun h1 h2 e1 e2 e3 => ev_tup (evl_cons ev_str (evl_cons h1 (evl_cons h2 evl_nil e3) e2) e1)
    refine bs_forOr (n := rels.length) (js := [4]) (fun i => keepsB t n p (rels.getD i (0, []))) (fun _ => dD (.bool false)) (fun i => [some (nt n), some (nt p), some (dD (dRow t)), some (dD (dRels rels)), none, none]) _
      (src_congr (src_len (src_list (ds := rels.map dRel) (ev_var 3)) (by simp)) fun i hi => by rw [getD_map dRel rels i (0, []) _ hi]) (pgn 4 sc_iskept.nd) (fun i hi => tgo_name) (fun i hi => ?_) (fun h => ?_) (fun m hm h h' => ?_)
    · obtain ⟨ok, hsm⟩ := ro _ (getD_mem rels i (0, []) hi)
      generalize hrel : rels.getD i (0, []) = rel at *
      refine ⟨fun e => ?_, fun e => ?_⟩
      · refine bs_forget (bs_cons (b1_set 5 (T := dD .none) (ev_call h1 hr (eva_cons (ev_var 0) (eva_cons (hdeed (ev_var 1) (ev_var 2) rfl rfl rfl) (eva_cons (ev_var 4) eva_nil))) ⟨_, p, t, n, rel, rfl, hd, hp, ok, hsm, .inl ⟨e, rfl⟩⟩) sc_iskept.nd) (bs_one (b1_skip (et_notN (ev_var 5)) rfl))) (le_keep (le_keep (le_keep (le_keep (le_drop (le_drop le_nil))))))
      · rcases first_or (keepsAt t n p rel) (rel.2.length ^ p) with hall | ⟨m, hm, hf, hb⟩
        · exfalso
          have : keepsB t n p rel = true := List.all_eq_true.mpr fun x hx => hall x (List.mem_range.mp hx)
          rw [this] at e; cases e
        · have hl0 : 0 < rel.2.length := by
            rcases Nat.eq_zero_or_pos rel.2.length with h | h
            · rw [h, Nat.zero_pow (by omega)] at hm; omega
            · exact h
          refine bs_cons (b1_set 5 (T := dD (dRows (pick rel.2 p m))) (ev_call h1 hr (eva_cons (ev_var 0) (eva_cons (hdeed (ev_var 1) (ev_var 2) rfl rfl rfl) (eva_cons (ev_var 4) eva_nil))) ⟨_, p, t, n, rel, rfl, hd, hp, ok, hsm, .inr ⟨m, hm, hf, hb, rfl⟩⟩) sc_iskept.nd) (bs_one (b1_then (et_notN (ev_var 5)) rfl (bs_one (b1_ret (ev_notN (d := .none) (ev_call h2 hr (eva_cons (ev_var 0) (eva_cons (hdeed (ev_var 1) (ev_var 2) rfl rfl rfl) (eva_cons (ev_var 4) (eva_cons (ev_var 5) eva_nil)))) ⟨_, p, t, n, rel, m, rfl, hd, hp, ok, hl0, hf, rfl⟩))))))
    · have : rels.all (keepsB t n p) = true := by
        rw [List.all_eq_true]
        intro r hr
        obtain ⟨i, hi, rfl⟩ := List.mem_iff_getElem.mp hr
        have := h i hi
        rwa [List.getD_eq_getElem?_getD, List.getElem?_eq_getElem hi] at this
      rw [this]
      exact bs_one (b1_ret ev_bl)
    · have : rels.all (keepsB t n p) = false := by
        rw [Bool.eq_false_iff]
        intro z
        have := List.all_eq_true.mp z _ (getD_mem rels m (0, []) hm)
        rw [this] at h; cases h
      rw [this]
/-! ### commute -/
def sqRows (p : Nat) (th : List Nat) : List (List Nat) := (List.range p).map fun k => (th.drop (k * p)).take p
def sqCols (p : Nat) (th : List Nat) : List (List Nat) := (List.range p).map fun k => (sqRows p th).map fun r => r.getD k 0
def through (n : Nat) (one other : List Nat) (rs : List (List Nat)) : Nat := one.getD (spot n (rs.map fun r => other.getD (spot n r) 0)) 0
def commAt (n p : Nat) (one other : List Nat) (th : List Nat) : Bool := decide (through n one other (sqRows p th) = through n other one (sqCols p th))
def commB (n p : Nat) (one other : List Nat) : Bool := (allT n (p * p)).all (commAt n p one other)
theorem sq_ok {n p : Nat} {th : List Nat} (h : th.length = p * p) (hx : ∀ x ∈ th, x < n) : (sqRows p th).length = p ∧ ∀ r ∈ sqRows p th, r.length = p ∧ ∀ x ∈ r, x < n := by
  refine ⟨by simp [sqRows], fun r hr => ?_⟩
  obtain ⟨k, hk, rfl⟩ := List.mem_map.mp hr
  have hk := List.mem_range.mp hk
  have : (k + 1) * p ≤ p * p := Nat.mul_le_mul_right _ hk
  rw [Nat.succ_mul] at this
  exact ⟨by rw [List.length_take, List.length_drop]; omega, fun x hx' => hx x (List.mem_of_mem_drop (List.mem_of_mem_take hx'))⟩
theorem cols_ok {n p : Nat} {th : List Nat} (hn : 0 < n) (h : th.length = p * p) (hx : ∀ x ∈ th, x < n) : (sqCols p th).length = p ∧ ∀ r ∈ sqCols p th, r.length = p ∧ ∀ x ∈ r, x < n := by
  refine ⟨by simp [sqCols], fun r hr => ?_⟩
  obtain ⟨k, hk, rfl⟩ := List.mem_map.mp hr
  exact ⟨by rw [List.length_map]; exact (sq_ok h hx).1, col_lt hn (fun r hr => ((sq_ok h hx).2 r hr).2) k⟩
theorem cut_row (th : List Nat) (a b : Nat) (h : a + b ≤ th.length) : PyData.tuple (cutD (th.map fun (n : Nat) => .int (n : Int)) (some a) (some (a + b))) = dRow ((th.drop a).take b) := by
  unfold cutD dRow
  simp only [Option.getD_some, List.length_map]
  rw [Nat.min_eq_left (show a ≤ th.length by omega), List.map_take, List.map_drop]
  congr 2
  omega
/-- one[_law_spot([other[_law_spot(row, size)] for row in rows], size)] -/
theorem sc_commute : FnScope ["_law_size", "_law_places", "_law_one", "_law_other", "_law_things", "_law_rows", "_law_columns", "_law_left", "_law_right_here", "_law_k", "_law_row", "_law_column"] ["_law_size", "_law_places", "_law_one", "_law_other"] (defScope s_law_commute) := ⟨rfl, rfl, rfl, by decide +kernel, rfl, by decide +kernel, by decide +kernel⟩
def F_commute : List Ty → Ty → Prop := fun Ts T => ∃ (n p : Nat) (a b : List Nat), Ts = [nt n, nt p, dD (dRow a), dD (dRow b)] ∧ DeedOk n p a ∧ DeedOk n p b ∧ 1 ≤ p ∧ n ^ (p * p) ≤ 5000 ∧ T = dD (.bool (commB n p a b))
theorem ok_commute {f fd} (Fu : FnD K "_law_commute" s_law_commute f fd) (hm : mg "_law_commute" = some (.ref f)) (B : Bi mg) (h1 : Kn P w K mg base 1 "_law_all" F_lall) (h2 : Kn P w K mg base 1 "_law_spot" F_spot_of) : Kn P w K mg base 2 "_law_commute" F_commute := by
  refine kn_of Fu (fn_pure (o := .ret) Fu sc_commute ?_ (.inl fun _ => rfl) ?_) hm (fun _ _ _ _ _ _ us hl => match us, hl with | [_, _, _, _], _ => rfl)
  · rintro _ _ ⟨n, p, a, b, rfl, _⟩; rfl
  · rintro cdv A outer s H E hr _ _ ⟨n, p, a, b, rfl, da, db, hp1, hsm, rfl⟩
    have hp3 := da.p3
    have hn0 := da.n0
    have hn9 := da.n9
    have hpp : p * p ≤ 9 := Nat.mul_le_mul hp3 hp3
    show Bs _ (defBody s_law_commute) [some (nt n), some (nt p), some (dD (dRow a)), some (dD (dRow b)), none, none, none, none, none, none, none, none] _
    generalize hall : allT n (p * p) = all
    have hb : commB n p a b = all.all (commAt n p a b) := by unfold commB; rw [hall]
    have hmem : ∀ i, i < all.length → (all.getD i []).length = p * p ∧ ∀ x ∈ all.getD i [], x < n := fun i hi => allT_mem.mp (by rw [hall]; exact getD_mem all i [] hi)
    refine bs_forOr (n := all.length) (js := [4]) (fun i => commAt n p a b (all.getD i [])) (fun _ => dD (.bool false)) (fun i => [some (nt n), some (nt p), some (dD (dRow a)), some (dD (dRow b)), none, none, none, none, none, none, none, none]) _
      (src_rows (ev_call h1 hr (eva_cons (ev_var 0) (eva_cons (T := nt (p * p)) (EvE.to (ev_mul (i := (p : Int)) (j := (p : Int)) (ev_var 1) (ev_var 1) (.inl ⟨by omega, by omega⟩)) (by rw [← Int.natCast_mul])) eva_nil)) ⟨n, p * p, rfl, hn0, hn9, hpp, hsm, by rw [hall]⟩)) (pgn 4 sc_commute.nd) (fun i hi => tgo_name) (fun i hi => ?_) (fun h => ?_) (fun m hm h h' => ?_)
    · obtain ⟨t1, t2⟩ := hmem i hi
      generalize hth : all.getD i [] = th at *
      obtain ⟨r1, r2⟩ := sq_ok t1 t2
      obtain ⟨c1, c2⟩ := cols_ok hn0 t1 t2
      have hin : ∀ {x y : List Nat} {rs : List (List Nat)}, DeedOk n p x → DeedOk n p y → rs.length = p → (∀ r ∈ rs, r.length = p ∧ ∀ z ∈ r, z < n) → (∀ r ∈ rs, spot n r < y.length) ∧ spot n (rs.map fun r => y.getD (spot n r) 0) < x.length := fun {x y rs} dx dy hl hr => by
        refine ⟨fun r h => ?_, ?_⟩
        · have := spot_lt hn0 r (hr r h).2
          rw [(hr r h).1] at this
          rw [dy.len]; exact this
        · have := spot_lt hn0 (rs.map fun r => y.getD (spot n r) 0) (fun z hz => by
            obtain ⟨r, h, rfl⟩ := List.mem_map.mp hz
            exact getD_lt dy.lt hn0 _)
          rw [List.length_map, hl] at this
          rw [dx.len]; exact this
      have body : ∀ o : Out, (o = .next [some (nt n), some (nt p), some (dD (dRow a)), some (dD (dRow b)), none, none, none, none, none, none, none, none] ∧ commAt n p a b th = true) ∨ (o = .ret (dD (.bool false)) ∧ commAt n p a b th = false) →
          Bs (cxOf CX0 P w K mg base ["_law_size", "_law_places", "_law_one", "_law_other", "_law_things", "_law_rows", "_law_columns", "_law_left", "_law_right_here", "_law_k", "_law_row", "_law_column"] "_law_commute" (defScope s_law_commute) f cdv A outer s H E).nox (match (defBody s_law_commute).getD 0 (.Pass ⟨0, 0, 0, 0⟩) with | .For _ _ b _ _ => b | _ => []) [some (nt n), some (nt p), some (dD (dRow a)), some (dD (dRow b)), some (dD (dRow th)), none, none, none, none, none, none, none] o := by
        intro o ho
        refine bs_cons (b1_set 5 (T := dD (dRows (sqRows p th))) (EvE.to (ev_lc (own := [("_law_k", 9)]) (js := [9]) (f := fun k => dRow ((th.drop (k * p)).take p)) sc_commute.nd (src_range B.range (ev_var 1) (by omega)) (blkOk_by (own := [("_law_k", 9)]) (N := ["_law_size", "_law_places", "_law_one", "_law_other", "_law_things", "_law_rows", "_law_columns", "_law_left", "_law_right_here", "_law_k", "_law_row", "_law_column"]) (sc := defScope s_law_commute) (by decide +kernel))
          (fun _ _ _ _ _ => pgn 9 sc_commute.nd) (by simp) (by omega) (fun k hk => tgo_name) (fun k hk s0 H0 C' cl fp => (ev_sliceT (ds := th.map fun (n : Nat) => PyData.int (n : Int)) (m := some (k * p)) (n := some (k * p + p)) (ev_var 4) (eo_some ((ev_mul (i := (k : Int)) (j := (p : Int)) (ev_var 9) (ev_var 1) (.inr ⟨by omega, by omega⟩)).to (by rw [Int.natCast_mul]))) (eo_some ((ev_add (i := (k : Int) * (p : Int)) (j := (p : Int)) (ev_mul (i := (k : Int)) (j := (p : Int)) (ev_var 9) (ev_var 1) (.inr ⟨by omega, by omega⟩)) (ev_var 1)).to (by rw [Int.natCast_add, Int.natCast_mul])))).to (cut_row th (k * p) p (by
            have : (k + 1) * p ≤ p * p := Nat.mul_le_mul_right _ hk
            rw [Nat.succ_mul] at this
            omega)))) (by simp [dRows, sqRows, List.map_map, Function.comp_def])) sc_commute.nd) ?_
        refine bs_setLc 6 (own := [("_law_k", 9)]) (js := [9]) (F := fun k => dRow ((sqRows p th).map fun r => r.getD k 0)) sc_commute.nd (src_range B.range (ev_var 1) (by omega)) (blkOk_by (own := [("_law_k", 9)]) (N := ["_law_size", "_law_places", "_law_one", "_law_other", "_law_things", "_law_rows", "_law_columns", "_law_left", "_law_right_here", "_law_k", "_law_row", "_law_column"]) (sc := defScope s_law_commute) (by decide +kernel))
          (fun _ _ _ _ _ => pgn 9 sc_commute.nd) (by simp) (by omega) (fun k hk => tgo_name) (fun k hk s0 H0 C' cl fp => ?_) ?_ (by rcases ho with ⟨rfl, _⟩ | ⟨rfl, _⟩; exact .inl ⟨_, rfl⟩; exact .inr ⟨_, rfl⟩)
        · refine EvE.to (ev_tuple B.tuple (ev_lc (own := [("_law_row", 10)]) (js := [10]) (f := fun j => .int ((((sqRows p th).getD j []).getD k 0 : Nat) : Int)) sc_commute.nd (src_rows (ev_var 5)) (blkOk_by (own := [("_law_row", 10)]) (N := ["_law_size", "_law_places", "_law_one", "_law_other", "_law_things", "_law_rows", "_law_columns", "_law_left", "_law_right_here", "_law_k", "_law_row", "_law_column"]) (by rfl))
            (fun _ _ _ _ _ => pgn 10 sc_commute.nd) (by simp) (by rw [r1]; omega) (fun j hj => tgo_name) (fun j hj s0 H0 C' cl fp => ev_ixRow (ev_var 10) (ev_var 9) (by rw [(r2 _ (getD_mem _ j [] hj)).1]; exact hk)))) ?_
          unfold dRow
          rw [List.map_map]
          exact congrArg (fun l => dD (PyData.tuple l)) (map_range_getD (sqRows p th) [] fun r => PyData.int ((r.getD k 0 : Nat) : Int))
        · obtain ⟨q1, q2⟩ := hin da db r1 r2
          obtain ⟨q3, q4⟩ := hin db da c1 c2
          have e0 : (PyData.list ((List.range p).map fun k => dRow ((sqRows p th).map fun r => r.getD k 0))) = dRows (sqCols p th) := by simp [dRows, sqCols, List.map_map, Function.comp_def]
          rw [e0]
          refine bs_cons (b1_set 7 (T := nt (through n a b (sqRows p th))) (ev_ixRow (ev_var 2) (ev_call (T := nt (spot n ((sqRows p th).map fun r => b.getD (spot n r) 0))) h2 hr (eva_cons (T := dD (dCol ((sqRows p th).map fun r => b.getD (spot n r) 0))) (EvE.to (ev_lc (own := [("_law_row", 10)]) (js := [10]) (f := fun j => .int ((b.getD (spot n ((sqRows p th).getD j [])) 0 : Nat) : Int)) sc_commute.nd (src_rows (ev_var 5)) (blkOk_by (own := [("_law_row", 10)]) (N := ["_law_size", "_law_places", "_law_one", "_law_other", "_law_things", "_law_rows", "_law_columns", "_law_left", "_law_right_here", "_law_k", "_law_row", "_law_column"]) (sc := defScope s_law_commute) (by decide +kernel))
            (fun _ _ _ _ _ => pgn 10 sc_commute.nd) (by simp) (by rw [r1]; omega) (fun j hj => tgo_name) (fun j hj s0 H0 C' cl fp => ev_ixRow (ev_var 3) (ev_call (T := nt (spot n ((sqRows p th).getD j []))) h2 hr (eva_cons (ev_var 10) (eva_cons (ev_var 0) eva_nil)) ⟨_, n, .inl rfl, by omega, rfl⟩) (q1 _ (getD_mem _ j [] hj)))) ?_) (eva_cons (ev_var 0) eva_nil)) ⟨_, n, .inr rfl, by omega, rfl⟩) q2) sc_commute.nd) ?_
          · unfold dCol
            rw [List.map_map]
            exact congrArg (fun l => dD (PyData.list l)) (map_range_getD (sqRows p th) [] fun r => PyData.int ((b.getD (spot n r) 0 : Nat) : Int))
          refine bs_cons (b1_set 8 (T := nt (through n b a (sqCols p th))) (ev_ixRow (ev_var 3) (ev_call (T := nt (spot n ((sqCols p th).map fun r => a.getD (spot n r) 0))) h2 hr (eva_cons (T := dD (dCol ((sqCols p th).map fun r => a.getD (spot n r) 0))) (EvE.to (ev_lc (own := [("_law_column", 11)]) (js := [11]) (f := fun j => .int ((a.getD (spot n ((sqCols p th).getD j [])) 0 : Nat) : Int)) sc_commute.nd (src_rows (ev_var 6)) (blkOk_by (own := [("_law_column", 11)]) (N := ["_law_size", "_law_places", "_law_one", "_law_other", "_law_things", "_law_rows", "_law_columns", "_law_left", "_law_right_here", "_law_k", "_law_row", "_law_column"]) (sc := defScope s_law_commute) (by decide +kernel))
            (fun _ _ _ _ _ => pgn 11 sc_commute.nd) (by simp) (by rw [c1]; omega) (fun j hj => tgo_name) (fun j hj s0 H0 C' cl fp => ev_ixRow (ev_var 2) (ev_call (T := nt (spot n ((sqCols p th).getD j []))) h2 hr (eva_cons (ev_var 11) (eva_cons (ev_var 0) eva_nil)) ⟨_, n, .inl rfl, by omega, rfl⟩) (q3 _ (getD_mem _ j [] hj)))) ?_) (eva_cons (ev_var 0) eva_nil)) ⟨_, n, .inr rfl, by omega, rfl⟩) q4) sc_commute.nd) ?_
          · unfold dCol
            rw [List.map_map]
            exact congrArg (fun l => dD (PyData.list l)) (map_range_getD (sqCols p th) [] fun r => PyData.int ((a.getD (spot n r) 0 : Nat) : Int))
          rcases ho with ⟨rfl, e⟩ | ⟨rfl, e⟩
          · have e := of_decide_eq_true e
            exact bs_forget (bs_one (b1_skip (et_neI (i := ((through n a b (sqRows p th) : Nat) : Int)) (j := ((through n b a (sqCols p th) : Nat) : Int)) (ev_var 7) (ev_var 8)) (by rw [e]; simp))) (le_keep (le_keep (le_keep (le_keep (le_drop (le_drop (le_drop (le_drop (le_drop (le_keep (le_keep (le_keep le_nil))))))))))))
          · have e := of_decide_eq_false e
            exact bs_one (b1_then (et_neI (i := ((through n a b (sqRows p th) : Nat) : Int)) (j := ((through n b a (sqCols p th) : Nat) : Int)) (ev_var 7) (ev_var 8)) (by rw [decide_eq_false (by omega)]; rfl) (bs_one (b1_ret ev_bl)))
      exact ⟨fun e => body _ (.inl ⟨rfl, e⟩), fun e => body _ (.inr ⟨rfl, e⟩)⟩
    · have : commB n p a b = true := by
        rw [hb, List.all_eq_true]
        intro r hr
        obtain ⟨i, hi, rfl⟩ := List.mem_iff_getElem.mp hr
        have := h i hi
        rwa [List.getD_eq_getElem?_getD, List.getElem?_eq_getElem hi] at this
      rw [this]
      exact bs_one (b1_ret ev_bl)
    · have : commB n p a b = false := by
        rw [hb, Bool.eq_false_iff]
        intro z
        have := List.all_eq_true.mp z _ (getD_mem all m [] hm)
        rw [this] at h; cases h
      rw [this]
end
end WD
namespace WD
theorem nodup_sub_len {α : Type} [DecidableEq α] : ∀ (l m : List α), l.Nodup → (∀ x ∈ l, x ∈ m) → l.length ≤ m.length
  | [], _, _, _ => Nat.zero_le _
  | x :: l, m, hn, hs => by
    have hx := hs x List.mem_cons_self
    have ih := nodup_sub_len l (m.erase x) (List.nodup_cons.mp hn).2 fun y hy => by
      have : y ≠ x := fun e => (List.nodup_cons.mp hn).1 (e ▸ hy)
      exact (List.mem_erase_of_ne this).mpr (hs y (List.mem_cons_of_mem _ hy))
    have := List.length_erase_of_mem hx
    have := List.length_pos_of_mem hx
    simp only [List.length_cons]
    omega
theorem ltR_total : ∀ (r s : List Nat), r.length = s.length → r ≠ s → ltR r s = false → ltR s r = true
  | [], [], _, h, _ => absurd rfl h
  | [], _ :: _, h, _, _ => by cases h
  | _ :: _, [], h, _, _ => by cases h
  | x :: r, y :: s, h, hne, hlt => by
    unfold ltR at hlt ⊢
    by_cases e : x = y
    · subst e
      rw [if_pos rfl] at hlt ⊢
      exact ltR_total r s (Nat.succ.inj h) (fun e => hne (by rw [e])) hlt
    · rw [if_neg e] at hlt
      rw [if_neg (Ne.symm e)]
      have := of_decide_eq_false hlt
      exact decide_eq_true (by omega)
end WD
set_option Elab.async false
set_option linter.all false
set_option maxRecDepth 100000
set_option maxHeartbeats 4000000
namespace WD
open PySem PySem.Spec PyProof.Rows L2
/-! ### sorted(set(rows)) -/
def rInts (r : List Nat) : List Int := r.map fun (n : Nat) => (n : Int)
theorem code_bound {n : Nat} : ∀ (r : List Nat), (∀ x ∈ r, x < n) → 0 ≤ TS.code (n : Int) (rInts r) ∧ TS.code (n : Int) (rInts r) < (n : Int) ^ r.length
  | [], _ => ⟨Int.le_refl _, by show (0 : Int) < (n : Int) ^ 0; simp⟩
  | x :: r, h => by
    obtain ⟨h1, h2⟩ := code_bound r fun y hy => h y (List.mem_cons_of_mem _ hy)
    have hx := h x List.mem_cons_self
    have e : TS.code (n : Int) (rInts (x :: r)) = (x : Int) * (n : Int) ^ r.length + TS.code (n : Int) (rInts r) := by
      show (x : Int) * (n : Int) ^ (rInts r).length + _ = _
      simp [rInts]
    have hp : (0 : Int) ≤ (n : Int) ^ r.length := Int.pow_nonneg (by omega)
    have e2 : (n : Int) ^ (x :: r).length = (n : Int) * (n : Int) ^ r.length := by rw [List.length_cons, Int.pow_succ, Int.mul_comm]
    rw [e, e2]
    have hx' : (x : Int) + 1 ≤ (n : Int) := by omega
    have h3 := Int.mul_le_mul_of_nonneg_right hx' hp
    rw [Int.add_mul, Int.one_mul] at h3
    have h4 := Int.mul_nonneg (show (0 : Int) ≤ (x : Int) by omega) hp
    omega
theorem code_lt {n : Nat} : ∀ (r s : List Nat), r.length = s.length → (∀ x ∈ r, x < n) → (∀ x ∈ s, x < n) → ltR r s = true → TS.code (n : Int) (rInts r) < TS.code (n : Int) (rInts s)
  | [], [], _, _, _, h => by cases h
  | [], _ :: _, h, _, _, _ => by cases h
  | _ :: _, [], h, _, _, _ => by cases h
  | x :: r, y :: s, hl, hr, hs, h => by
    have hl' := Nat.succ.inj hl
    have e : ∀ (x : Nat) (r : List Nat), TS.code (n : Int) (rInts (x :: r)) = (x : Int) * (n : Int) ^ r.length + TS.code (n : Int) (rInts r) := fun x r => by
      show (x : Int) * (n : Int) ^ (rInts r).length + _ = _
      simp [rInts]
    rw [e, e, hl']
    unfold ltR at h
    by_cases q : x = y
    · subst q
      rw [if_pos rfl] at h
      have := code_lt r s hl' (fun y hy => hr y (List.mem_cons_of_mem _ hy)) (fun y hy => hs y (List.mem_cons_of_mem _ hy)) h
      omega
    · rw [if_neg q] at h
      have h := of_decide_eq_true h
      obtain ⟨b1, b2⟩ := code_bound r fun y hy => hr y (List.mem_cons_of_mem _ hy)
      obtain ⟨b3, b4⟩ := code_bound s fun y hy => hs y (List.mem_cons_of_mem _ hy)
      rw [hl'] at b2
      have hp : (0 : Int) ≤ (n : Int) ^ s.length := Int.pow_nonneg (by omega)
      have h3 := Int.mul_le_mul_of_nonneg_right (show (x : Int) + 1 ≤ (y : Int) by omega) hp
      rw [Int.add_mul, Int.one_mul] at h3
      omega
theorem rInts_inj {r s : List Nat} (h : rInts r = rInts s) : r = s := by
  induction r generalizing s with
  | nil => cases s with | nil => rfl | cons _ _ => cases h
  | cons x r ih =>
    cases s with
    | nil => cases h
    | cons y s =>
      have h : (x : Int) :: rInts r = (y : Int) :: rInts s := h
      have h1 := (List.cons.inj h).1
      have h2 := ih (List.cons.inj h).2
      have : x = y := by omega
      rw [this, h2]
/-- the lot of a relation from its rows -/
structure LotOf (n wd : Nat) (rs lot : List (List Nat)) : Prop where
  sub : ∀ r ∈ lot, r ∈ rs
  all : ∀ r ∈ rs, r ∈ lot
  up : ∀ i, i + 1 < lot.length → ltR (lot.getD i []) (lot.getD (i + 1) []) = true
  len : lot.length ≤ rs.length
def setT (P : Program) (w : World) (rs : List (List Nat)) : Ty := ⟨fun H v => ∃ (a : Addr) (L : List (Addr × List Int)), v = .ref a ∧ H a = some (SetTO P w a L) ∧ (∀ p ∈ L, H p.1 = some (.tup (p.2.map V.int)) ∧ ∃ r ∈ rs, p.2 = rInts r) ∧ ∀ r ∈ rs, rInts r ∈ L.map (fun p : Addr × List Int => p.2), fun H H' v s ⟨a, L, e, h, h1, h2⟩ => ⟨a, L, e, s _ _ h, fun p hp => ⟨s _ _ (h1 p hp).1, (h1 p hp).2⟩, h2⟩⟩
theorem ev_sortedSet {X : Cx} {a : Expr} {ρ : Rho} {p1 p2 q1 q2 : Pos} {rs : List (List Nat)} {n wd : Nat} (hm1 : X.mg "set" = none) (hm2 : X.mg "sorted" = none) (ha : EvD X a ρ (dRows rs)) (hl : rs.length < 64) (hw : 1 ≤ wd) (hw2 : wd ≤ 1000) (hr : ∀ r ∈ rs, r.length = wd ∧ ∀ x ∈ r, x < n) (hu : X.A.units + 64 < cLine) (hc : X.calm = true := by rfl) (hg1 : Gl X "set" := by rfl) (hg2 : Gl X "sorted" := by rfl)
    (he : starEach (a :: []) X.env = (false, eval a X.env) :: starEach [] X.env := by rfl) (hpl : (backTo q1 (starEach [] X.env)).any (·.1) = false := by rfl) (he2 : starEach (.Call (.Name "set" p1) [a] [] q1 :: []) X.env = (false, eval (.Call (.Name "set" p1) [a] [] q1) X.env) :: starEach [] X.env := by rfl) (hpl2 : (backTo q2 (starEach [] X.env)).any (·.1) = false := by rfl) :
    EvE X (.Call (.Name "sorted" p2) [.Call (.Name "set" p1) [a] [] q1] [] q2) ρ (exT (LotOf n wd rs) fun lot => dD (dRows lot)) := by
  have h1 : EvE X (.Call (.Name "set" p1) [a] [] q1) ρ (setT X.prog X.w rs) := ev_ct1 (cr_setOfT hc hu) hm1 (by decide +kernel) ha (fun v H Q r k => by
    obtain ⟨l, xs, rfl, h1, hz, hl2, hi⟩ := Rp.lst_inv r
    have go : ∀ (xs : List V) (rs : List (List Nat)), xs.length = rs.length → (∀ (i : Nat) (v : V) (d : PyData), xs[i]? = some v → (rs.map dRow)[i]? = some d → Rp H v d) → ∃ ks : List (Addr × List Int), xs = ks.map (fun p => V.ref p.1) ∧ ks.map (·.2) = rs.map rInts ∧ ∀ p ∈ ks, H p.1 = some (.tup (p.2.map V.int)) ∧ ∃ r ∈ rs, p.2 = rInts r := by
      intro xs
      induction xs with
      | nil => intro rs h _; cases rs with | nil => exact ⟨[], rfl, rfl, fun p hp => by cases hp⟩ | cons _ _ => cases h
      | cons x xs ih =>
        intro rs h hi
        cases rs with
        | nil => cases h
        | cons r rs =>
          obtain ⟨ks, e1, e2, e3⟩ := ih rs (Nat.succ.inj h) fun i v d q1 q2 => hi (i + 1) v d (by simpa using q1) (by simpa using q2)
          obtain ⟨b, rfl, hb⟩ := row_at (hi 0 x _ rfl rfl)
          refine ⟨(b, rInts r) :: ks, by rw [e1]; rfl, by rw [List.map_cons, List.map_cons, e2], fun p hp => ?_⟩
          rcases List.mem_cons.mp hp with rfl | hp
          · exact ⟨hb, r, List.mem_cons_self, rfl⟩
          · obtain ⟨q1, r', q2, q3⟩ := e3 p hp
            exact ⟨q1, r', List.mem_cons_of_mem _ q2, q3⟩
    obtain ⟨ks, e1, e2, e3⟩ := go xs rs (by simpa using hl2) hi
    have hkl : ks.length = rs.length := by have := congrArg List.length e2; simpa using this
    refine ⟨l, ks, rfl, by rw [← e1]; exact SqL.of h1, fun p hp => SqT.of (e3 p hp).1, by omega, fun b L hb s1 s2 => k _ _ (same_new hb) ⟨b, L, rfl, upd_same, fun p hp => ⟨same_new hb _ _ (e3 p (s1 p hp)).1, (e3 p (s1 p hp)).2⟩, fun r hr => ?_⟩⟩
    have : rInts r ∈ ks.map (·.2) := by rw [e2]; exact List.mem_map.mpr ⟨r, hr, rfl⟩
    obtain ⟨p, hp, e⟩ := List.mem_map.mp this
    rw [← e]; exact s2 p hp) hg1 (by decide) (by decide) he hpl
  refine ev_cb1 (cr_sortedT hc) hm2 (by decide +kernel) h1 (fun v H Q r k => ?_) hg2 (by decide) (by decide) he2 hpl2
  obtain ⟨b, L, rfl, hb, hL1, hL2⟩ := r
  refine ⟨b, L, wd, (n : Int), rfl, hb, fun p hp => SqT.of (hL1 p hp).1, hw, fun p hp => ?_, fun L' q pm nd hfew pw hq => k _ _ (same_new hq) ?_⟩
  · obtain ⟨_, r, hr', e⟩ := hL1 p hp
    obtain ⟨r1, r2⟩ := hr r hr'
    rw [e]
    refine ⟨by simp [rInts, r1], fun m hm => ?_⟩
    obtain ⟨x, hx, rfl⟩ := List.mem_map.mp hm
    have := r2 x hx
    omega
  · have hL1' : ∀ p ∈ L', H p.1 = some (.tup (p.2.map V.int)) ∧ ∃ r ∈ rs, p.2 = rInts r := fun p hp => hL1 p (pm.mem_iff.mp hp)
    have go : ∀ (L' : List (Addr × List Int)), (∀ p ∈ L', H p.1 = some (.tup (p.2.map V.int)) ∧ ∃ r ∈ rs, p.2 = rInts r) → ∃ lot : List (List Nat), L'.map (·.2) = lot.map rInts ∧ (∀ r ∈ lot, r ∈ rs) ∧ Paired (fun v d => Rp H v d) (L'.map fun q => V.ref q.1) (lot.map dRow) := by
      intro L'
      induction L' with
      | nil => intro _; exact ⟨[], rfl, (fun r hr => by cases hr), .nil⟩
      | cons p L' ih =>
        intro h
        obtain ⟨lot, e1, e2, e3⟩ := ih fun p hp => h p (List.mem_cons_of_mem _ hp)
        obtain ⟨q1, r, q2, q3⟩ := h p List.mem_cons_self
        refine ⟨r :: lot, by rw [List.map_cons, List.map_cons, e1, q3], fun x hx => ?_, .cons ?_ e3⟩
        · rcases List.mem_cons.mp hx with rfl | hx
          · exact q2
          · exact e2 x hx
        · refine .tup q1 ?_ ?_ fun i v d f1 f2 => ?_
          · rw [q3, List.length_map]; unfold rInts; rw [List.length_map, (hr r q2).1]; exact small_line (by omega)
          · rw [q3]; simp [rInts]
          · rw [q3] at f1
            unfold rInts at f1
            rw [List.map_map, List.getElem?_map] at f1
            rw [List.getElem?_map] at f2
            cases hz : r[i]? with
            | none => rw [hz] at f1; cases f1
            | some z => rw [hz] at f1 f2; cases f1; cases f2; exact .int _
    obtain ⟨lot, e1, e2, e3⟩ := go L' hL1'
    have hnd : lot.Nodup := by
      rw [e1] at nd
      exact List.Pairwise.of_map rInts (fun a b h z => h (by rw [z])) nd
    have hlen : L'.length = lot.length := by have := congrArg List.length e1; simpa using this
    have hll := nodup_sub_len lot rs hnd e2
    refine ⟨lot, ⟨e2, fun r hr' => ?_, fun i hi => ?_, hll⟩, Rp.lst_new hq (by rw [List.length_map]; exact small_line (by omega)) e3⟩
    · have := hL2 r hr'
      have h2 : rInts r ∈ L'.map (·.2) := (pm.map (·.2)).mem_iff.mpr this
      rw [e1] at h2
      obtain ⟨s, hs, e⟩ := List.mem_map.mp h2
      rw [← rInts_inj e]; exact hs
    · have hi1 : i < lot.length := by omega
      have pw2 : (lot.map rInts).Pairwise (fun q r => TS.code (n : Int) q ≤ TS.code (n : Int) r) := by
        rw [← e1]
        exact List.Pairwise.map _ (fun a b h => h) pw
      have hcd : TS.code (n : Int) (rInts lot[i]) ≤ TS.code (n : Int) (rInts lot[i + 1]) := by
        have := List.pairwise_iff_getElem.mp pw2 i (i + 1) (by rw [List.length_map]; exact hi1) (by rw [List.length_map]; exact hi) (by omega)
        simpa using this
      rw [List.getD_eq_getElem?_getD, List.getD_eq_getElem?_getD, List.getElem?_eq_getElem hi1, List.getElem?_eq_getElem hi]
      simp only [Option.getD_some]
      have m1 := hr _ (e2 _ (List.getElem_mem hi1))
      have m2 := hr _ (e2 _ (List.getElem_mem hi))
      cases h : ltR lot[i] lot[i + 1] with
      | true => rfl
      | false =>
        have hne : lot[i] ≠ lot[i + 1] := fun e => by
          have := (List.getElem_inj (i := i) (j := i + 1) (h₀ := hi1) (h₁ := hi) hnd).mp e
          omega
        have := code_lt _ _ (by rw [m1.1, m2.1]) m2.2 m1.2 (ltR_total _ _ (by rw [m1.1, m2.1]) hne h)
        omega
end WD
set_option Elab.async false
set_option linter.all false
set_option maxRecDepth 100000
set_option maxHeartbeats 4000000
namespace WD
open PySem PySem.Spec PyProof.Rows L2
def rngT (m : Nat) : Ty := exT (fun k : Nat => 1 ≤ k ∧ k ≤ m) nt
section
variable {X : Cx} {e a b iter tg : Expr} {es : List Expr} {ρ ρ' : Rho} {T U : Ty} {pos p' p2 : Pos} {A A' B : Asd} {p W : Addr} {Ys : List Ty} {st : Stmt} {sts : List Stmt} {o : OutF}
theorem bf_as (i : Nat) (h : ∀ H v, T.R H v → U.R H v) (k : BF X sts (ρ.set i (some U)) A o) (hi : ρ[i]? = some (some T) := by rfl) : BF X sts ρ A o := fun σ G H D sl sp g => by
  obtain ⟨v, e, r⟩ := sl.at_ i _ hi
  exact k σ G H D (sl.put e (h _ _ r)) sp g
/-- 1 + a draw -/
theorem ef_inc {m : Nat} (ha : EvD X a ρ (.int 1)) (hb : EF X b ρ A A' (ltT m)) : EF X (.BinOp a .Add b pos) ρ A A' (rngT m) := fun σ G H sl sp =>
  ew_of (pe_op op_add pe_ew pe_ew) (ew_mono (ef_pure ha σ G H sl sp) fun x H1 ⟨G1, s1, sp1, r1⟩ => ew_mono (hb σ G1 H1 (sl.same s1) sp1) fun y H2 ⟨G2, s2, sp2, r2⟩ => by
    obtain ⟨k, hk, r2⟩ := r2
    have e1 : x = .int 1 := Rp.int_inv r1
    have e2 : y = .int (k : Int) := Rp.int_inv r2
    subst e1 e2
    refine ⟨1, (k : Int), rfl, rfl, G2, s1.trans s2, sp2, k + 1, ⟨by omega, by omega⟩, ?_⟩
    have : (1 : Int) + (k : Int) = ((k + 1 : Nat) : Int) := by omega
    show Rp G2 (V.int ((1 : Int) + (k : Int))) (.int ((k + 1 : Nat) : Int))
    rw [this]
    exact .int _)
/-- range(..) of so many -/
theorem sf_range {N : Nat → Prop} (hm : X.mg "range" = none) (h : EF X a ρ A A' (exT N nt)) (hN : ∀ n, N n → n ≤ 1000000) (hg : Gl X "range" := by rfl) (he : starEach (a :: []) X.env = (false, eval a X.env) :: starEach [] X.env := by rfl) : SF X tg (.Call (.Name "range" p') [a] [] pos) ρ A A' N (fun i => nt i) := fun σ G H sl sp R k =>
  iw_of (pi_range1 hg hm pa_aw he) (aw_of (pa_cons pe_ew pa_nil he) (ew_mono (h σ G H sl sp) fun v H1 ⟨G1, s1, sp1, r1⟩ => by
    obtain ⟨n, hn, r1⟩ := r1
    have hn2 := hN n hn
    have e1 : v = .int (n : Int) := Rp.int_inv r1
    subst e1
    refine ⟨n, rfl, by omega, by omega, k _ n _ G1 hn s1 sp1 ⟨fun i H2 s2 hlt => ⟨by show i < (n : Int).toNat; omega, fun x H' y => ?_⟩, fun i H2 s2 hle => by show (n : Int).toNat ≤ i; omega⟩⟩
    obtain ⟨e, y⟩ := y
    subst e
    subst y
    refine ⟨Same.refl _, _, Same.refl _, s2, fun b _ h => h, ?_⟩
    show Rp _ (.int (0 + (i : Int))) _
    rw [Int.zero_add]
    exact .int _))
/-- tuple(..) of a list of numbers -/
theorem ef_tupleR {Pr : List Nat → Prop} (hm : X.mg "tuple" = none) (ha : EF X a ρ A A' T) (h : ∀ H v, T.R H v → ∃ r, Pr r ∧ Rp H v (dCol r)) (hg : Gl X "tuple" := by rfl) (he : starEach (a :: []) X.env = (false, eval a X.env) :: starEach [] X.env := by rfl) (hpl : (backTo pos (starEach [] X.env)).any (·.1) = false := by rfl) :
    EF X (.Call (.Name "tuple" p') [a] [] pos) ρ A A' (exT Pr rowT) := fun σ G H sl sp =>
  ew_of (pe_callTy call_tuple_of hg hm (by decide +kernel) pa_aw (by decide) (by decide) he hpl) (aw_of (pa_cons pe_ew pa_nil he) (ew_mono (ha σ G H sl sp) fun v H1 ⟨G1, s1, sp1, r1⟩ => by
    obtain ⟨r, hr, r2⟩ := h _ _ r1
    obtain ⟨q, xs, rfl, h1, hz, hl, hi⟩ := Rp.lst_inv r2
    refine ⟨q, xs, rfl, .inl ⟨SqL.of (sp1.same _ _ h1), fun l hl' => ?_⟩⟩
    have hg1 := sp1.same.free hl'
    refine ⟨_, s1.trans (same_new hg1), sp1.lay hl', r, hr, ?_⟩
    exact .tup upd_same hz hl fun i v d a b => (hi i v d a b).same (same_new hg1)))
theorem lt_list {H : Hp} {m n : Nat} {v : V} (h : (exT (fun k => k = m) fun k => lsT ((List.range k).map fun _ => ltT n)).R H v) : ∃ r : List Nat, (r.length = m ∧ ∀ x ∈ r, x < n) ∧ Rp H v (dCol r) := by
  obtain ⟨k, rfl, a, xs, rfl, ha, hz, hp⟩ := h
  have go : ∀ (xs : List V) (Ys : List Ty), (∀ Y ∈ Ys, Y = ltT n) → Paired (fun v (T : Ty) => T.R H v) xs Ys → ∃ r : List Nat, r.length = Ys.length ∧ (∀ x ∈ r, x < n) ∧ Paired (fun v d => Rp H v d) xs (r.map fun (n : Nat) => PyData.int (n : Int)) := by
    intro xs
    induction xs with
    | nil => intro Ys _ h; cases h; exact ⟨[], rfl, (fun x hx => by cases hx), .nil⟩
    | cons x xs ih =>
      intro Ys hY h
      cases h with
      | cons r t =>
        obtain ⟨rs, e1, e2, e3⟩ := ih _ (fun Y hY' => hY Y (List.mem_cons_of_mem _ hY')) t
        rw [hY _ List.mem_cons_self] at r
        obtain ⟨z, hz, r⟩ := r
        refine ⟨z :: rs, by simp [e1], fun y hy => ?_, .cons r e3⟩
        rcases List.mem_cons.mp hy with rfl | hy
        · exact hz
        · exact e2 y hy
  obtain ⟨r, e1, e2, e3⟩ := go xs _ (fun Y hY => by obtain ⟨_, _, rfl⟩ := List.mem_map.mp hY; rfl) hp
  refine ⟨r, ⟨by simpa using e1, e2⟩, .lst ha hz (Paired.length e3) fun i v d f1 f2 => pair_at e3 i v d f1 f2⟩
/-- a list of rows that are each some one -/
theorem rows_list {H : Hp} {m : Nat} {Pr : List Nat → Prop} {v : V} (h : (lsT ((List.range m).map fun _ => exT Pr rowT)).R H v) : ∃ rs : List (List Nat), (rs.length = m ∧ ∀ r ∈ rs, Pr r) ∧ Rp H v (dRows rs) := by
  obtain ⟨a, xs, rfl, ha, hz, hp⟩ := h
  have go : ∀ (xs : List V) (Ys : List Ty), (∀ Y ∈ Ys, Y = exT Pr rowT) → Paired (fun v (T : Ty) => T.R H v) xs Ys → ∃ rs : List (List Nat), rs.length = Ys.length ∧ (∀ r ∈ rs, Pr r) ∧ Paired (fun v d => Rp H v d) xs (rs.map dRow) := by
    intro xs
    induction xs with
    | nil => intro Ys _ h; cases h; exact ⟨[], rfl, (fun x hx => by cases hx), .nil⟩
    | cons x xs ih =>
      intro Ys hY h
      cases h with
      | cons r t =>
        obtain ⟨rs, e1, e2, e3⟩ := ih _ (fun Y hY' => hY Y (List.mem_cons_of_mem _ hY')) t
        rw [hY _ List.mem_cons_self] at r
        obtain ⟨z, hz, r⟩ := r
        refine ⟨z :: rs, by simp [e1], fun y hy => ?_, .cons r e3⟩
        rcases List.mem_cons.mp hy with rfl | hy
        · exact hz
        · exact e2 y hy
  obtain ⟨r, e1, e2, e3⟩ := go xs _ (fun Y hY => by obtain ⟨_, _, rfl⟩ := List.mem_map.mp hY; rfl) hp
  exact ⟨r, ⟨by simpa using e1, e2⟩, .lst ha hz (Paired.length e3) fun i v d f1 f2 => pair_at e3 i v d f1 f2⟩
end
structure RelP (n wd mn : Nat) (rel : Rel) : Prop where
  ok : RelOk n rel
  wide : rel.1 = wd
  pos : 0 < rel.2.length
  few : rel.2.length ≤ mn
def relT (n wd mn : Nat) : Ty := exT (RelP n wd mn) fun rel => dD (dRel rel)
section
variable {P : Program} {w : World} {K : PySem.W.Frag} {mg : Str → Option Value} {base : Heap}
theorem sc_relation : FnScope ["_law_well_here", "_law_size", "_law_wide", "_law_many", "_law_rows", "_law_j", "_law_k"] ["_law_well_here", "_law_size", "_law_wide", "_law_many"] (defScope s_law_relation) := ⟨rfl, rfl, rfl, by decide +kernel, rfl, by decide +kernel, by decide +kernel⟩
def F_relation : List Ty → Ty → Nat → Prop := fun Ts T k => ∃ (n wd mn : Nat), Ts = [nt n, nt wd, nt mn] ∧ 0 < n ∧ n ≤ 9 ∧ 1 ≤ wd ∧ wd ≤ 3 ∧ 1 ≤ mn ∧ mn ≤ 5 ∧ T = relT n wd mn ∧ k = 20
theorem ok_relation {f fd} (Fu : FnD K "_law_relation" s_law_relation f fd) (hm : mg "_law_relation" = some (.ref f)) (B : Bi mg) (h1 : Kw P w K mg base 1 "_law_draw" F_draw) : Kw P w K mg base 2 "_law_relation" F_relation := by
  refine kw_of Fu (fn_well Fu sc_relation ?_ ?_) hm (fun _ _ _ _ _ _ us hl => match us, hl with | [_, _, _, _], _ => rfl)
  · rintro _ _ _ ⟨n, wd, mn, rfl, _⟩; rfl
  · rintro cdv A outer s H E hr W _ _ _ c ⟨n, wd, mn, rfl, hn0, hn9, hw1, hw3, hm1, hm5, rfl, rfl⟩ hc
    have hc : c + 20 ≤ 1000000000 := hc
    show BF _ (defBody s_law_relation) [some (refT W), some (nt n), some (nt wd), some (nt mn), none, none, none] [(W, wellC c)] (.ret (relT n wd mn) [(W, wellC (c + 20))])
    have hmul : mn * wd ≤ 5 * 3 := Nat.mul_le_mul hm5 hw3
    refine bf_wk (B := [(W, wellC (c + 0 * wd))]) ?_ (wk_well (by omega))
    refine bf_setLc 4 (n0 := mn) (own := [("_law_j", 5)]) (js := [5]) (F := fun _ => exT (fun r : List Nat => r.length = wd ∧ ∀ x ∈ r, x < n) rowT) (fun i => [(W, wellC (c + i * wd))]) sc_relation.nd (sf_pure (src_range B.range (ev_var 3) (by omega))) (blkOk_by (own := [("_law_j", 5)]) (N := ["_law_well_here", "_law_size", "_law_wide", "_law_many", "_law_rows", "_law_j", "_law_k"]) (sc := defScope s_law_relation) (by decide +kernel))
      (fun _ _ _ _ _ => pgn 5 sc_relation.nd) (by simp) (fun m h => Nat.le_of_eq h) (by omega) (fun i hi => tgo_name) (fun i hi s0 H0 C' cl fp => ?_) (fun D m hmn => ?_)
    · have hiw : (i + 1) * wd ≤ mn * wd := Nat.mul_le_mul_right _ hi
      have e1 : (i + 1) * wd = i * wd + wd := Nat.succ_mul ..
      refine ef_tupleR B.tuple (ef_wk (ef_lc (own := [("_law_k", 6)]) (n0 := wd) (js := [6]) (F := fun _ => ltT n) (A' := [(W, wellC (c + i * wd + wd))]) (fun j => [(W, wellC (c + i * wd + j))]) sc_relation.nd (sf_pure (src_range B.range (ev_var 2) (by omega))) (blkOk_by (own := [("_law_k", 6)]) (N := ["_law_well_here", "_law_size", "_law_wide", "_law_many", "_law_rows", "_law_j", "_law_k"]) (by rfl))
        (fun _ _ _ _ _ => pgn 6 sc_relation.nd) (by simp) (fun m h => Nat.le_of_eq h) (by omega) (fun j hj => tgo_name) (fun j hj s0 H0 C' cl fp => ef_callW (B := []) (c := c + i * wd + j) (k := 1) h1 (hr.mono (by decide)) (ev_var 0) (af_cons (ef_pure (ev_var 1)) af_nil) (List.Perm.refl _) (fun H vs h => ⟨_, h, n, rfl, hn0, by omega, rfl, rfl⟩) (by show c + i * wd + j + 1 ≤ 1000000000; omega) (.inl rfl)) (fun m h => by subst h; exact wk_refl)) (wk_well (by omega))) fun H v h => lt_list h
    · subst hmn
      refine bf_freeze 4 ?_
      refine bf_as 4 (U := exT (fun rs : List (List Nat) => rs.length = m ∧ ∀ r ∈ rs, r.length = wd ∧ ∀ x ∈ r, x < n) fun rs => dD (dRows rs)) (fun H v h => let ⟨rs, h1, h2⟩ := rows_list h; ⟨rs, h1, h2⟩) ?_
      refine bf_ex 4 (fun rs hrs => ?_)
      obtain ⟨hl, hrow⟩ := hrs
      refine bf_one (b1f_ret (ef_wk (ef_imp (ef_pure (ev_tupT (eva_cons (ev_var 2) (eva_cons (ev_sortedSet (n := n) (wd := wd) B.set B.sorted (ev_var 4) (by omega) hw1 (by omega) hrow hr.units) eva_nil)))) fun H v h => ?_) (wk_well (by omega))))
      obtain ⟨a, xs, rfl, ha, hp⟩ := h
      cases hp with
      | cons r1 t =>
        cases t with
        | cons r2 t =>
          cases t
          obtain ⟨lot, hlot, r2⟩ := r2
          have hmem : ∀ r ∈ lot, r.length = wd ∧ ∀ x ∈ r, x < n := fun r hr => hrow r (hlot.sub r hr)
          have hpos : 0 < lot.length := by
            have : rs ≠ [] := fun e => by rw [e] at hl; simp at hl; omega
            obtain ⟨r, hr⟩ := List.exists_mem_of_ne_nil rs this
            exact List.length_pos_of_mem (hlot.all r hr)
          refine ⟨(wd, lot), ⟨⟨by show wd ≤ 12; omega, by show lot.length ≤ 1000; have := hlot.len; omega, hmem, hlot.up⟩, rfl, hpos, by have := hlot.len; show lot.length ≤ m; omega⟩, .tup ha (by show 2 ≤ sizeLine; rw [sizeLine_eq]; decide) rfl fun i v d e1 e2 => ?_⟩
          exact pair_at (.cons r1 (.cons r2 .nil) : Paired (fun v d => Rp H v d) _ [.int (wd : Int), dRows lot]) i v d e1 e2
end
end WD
set_option Elab.async false
set_option linter.all false
set_option maxRecDepth 100000
set_option maxHeartbeats 4000000
namespace WD
open PySem PySem.Spec PyProof.Rows L2
def weakF (F : List Ty → Ty → Nat → Prop) : List Ty → Ty → Nat → Prop := fun Ts T k => ∃ T', F Ts T' k ∧ ∀ H v, T'.R H v → T.R H v
theorem kw_weak {P : Program} {w : World} {K : PySem.W.Frag} {mg : Str → Option Value} {base : Heap} {k : Nat} {x : Str} {F : List Ty → Ty → Nat → Prop} (h : Kw P w K mg base k x F) : Kw P w K mg base k x (weakF F) := by
  obtain ⟨f, fd, ps, G, r⟩ := h.ex
  refine ⟨f, fd, ps, G.imp fun vs H Q E h => ?_, r⟩
  obtain ⟨W, us, Ts, T, k, c, G, e, hp, ⟨T', hF, hT⟩, hc, sp, hQ⟩ := h
  exact ⟨W, us, Ts, T', k, c, G, e, hp, hF, hc, sp, fun v G' H' s sp' r => hQ v G' H' s sp' (hT _ _ r)⟩
theorem list_of {α : Type} {f : α → PyData} {H : Hp} {m : Nat} {Pr : α → Prop} {v : V} (h : (lsT ((List.range m).map fun _ => exT Pr fun a => dD (f a))).R H v) : ∃ l : List α, (l.length = m ∧ ∀ r ∈ l, Pr r) ∧ Rp H v (.list (l.map f)) := by
  obtain ⟨a, xs, rfl, ha, hz, hp⟩ := h
  have go : ∀ (xs : List V) (Ys : List Ty), (∀ Y ∈ Ys, Y = exT Pr fun a => dD (f a)) → Paired (fun v (T : Ty) => T.R H v) xs Ys → ∃ rs : List α, rs.length = Ys.length ∧ (∀ r ∈ rs, Pr r) ∧ Paired (fun v d => Rp H v d) xs (rs.map f) := by
    intro xs
    induction xs with
    | nil => intro Ys _ h; cases h; exact ⟨[], rfl, (fun x hx => by cases hx), .nil⟩
    | cons x xs ih =>
      intro Ys hY h
      cases h with
      | cons r t =>
        obtain ⟨rs, e1, e2, e3⟩ := ih _ (fun Y hY' => hY Y (List.mem_cons_of_mem _ hY')) t
        rw [hY _ List.mem_cons_self] at r
        obtain ⟨z, hz, r⟩ := r
        refine ⟨z :: rs, by simp [e1], fun y hy => ?_, .cons r e3⟩
        rcases List.mem_cons.mp hy with rfl | hy
        · exact hz
        · exact e2 y hy
  obtain ⟨r, e1, e2, e3⟩ := go xs _ (fun Y hY => by obtain ⟨_, _, rfl⟩ := List.mem_map.mp hY; rfl) hp
  exact ⟨r, ⟨by simpa using e1, e2⟩, .lst ha hz (Paired.length e3) fun i v d f1 f2 => pair_at e3 i v d f1 f2⟩
theorem ev_catL {X : Cx} {a b : Expr} {ρ : Rho} {pos : Pos} {ds es : List PyData} (ha : EvD X a ρ (.list ds)) (hb : EvD X b ρ (.list es)) (hz : ds.length + es.length ≤ 100000) : EvD X (.BinOp a .Add b pos) ρ (.list (ds ++ es)) := ev_op op_cat ha hb fun x y H Q r1 r2 k => by
  obtain ⟨p1, xs, e1, h1, z1, l1, i1⟩ := Rp.lst_inv r1
  obtain ⟨p2, ys, e2, h2, z2, l2, i2⟩ := Rp.lst_inv r2
  subst e1 e2
  have hz' : xs.length + ys.length ≤ sizeLine := by rw [l1, l2]; exact small_line hz
  refine ⟨p1, p2, xs, ys, rfl, rfl, h1, h2, hz', fun p hp => k _ _ (same_new hp) ?_⟩
  refine .lst upd_same (by rw [List.length_append]; exact hz') (by simp [l1, l2]) fun i v d a b => Rp.same (same_new hp) ?_
  by_cases hlt : i < xs.length
  · rw [List.getElem?_append_left hlt] at a
    rw [List.getElem?_append_left (by omega)] at b
    exact i1 i v d a b
  · rw [List.getElem?_append_right (by omega)] at a
    rw [List.getElem?_append_right (by omega)] at b
    rw [l1] at a
    exact i2 _ v d a b
structure RelQ (n mx : Nat) (rel : Rel) : Prop where
  ok : RelOk n rel
  w1 : 1 ≤ rel.1
  w3 : rel.1 ≤ 3
  pos : 0 < rel.2.length
  few : rel.2.length ≤ mx
def relQT (n mx : Nat) : Ty := exT (RelQ n mx) fun rel => dD (dRel rel)
structure RelsP (n p : Nat) (rels : List Rel) : Prop where
  pos : 0 < rels.length
  few : rels.length ≤ 4
  ok : ∀ r ∈ rels, RelQ n 5 r
  sp : n = 3 → p = 2 → ∀ x, x < 3 → ((1, [[x]]) : Rel) ∈ rels
def relsT (n p : Nat) : Ty := exT (RelsP n p) fun rels => dD (dRels rels)
theorem one_row {n x : Nat} (h : x < n) : RelQ n 5 (1, [[x]]) := ⟨⟨by show 1 ≤ 12; decide, by show 1 ≤ 1000; decide, fun r hr => by
  have : r = [x] := by simpa using hr
  subst this
  exact ⟨rfl, fun y hy => by have : y = x := by simpa using hy
                             rw [this]; exact h⟩, fun i hi => by
  have hi : i + 1 < 1 := hi
  omega⟩, by show 1 ≤ 1; decide, by show 1 ≤ 3; decide, by show 0 < 1; decide, by show 1 ≤ 5; decide⟩
section
variable {P : Program} {w : World} {K : PySem.W.Frag} {mg : Str → Option Value} {base : Heap}
theorem sc_relations : FnScope ["_law_well_here", "_law_size", "_law_places", "_law_found", "_law_k", "_law_one"] ["_law_well_here", "_law_size", "_law_places"] (defScope s_law_relations) := ⟨rfl, rfl, rfl, by decide +kernel, rfl, by decide +kernel, by decide +kernel⟩
def F_relations : List Ty → Ty → Nat → Prop := fun Ts T k => ∃ (n p : Nat), Ts = [nt n, nt p] ∧ 0 < n ∧ n ≤ 9 ∧ 1 ≤ p ∧ p ≤ 3 ∧ T = relsT n p ∧ k = 100
theorem ok_relations {f fd} (Fu : FnD K "_law_relations" s_law_relations f fd) (hm : mg "_law_relations" = some (.ref f)) (B : Bi mg) (h1 : Kw P w K mg base 1 "_law_draw" F_draw) (h2 : Kw P w K mg base 2 "_law_relation" F_relation) : Kw P w K mg base 3 "_law_relations" F_relations := by
  refine kw_of Fu (fn_well Fu sc_relations ?_ ?_) hm (fun _ _ _ _ _ _ us hl => match us, hl with | [_, _, _], _ => rfl)
  · rintro _ _ _ ⟨n, p, rfl, _⟩; rfl
  · rintro cdv A outer s H E hr W _ _ _ c ⟨n, p, rfl, hn0, hn9, hp1, hp3, rfl, rfl⟩ hc
    have hc : c + 100 ≤ 1000000000 := hc
    have hr1 : Room 1 _ := hr.mono (by decide)
    show BF _ (defBody s_law_relations) [some (refT W), some (nt n), some (nt p), none, none, none] [(W, wellC c)] (.ret (relsT n p) [(W, wellC (c + 100))])
    refine bf_new 3 af_nil (by simp) (fun L => ?_) sc_relations.nd
    have hmx : ∃ mx : Nat, ([3, 5, 5, 4] : List Nat)[p]? = some mx ∧ 0 < mx ∧ mx ≤ 5 := by
      rcases (show p = 1 ∨ p = 2 ∨ p = 3 by omega) with rfl | rfl | rfl
      · exact ⟨5, rfl, by decide, by decide⟩
      · exact ⟨5, rfl, by decide, by decide⟩
      · exact ⟨4, rfl, by decide, by decide⟩
    obtain ⟨mx, hmx, hmx0, hmx5⟩ := hmx
    refine bf_cons (b1f_for (n0 := 3) (N := fun k => 1 ≤ k ∧ k ≤ 3) (js := [4]) (ρ' := [some (refT W), some (nt n), some (nt p), some (refT L), none, none]) (A' := [(L, exC (fun k => 1 ≤ k ∧ k ≤ 3) fun k => lstC ((List.range k).map fun _ => relQT n 5)), (W, wellC (c + 70))]) (fun i => [some (refT W), some (nt n), some (nt p), some (refT L), none, none]) _ (fun i => [(L, lstC ((List.range i).map fun _ => relQT n 5)), (W, wellC (c + 1 + i * 22))])
      (sf_range B.range (ef_frame (A' := [(W, wellC (c + 1))]) (ef_inc (m := 3) ev_int (ef_callW (B := []) (c := c) (k := 1) h1 hr1 (ev_var 0) (af_cons (ef_pure ev_int) af_nil) (List.Perm.refl _) (fun H vs h => ⟨[nt 3], h, 3, rfl, by decide, by decide, rfl, rfl⟩) (by show c + 1 ≤ 1000000000; omega) (.inl rfl)))) (fun m h => by omega)) (pgn 4 sc_relations.nd) (fun m h => h.2) (fun i hi => tgo_name) (fun i hi => .inl ?_) (fun m h => ⟨le_refl, rfl, fun H o h' => ⟨m, h, h'⟩, wk_well (by omega)⟩)) ?_
    · have e1 : (i + 1) * 22 = i * 22 + 22 := by omega
      rw [List.range_succ, List.map_append]
      refine bf_forget (bf_one (b1f_expr (ef_wk (B := [(L, lstC (((List.range i).map fun _ => relQT n 5) ++ ([i].map fun _ => relQT n 5))), (W, wellC (c + 1 + (i + 1) * 22))]) (ef_append (T := relQT n 5) (A' := [(W, wellC (c + 1 + i * 22 + 1 + 1 + 20))]) (ev_var 3) (ef_callW (B := []) (c := c + 1 + i * 22 + 1 + 1) (k := 20) (Ts := [nt n, rngT 3, rngT mx]) (kw_weak h2) (hr.mono (by decide)) (ev_var 0) (af_cons (ef_pure (ev_var 1)) (af_cons (ef_inc (m := 3) ev_int (ef_callW (B := []) (c := c + 1 + i * 22) (k := 1) h1 hr1 (ev_var 0) (af_cons (ef_pure ev_int) af_nil) (List.Perm.refl _) (fun H vs h => ⟨[nt 3], h, 3, rfl, by decide, by decide, rfl, rfl⟩) (by show c + 1 + i * 22 + 1 ≤ 1000000000; omega) (.inl rfl)))
          (af_cons (ef_inc (m := mx) ev_int (ef_callW (B := []) (c := c + 1 + i * 22 + 1) (k := 1) h1 hr1 (ev_var 0) (af_cons (T := nt mx) (ef_pure (ev_ixL (i := p) (d := .int (mx : Int)) (ds := [.int 3, .int 5, .int 5, .int 4]) (ev_lst (evl_cons ev_int (evl_cons ev_int (evl_cons ev_int (evl_cons ev_int evl_nil))))) (ev_var 2) ?_)) af_nil) (List.Perm.refl _) (fun H vs h => ⟨[nt mx], h, mx, rfl, hmx0, by omega, rfl, rfl⟩) (by show c + 1 + i * 22 + 1 + 1 ≤ 1000000000; omega) (.inl rfl))) af_nil))) (List.Perm.refl _) (fun H vs h => ?_) (by show c + 1 + i * 22 + 1 + 1 + 20 ≤ 1000000000; omega) (.inl rfl)) (by simp; omega)) ⟨rfl, fun _ _ h => h, wk_well (by omega)⟩))) (le_keep (le_keep (le_keep (le_keep (le_drop (le_keep le_nil))))))
      · have : ([.int 3, .int 5, .int 5, .int 4] : List PyData) = ([3, 5, 5, 4] : List Nat).map fun (n : Nat) => PyData.int (n : Int) := rfl
        rw [this, List.getElem?_map, hmx]; rfl
      · cases h with
        | cons r1 h =>
          cases h with
          | cons r2 h =>
            cases h with
            | cons r3 h =>
              cases h
              obtain ⟨wd, ⟨w1, w2⟩, r2⟩ := r2
              obtain ⟨mn, ⟨m1, m2⟩, r3⟩ := r3
              refine ⟨[nt n, nt wd, nt mn], .cons r1 (.cons r2 (.cons r3 .nil)), relT n wd mn, ⟨n, wd, mn, rfl, hn0, hn9, w1, w2, m1, by omega, rfl, rfl⟩, fun H v ⟨rel, q, r⟩ => ⟨rel, ⟨q.ok, by rw [q.wide]; exact w1, by rw [q.wide]; exact w2, q.pos, by have := q.few; omega⟩, r⟩⟩
    · refine bf_exC fun m hm => ?_
      refine bf_freeze 3 ?_
      refine bf_as 3 (U := exT (fun rels : List Rel => rels.length = m ∧ ∀ r ∈ rels, RelQ n 5 r) fun rels => dD (dRels rels)) (fun H v h => let ⟨rs, h1, h2⟩ := list_of (f := dRel) h; ⟨rs, h1, h2⟩) ?_
      refine bf_ex 3 (fun rels hrels => ?_)
      obtain ⟨hl, hq⟩ := hrels
      by_cases hnp : n = 3 ∧ p = 2
      · obtain ⟨rfl, rfl⟩ := hnp
        refine bf_cons (b1f_then (q := decide (([3, 2] : List Nat) = [3, 2])) ((et_eq hr.units (d := dRow [3, 2]) (d' := dRow [3, 2]) (ev_tup (evl_cons (ev_var 1) (evl_cons (ev_var 2) evl_nil))) (ev_tup (evl_cons ev_int (evl_cons ev_int evl_nil))) (shaped_row _) (shaped_row _)).to (eqv_row _ _)) (by decide) (bf_one (b1f_set 3 (T := dD (dRels (((List.range 3).map fun x => ((1, [[x]]) : Rel)) ++ rels.take 1))) (ef_pure (EvE.to (ev_catL (ev_lc (own := [("_law_one", 5)]) (js := [5]) (f := fun x => dRel (1, [[x]])) sc_relations.nd (src_range (n := 3) B.range ev_int (by decide)) (blkOk_by (own := [("_law_one", 5)]) (N := ["_law_well_here", "_law_size", "_law_places", "_law_found", "_law_k", "_law_one"]) (sc := defScope s_law_relations) (by decide +kernel))
            (fun _ _ _ _ _ => pgn 5 sc_relations.nd) (by simp) (by decide) (fun x hx => tgo_name) (fun x hx s0 H0 C' cl fp => ev_tup (evl_cons ev_int (evl_cons (ev_lst (evl_cons (ev_tup (evl_cons (ev_var 5) evl_nil)) evl_nil)) evl_nil)))) (ev_sliceL (ds := rels.map dRel) (m := none) (n := some 1) (ev_var 3) eo_none (eo_some (n := 1) ev_int)) (by simp [cutD]; omega)) ?_)) sc_relations.nd))) ?_
        · unfold dRels
          rw [List.map_append, List.map_map, List.map_take]
          congr 4
          unfold cutD
          simp only [Option.getD_none, Option.getD_some, List.length_map]
          rw [Nat.min_eq_left (by omega), Nat.min_eq_left (by omega)]
          rfl
        · refine bf_one (b1f_ret (ef_wk (ef_imp (ef_pure (ev_var 3)) fun H v h => ⟨_, ⟨by simp; omega, by simp; omega, fun r hr => ?_, fun _ _ x hx => ?_⟩, h⟩) (wk_well (by omega))))
          · rcases List.mem_append.mp hr with h | h
            · obtain ⟨x, hx, rfl⟩ := List.mem_map.mp h
              exact one_row (List.mem_range.mp hx)
            · exact hq r (List.mem_of_mem_take h)
          · exact List.mem_append_left _ (List.mem_map.mpr ⟨x, List.mem_range.mpr hx, rfl⟩)
      · refine bf_cons (b1f_skip (q := decide (([n, p] : List Nat) = [3, 2])) ((et_eq hr.units (d := dRow [n, p]) (d' := dRow [3, 2]) (ev_tup (evl_cons (ev_var 1) (evl_cons (ev_var 2) evl_nil))) (ev_tup (evl_cons ev_int (evl_cons ev_int evl_nil))) (shaped_row _) (shaped_row _)).to (eqv_row _ _)) (decide_eq_false fun e => hnp (by injection e with e1 e2; injection e2 with e2 _; exact ⟨e1, e2⟩))) ?_
        exact bf_one (b1f_ret (ef_wk (ef_imp (ef_pure (ev_var 3)) fun H v h => ⟨rels, ⟨by omega, by omega, hq, fun h1 h2 => absurd ⟨h1, h2⟩ hnp⟩, h⟩) (wk_well (by omega))))
end
end WD
set_option Elab.async false
set_option linter.all false
set_option maxRecDepth 100000
set_option maxHeartbeats 4000000
namespace WD
open PySem PySem.Spec PyProof.Rows L2
section
variable {X : Cx} {e a b elt iter tg : Expr} {es : List Expr} {ρ ρ' : Rho} {T U : Ty} {pos p' p2 py spos : Pos} {A A' B : Asd} {p W : Addr} {Ys : List Ty} {st : Stmt} {sts rest : List Stmt} {o : OutF} {N : Nat → Prop} {Y : Nat → Ty}
/-- an item drawn from a list -/
theorem ef_ixN {ds : List PyData} {m : Nat} (ha : EvD X a ρ (.list ds)) (hb : EF X b ρ A A' (ltT m)) (hm : m ≤ ds.length) (hs : PlainIx b := by exact fun _ _ => rfl) : EF X (.Subscript a b pos) ρ A A' (exT (fun i : Nat => i < m) fun i => dD (ds.getD i .none)) := fun σ G H sl sp =>
  ew_of (pe_ix ix_list pe_ew pe_ew hs) (ew_mono (ef_pure ha σ G H sl sp) fun x H1 ⟨G1, s1, sp1, r1⟩ => ew_mono (hb σ G1 H1 (sl.same s1) sp1) fun y H2 ⟨G2, s2, sp2, r2⟩ => by
    obtain ⟨i, hi, r2⟩ := r2
    have e2 : y = .int (i : Int) := Rp.int_inv r2
    subst e2
    obtain ⟨q, xs, rfl, h1, hz, hl, hx⟩ := (Rp.same s2 r1).lst_inv
    have hi2 : i < ds.length := by omega
    obtain ⟨v, hv, rv⟩ := rp_get hl hx (List.getElem?_eq_getElem hi2)
    refine ⟨q, xs, i, v, rfl, rfl, SqL.of (sp2.same _ _ h1), atI_nat hv, G2, s1.trans s2, sp2, i, hi, ?_⟩
    show Rp G2 v (ds.getD i .none)
    rw [List.getD_eq_getElem?_getD, List.getElem?_eq_getElem hi2]
    exact rv)
theorem ef_ixR {rs : List (List Nat)} (ha : EvD X a ρ (dRows rs)) (hb : EF X b ρ A A' (ltT rs.length)) (hs : PlainIx b := by exact fun _ _ => rfl) : EF X (.Subscript a b pos) ρ A A' (exT (fun r => r ∈ rs) rowT) := ef_imp (ef_ixN (ds := rs.map dRow) ha hb (by simp) hs) fun H v ⟨i, hi, r⟩ => ⟨rs.getD i [], getD_mem rs i [] hi, by have r : Rp H v ((rs.map dRow).getD i .none) := r; rw [getD_map dRow rs i [] _ hi] at r; exact r⟩
theorem lst_ex {α : Type} {Pr : α → Prop} {F : α → Ty} {H : Hp} {oo : HO} (h : (lstC (Ys ++ [exT Pr F])).R H oo) : ∃ q, Pr q ∧ (lstC (Ys ++ [F q])).R H oo := by
  obtain ⟨xs, rfl, hz, hp⟩ := h
  have go : ∀ (Ys : List Ty) (xs : List V), Paired (fun v (T : Ty) => T.R H v) xs (Ys ++ [exT Pr F]) → ∃ q, Pr q ∧ Paired (fun v (T : Ty) => T.R H v) xs (Ys ++ [F q]) := by
    intro Ys
    induction Ys with
    | nil => intro xs h; cases h with | cons r t => cases t; obtain ⟨q, h1, h2⟩ := r; exact ⟨q, h1, .cons h2 .nil⟩
    | cons Y Ys ih => intro xs h; cases h with | cons r t => obtain ⟨q, h1, h2⟩ := ih _ t; exact ⟨q, h1, .cons r h2⟩
  obtain ⟨q, h1, h2⟩ := go Ys xs hp
  exact ⟨q, h1, xs, rfl, hz, h2⟩
/-- x = [.. for ..], a list that will change, x a cell -/
theorem bf_newLc (i : Nat) {x : Str} {own : List (Str × Nat)} {scope : Scope} {g : TG} {n0 : Nat} {F : Nat → Ty} {ρt : Nat → Rho} {js : List Nat} (As : Nat → Asd) (hN : X.N.Nodup) (hs : SF X tg iter ρ A (As 0) N Y) (ok : BlkOk X.N X.env.scope scope own) (hg : PgB X scope tg g)
    (hj : ∀ j ∈ js, j ∈ own.map (·.2)) (hNn : ∀ n, N n → n ≤ n0) (hn : n0 ≤ 100000) (ht : ∀ i, i < n0 → TgGo g (wipeR ρ (own.map (·.2))) (Y i) (ρt i) js) (he : ∀ i, i < n0 → EFB X scope elt (ρt i) (As i) (As (i + 1)) (F i))
    (k : ∀ D n, N n → BF X rest (ρ.set i (some (refT D))) ((D, lstC ((List.range n).map F)) :: As n) o) (hi : X.N[i]? = some x := by rfl) (hx : Loc X.env.scope x := by first | exact Or.inl rfl | exact Or.inr rfl) (hsw : swapsWith (.ListComp elt [⟨tg, iter, [], 0⟩] scope pos) (some (.Name x py)) spos.line X.env = pure false := by rfl) (hfn : X.fn x = true ∨ X.env.scope.names.lookup x = some .local := by first | exact .inl rfl | exact .inr rfl)
    (hc : X.calm = true := by rfl) (hf : ∀ x, foldedSetIterable iter X.env x = pure x := by intro _; rfl) : BF X (.Assign [.Name x py] (.ListComp elt [⟨tg, iter, [], 0⟩] scope pos) spos :: rest) ρ A o := fun σ G H D sl sp gg =>
  sw_cons (s1_of (ps_set hN hi hx (pe_lc hc hN pi_iw ok hg (fun _ _ _ _ _ => pts_nil) (te := LW X scope elt) (fun s0 H0 C cl fp => ⟨fun pins s σ H Q I h => h s0 H0 C cl fp pins s I⟩) hf) hsw hfn) (by
    refine tlc_of (js := js) As hs hj hNn hn ht he sl sp fun L n G' H' hn' s sp' => ?_
    exact k L n hn' _ G' H' D ((sl.same s).set (T := refT L) rfl) sp' (gg.same s)))
/-- (name,) + a row of draws -/
theorem ef_nameCat {z : Str} {Pr : List Nat → Prop} (ha : EvD X a ρ (.tuple [.str z])) (hb : EF X b ρ A A' (exT Pr rowT)) (hp : ∀ r, Pr r → 0 < r.length ∧ r.length ≤ 100) : EF X (.BinOp a .Add b pos) ρ A A' (exT Pr fun r => dD (dStp (.cl z r))) := fun σ G H sl sp =>
  ew_of (pe_op op_catA pe_ew pe_ew) (ew_mono (ef_pure ha σ G H sl sp) fun x H1 ⟨G1, s1, sp1, r1⟩ => ew_mono (hb σ G1 H1 (sl.same s1) sp1) fun y H2 ⟨G2, s2, sp2, r2⟩ => by
    obtain ⟨r, hr, r2⟩ := r2
    obtain ⟨l1, l2⟩ := hp r hr
    obtain ⟨p1, xs, rfl, h1, z1, k1, i1⟩ := Rp.tup_inv (Rp.same s2 r1)
    obtain ⟨p2, ys, rfl, h2, z2, k2, i2⟩ := Rp.tup_inv r2
    have k1 : xs.length = 1 := k1
    have k2 : ys.length = r.length := by simpa using k2
    have hz' : xs.length + ys.length ≤ sizeLine := small_line (by omega)
    refine ⟨p1, p2, xs, ys, rfl, rfl, SqT.of (sp2.same _ _ h1), SqT.of (sp2.same _ _ h2), hz', fun e => ?_, fun _ e => ?_, fun _ _ q hq => ⟨_, (s1.trans s2).trans (same_new (sp2.same.free hq)), sp2.lay hq, r, hr, ?_⟩⟩
    · subst e; simp at k1
    · subst e; simp at k2; omega
    · refine .tup upd_same (by rw [List.length_append]; exact hz') (by simp [k1, k2]; omega) fun i v d e1 e2 => Rp.same (same_new (sp2.same.free hq)) ?_
      cases i with
      | zero =>
        rw [List.getElem?_append_left (by omega)] at e1
        exact i1 0 v d e1 (by simpa using e2)
      | succ i =>
        rw [List.getElem?_append_right (by omega)] at e1
        rw [k1] at e1
        exact i2 i v d (by simpa using e1) (by simpa using e2))
end
def nm (i : Nat) : Str := (["one", "two", "three"] : List Str).getD i ""
theorem nm_ok {i : Nat} (h : i < 3) : NameOk (nm i) ∧ strOkD (nm i) = true := by
  rcases (show i = 0 ∨ i = 1 ∨ i = 2 by omega) with rfl | rfl | rfl
  · exact ⟨⟨by decide +kernel, by decide +kernel, by decide +kernel⟩, by decide +kernel⟩
  · exact ⟨⟨by decide +kernel, by decide +kernel, by decide +kernel⟩, by decide +kernel⟩
  · exact ⟨⟨by decide +kernel, by decide +kernel, by decide +kernel⟩, by decide +kernel⟩
theorem nm_inj {i j : Nat} (hi : i < 3) (hj : j < 3) (h : nm i = nm j) : i = j := by
  rcases (show i = 0 ∨ i = 1 ∨ i = 2 by omega) with rfl | rfl | rfl <;> rcases (show j = 0 ∨ j = 1 ∨ j = 2 by omega) with rfl | rfl | rfl <;> first | rfl | exact absurd h (by decide +kernel)
/-- the deeds of the house -/
def hdeeds (p : Nat) (some_ : List (List Nat)) : List Dd := (List.range some_.length).map fun i => (nm i, p, some_.getD i [])
theorem hdeeds_find {p : Nat} {some_ : List (List Nat)} (hl : some_.length ≤ 3) {i : Nat} (hi : i < some_.length) : (hdeeds p some_).find? (fun d => decide (d.1 = nm i)) = some (nm i, p, some_.getD i []) := by
  unfold hdeeds
  rw [List.find?_map]
  have : List.find? ((fun d : Dd => decide (d.1 = nm i)) ∘ fun i => (nm i, p, some_.getD i [])) (List.range some_.length) = some i := by
    rw [List.find?_range_eq_some]
    refine ⟨by simp, List.mem_range.mpr hi, fun j hj => ?_⟩
    simp only [Function.comp, decide_eq_false_iff_not, Bool.not_eq_true', decide_eq_false_iff_not]
    exact fun e => by have := nm_inj (by omega) (by omega) e; omega
  rw [this]; rfl
theorem src_enumRows' {X : Cx} {a : Expr} {ρ : Rho} {pos p' : Pos} {elts : List Expr} {kk : Nat} {tpos : Pos} {rs : List (List Nat)} (hm : X.mg "enumerate" = none) (h : EvD X a ρ (dRows rs)) (hg : Gl X "enumerate" := by rfl) (he : starEach (a :: []) X.env = (false, eval a X.env) :: starEach [] X.env := by rfl) :
    Src X (.Tuple elts kk tpos) (.Call (.Name "enumerate" p') [a] [] pos) ρ rs.length (fun i => dD (.tuple [.int (i : Int), dRow (rs.getD i [])])) := src_enumRows hm h hg he
structure MadeOk (n p : Nat) (kept : List (List Nat)) : Prop where
  n9 : n ≤ 9
  n0 : 0 < n
  p1 : 1 ≤ p
  p3 : p ≤ 3
  wide : n ^ p ≤ 81
  ne : 0 < kept.length
  few : kept.length ≤ 100000
  dd : ∀ t ∈ kept, DeedOk n p t
  cl : ∀ ds ss, TabOk n p ds ss → (∀ d ∈ ds, d.2.2 ∈ kept) → tabS n p ds ss ∈ kept
theorem houseOk {n p : Nat} {kept some_ : List (List Nat)} (mo : MadeOk n p kept) (hl : some_.length ≤ 3) (hs : ∀ t ∈ some_, t ∈ kept) : HseOk n (hdeeds p some_) ∧ (∀ d ∈ hdeeds p some_, DeedOk n p d.2.2 ∧ d.2.1 = p ∧ strOkD d.1 = true ∧ d.2.2 ∈ kept) := by
  have hm : ∀ d ∈ hdeeds p some_, ∃ i, i < some_.length ∧ d = (nm i, p, some_.getD i []) := fun d hd => by
    obtain ⟨i, hi, rfl⟩ := List.mem_map.mp hd
    exact ⟨i, List.mem_range.mp hi, rfl⟩
  refine ⟨⟨mo.n0, mo.n9, by simp [hdeeds]; omega, fun d hd => ?_, ?_⟩, fun d hd => ?_⟩
  · obtain ⟨i, hi, rfl⟩ := hm d hd
    exact ⟨(nm_ok (by omega)).1, mo.dd _ (hs _ (getD_mem some_ i [] hi))⟩
  · unfold hdeeds
    rw [List.map_map]
    rw [List.nodup_iff_pairwise_ne, List.pairwise_iff_getElem]
    intro i j hi hj hij e
    simp only [List.length_map, List.length_range] at hi hj
    simp only [List.getElem_map, List.getElem_range, Function.comp] at e
    have := nm_inj (by omega) (by omega) e
    omega
  · obtain ⟨i, hi, rfl⟩ := hm d hd
    exact ⟨mo.dd _ (hs _ (getD_mem some_ i [] hi)), rfl, (nm_ok (by omega)).2, hs _ (getD_mem some_ i [] hi)⟩
def stpT (s : Stp) : Ty := dD (dStp s)
section
variable {P : Program} {w : World} {K : PySem.W.Frag} {mg : Str → Option Value} {base : Heap} {C : Addr}
theorem sc_made : FnScope ["_law_well_here", "_law_size", "_law_places", "_law_kept", "_law_some", "_law_house", "_law_steps", "_law_k", "_law_name", "_law_table", "_law_j"] ["_law_well_here", "_law_size", "_law_places", "_law_kept"] (defScope s_law_made_right) := ⟨rfl, rfl, rfl, by decide +kernel, rfl, by decide +kernel, by decide +kernel⟩
def F_made : List Ty → Ty → Nat → Prop := fun Ts T k => ∃ (n p : Nat) (kept : List (List Nat)), Ts = [nt n, nt p, dD (dRows kept)] ∧ MadeOk n p kept ∧ T = dD (.bool true) ∧ k = 200
def StI (ds : List Dd) (p i : Nat) (ss : List Stp) : Prop := ss.length = p + i ∧ StepsOk ds p ss
theorem ok_made {f fd} (Fu : FnD K "_law_made_right" s_law_made_right f fd) (hm : mg "_law_made_right" = some (.ref f)) (B : Bi mg) (h1 : Kw P w K mg base 1 "_law_draw" F_draw) (h2 : C8.Mak P w K mg base 5 "House" C (spInit C) []) (h3 : Kn P w K mg base 5 "table_of" (F_table_of C)) : Kw P w K mg base 7 "_law_made_right" F_made := by
  refine kw_of Fu (fn_well Fu sc_made ?_ ?_) hm (fun _ _ _ _ _ _ us hl => match us, hl with | [_, _, _, _], _ => rfl)
  · rintro _ _ _ ⟨n, p, kept, rfl, _⟩; rfl
  · rintro cdv A outer s H E hr W _ _ _ c ⟨n, p, kept, rfl, mo, rfl, rfl⟩ hc
    have hc : c + 200 ≤ 1000000000 := hc
    have hr1 : Room 1 _ := hr.mono (by decide)
    have hr5 : Room 5 _ := hr.mono (by decide)
    have hp1 := mo.p1
    have hp3 := mo.p3
    show BF _ (defBody s_law_made_right) [some (refT W), some (nt n), some (nt p), some (dD (dRows kept)), none, none, none, none, none, none, none] [(W, wellC c)] (.ret (dD (.bool true)) [(W, wellC (c + 200))])
    refine bf_setLc 4 (n0 := 3) (N := fun k => 1 ≤ k ∧ k ≤ 3) (own := [("_law_k", 7)]) (js := [7]) (F := fun _ => exT (fun r => r ∈ kept) rowT) (fun i => [(W, wellC (c + 1 + i))]) sc_made.nd (sf_range B.range (ef_inc (m := 3) ev_int (ef_callW (B := []) (c := c) (k := 1) h1 hr1 (ev_var 0) (af_cons (ef_pure ev_int) af_nil) (List.Perm.refl _) (fun H vs h => ⟨[nt 3], h, 3, rfl, by decide, by decide, rfl, rfl⟩) (by show c + 1 ≤ 1000000000; omega) (.inl rfl))) (fun m h => by omega))
      (blkOk_by (own := [("_law_k", 7)]) (N := ["_law_well_here", "_law_size", "_law_places", "_law_kept", "_law_some", "_law_house", "_law_steps", "_law_k", "_law_name", "_law_table", "_law_j"]) (sc := defScope s_law_made_right) (by decide +kernel)) (fun _ _ _ _ _ => pgn 7 sc_made.nd) (by simp) (fun m h => h.2) (by decide) (fun i hi => tgo_name) (fun i hi s0 H0 C' cl fp => ?_) (fun D m hmn => ?_)
    · exact ef_ixR (ev_var 3) (ef_callW (B := []) (c := c + 1 + i) (k := 1) h1 hr1 (ev_var 0) (af_cons (ef_pure (ev_len (n := kept.length) B.len (ev_var 3) (by simp [dRows, lenD]))) af_nil) (List.Perm.refl _) (fun H vs h => ⟨[nt kept.length], h, kept.length, rfl, mo.ne, by have := mo.few; omega, rfl, rfl⟩) (by show c + 1 + i + 1 ≤ 1000000000; omega) (.inl rfl))
    obtain ⟨hm1, hm3⟩ := hmn
    refine bf_freeze 4 (bf_as 4 (U := exT (fun l : List (List Nat) => l.length = m ∧ ∀ r ∈ l, r ∈ kept) fun l => dD (dRows l)) (fun H v h => let ⟨rs, h1, h2⟩ := list_of (f := dRow) h; ⟨rs, h1, h2⟩) (bf_ex 4 fun sm hsm => ?_))
    obtain ⟨hsl, hsk⟩ := hsm
    obtain ⟨ho, hd⟩ := houseOk mo (by omega) hsk
    have hlen : (hdeeds p sm).length = sm.length := by simp [hdeeds]
    refine bf_cons (b1f_set 5 (T := HouseT C n (hdeeds p sm)) (ef_pure (ev_house h2 hr (ev_var 1) (EvE.to (ev_lc (own := [("_law_k", 7), ("_law_table", 9)]) (js := [7, 9]) (f := fun i => dDd (nm i, p, sm.getD i [])) sc_made.nd (src_enumRows B.enumerate (ev_var 4)) (blkOk_by (own := [("_law_k", 7), ("_law_table", 9)]) (N := ["_law_well_here", "_law_size", "_law_places", "_law_kept", "_law_some", "_law_house", "_law_steps", "_law_k", "_law_name", "_law_table", "_law_j"]) (sc := defScope s_law_made_right) (by decide +kernel))
      (fun _ _ _ _ _ => pg_tup (n := 2) rfl (pgs_cons (pgn 7 sc_made.nd) (pgs_cons (pgn 9 sc_made.nd) pgs_nil))) (by simp) (by omega) (fun i hi => tgo_tupD (n := 2) (tgs_cons (tgs_cons tgs_nil))) (fun i hi s0 H0 C' cl fp => ev_tup (evl_cons (d := .str (nm i)) (ev_ixL (i := i) (ds := [.str "one", .str "two", .str "three"]) (ev_lst (evl_cons ev_str (evl_cons ev_str (evl_cons ev_str evl_nil)))) (ev_var 7) ?_) (evl_cons (ev_var 2) (evl_cons (ev_var 9) evl_nil))))) ?_) ho)) sc_made.nd) ?_
    · rcases (show i = 0 ∨ i = 1 ∨ i = 2 by omega) with rfl | rfl | rfl <;> rfl
    · simp [hdeeds, List.map_map, Function.comp_def]
    refine bf_newLc 6 (n0 := p) (own := [("_law_k", 7)]) (js := [7]) (F := fun k => stpT (.gv k)) (fun _ => [(W, wellC (c + 1 + m))]) sc_made.nd (sf_pure (src_range B.range (ev_var 2) (by omega))) (blkOk_by (own := [("_law_k", 7)]) (N := ["_law_well_here", "_law_size", "_law_places", "_law_kept", "_law_some", "_law_house", "_law_steps", "_law_k", "_law_name", "_law_table", "_law_j"]) (sc := defScope s_law_made_right) (by decide +kernel))
      (fun _ _ _ _ _ => pgn 7 sc_made.nd) (by simp) (fun m h => Nat.le_of_eq h) (by omega) (fun i hi => tgo_name) (fun i hi s0 H0 C' cl fp => ef_pure (ev_tup (evl_cons (ev_var 7) evl_nil))) (fun S pp hpp => ?_)
    have hpp : pp = p := hpp
    subst pp
    generalize hds : hdeeds p sm = ds at *
    have hfd : ∀ j, j < m → ds.find? (fun d => decide (d.1 = nm j)) = some (nm j, p, sm.getD j []) := fun j hj => by rw [← hds]; exact hdeeds_find (by omega) (by omega)
    have hgv : StI ds p 0 ((List.range p).map .gv) := ⟨by simp, fun i hi => by
      have hi : i < p := by simpa using hi
      have : ((List.range p).map Stp.gv).getD i (.gv 0) = .gv i := by
        rw [List.getD_eq_getElem?_getD, List.getElem?_map, List.getElem?_range hi]; rfl
      rw [this]; exact hi⟩
    refine bf_wk (B := [(S, exC (StI ds p 0) fun ss => lstC (ss.map stpT)), (W, wellC (c + 1 + m))]) ?_ ⟨rfl, fun H o h => ⟨(List.range p).map .gv, hgv, by show (lstC (((List.range p).map Stp.gv).map stpT)).R H o; rw [List.map_map]; exact h⟩, wk_refl⟩
    refine bf_cons (b1f_for (n0 := 4) (N := fun k => 1 ≤ k ∧ k ≤ 4) (js := [7]) (ρ' := [some (refT W), some (nt n), some (nt p), some (dD (dRows kept)), some (dD (dRows sm)), some (HouseT C n ds), some (refT S), none, none, none, none]) (A' := [(S, exC (fun ss => ∃ i, 1 ≤ i ∧ i ≤ 4 ∧ StI ds p i ss) fun ss => lstC (ss.map stpT)), (W, wellC (c + 100))])
      (fun i => [some (refT W), some (nt n), some (nt p), some (dD (dRows kept)), some (dD (dRows sm)), some (HouseT C n ds), some (refT S), none, none, none, none]) _ (fun i => [(S, exC (StI ds p i) fun ss => lstC (ss.map stpT)), (W, wellC (c + 1 + m + 1 + i * 4))])
      (sf_range B.range (ef_frame (A' := [(W, wellC (c + 1 + m + 1))]) (ef_inc (m := 4) ev_int (ef_callW (B := []) (c := c + 1 + m) (k := 1) h1 hr1 (ev_var 0) (af_cons (ef_pure ev_int) af_nil) (List.Perm.refl _) (fun H vs h => ⟨[nt 4], h, 4, rfl, by decide, by decide, rfl, rfl⟩) (by show c + 1 + m + 1 ≤ 1000000000; omega) (.inl rfl)))) (fun m h => by omega)) (pgn 7 sc_made.nd) (fun m h => h.2) (fun i hi => tgo_name) (fun i hi => .inl ?_) (fun m h => ⟨le_refl, rfl, fun H o ⟨ss, q, r⟩ => ⟨ss, ⟨m, h.1, h.2, q⟩, r⟩, wk_well (by omega)⟩)) ?_
    · refine bf_exC fun ss hss => ?_
      obtain ⟨hsl2, hso⟩ := hss
      generalize hcc : c + 1 + m + 1 + i * 4 = cc
      have hcc2 : cc ≤ c + 30 := by omega
      refine bf_cons (b1f_set 8 (ef_frame (A' := [(W, wellC (cc + 1))]) (ef_ixN (ds := [.str "one", .str "two", .str "three"]) (m := m) (ev_lst (evl_cons ev_str (evl_cons ev_str (evl_cons ev_str evl_nil)))) (ef_callW (B := []) (c := cc) (k := 1) h1 hr1 (ev_var 0) (af_cons (T := nt m) (ef_pure (ev_len (n := m) B.len (ev_var 4) (by simp [dRows, lenD, hsl]))) af_nil) (List.Perm.refl _) (fun H vs h => ⟨[nt m], h, m, rfl, by omega, by omega, rfl, rfl⟩) (by show cc + 1 ≤ 1000000000; omega) (.inl rfl)) (by show m ≤ 3; omega))) sc_made.nd) ?_
      refine bf_ex 8 fun j hj => ?_
      have hnm : ([.str "one", .str "two", .str "three"] : List PyData).getD j .none = .str (nm j) := by
        rcases (show j = 0 ∨ j = 1 ∨ j = 2 by omega) with rfl | rfl | rfl <;> rfl
      show BF _ _ [some (refT W), some (nt n), some (nt p), some (dD (dRows kept)), some (dD (dRows sm)), some (HouseT C n ds), some (refT S), some (nt i), some (dD (([.str "one", .str "two", .str "three"] : List PyData).getD j .none)), none, none] [(S, lstC (ss.map stpT)), (W, wellC (cc + 1))] _
      rw [hnm]
      refine bf_forget (bf_one (b1f_expr (ef_wk (B := [(S, exC (StI ds p (i + 1)) fun ss => lstC (ss.map stpT)), (W, wellC (c + 1 + m + 1 + (i + 1) * 4))]) (ef_appendV (T := exT (fun r : List Nat => r.length = p ∧ ∀ x ∈ r, x < ss.length) fun r => dD (dStp (.cl (nm j) r))) (A' := [(W, wellC (cc + 1 + p))]) (ev_var 6) (ef_nameCat (ev_tup (evl_cons (ev_var 8) evl_nil)) (ef_tupleR B.tuple (ef_lc (own := [("_law_j", 10)]) (n0 := p) (js := [10]) (F := fun _ => ltT ss.length) (A' := [(S, lstC (ss.map stpT)), (W, wellC (cc + 1 + p))]) (fun q => [(S, lstC (ss.map stpT)), (W, wellC (cc + 1 + q))]) sc_made.nd (sf_pure (src_range B.range (ev_var 2) (by omega)))
          (blkOk_by (own := [("_law_j", 10)]) (N := ["_law_well_here", "_law_size", "_law_places", "_law_kept", "_law_some", "_law_house", "_law_steps", "_law_k", "_law_name", "_law_table", "_law_j"]) (sc := defScope s_law_made_right) (by decide +kernel)) (fun _ _ _ _ _ => pgn 10 sc_made.nd) (by simp) (fun m h => Nat.le_of_eq h) (by omega) (fun q hq => tgo_name)
          (fun q hq s0 H0 C' cl fp => ef_perm (ef_callW (B := [(S, lstC (ss.map stpT))]) (c := cc + 1 + q) (k := 1) h1 hr1 (ev_var 0) (af_cons (T := nt ss.length) (ef_view (ev_len (d := dSteps ss) (n := ss.length) B.len (ev_var 6) (by simp [dSteps, lenD])) (fun σ G H sl sp => view_data (i := 6) (ds := ss.map dStp) rfl σ G H sl (by rw [List.map_map]; exact sp)) flat_int) af_nil) (List.Perm.swap _ _ _) (fun H vs h => ⟨[nt ss.length], h, ss.length, rfl, by omega, by omega, rfl, rfl⟩) (by show cc + 1 + q + 1 ≤ 1000000000; omega) (.inr flat_lt)) (List.Perm.refl _) (List.Perm.swap _ _ _)) (fun m h => by subst h; exact wk_refl)) fun H v h => lt_list h) (fun r h => by omega)) (by rw [List.length_map]; omega)) ⟨rfl, fun H o h => ?_, wk_well (by omega)⟩)))
        (le_keep (le_keep (le_keep (le_keep (le_keep (le_keep (le_keep (le_drop (le_drop (le_keep (le_keep le_nil)))))))))))
      obtain ⟨r, ⟨hr1, hr2⟩, h⟩ := lst_ex h
      refine ⟨ss ++ [.cl (nm j) r], ⟨by simp; omega, fun q hq => ?_⟩, by show (lstC ((ss ++ [Stp.cl (nm j) r]).map stpT)).R H o; rw [List.map_append]; exact h⟩
      rw [List.length_append, List.length_singleton] at hq
      by_cases hqs : q < ss.length
      · have := hso q hqs
        rw [List.getD_eq_getElem?_getD] at this ⊢
        rw [List.getElem?_append_left hqs]
        exact this
      · have e : q = ss.length := by omega
        subst e
        rw [List.getD_eq_getElem?_getD, List.getElem?_append_right (Nat.le_refl _), Nat.sub_self]
        exact ⟨⟨_, hfd j hj, rfl⟩, (nm_ok (by omega)).2, hr1, hr2⟩
    · refine bf_exC fun ss hss => ?_
      obtain ⟨i, hi1, hi4, hsl2, hso⟩ := hss
      have e : ss.map stpT = (ss.map dStp).map dD := by rw [List.map_map]; rfl
      rw [e]
      have hlen2 : ds.length = m := by rw [hlen, hsl]
      have tk : TabOk n p ds ss := ⟨mo.n0, mo.n9, mo.p1, mo.p3, mo.wide, by omega, fun d h => ⟨(hd d h).1, (hd d h).2.1⟩, fun d h => (hd d h).2.2.1, hso, fun z => by rw [z] at hsl2; simp at hsl2; omega, by omega⟩
      refine bf_freezeD 6 (bf_one (b1f_ret (ef_wk (ef_pure (EvE.to (ev_inR (room65 hr) (ev_call h3 hr5 (eva_cons (ev_var 5) (eva_cons (T := dD (dSteps ss)) (ev_var 6) (eva_cons (ev_var 2) eva_nil))) ⟨n, p, ds, ss, rfl, tk, rfl⟩) (ev_var 3)) ?_)) (wk_well (by omega)))))
      rw [decide_eq_true (mo.cl ds ss tk fun d h => (hd d h).2.2.2)]
end
end WD
set_option Elab.async false
set_option linter.all false
set_option maxRecDepth 100000
set_option maxHeartbeats 1000000
namespace WD
/-! leaves = the tables all of whose beginnings pass, in order -/
def compl (n : Nat) : Nat → List Nat → List (List Nat)
  | 0, t => [t]
  | k + 1, t => (List.range n).flatMap fun x => compl n k (t ++ [x])
theorem compl_last (n : Nat) : ∀ (k : Nat) (t : List Nat), compl n (k + 1) t = (compl n k t).flatMap fun u => (List.range n).map fun x => u ++ [x]
  | 0, t => by
    show (List.range n).flatMap (fun x => [t ++ [x]]) = [t].flatMap _
    rw [List.flatMap_singleton, List.map_eq_flatMap]
  | k + 1, t => by
    show (List.range n).flatMap (fun x => compl n (k + 1) (t ++ [x])) = ((List.range n).flatMap fun x => compl n k (t ++ [x])).flatMap _
    rw [List.flatMap_assoc]
    congr 1
    funext x
    exact compl_last n k (t ++ [x])
theorem compl_all (n : Nat) : ∀ k, compl n k [] = allT n k
  | 0 => rfl
  | k + 1 => by rw [compl_last, compl_all n k]; rfl
theorem compl_pre (n : Nat) : ∀ (k : Nat) (t u : List Nat), u ∈ compl n k t → ∃ v, u = t ++ v ∧ v.length = k
  | 0, t, u, h => by
    have : u = t := by simpa [compl] using h
    exact ⟨[], by simp [this], rfl⟩
  | k + 1, t, u, h => by
    obtain ⟨x, _, h⟩ := List.mem_flatMap.mp h
    obtain ⟨v, e, hv⟩ := compl_pre n k _ u h
    exact ⟨x :: v, by rw [e]; simp, by simp [hv]⟩
theorem leaves_filter (ok : List Nat → Bool) (n : Nat) : ∀ (k : Nat) (t : List Nat), leaves ok n k t = (compl n k t).filter fun u => (List.range (k + 1)).all fun j => ok (u.take (t.length + j))
  | 0, t => by
    show (if ok t = true then [t] else []) = [t].filter _
    cases h : ok t with
    | true => simp [h]
    | false => simp [h]
  | k + 1, t => by
    show (if ok t = true then _ else _) = ((List.range n).flatMap fun x => compl n k (t ++ [x])).filter _
    rw [List.filter_flatMap]
    have hp : ∀ x u, u ∈ compl n k (t ++ [x]) → ((List.range (k + 1 + 1)).all fun j => ok (u.take (t.length + j))) = (ok t && (List.range (k + 1)).all fun j => ok (u.take ((t ++ [x]).length + j))) := fun x u hu => by
      obtain ⟨v, e, _⟩ := compl_pre n k _ u hu
      rw [List.range_succ_eq_map, List.all_cons, List.all_map]
      have e1 : u.take (t.length + 0) = t := by rw [e, List.append_assoc, Nat.add_zero, List.take_left']; rfl
      rw [e1]
      congr 1
      congr 1
      funext j
      simp only [Function.comp, List.length_append, List.length_singleton]
      congr 2
      omega
    cases h : ok t with
    | true =>
      rw [if_pos rfl]
      congr 1
      funext x
      rw [leaves_filter ok n k (t ++ [x])]
      apply List.filter_congr
      intro u hu
      rw [hp x u hu, h, Bool.true_and]
    | false =>
      rw [if_neg (by decide)]
      symm
      rw [List.flatMap_eq_nil_iff]
      intro x _
      rw [List.filter_eq_nil_iff]
      intro u hu
      rw [hp x u hu, h]
      simp
end WD
set_option Elab.async false
set_option linter.all false
set_option maxRecDepth 100000
set_option maxHeartbeats 1000000
namespace WD
theorem put_spots (u : List Nat) (n p : Nat) (lot : List (List Nat)) (wd num : Nat) : (spotsAt n p lot wd num).map (fun s => u.getD s 0) = put u n (pick lot p num) wd := by
  unfold spotsAt put
  rw [List.map_map]
  rfl
theorem keepsB_dems {n p : Nat} {rel : Rel} {u : List Nat} : keepsB u n p rel = true ↔ ∀ d ∈ dems n p rel, d.1.map (fun s => u.getD s 0) ∈ d.2 := by
  unfold keepsB dems
  rw [List.all_eq_true]
  constructor
  · intro h d hd
    obtain ⟨r, hr, rfl⟩ := List.mem_map.mp hd
    obtain ⟨j, hj, rfl⟩ := ksOf_mem.mp hr
    have := h j (List.mem_range.mpr hj)
    simp only
    rw [put_spots]
    unfold keepsAt at this
    simpa using this
  · intro h j hj
    have hj := List.mem_range.mp hj
    have := h (spotsAt n p rel.2 rel.1 j, rel.2) (List.mem_map.mpr ⟨_, ksOf_mem.mpr ⟨j, hj, rfl⟩, rfl⟩)
    simp only at this
    rw [put_spots] at this
    unfold keepsAt
    simpa using this
/-- demands whose cells are there -/
def DmOk (c : Nat) (d : Dm) : Prop := d.1 ≠ [] ∧ ∀ s ∈ d.1, s < c
theorem take_getD (u : List Nat) (j s : Nat) (h : s < j) : (u.take j).getD s 0 = u.getD s 0 := by
  rw [List.getD_eq_getElem?_getD, List.getD_eq_getElem?_getD, List.getElem?_take, if_pos h]
theorem stand_all {c : Nat} {ds : List Dm} (hd : ∀ d ∈ ds, DmOk c d) {u : List Nat} (hu : u.length = c) : ((List.range (c + 1)).all fun j => standsB (u.take j) ds) = true ↔ ∀ d ∈ ds, d.1.map (fun s => u.getD s 0) ∈ d.2 := by
  rw [List.all_eq_true]
  have hmap : ∀ d ∈ ds, ∀ j, (∀ s ∈ d.1, s < j) → d.1.map (fun s => (u.take j).getD s 0) = d.1.map (fun s => u.getD s 0) := fun d _ j hj => List.map_congr_left fun s hs => take_getD u j s (hj s hs)
  constructor
  · intro h d hdm
    obtain ⟨h1, h2⟩ := hd d hdm
    obtain ⟨m, hm, e⟩ := lastOf_mem d.1 h1
    have hmc := h2 m hm
    have hj := h (m + 1) (List.mem_range.mpr (by omega))
    unfold standsB at hj
    rw [List.all_eq_true] at hj
    have hlen : (u.take (m + 1)).length = m + 1 := by rw [List.length_take]; omega
    have := hj d (List.mem_filter.mpr ⟨hdm, decide_eq_true (by rw [e, hlen]; omega)⟩)
    have this := of_decide_eq_true this
    rw [hmap d hdm (m + 1) fun s hs => by have := lastOf_le d.1 s hs; omega] at this
    exact this
  · intro h j hj
    have hj := List.mem_range.mp hj
    unfold standsB
    rw [List.all_eq_true]
    intro d hdf
    obtain ⟨hdm, he⟩ := List.mem_filter.mp hdf
    have he := of_decide_eq_true he
    have hlen : (u.take j).length = j := by rw [List.length_take]; omega
    rw [hlen] at he
    rw [hmap d hdm j fun s hs => by have := lastOf_le d.1 s hs; omega]
    exact decide_eq_true (h d hdm)
theorem dems_ok {n p : Nat} {rel : Rel} (hn : 0 < n) (hp : 1 ≤ p) (q : RelOk n rel) (hw : 1 ≤ rel.1) : ∀ d ∈ dems n p rel, DmOk (n ^ p) d := by
  intro d hd
  obtain ⟨r, hr, rfl⟩ := List.mem_map.mp hd
  obtain ⟨j, hj, rfl⟩ := ksOf_mem.mp hr
  have hl0 : 0 < rel.2.length := by
    rcases Nat.eq_zero_or_pos rel.2.length with h | h
    · rw [h, Nat.zero_pow (by omega)] at hj; omega
    · exact h
  refine ⟨fun z => ?_, fun s hs => ?_⟩
  · have := congrArg List.length z
    simp [spotsAt] at this
    omega
  · obtain ⟨k, _, rfl⟩ := List.mem_map.mp hs
    have := col_spot_lt hn (rows := pick rel.2 p j) (fun r hr => (q.row r (pick_mem hl0 r hr)).2) k
    rwa [pick_len] at this
theorem kept_eq' {n p : Nat} {rels : List Rel} (hn : 0 < n) (hp : 1 ≤ p) (g : ∀ r ∈ rels, RelOk n r ∧ 1 ≤ r.1) : kept n p rels = (allT n (n ^ p)).filter fun t => rels.all (keepsB t n p) := by
  unfold kept
  rw [leaves_filter, compl_all]
  apply List.filter_congr
  intro u hu
  have hul := (allT_mem.mp hu).1
  have h1 : ((List.range (n ^ p + 1)).all fun j => standsB (u.take (([] : List Nat).length + j)) (demsAll n p rels)) = ((List.range (n ^ p + 1)).all fun j => standsB (u.take j) (demsAll n p rels)) := by
    congr 1
    funext j
    simp
  rw [h1, Bool.eq_iff_iff, stand_all (c := n ^ p) (fun d hd => by
    obtain ⟨r, hr, hd⟩ := List.mem_flatMap.mp hd
    exact dems_ok hn hp (g r hr).1 (g r hr).2 d hd) hul, List.all_eq_true]
  constructor
  · intro h r hr
    exact keepsB_dems.mpr fun d hd => h d (List.mem_flatMap.mpr ⟨r, hr, hd⟩)
  · intro h d hd
    obtain ⟨r, hr, hd⟩ := List.mem_flatMap.mp hd
    exact keepsB_dems.mp (h r hr) d hd
end WD
set_option Elab.async false
set_option linter.all false
set_option maxRecDepth 100000
set_option maxHeartbeats 1000000
namespace WD
theorem pick_hit {lot : List (List Nat)} {rows : List (List Nat)} (h : ∀ r ∈ rows, r ∈ lot) (h0 : 0 < lot.length) : ∃ num, num < lot.length ^ rows.length ∧ pick lot rows.length num = rows := by
  have hi : ∀ x ∈ rows.map (fun r => lot.idxOf r), x < lot.length := fun x hx => by
    obtain ⟨r, hr, rfl⟩ := List.mem_map.mp hx
    exact List.idxOf_lt_length_of_mem (h r hr)
  refine ⟨spot lot.length (rows.map fun r => lot.idxOf r), ?_, ?_⟩
  · have := spot_lt h0 _ hi
    simpa using this
  · have := thingsAt_spot h0 _ hi
    rw [List.length_map] at this
    unfold pick
    rw [this, List.map_map]
    conv => rhs; rw [← List.map_id rows]
    apply List.map_congr_left
    intro r hr
    have hl := List.idxOf_lt_length_of_mem (h r hr)
    show lot.getD (lot.idxOf r) [] = r
    rw [List.getD_eq_getElem?_getD, List.getElem?_eq_getElem hl]
    simp [List.getElem_idxOf]
theorem keepsB_iff {u : List Nat} {n p : Nat} {rel : Rel} (hp : 1 ≤ p) : keepsB u n p rel = true ↔ ∀ rows : List (List Nat), rows.length = p → (∀ r ∈ rows, r ∈ rel.2) → put u n rows rel.1 ∈ rel.2 := by
  unfold keepsB
  rw [List.all_eq_true]
  constructor
  · intro h rows hl hr
    have h0 : 0 < rel.2.length := by
      match rows, hl with
      | r :: _, _ => exact List.length_pos_of_mem (hr r (by simp))
      | [], hl => simp at hl; omega
    obtain ⟨num, hn, e⟩ := pick_hit hr h0
    rw [hl] at hn e
    have := h num (List.mem_range.mpr hn)
    unfold keepsAt at this
    rw [e] at this
    simpa using this
  · intro h num hn
    have hn := List.mem_range.mp hn
    have h0 : 0 < rel.2.length := by
      rcases Nat.eq_zero_or_pos rel.2.length with z | z
      · rw [z, Nat.zero_pow (by omega)] at hn; omega
      · exact z
    have := h (pick rel.2 p num) (pick_len _ _ _) (pick_mem h0)
    unfold keepsAt
    simpa using this
theorem map_range_self (l : List Nat) {w : Nat} (h : l.length = w) : (List.range w).map (fun j => l.getD j 0) = l := by
  subst h
  have := map_range_getD l 0 id
  simpa using this
theorem map_range_at {w : Nat} (f : Nat → Nat) {j : Nat} (h : j < w) : ((List.range w).map f).getD j 0 = f j := by
  rw [getD_map f (List.range w) j 0 0 (by simpa using h)]
  congr 1
  rw [List.getD_eq_getElem?_getD, List.getElem?_range h]; rfl
theorem put_arg {n p k : Nat} {rows : List (List Nat)} {wd : Nat} (hn : 0 < n) (hl : rows.length = p) (hr : ∀ r ∈ rows, r.length = wd ∧ ∀ x ∈ r, x < n) (hk : k < p) : put ((List.range (n ^ p)).map fun s => (thingsAt n p s).getD k 0) n rows wd = rows.getD k [] := by
  have hm := getD_mem rows k [] (by omega)
  conv => rhs; rw [← map_range_self _ (hr _ hm).1]
  unfold put
  apply List.map_congr_left
  intro j _
  have hs := col_spot_lt hn (fun r h => (hr r h).2) j
  rw [hl] at hs
  rw [map_range_at _ hs]
  have := thingsAt_spot hn _ (col_lt hn (fun r h => (hr r h).2) j)
  rw [List.length_map, hl] at this
  rw [this, getD_map (fun r : List Nat => r.getD j 0) rows k [] 0 (by omega)]
theorem args_keep {n p : Nat} {rel : Rel} (hn : 0 < n) (hp : 1 ≤ p) (q : RelOk n rel) : ∀ r ∈ argRows n p, keepsB r n p rel = true := by
  intro r hr
  obtain ⟨k, hk, rfl⟩ := List.mem_map.mp hr
  have hk := List.mem_range.mp hk
  rw [keepsB_iff hp]
  intro rows hl hrows
  rw [put_arg hn hl (fun r h => q.row r (hrows r h)) hk]
  exact hrows _ (getD_mem rows k [] (by omega))
/-- composition -/
theorem put_put {n p wd : Nat} {T : List Nat} {R : List (List Nat)} {rows : List (List Nat)} (hn : 0 < n) (hl : rows.length = p) (hr : ∀ r ∈ rows, ∀ x ∈ r, x < n) : put (put T n R (n ^ p)) n rows wd = put T n (R.map fun r => put r n rows wd) wd := by
  unfold put
  apply List.map_congr_left
  intro j hj
  have hs := col_spot_lt hn hr j
  rw [hl] at hs
  rw [map_range_at _ hs, List.map_map]
  congr 2
  apply List.map_congr_left
  intro r _
  show _ = ((List.range wd).map _).getD j 0
  rw [map_range_at _ (List.mem_range.mp hj)]
theorem put_keep {n p : Nat} {rel : Rel} {T : List Nat} {R : List (List Nat)} (hn : 0 < n) (hp : 1 ≤ p) (q : RelOk n rel) (hT : keepsB T n p rel = true) (hl : R.length = p) (hR : ∀ r ∈ R, keepsB r n p rel = true) : keepsB (put T n R (n ^ p)) n p rel = true := by
  rw [keepsB_iff hp]
  intro rows hrl hrows
  rw [put_put hn hrl (fun r h => (q.row r (hrows r h)).2)]
  refine (keepsB_iff hp).mp hT _ (by simpa using hl) fun z hz => ?_
  obtain ⟨r, hr, rfl⟩ := List.mem_map.mp hz
  exact (keepsB_iff hp).mp (hR r hr) rows hrl hrows
end WD
set_option Elab.async false
set_option linter.all false
set_option maxRecDepth 100000
set_option maxHeartbeats 1000000
namespace WD
theorem ltR_app (x y : Nat) (a b : List Nat) (h : x < y) : ∀ l : List Nat, ltR (l ++ x :: a) (l ++ y :: b) = true
  | [] => by
    show ltR (x :: a) (y :: b) = true
    unfold ltR
    rw [if_neg (by omega)]; exact decide_eq_true h
  | z :: l => by
    show ltR (z :: (l ++ x :: a)) (z :: (l ++ y :: b)) = true
    unfold ltR
    rw [if_pos rfl]; exact ltR_app x y a b h l
theorem things_up {n : Nat} (hn : 0 < n) : ∀ (p s s' : Nat) (a b : List Nat), s < s' → s' < n ^ p → ltR (thingsAt n p s ++ a) (thingsAt n p s' ++ b) = true
  | 0, s, s', a, b, h, h' => by simp at h'; omega
  | p + 1, s, s', a, b, h, h' => by
    show ltR (thingsAt n p (s / n) ++ [s % n] ++ a) (thingsAt n p (s' / n) ++ [s' % n] ++ b) = true
    have hle : s / n ≤ s' / n := Nat.div_le_div_right (by omega)
    rw [List.append_assoc, List.append_assoc]
    rcases Nat.lt_or_ge (s / n) (s' / n) with hlt | hge
    · exact things_up hn p _ _ _ _ hlt (by rw [Nat.div_lt_iff_lt_mul hn, ← Nat.pow_succ]; exact h')
    · have he : s / n = s' / n := by omega
      rw [he]
      refine ltR_app _ _ _ _ ?_ _
      have e1 := Nat.div_add_mod s n
      have e2 := Nat.div_add_mod s' n
      rw [he] at e1
      omega
theorem mem_graph' {n p : Nat} {b r : List Nat} : r ∈ graphRows n p b ↔ ∃ s, s < b.length ∧ r = thingsAt n p s ++ [b.getD s 0] := by
  unfold graphRows
  rw [List.mem_map]
  constructor
  · rintro ⟨s, hs, rfl⟩; exact ⟨s, List.mem_range.mp hs, rfl⟩
  · rintro ⟨s, hs, rfl⟩; exact ⟨s, List.mem_range.mpr hs, rfl⟩
theorem graph_rel' {n p : Nat} {t : List Nat} (hd : DeedOk n p t) : RelOk n (p + 1, graphRows n p t) := by
  refine ⟨by have := hd.p3; show p + 1 ≤ 12; omega, ?_, ?_, ?_⟩
  · have := hd.small
    have := hd.len
    show (graphRows n p t).length ≤ 1000
    simp only [graphRows, List.length_map, List.length_range]; omega
  · intro r hr
    obtain ⟨s, hs, rfl⟩ := mem_graph'.mp hr
    refine ⟨by simp [thingsAt_len], fun x hx => ?_⟩
    rcases List.mem_append.mp hx with hx | hx
    · exact thingsAt_lt hd.n0 p s x hx
    · have : x = t.getD s 0 := by simpa using hx
      rw [this]; exact getD_lt hd.lt hd.n0 s
  · intro i hi
    have hi : i + 1 < (graphRows n p t).length := hi
    have hl : (graphRows n p t).length = n ^ p := by simp [graphRows, hd.len]
    have e : ∀ j, j < n ^ p → (graphRows n p t).getD j [] = thingsAt n p j ++ [t.getD j 0] := fun j hj => by
      unfold graphRows
      rw [hd.len, getD_map (fun s => thingsAt n p s ++ [t.getD s 0]) (List.range (n ^ p)) j 0 [] (by simpa using hj)]
      rw [List.getD_eq_getElem?_getD, List.getElem?_range hj]; rfl
    show ltR ((graphRows n p t).getD i []) ((graphRows n p t).getD (i + 1) []) = true
    rw [e i (by omega), e (i + 1) (by omega)]
    exact things_up hd.n0 p i (i + 1) _ _ (by omega) (by omega)
theorem mem_graph {n p : Nat} {b x : List Nat} {y : Nat} (hn : 0 < n) (hb : b.length = n ^ p) (hl : x.length = p) (hx : ∀ e ∈ x, e < n) : x ++ [y] ∈ graphRows n p b ↔ y = b.getD (spot n x) 0 := by
  rw [mem_graph']
  constructor
  · rintro ⟨s, hs, e⟩
    obtain ⟨e1, e2⟩ := List.append_inj e (by rw [hl, thingsAt_len])
    have e2 : y = b.getD s 0 := by simpa using e2
    rw [e2, e1, spot_thingsAt hn p s (by omega)]
  · intro e
    have h1 := spot_lt hn x hx
    have h2 := thingsAt_spot hn x hx
    rw [hl] at h1 h2
    exact ⟨spot n x, by omega, by rw [h2, e]⟩
theorem keepsB_iff2 {u : List Nat} {n p : Nat} {rel : Rel} (h0 : 0 < rel.2.length) : keepsB u n p rel = true ↔ ∀ rows : List (List Nat), rows.length = p → (∀ r ∈ rows, r ∈ rel.2) → put u n rows rel.1 ∈ rel.2 := by
  unfold keepsB
  rw [List.all_eq_true]
  constructor
  · intro h rows hl hr
    obtain ⟨num, hn, e⟩ := pick_hit hr h0
    rw [hl] at hn e
    have := h num (List.mem_range.mpr hn)
    unfold keepsAt at this
    rw [e] at this
    simpa using this
  · intro h num hn
    have := h (pick rel.2 p num) (pick_len _ _ _) (pick_mem h0)
    unfold keepsAt
    simpa using this
def colsOf (p : Nat) (X : List (List Nat)) : List (List Nat) := (List.range p).map fun k => X.map fun r => r.getD k 0
def ext (n : Nat) (b : List Nat) (x : List Nat) : List Nat := x ++ [b.getD (spot n x) 0]
theorem getD_snoc_lt (x : List Nat) (y k : Nat) (h : k < x.length) : (x ++ [y]).getD k 0 = x.getD k 0 := by
  rw [List.getD_eq_getElem?_getD, List.getD_eq_getElem?_getD, List.getElem?_append_left h]
theorem getD_snoc_eq (x : List Nat) (y k : Nat) (h : x.length = k) : (x ++ [y]).getD k 0 = y := by
  subst h
  rw [List.getD_eq_getElem?_getD, List.getElem?_append_right (Nat.le_refl _)]
  simp
theorem put_ext {n p : Nat} (a b : List Nat) {X : List (List Nat)} (hX : ∀ x ∈ X, x.length = p) : put a n (X.map (ext n b)) (p + 1) = ((colsOf p X).map fun c => a.getD (spot n c) 0) ++ [through n a b X] := by
  unfold put
  rw [List.range_succ, List.map_append, List.map_singleton]
  congr 1
  · unfold colsOf
    rw [List.map_map]
    apply List.map_congr_left
    intro k hk
    have hk := List.mem_range.mp hk
    show a.getD (spot n _) 0 = a.getD (spot n _) 0
    congr 2
    rw [List.map_map]
    apply List.map_congr_left
    intro x hx
    exact getD_snoc_lt x _ k (by rw [hX x hx]; exact hk)
  · unfold through
    congr 3
    rw [List.map_map]
    apply List.map_congr_left
    intro x hx
    exact getD_snoc_eq x _ p (hX x hx)
theorem flat_sq {p : Nat} : ∀ (X : List (List Nat)), (∀ x ∈ X, x.length = p) → X.flatten.length = X.length * p ∧ (List.range X.length).map (fun k => (X.flatten.drop (k * p)).take p) = X
  | [], _ => by simp
  | x :: X, h => by
    have ih := flat_sq X fun y hy => h y (List.mem_cons_of_mem _ hy)
    have hx := h x (by simp)
    refine ⟨by rw [List.flatten_cons, List.length_append, ih.1, hx, List.length_cons, Nat.succ_mul]; omega, ?_⟩
    rw [List.length_cons, List.range_succ_eq_map, List.map_cons, List.map_map, List.flatten_cons]
    congr 1
    · rw [Nat.zero_mul, List.drop_zero, ← hx, List.take_left']; rfl
    · conv => rhs; rw [← ih.2]
      apply List.map_congr_left
      intro k _
      show ((x ++ X.flatten).drop ((k + 1) * p)).take p = _
      rw [Nat.succ_mul, Nat.add_comm, ← List.drop_drop]
      congr 2
      rw [← hx, List.drop_left']; rfl
theorem graph_comm' {n p : Nat} {a b : List Nat} (ha : DeedOk n p a) (hb : DeedOk n p b) : keepsB a n p (p + 1, graphRows n p b) = commB n p a b := by
  have hn := ha.n0
  have hl0 : 0 < (graphRows n p b).length := by
    simp only [graphRows, List.length_map, List.length_range, hb.len]
    exact Nat.pow_pos hn
  have key : ∀ X : List (List Nat), X.length = p → (∀ x ∈ X, x.length = p ∧ ∀ e ∈ x, e < n) → (put a n (X.map (ext n b)) (p + 1) ∈ graphRows n p b ↔ through n a b X = through n b a (colsOf p X)) := by
    intro X hXl hX
    rw [put_ext a b fun x hx => (hX x hx).1]
    refine mem_graph hn hb.len (by simp [colsOf]) fun e he => ?_
    obtain ⟨c, _, rfl⟩ := List.mem_map.mp he
    exact getD_lt ha.lt hn _
  rw [Bool.eq_iff_iff, keepsB_iff2 hl0]
  unfold commB
  rw [List.all_eq_true]
  constructor
  · intro h th hth
    obtain ⟨h1, h2⟩ := allT_mem.mp hth
    have so := sq_ok h1 h2
    refine decide_eq_true ((key _ so.1 so.2).mp (h _ (by simpa using so.1) fun r hr => ?_))
    obtain ⟨x, hx, rfl⟩ := List.mem_map.mp hr
    exact (mem_graph hn hb.len (so.2 x hx).1 (so.2 x hx).2).mpr rfl
  · intro h rows hrl hrows
    have hX : ∀ x ∈ rows.map (List.take p), x.length = p ∧ ∀ e ∈ x, e < n := by
      intro x hx
      obtain ⟨r, hr, rfl⟩ := List.mem_map.mp hx
      obtain ⟨s, hs, rfl⟩ := mem_graph'.mp (hrows r hr)
      rw [List.take_left' (thingsAt_len n p s)]
      exact ⟨thingsAt_len n p s, thingsAt_lt hn p s⟩
    have hext : rows = (rows.map (List.take p)).map (ext n b) := by
      rw [List.map_map]
      conv => lhs; rw [← List.map_id rows]
      apply List.map_congr_left
      intro r hr
      obtain ⟨s, hs, rfl⟩ := mem_graph'.mp (hrows r hr)
      show _ = ext n b (List.take p _)
      rw [List.take_left' (thingsAt_len n p s)]
      unfold ext
      rw [spot_thingsAt hn p s (by rw [← hb.len]; exact hs)]
      rfl
    have hXl : (rows.map (List.take p)).length = p := by simpa using hrl
    have fs := flat_sq (p := p) (rows.map (List.take p)) fun x hx => (hX x hx).1
    rw [hXl] at fs
    have hth : (rows.map (List.take p)).flatten ∈ allT n (p * p) := allT_mem.mpr ⟨fs.1, fun e he => by
      obtain ⟨x, hx, hex⟩ := List.mem_flatten.mp he
      exact (hX x hx).2 e hex⟩
    have := of_decide_eq_true (h _ hth)
    have e : sqRows p (rows.map (List.take p)).flatten = rows.map (List.take p) := fs.2
    have e2 : sqCols p (rows.map (List.take p)).flatten = colsOf p (rows.map (List.take p)) := by
      unfold sqCols colsOf
      rw [e]
    rw [e, e2] at this
    have := (key _ hXl hX).mpr this
    rw [← hext] at this
    exact this
end WD
set_option Elab.async false
set_option linter.all false
set_option maxRecDepth 100000
set_option maxHeartbeats 1000000
/-! the mathematics of the law -/
namespace WD
def SzL : List (Nat × Nat) := [(2, 1), (2, 2), (2, 2), (2, 3), (3, 1), (4, 1), (3, 1), (3, 2)]
/-- relations as the law draws them -/
def RelsG (n p : Nat) (rels : List Rel) : Prop := rels.length ≤ 10 ∧ ∀ r ∈ rels, RelQ n 5 r
theorem sz_of {n p : Nat} (h : (n, p) ∈ SzL) : (n = 2 ∧ p = 1) ∨ (n = 2 ∧ p = 2) ∨ (n = 2 ∧ p = 3) ∨ (n = 3 ∧ p = 1) ∨ (n = 4 ∧ p = 1) ∨ (n = 3 ∧ p = 2) := by
  simp only [SzL, List.mem_cons, Prod.mk.injEq, List.not_mem_nil, or_false] at h
  omega
theorem sz_size {n p : Nat} (h : (n, p) ∈ SzL) : SizeOk n p ∧ n ^ p ≤ 81 ∧ n ≤ 4 := by
  rcases sz_of h with ⟨rfl, rfl⟩ | ⟨rfl, rfl⟩ | ⟨rfl, rfl⟩ | ⟨rfl, rfl⟩ | ⟨rfl, rfl⟩ | ⟨rfl, rfl⟩ <;> exact ⟨⟨by decide, by decide, by decide, by decide, by decide, by decide⟩, by decide, by decide⟩
theorem rels_ok {n p : Nat} {rels : List Rel} (h : (n, p) ∈ SzL) (g : RelsG n p rels) : RelsOk n p rels := ⟨by have := g.1; omega, fun r hr => by
  have q := g.2 r hr
  refine ⟨q.ok, q.w1, ?_⟩
  have hp : p ≤ 3 := (sz_size h).1.p3
  have h1 : r.2.length ^ p ≤ r.2.length ^ 3 := Nat.pow_le_pow_right q.pos hp
  have h2 : r.2.length ^ 3 ≤ 5 ^ 3 := Nat.pow_le_pow_left q.few 3
  omega⟩
theorem kept_eq {n p : Nat} {rels : List Rel} (h : (n, p) ∈ SzL) (g : RelsG n p rels) : kept n p rels = (allT n (n ^ p)).filter fun t => rels.all (keepsB t n p) := by
  exact kept_eq' (sz_size h).1.n0 (sz_size h).1.p1 fun r hr => ⟨(g.2 r hr).ok, (g.2 r hr).w1⟩
theorem kept_mem {n p : Nat} {rels : List Rel} (h : (n, p) ∈ SzL) (g : RelsG n p rels) {t : List Nat} : t ∈ kept n p rels ↔ (t.length = n ^ p ∧ ∀ x ∈ t, x < n) ∧ rels.all (keepsB t n p) = true := by
  rw [kept_eq h g, List.mem_filter, allT_mem]
theorem tri_len : ((allT 3 (3 ^ 2)).filter fun t => decide (t.getD 0 0 = 0) && decide (t.getD 4 0 = 1) && decide (t.getD 8 0 = 2)).length ≤ 2000 := by
  decide +kernel
theorem kept_len {n p : Nat} {rels : List Rel} (h : (n, p) ∈ SzL) (g : RelsG n p rels) (hs : n = 3 → p = 2 → ∀ x, x < 3 → ((1, [[x]]) : Rel) ∈ rels) : (kept n p rels).length ≤ 2000 := by
  rw [kept_eq h g]
  rcases sz_of h with ⟨rfl, rfl⟩ | ⟨rfl, rfl⟩ | ⟨rfl, rfl⟩ | ⟨rfl, rfl⟩ | ⟨rfl, rfl⟩ | ⟨rfl, rfl⟩
  · exact Nat.le_trans (List.length_filter_le _ _) (by rw [allT_len]; decide)
  · exact Nat.le_trans (List.length_filter_le _ _) (by rw [allT_len]; decide)
  · exact Nat.le_trans (List.length_filter_le _ _) (by rw [allT_len]; decide)
  · exact Nat.le_trans (List.length_filter_le _ _) (by rw [allT_len]; decide)
  · exact Nat.le_trans (List.length_filter_le _ _) (by rw [allT_len]; decide)
  · have hs := hs rfl rfl
    have hx : ∀ t : List Nat, rels.all (keepsB t 3 2) = true → ∀ x, x < 3 → t.getD (x * 3 + x) 0 = x := by
      intro t ht x hx
      have := (keepsB_iff (by decide)).mp (List.all_eq_true.mp ht _ (hs x hx)) [[x], [x]] rfl (by simp)
      simpa [put, spot] using this
    have e : ((allT 3 (3 ^ 2)).filter fun t => rels.all (keepsB t 3 2)).length ≤ ((allT 3 (3 ^ 2)).filter fun t => decide (t.getD 0 0 = 0) && decide (t.getD 4 0 = 1) && decide (t.getD 8 0 = 2)).length := by
      have : ((allT 3 (3 ^ 2)).filter fun t => rels.all (keepsB t 3 2)) = (((allT 3 (3 ^ 2)).filter fun t => decide (t.getD 0 0 = 0) && decide (t.getD 4 0 = 1) && decide (t.getD 8 0 = 2)).filter fun t => rels.all (keepsB t 3 2)) := by
        rw [List.filter_filter]
        apply List.filter_congr
        intro t _
        cases ht : rels.all (keepsB t 3 2) with
        | false => rfl
        | true =>
          have h0 := hx t ht 0 (by decide)
          have h1 := hx t ht 1 (by decide)
          have h2 := hx t ht 2 (by decide)
          simp only [Nat.zero_mul, Nat.one_mul, Nat.zero_add, Nat.reduceAdd, Nat.reduceMul] at h0 h1 h2
          rw [h0, h1, h2]; rfl
      rw [this]
      exact List.length_filter_le _ _
    exact Nat.le_trans e tri_len
theorem args_kept {n p : Nat} {rels : List Rel} (h : (n, p) ∈ SzL) (g : RelsG n p rels) : ∀ r ∈ argRows n p, r ∈ kept n p rels := by
  intro r hr
  have so := (sz_size h).1
  exact (kept_mem h g).mpr ⟨(argRows_ok so.n0).2 r hr, List.all_eq_true.mpr fun rel hrel => args_keep so.n0 so.p1 (g.2 rel hrel).ok r hr⟩
theorem run_keep {n p : Nat} {rel : Rel} {ds : List Dd} {ss : List Stp} (q : RelOk n rel) (hk : ∀ d ∈ ds, keepsB d.2.2 n p rel = true) (tk : TabOk n p ds ss) : ∀ i, i ≤ ss.length → ∀ r ∈ runS ds n (argRows n p) (n ^ p) (ss.take i), keepsB r n p rel = true
  | 0, _ => by simp [runS]
  | i + 1, hi => by
    have ih := run_keep q hk tk i (by omega)
    rw [take_snoc ss (.gv 0) i (by omega), runS_snoc]
    intro r hr
    rcases List.mem_append.mp hr with hr | hr
    · exact ih r hr
    · have hr : r = outS ds n (argRows n p) (n ^ p) (runS ds n (argRows n p) (n ^ p) (ss.take i)) (ss.getD i (.gv 0)) := by simpa using hr
      have hs := tk.st i (by omega)
      subst hr
      cases e : ss.getD i (.gv 0) with
      | gv k =>
        rw [e] at hs
        exact args_keep tk.n0 tk.p1 q _ (getD_mem (argRows n p) k [] (by rw [(argRows_ok tk.n0).1]; exact hs))
      | cl z as =>
        rw [e] at hs
        obtain ⟨⟨d, hf, _⟩, _, hal, hlt⟩ := hs
        obtain ⟨t1, t2⟩ := tblOf_ok tk.run hf
        show keepsB (put (tblOf ds z) n _ (n ^ p)) n p rel = true
        rw [t1]
        refine put_keep tk.n0 tk.p1 q (hk d (List.mem_of_find?_eq_some hf)) (by simpa using hal) fun r hr => ?_
        obtain ⟨a, ha, rfl⟩ := List.mem_map.mp hr
        refine ih _ (getD_mem _ a [] ?_)
        rw [runS_len, List.length_take]
        have := hlt a ha
        omega
theorem made_ok {n p : Nat} {rels : List Rel} (h : (n, p) ∈ SzL) (g : RelsG n p rels) (hl : (kept n p rels).length ≤ 2000) : MadeOk n p (kept n p rels) := by
  have so := (sz_size h).1
  have hdd : ∀ t ∈ kept n p rels, DeedOk n p t := fun t ht => by
    have := ((kept_mem h g).mp ht).1
    exact ⟨so.n0, so.n9, so.p3, this.1, this.2⟩
  refine ⟨so.n9, so.n0, so.p1, so.p3, (sz_size h).2.1, ?_, by omega, hdd, fun ds ss tk hds => ?_⟩
  · have h1 := getD_mem (argRows n p) 0 [] (by rw [(argRows_ok so.n0).1]; exact so.p1)
    exact List.length_pos_of_mem (args_kept h g _ h1)
  · have hl0 : 0 < ss.length := List.length_pos_iff.mpr tk.ne
    have hm : tabS n p ds ss ∈ runS ds n (argRows n p) (n ^ p) ss := getD_mem _ _ [] (by rw [runS_len]; omega)
    have hm : tabS n p ds ss ∈ runS ds n (argRows n p) (n ^ p) (ss.take ss.length) := by rw [List.take_length]; exact hm
    have ho := runS_ok tk.run tk.st ss.length (Nat.le_refl _) _ hm
    exact (kept_mem h g).mpr ⟨ho, List.all_eq_true.mpr fun rel hrel => run_keep (g.2 rel hrel).ok (fun d hd => List.all_eq_true.mp ((kept_mem h g).mp (hds d hd)).2 rel hrel) tk ss.length (Nat.le_refl _) _ hm⟩
theorem kept_more {n p : Nat} {rels : List Rel} {more : Rel} (h : (n, p) ∈ SzL) (g : RelsG n p rels) (g2 : RelsG n p (more :: rels.reverse ++ rels.take 1)) : kept n p (more :: rels.reverse ++ rels.take 1) = (kept n p rels).filter fun t => keepsB t n p more := by
  rw [kept_eq h g2, kept_eq h g, List.filter_filter]
  apply List.filter_congr
  intro t _
  cases hm : keepsB t n p more with
  | false => simp [hm]
  | true =>
    simp only [List.cons_append, List.all_cons, hm, Bool.true_and, List.all_append, List.all_reverse]
    cases ha : rels.all (keepsB t n p) with
    | false => rfl
    | true =>
      have : (rels.take 1).all (keepsB t n p) = true := List.all_eq_true.mpr fun r hr => List.all_eq_true.mp ha r (List.mem_of_mem_take hr)
      rw [this]; rfl
theorem graph_rel {n p : Nat} {t : List Nat} (hd : DeedOk n p t) (hp : p ≤ 3) : RelOk n (p + 1, graphRows n p t) := by
  exact graph_rel' hd
theorem graph_comm {n p : Nat} {a b : List Nat} (ha : DeedOk n p a) (hb : DeedOk n p b) : keepsB a n p (p + 1, graphRows n p b) = commB n p a b := by
  exact graph_comm' ha hb
end WD
set_option Elab.async false
set_option linter.all false
set_option maxRecDepth 100000
set_option maxHeartbeats 4000000
namespace WD
open PySem PySem.Spec PyProof.Rows L2
section
variable {X : Cx} {e a b c elt iter tg : Expr} {es : List Expr} {ρ ρ' : Rho} {T U : Ty} {pos p' p2 py spos : Pos} {A A' A1 B : Asd} {p W : Addr} {Ys : List Ty} {st : Stmt} {sts rest : List Stmt} {o : OutF} {N : Nat → Prop} {Y : Nat → Ty}
/-! ### tests with effects -/
theorem tf_val {P : Bool → Prop} (h : EF X e ρ A A' (exT P fun q => dD (.bool q))) (he : ∀ whole, isTrue e X.env whole = (do let v ← whole; standAt e.pos; holding [v] (truthy v)) := by intro _; rfl) : TF X e ρ A A' P := fun σ G H sl sp =>
  tw_of (pt_val pe_ew he) (ew_mono (h σ G H sl sp) fun v H' ⟨G', s, sp', q, hq, r⟩ => ⟨q, Rp.bl_inv r, G', s, sp', hq⟩)
theorem tf_valB {q : Bool} (h : EF X e ρ A A' (dD (.bool q))) (he : ∀ whole, isTrue e X.env whole = (do let v ← whole; standAt e.pos; holding [v] (truthy v)) := by intro _; rfl) : TF X e ρ A A' fun r => r = q := fun σ G H sl sp =>
  tw_of (pt_val pe_ew he) (ew_mono (h σ G H sl sp) fun v H' ⟨G', s, sp', r⟩ => ⟨q, Rp.bl_inv r, G', s, sp', rfl⟩)
theorem tf_not {q : Bool} (h : TF X a ρ A A' fun r => r = q) : TF X (.UnaryOp .Not a pos) ρ A A' fun r => r = !q := fun σ G H sl sp => tw_of (pt_not pt_tw) (tw_mono (h σ G H sl sp) fun v H' ⟨G', s, sp', e⟩ => ⟨G', s, sp', by rw [e]⟩)
def WF (X : Cx) (e : Expr) (ρ : Rho) (A A' : Asd) (P : Bool → Prop) : Prop := ∃ t, PW X e t ∧ ∀ σ G H (Q : Bool → Hp → Prop), Sl G σ ρ → Sep G A H → (∀ b G' H', Same G G' → Sep G' A' H' → P b → Q b H') → t σ H Q
theorem tf_w {P : Bool → Prop} (h : WF X e ρ A A' P) : TF X e ρ A A' P := fun σ G H sl sp => let ⟨t, h1, h2⟩ := h; tw_of h1.pt (h2 σ G H _ sl sp fun b G' H' s sp' q => ⟨G', s, sp', q⟩)
theorem wf_and1 {P : Bool → Prop} (h : TF X a ρ A A' P) : WF X (.BoolOp .And [a] pos) ρ A A' P := ⟨_, pw_and1 pt_tw, fun σ G H Q sl sp k => tw_mono (h σ G H sl sp) fun b H' ⟨G', s, sp', q⟩ => k b G' H' s sp' q⟩
theorem wf_andT {P : Bool → Prop} {es : List Expr} (h : EvT X a ρ true) (h2 : WF X (.BoolOp .And (b :: es) pos) ρ A A' P) : WF X (.BoolOp .And (a :: b :: es) pos) ρ A A' P := by
  obtain ⟨t, h3, h4⟩ := h2
  exact ⟨_, pw_and pt_tw h3, fun σ G H Q sl sp k => tw_mono (tf_pure h σ G H sl sp) fun q H' ⟨G', s, sp', e⟩ => by
    subst e
    exact ite_t (h4 σ G' H' Q (sl.same s) sp' fun b G2 H2 s2 sp2 q => k b G2 H2 (s.trans s2) sp2 q)⟩
theorem wf_andF {es : List Expr} (h : EvT X a ρ false) : WF X (.BoolOp .And (a :: b :: es) pos) ρ A A fun r => r = false :=
  ⟨_, pw_and (tB' := fun _ _ _ => False) pt_tw ⟨fun _ _ _ _ _ _ _ h => h.elim⟩, fun σ G H Q sl sp k => tw_mono (tf_pure h σ G H sl sp) fun q H' ⟨G', s, sp', e⟩ => by
    subst e
    exact ite_f (k false G' H' s sp' rfl)⟩
theorem tf_wk {P : Bool → Prop} (h : TF X e ρ A A' P) (w : Wk A' B) : TF X e ρ A B P := fun σ G H sl sp => tw_mono (h σ G H sl sp) fun v H' ⟨G', s, s2, r⟩ => ⟨G', s, s2.wk w, r⟩
theorem tf_imp {P Q : Bool → Prop} (h : TF X e ρ A A' P) (k : ∀ b, P b → Q b) : TF X e ρ A A' Q := fun σ G H sl sp => tw_mono (h σ G H sl sp) fun v H' ⟨G', s, s2, r⟩ => ⟨G', s, s2, k _ r⟩
/-- a, b = one of many -/
theorem bf_asgEx {α : Type} {P : α → Prop} {F : α → Ty} {g : TG} {js : List Nat} (ρ' : α → Rho) (h : EF X e ρ A A' (exT P F)) (hg : PG X tg g) (ht : ∀ x, P x → TgGo g ρ (F x) (ρ' x) js) (k : ∀ x, P x → BF X rest (ρ' x) A' o) (hs : swapsWithSole [tg] e pos.line X.env = pure false := by rfl) (hw : swappedStores [tg] e X.env = pure none := by rfl)
    (h1 : (assignEach [tg] X.env).map (·.2) = [assign tg X.env] := by rfl) : BF X (.Assign [tg] e pos :: rest) ρ A o := fun σ G H D sl sp gg =>
  sw_cons (s1_of (ps_asg pe_ew hg hs hw h1) (ew_mono (h σ G H sl sp) fun v H' ⟨G', s, sp', x, hx, r⟩ => ht x hx v σ G' H' _ sp'.same (sl.same s) r fun σ' sl' _ => k x hx σ' G' H' D sl' sp' (gg.same s)))
/-- x = [.. for .. if ..] on one line, plain -/
theorem bf_setLcIf (i : Nat) {x : Str} {own : List (Str × Nat)} {scope : Scope} {g : TG} {n : Nat} {f : Nat → PyData} {kk : Nat → Bool} {ρt : Nat → Rho} {js : List Nat} (hN : X.N.Nodup) (hs : Src X tg iter ρ n Y) (ok : BlkOk X.N X.env.scope scope own) (hg : PgB X scope tg g)
    (hj : ∀ j ∈ js, j ∈ own.map (·.2)) (hn : n ≤ 100000) (ht : ∀ i, i < n → TgGo g (wipeR ρ (own.map (·.2))) (Y i) (ρt i) js) (hk : ∀ i, i < n → EtB X scope c (ρt i) (kk i)) (he : ∀ i, i < n → kk i = true → EvB X scope elt (ρt i) (dD (f i)))
    (k : BF X rest (ρ.set i (some (dD (.list (((List.range n).filter kk).map f))))) A o) (hi : X.N[i]? = some x := by rfl) (hyl : X.env.scope.names.lookup x = some .local := by rfl) (hkind : X.env.scope.kind = .function := by rfl) (hl : (py.line == pos.line) = true := by rfl)
    (hfree : (scope.names.any fun (n, k) => n == x && (k == .local || k == .cell)) = false := by decide +kernel)
    (hc : X.calm = true := by rfl) (hf : ∀ x, foldedSetIterable iter X.env x = pure x := by intro _; rfl) : BF X (.Assign [.Name x py] (.ListComp elt [⟨tg, iter, [c], 0⟩] scope pos) spos :: rest) ρ A o := fun σ G H D sl sp gg =>
  sw_cons (s1_of (ps_setLc hc hN hi hyl (sw_true hkind hyl hl hfree) pi_iw ok hg (tt := LT X scope c) (fun s0 H0 C cl fp => pts_one ⟨fun pins s σ H Q I h => h s0 H0 C cl fp pins s I⟩) (te := LW X scope elt) (fun s0 H0 C cl fp => ⟨fun pins s σ H Q I h => h s0 H0 C cl fp pins s I⟩) hf) (by
    refine sf_pure hs (A := A) σ G H sl sp _ fun J m H1 G1 hm s1 sp1 yl => fun L hL => ?_
    subst hm
    refine ⟨fun i q Hc => i ≤ m ∧ q = m - i ∧ ∃ G', Same G1 G' ∧ Sep G' ((L, lstC ((((List.range i).filter kk).map f).map dD)) :: A) Hc, ⟨m, Nat.zero_le _, rfl, G1, Same.refl _, .cons sp1 hL ⟨[], rfl, Nat.zero_le _, .nil⟩⟩, ?_⟩
    rintro i q Hc ⟨hi, rfl, G', sG, sp'⟩
    have hlen : (((List.range i).filter kk).map f).length ≤ i := by
      rw [List.length_map]
      have := List.length_filter_le kk (List.range i)
      simpa using this
    by_cases hlt : i < m
    · obtain ⟨go, yi⟩ := yl.go i _ (sG.trans sp'.same) hlt
      refine .inr ⟨go, fun H' => i + 1 ≤ m ∧ ∃ G', Same G1 G' ∧ Sep G' ((L, lstC ((((List.range (i + 1)).filter kk).map f).map dD)) :: A) H', fun H' ⟨h1, h2⟩ => ⟨m - (i + 1), by omega, h1, rfl, h2⟩, fun x H' y => ?_⟩
      obtain ⟨sy, Gx, a1, a2, a3, rx⟩ := yi x H' y
      obtain ⟨G2, sp2, s2, k2⟩ := sp'.split sy
      have sx : Same Gx G2 := k2 Gx (fun q hq => a3 q.1 (sp'.off q hq).1 (sG.free (sp'.off q hq).2)) a2
      have sl1 : Sl G2 (wipe σ (own.map (·.2))) (wipeR ρ (own.map (·.2))) := (sl.same ((s1.trans sG).trans s2)).wipe _
      refine ht i (by omega) x _ G2 _ _ sp2.same sl1 ((Y i).mono _ _ _ sx rx) fun σ2 sl3 w => ?_
      refine ⟨(w _ hj).trans wipe_wipe, ?_⟩
      intro s0 H0 C cl fp
      refine tw_mono (tf_pure (hk i hlt s0 H0 C cl fp) σ2 G2 H' sl3 sp2) fun r H2 ⟨G3, s3, sp3, e3⟩ => ?_
      subst e3
      refine ite_b _ (fun e => ?_) (fun e => ?_)
      · intro s0 H0 C cl fp
        refine ew_mono (ef_pure (he i hlt e s0 H0 C cl fp) σ2 G3 H2 (sl3.same s3) sp3) fun v H3 ⟨G4, s4, sp4, r4⟩ => ?_
        obtain ⟨H5, oo, rfl, h5, hp, xs, rfl, hz, hx⟩ := sp4.inv
        have hlx : xs.length = (((List.range i).filter kk).map f).length := by simpa using Paired.length hx
        have hz2 : xs.length + 1 ≤ sizeLine := small_line (by omega)
        refine ⟨xs, upd_same, by omega, hlt, G4, ((sG.trans s2).trans s3).trans s4, ?_⟩
        have e0 : ((List.range (i + 1)).filter kk).map f = ((List.range i).filter kk).map f ++ [f i] := by rw [List.range_succ, List.filter_append, List.map_append]; simp [e]
        rw [upd_upd, e0, List.map_append]
        exact .cons h5 hp ⟨_, rfl, by simpa using hz2, paired_snoc hx r4⟩
      · have e0 : ((List.range (i + 1)).filter kk).map f = ((List.range i).filter kk).map f := by rw [List.range_succ, List.filter_append, List.map_append]; simp [e]
        rw [← e0] at sp3
        exact ⟨hlt, G3, (sG.trans s2).trans s3, sp3⟩
    · have e : i = m := by omega
      subst e
      refine .inl ⟨yl.stop _ _ (sG.trans sp'.same) (Nat.le_refl _), ?_⟩
      obtain ⟨oo, ⟨xs, rfl, hz, hx⟩, hp, sp2⟩ := sp'.freeze
      refine k _ _ Hc D (((sl.same ((s1.trans sG).trans (same_new hp))).set (T := dD (.list (((List.range i).filter kk).map f))) ?_)) sp2 (gg.same ((s1.trans sG).trans (same_new hp)))
      exact lsT_data ⟨L, xs, rfl, upd_same, hz, pair_same (same_new hp) hx⟩))
/-- xs[::-1] -/
theorem ev_revL {ds : List PyData} {k : Nat} {q1 q2 q3 : Pos} (ha : EvD X a ρ (.list ds)) : EvD X (.Subscript a (.Slice none none (some (.UnaryOp .USub (.Constant (.int 1) k q1) q2)) q3) pos) ρ (.list ds.reverse) := fun σ H sl =>
  ew_of (pe_revL pe_ew) (ew_mono (ha σ H sl) fun x H1 ⟨s1, r1⟩ => by
    obtain ⟨q, xs, rfl, h1, hz, hl, hi⟩ := Rp.lst_inv r1
    refine ⟨q, xs, rfl, SqL.of h1, fun p hp => ⟨s1.trans (same_new hp), .lst upd_same (by rw [List.length_reverse]; exact hz) (by simp [hl]) fun i v d e1 e2 => ?_⟩⟩
    have hlt : i < xs.length := by have := (List.getElem?_eq_some_iff.mp e1).1; simpa using this
    rw [List.getElem?_reverse hlt] at e1
    rw [List.getElem?_reverse (by omega), ← hl] at e2
    exact (hi _ v d e1 e2).same (same_new hp))
/-- list + list, whatever holds them -/
def rCatLA (K : PySem.W.Frag) : R2 := fun x y H Q => ∃ l b xs zs, x = .ref l ∧ y = .ref b ∧ SqL K H l xs ∧ SqL K H b zs ∧ xs.length + zs.length ≤ sizeLine ∧ ∀ p, H p = none → Q (.ref p) (upd H p (.lst (xs ++ zs)))
theorem op_catLA : OpR X (binaryOp .Add) (rCatLA X.K) := by
  intro pins s σ H x y v u Q I rx ry h
  obtain ⟨l, b, xs, zs, rfl, rfl, hH, hB, hz, q⟩ := h
  cases rx
  cases ry
  obtain ⟨its, r, pl, hz1⟩ := I.list hH
  obtain ⟨its2, r2, pl2, hz2⟩ := I.list hB
  have l1 := r.length
  have l2 := r2.length
  obtain ⟨⟨cls, dd, data, sl⟩, ho, hc, n, hd⟩ := id pl.isList
  obtain ⟨⟨cls2, dd2, data2, sl2⟩, ho2, hc2, n2, hd2⟩ := id pl2.isList
  simp only at hc hd hc2 hd2
  subst hc hd hc2 hd2
  have ea : its.toArray ++ its2.toArray = (its ++ its2).toArray := by simp
  refine concat_meets ⟨_, ho, rfl⟩ ⟨_, ho2, rfl⟩ noFill_list_add seq_list_add PySem.F.slot_list_add PySem.F.entry_list_add (PySem.F.args_list_add_2 _ _) (list_addW l b its.toArray its2.toArray n n2 dd dd2 sl sl2 (by rw [List.size_toArray, List.size_toArray]; omega)) ⟨ho, ho2, ?_⟩
  rw [ea]
  exact ⟨.ref _, _, I.lnew (t' := s.toks) (r.append r2) (by rw [List.length_append]; omega), rfl, q _ I.fresh⟩
end
end WD
set_option Elab.async false
set_option linter.all false
set_option maxRecDepth 100000
set_option maxHeartbeats 4000000
namespace WD
open PySem PySem.Spec PyProof.Rows L2
theorem isN_bool {b : Bool} {d : PyData} (h : b = true → d = .none) (h2 : b = false → isNone d = false) : isNone d = b := by
  cases b with
  | true => rw [h rfl]; rfl
  | false => exact h2 rfl
structure GraphOk (n p : Nat) (kept : List (List Nat)) : Prop where
  ne : 0 < kept.length
  few : kept.length ≤ 100000
  dd : ∀ t ∈ kept, DeedOk n p t
  p1 : 1 ≤ p
  sm1 : (n ^ p) ^ p ≤ 100000
  sm2 : n ^ (p * p) ≤ 5000
section
variable {P : Program} {w : World} {K : PySem.W.Frag} {mg : Str → Option Value} {base : Heap} {C : Addr}
theorem sc_graphs : FnScope ["_law_well_here", "_law_size", "_law_places", "_law_kept", "_law_one", "_law_other", "_law_rows"] ["_law_well_here", "_law_size", "_law_places", "_law_kept"] (defScope s_law_graphs_right) := ⟨rfl, rfl, rfl, by decide +kernel, rfl, by decide +kernel, by decide +kernel⟩
def F_graphs : List Ty → Ty → Nat → Prop := fun Ts T k => ∃ (n p : Nat) (kept : List (List Nat)), Ts = [nt n, nt p, dD (dRows kept)] ∧ GraphOk n p kept ∧ T = dD (.bool true) ∧ k = 2
theorem ok_graphs {f fd} (Fu : FnD K "_law_graphs_right" s_law_graphs_right f fd) (hm : mg "_law_graphs_right" = some (.ref f)) (B : Bi mg) (h1 : Kw P w K mg base 1 "_law_draw" F_draw) (h2 : Kn P w K mg base 5 "led_out" F_led_out) (h3 : Kn P w K mg base 2 "graph" F_graph) (h4 : Kn P w K mg base 2 "_law_commute" F_commute) : Kw P w K mg base 6 "_law_graphs_right" F_graphs := by
  refine kw_of Fu (fn_well Fu sc_graphs ?_ ?_) hm (fun _ _ _ _ _ _ us hl => match us, hl with | [_, _, _, _], _ => rfl)
  · rintro _ _ _ ⟨n, p, kept, rfl, _⟩; rfl
  · rintro cdv A outer s H E hr W _ _ _ c ⟨n, p, kept, rfl, go, rfl, rfl⟩ hc
    have hc : c + 2 ≤ 1000000000 := hc
    have hr1 : Room 1 _ := hr.mono (by decide)
    have hr2 : Room 2 _ := hr.mono (by decide)
    show BF _ (defBody s_law_graphs_right) [some (refT W), some (nt n), some (nt p), some (dD (dRows kept)), none, none, none] [(W, wellC c)] (.ret (dD (.bool true)) [(W, wellC (c + 2))])
    refine bf_cons (b1f_set 4 (ef_ixR (ev_var 3) (ef_callW (B := []) (c := c) (k := 1) h1 hr1 (ev_var 0) (af_cons (ef_pure (ev_len (n := kept.length) B.len (ev_var 3) (by simp [dRows, lenD]))) af_nil) (List.Perm.refl _) (fun H vs h => ⟨[nt kept.length], h, kept.length, rfl, go.ne, by have := go.few; omega, rfl, rfl⟩) (by show c + 1 ≤ 1000000000; omega) (.inl rfl))) sc_graphs.nd) ?_
    refine bf_cons (b1f_set 5 (ef_ixR (ev_var 3) (ef_callW (B := []) (c := c + 1) (k := 1) h1 hr1 (ev_var 0) (af_cons (ef_pure (ev_len (n := kept.length) B.len (ev_var 3) (by simp [dRows, lenD]))) af_nil) (List.Perm.refl _) (fun H vs h => ⟨[nt kept.length], h, kept.length, rfl, go.ne, by have := go.few; omega, rfl, rfl⟩) (by show c + 1 + 1 ≤ 1000000000; omega) (.inl rfl))) sc_graphs.nd) ?_
    refine bf_ex 4 fun a ha => bf_ex 5 fun b hb => ?_
    have da := go.dd a ha
    have db := go.dd b hb
    show BF _ _ [some (refT W), some (nt n), some (nt p), some (dD (dRows kept)), some (rowT a), some (rowT b), none] [(W, wellC (c + 2))] _
    have hgr := graph_rel db db.p3
    have hglen : (graphRows n p b).length = n ^ p := by simp [graphRows, db.len]
    have hcm := graph_comm da db
    have hled : ∀ {d}, ((keepsB a n p (p + 1, graphRows n p b) = true ∧ d = PyData.none) ∨ ∃ m, m < (graphRows n p b).length ^ p ∧ keepsAt a n p (p + 1, graphRows n p b) m = false ∧ (∀ i, i < m → keepsAt a n p (p + 1, graphRows n p b) i = true) ∧ d = dRows (pick (graphRows n p b) p m)) →
        BF (cxOf CX0 P w K mg base ["_law_well_here", "_law_size", "_law_places", "_law_kept", "_law_one", "_law_other", "_law_rows"] "_law_graphs_right" (defScope s_law_graphs_right) f cdv A outer s H E).nox ((defBody s_law_graphs_right).drop 2) [some (refT W), some (nt n), some (nt p), some (dD (dRows kept)), some (rowT a), some (rowT b), none] [(W, wellC (c + 2))] (.ret (dD (.bool true)) [(W, wellC (c + 2))]) := by
      intro d hd
      have hd' : (keepsB a n p (p + 1, graphRows n p b) = true ∧ dD d = dD .none) ∨ ∃ m, m < (graphRows n p b).length ^ p ∧ keepsAt a n p (p + 1, graphRows n p b) m = false ∧ (∀ i, i < m → keepsAt a n p (p + 1, graphRows n p b) i = true) ∧ dD d = dD (dRows (pick (graphRows n p b) p m)) := by
        rcases hd with ⟨q1, rfl⟩ | ⟨m, q1, q2, q3, rfl⟩
        · exact .inl ⟨q1, rfl⟩
        · exact .inr ⟨m, q1, q2, q3, rfl⟩
      refine bf_cons (b1f_set 6 (T := dD d) (ef_pure (ev_call h2 (hr.mono (by decide)) (eva_cons (ev_var 1) (eva_cons (T := dD (dDeed "one" p a)) (ev_tup (evl_cons ev_str (evl_cons (ev_var 2) (evl_cons (ev_var 4) evl_nil)))) (eva_cons (T := dD (dRel (p + 1, graphRows n p b))) (ev_call h3 hr2 (eva_cons (ev_var 1) (eva_cons (T := dD (dDeed "other" p b)) (ev_tup (evl_cons ev_str (evl_cons (ev_var 2) (evl_cons (ev_var 5) evl_nil)))) eva_nil)) ⟨_, p, b, n, rfl, db, rfl⟩) eva_nil))) ⟨_, p, a, n, (p + 1, graphRows n p b), rfl, da, go.p1, hgr, by show (graphRows n p b).length ^ p ≤ 100000; rw [hglen]; exact go.sm1, hd'⟩)) sc_graphs.nd) ?_
      · refine bf_one (b1f_ret (ef_pure (EvE.to (ev_eqB (ev_isN (ev_var 6)) (ev_call h4 hr2 (eva_cons (ev_var 1) (eva_cons (ev_var 2) (eva_cons (ev_var 4) (eva_cons (ev_var 5) eva_nil)))) ⟨n, p, a, b, rfl, da, db, go.p1, go.sm2, rfl⟩)) ?_)))
        have : isNone d = commB n p a b := by
          rw [← hcm]
          rcases hd with ⟨q1, rfl⟩ | ⟨m, q1, q2, q3, rfl⟩
          · rw [q1]; rfl
          · have : keepsB a n p (p + 1, graphRows n p b) = false := by
              rw [Bool.eq_false_iff]
              intro z
              have := List.all_eq_true.mp z m (List.mem_range.mpr q1)
              rw [this] at q2; cases q2
            rw [this]; rfl
        rw [this]; simp
    rcases first_or (keepsAt a n p (p + 1, graphRows n p b)) ((graphRows n p b).length ^ p) with hall | ⟨m, q1, q2, q3⟩
    · exact hled (.inl ⟨List.all_eq_true.mpr fun x hx => hall x (List.mem_range.mp hx), rfl⟩)
    · exact hled (.inr ⟨m, q1, q2, q3, rfl⟩)
end
end WD
set_option Elab.async false
set_option linter.all false
set_option maxRecDepth 100000
set_option maxHeartbeats 600000
namespace WD
open PySem PySem.Spec PyProof.Rows L2
def dPair (q : Nat × Nat) : PyData := .tuple [.int (q.1 : Int), .int (q.2 : Int)]
def dsP : List PyData := [.tuple [.int 2, .int 1], .tuple [.int 2, .int 2], .tuple [.int 2, .int 2], .tuple [.int 2, .int 3], .tuple [.int 3, .int 1], .tuple [.int 4, .int 1], .tuple [.int 3, .int 1], .tuple [.int 3, .int 2]]
theorem dsP_eq : dsP = SzL.map dPair := rfl
theorem ev_two {X : Cx} {ρ : Rho} {i j : Int} {q1 q2 q3 : Pos} {k1 k2 k3} : EvD X (.Tuple [.Constant (.int i) k1 q1, .Constant (.int j) k2 q2] k3 q3) ρ (.tuple [.int i, .int j]) := ev_tup (evl_cons ev_int (evl_cons ev_int evl_nil))
theorem star_tup {a : List Expr} {k : Nat} {q : Pos} {es : List Expr} {env : Env} : starEach (.Tuple a k q :: es) env = (false, eval (.Tuple a k q) env) :: starEach es env := rfl
inductive PairsE : List Expr → List PyData → Prop
  | nil : PairsE [] []
  | cons {i j : Int} {q1 q2 q3 : Pos} {k1 k2 k3} {es : List Expr} {ds : List PyData} (h : PairsE es ds) : PairsE (.Tuple [.Constant (.int i) k1 q1, .Constant (.int j) k2 q2] k3 q3 :: es) (.tuple [.int i, .int j] :: ds)
theorem evl_pairs {X : Cx} {ρ : Rho} {es : List Expr} {ds : List PyData} (h : PairsE es ds) : EvL X es ρ ds := by
  induction h with
  | nil => exact evl_nil
  | cons h ih => exact evl_cons ev_two ih star_tup
theorem filter_range {α : Type} (l : List α) (d : α) (k : α → Bool) : ((List.range l.length).filter fun i => k (l.getD i d)).map (fun i => l.getD i d) = l.filter k := by
  have h : (List.range l.length).map (fun i => l.getD i d) = l := by
    have := map_range_getD l d id
    simpa using this
  have h2 := List.filter_map (p := k) (f := fun i => l.getD i d) (l := List.range l.length)
  rw [h] at h2
  exact h2.symm
theorem kept_dd {n p : Nat} {rels : List Rel} (h : (n, p) ∈ SzL) (g : RelsG n p rels) : ∀ t ∈ kept n p rels, DeedOk n p t := fun t ht => by
  obtain ⟨⟨q1, q2⟩, _⟩ := (kept_mem h g).mp ht
  have s := (sz_size h).1
  exact ⟨s.n0, s.n9, s.p3, q1, q2⟩
theorem rels_g {n p : Nat} {rels : List Rel} (h : RelsP n p rels) : RelsG n p rels := ⟨by have := h.few; omega, h.ok⟩
theorem rels_g2 {n p : Nat} {rels : List Rel} {more : Rel} (h : RelsP n p rels) (hm : RelQ n 3 more) : RelsG n p (more :: rels.reverse ++ rels.take 1) := by
  refine ⟨by have := h.few; simp; omega, fun r hr => ?_⟩
  rcases List.mem_append.mp hr with hr | hr
  · rcases List.mem_cons.mp hr with rfl | hr
    · exact ⟨hm.ok, hm.w1, hm.w3, hm.pos, by have := hm.few; omega⟩
    · exact h.ok r (List.mem_reverse.mp hr)
  · exact h.ok r (List.mem_of_mem_take hr)
/-- as it stands (the goal is not to be looked into) -/
structure Bx (X : Cx) (sts : List Stmt) (ρ : Rho) (A : Asd) (o : OutF) : Prop where
  h : BF X sts ρ A o
section
variable {X : Cx} {e tg : Expr} {ρ ρ' : Rho} {A A' : Asd} {o : OutF} {st : Stmt} {sts rest : List Stmt} {pos : Pos} {T U : Ty}
theorem bx_cons (h1 : B1F X st ρ A (.next ρ' A')) (h2 : Bx X rest ρ' A' o) : Bx X (st :: rest) ρ A o := ⟨bf_cons h1 h2.h⟩
theorem bx_one (h1 : B1F X st ρ A o) : Bx X [st] ρ A o := ⟨bf_one h1⟩
theorem bx_ex {α : Type} {P : α → Prop} {F : α → Ty} (i : Nat) (h : ∀ a, P a → Bx X sts (ρ.set i (some (F a))) A o) (hi : ρ[i]? = some (some (exT P F)) := by rfl) : Bx X sts ρ A o := ⟨bf_ex i (fun a ha => (h a ha).h) hi⟩
theorem bx_asgEx {α : Type} {P : α → Prop} {F : α → Ty} {g : TG} {js : List Nat} (ρ' : α → Rho) (h : EF X e ρ A A' (exT P F)) (hg : PG X tg g) (ht : ∀ x, P x → TgGo g ρ (F x) (ρ' x) js) (k : ∀ x, P x → Bx X rest (ρ' x) A' o) (hs : swapsWithSole [tg] e pos.line X.env = pure false := by rfl) (hw : swappedStores [tg] e X.env = pure none := by rfl)
    (h1 : (assignEach [tg] X.env).map (·.2) = [assign tg X.env] := by rfl) : Bx X (.Assign [tg] e pos :: rest) ρ A o := ⟨bf_asgEx ρ' h hg ht (fun x hx => (k x hx).h) hs hw h1⟩
theorem bx_wk {B : Asd} (h : Bx X sts ρ B o) (w : Wk A B) : Bx X sts ρ A o := ⟨bf_wk h.h w⟩
theorem bx_pairs {es : List Expr} {b : Expr} {q1 q2 : Pos} {g : TG} {js : List Nat} (ρ' : Nat × Nat → Rho) (hp : PairsE es dsP) (hb : EF X b ρ A A' (ltT 8)) (hix : PlainIx b) (hg : PG X tg g) (ht : ∀ x, x ∈ SzL → TgGo g ρ (dD (dPair x)) (ρ' x) js) (k : ∀ x, x ∈ SzL → Bx X rest (ρ' x) A' o) (hs : swapsWithSole [tg] (.Subscript (.List es q1) b q2) pos.line X.env = pure false) (hw : swappedStores [tg] (.Subscript (.List es q1) b q2) X.env = pure none)
    (h1 : (assignEach [tg] X.env).map (·.2) = [assign tg X.env]) : Bx X (.Assign [tg] (.Subscript (.List es q1) b q2) pos :: rest) ρ A o :=
  bx_asgEx (P := fun q : Nat × Nat => q ∈ SzL) (F := fun q => dD (dPair q)) ρ' (ef_imp (ef_ixN (ds := dsP) (m := 8) (ev_lst (evl_pairs hp) (by decide)) hb (by decide) hix) fun H v ⟨i, hi, r⟩ => ⟨SzL.getD i (0, 0), getD_mem SzL i (0, 0) hi, by
    have r : Rp H v (dsP.getD i .none) := r
    rw [dsP_eq, getD_map dPair SzL i (0, 0) _ hi] at r; exact r⟩) hg ht k hs hw h1
end
section
variable {P : Program} {w : World} {K : PySem.W.Frag} {mg : Str → Option Value} {base : Heap} {C : Addr}
theorem sc_right : FnScope ["_law_well_here", "_law_size", "_law_places", "_law_relations_here", "_law_kept", "_law_more", "_law_due", "_law_k", "_law_table", "_law_row", "_law_things"] ["_law_well_here"] (defScope s_law_right) := ⟨rfl, rfl, rfl, by decide +kernel, rfl, by decide +kernel, by decide +kernel⟩
def F_right : List Ty → Ty → Nat → Prop := fun Ts T k => Ts = [] ∧ T = dD (.bool true) ∧ k = 500
theorem ok_right {f fd} (Fu : FnD K "_law_right" s_law_right f fd) (hm : mg "_law_right" = some (.ref f)) (B : Bi mg) (h1 : Kw P w K mg base 1 "_law_draw" F_draw) (h2 : Kw P w K mg base 3 "_law_relations" F_relations) (h3 : KnD P w K mg base 5 "keeping" F_keeping [.int 2000]) (h4 : Kn P w K mg base 2 "argument_rows" F_argument_rows)
    (h5 : Kw P w K mg base 7 "_law_made_right" F_made) (h6 : Kw P w K mg base 6 "_law_graphs_right" F_graphs) (h7 : Kw P w K mg base 2 "_law_relation" F_relation) (h8 : Kn P w K mg base 5 "led_out" F_led_out) (h9 : Kn P w K mg base 1 "_law_all" F_lall) (h10 : Kn P w K mg base 6 "_law_is_kept" F_iskept) : Kw P w K mg base 8 "_law_right" F_right := by
  refine kw_of Fu (fn_well Fu sc_right ?_ ?_) hm (fun _ _ _ _ _ _ us hl => match us, hl with | [_], _ => rfl)
  · rintro _ _ _ ⟨rfl, _⟩; rfl
  · rintro cdv A outer s H E hr W _ _ _ c ⟨rfl, rfl, rfl⟩ hc
    have hc : c + 500 ≤ 1000000000 := hc
    have hr1 : Room 1 _ := hr.mono (by decide)
    have hr2 : Room 2 _ := hr.mono (by decide)
    have hr3 : Room 3 _ := hr.mono (by decide)
    have hr5 : Room 5 _ := hr.mono (by decide)
    have hr6 : Room 6 _ := hr.mono (by decide)
    refine (?_ : Bx _ _ _ _ _).h
    show Bx _ (defBody s_law_right) [some (refT W), none, none, none, none, none, none, none, none, none, none] [(W, wellC c)] (.ret (dD (.bool true)) [(W, wellC (c + 500))])
    refine bx_pairs (js := [1, 2]) (A' := [(W, wellC (c + 1))]) (fun q => [some (refT W), some (nt q.1), some (nt q.2), none, none, none, none, none, none, none, none]) (.cons (.cons (.cons (.cons (.cons (.cons (.cons (.cons .nil)))))))) (ef_callW (B := []) (c := c) (k := 1) h1 hr1 (ev_var 0) (af_cons (ef_pure ev_int) af_nil) (List.Perm.refl _) (fun H vs h => ⟨[nt 8], h, 8, rfl, by decide, by decide, rfl, rfl⟩) (by show c + 1 ≤ 1000000000; omega) (.inl rfl)) (fun _ _ => rfl)
      (pg_tup (n := 2) rfl (pgs_cons (pgn 1 sc_right.nd) (pgs_cons (pgn 2 sc_right.nd) pgs_nil))) (fun q hq => tgo_tupD (n := 2) (ds := [.int (q.1 : Int), .int (q.2 : Int)]) (tgs_cons (tgs_cons tgs_nil))) (fun q hq => ?_) rfl rfl rfl
    obtain ⟨n, p⟩ := q
    have hsz : (n, p) ∈ SzL := hq
    obtain ⟨so, h81, hn4⟩ := sz_size hsz
    have hn0 := so.n0
    have hp1 := so.p1
    have hp3 := so.p3
    refine bx_cons (b1f_set 3 (T := relsT n p) (ef_callW (B := []) (c := c + 1) (k := 100) h2 hr3 (ev_var 0) (af_cons (T := nt n) (ef_pure (ev_var 1)) (af_cons (T := nt p) (ef_pure (ev_var 2)) af_nil)) (List.Perm.refl _) (fun H vs h => ⟨_, h, n, p, rfl, hn0, by omega, hp1, hp3, rfl, rfl⟩) (by show c + 1 + 100 ≤ 1000000000; omega) (.inl rfl)) sc_right.nd) ?_
    refine bx_ex 3 fun rels hrels => ?_
    have hg := rels_g hrels
    have hlen := kept_len hsz hg hrels.sp
    have hmade := made_ok hsz hg hlen
    have hdd := kept_dd hsz hg
    refine bx_cons (b1f_set 4 (T := dD (dRows (kept n p rels))) (ef_pure (ev_callD (Us := [nt 2000]) h3 hr5 (eva_cons (T := nt n) (ev_var 1) (eva_cons (T := dD (dRels rels)) (ev_var 3) (eva_cons (T := nt p) (ev_var 2) eva_nil))) (fun H => .cons (.int _) .nil) ⟨n, p, rels, rfl, so, rels_ok hsz hg, hlen, rfl⟩)) sc_right.nd) ?_
    generalize hK : kept n p rels = kp at *
    refine bx_cons (b1f_skip (et_neR hr.units (rs := []) (ss := []) (EvE.to (ev_lcIf (own := [("_law_row", 9)]) (js := [9]) (f := fun i => dRow ((argRows n p).getD i [])) (k := fun i => !decide ((argRows n p).getD i [] ∈ kp)) sc_right.nd (src_rows (ev_call h4 hr2 (eva_cons (T := nt n) (ev_var 1) (eva_cons (T := nt p) (ev_var 2) eva_nil)) ⟨n, p, rfl, hn0, by omega, hp3, rfl⟩)) (blkOk_by (own := [("_law_row", 9)]) (N := ["_law_well_here", "_law_size", "_law_places", "_law_relations_here", "_law_kept", "_law_more", "_law_due", "_law_k", "_law_table", "_law_row", "_law_things"]) (sc := defScope s_law_right) (by decide +kernel))
      (fun _ _ _ _ _ => pgn 9 sc_right.nd) (by simp) (by rw [(argRows_ok hn0).1]; omega) (fun i hi => tgo_name) (fun i hi s0 H0 C' cl fp => et_notinR (room65 hr) (ev_var 9) (ev_var 4)) (fun i hi _ s0 H0 C' cl fp => ev_var 9)) ?_) ev_noRows) (by simp)) ?_
    · have : (List.range (argRows n p).length).filter (fun i => !decide ((argRows n p).getD i [] ∈ kp)) = [] := by
        rw [List.filter_eq_nil_iff]
        intro i hi
        have := args_kept hsz hg _ (getD_mem (argRows n p) i [] (List.mem_range.mp hi))
        rw [hK] at this
        rw [decide_eq_true this]; decide
      rw [this]; rfl
    refine bx_cons (b1f_skipF (tf_imp (tf_not (q := true) (tf_valB (ef_callW (B := []) (c := c + 1 + 100) (k := 200) h5 hr (ev_var 0) (af_cons (T := nt n) (ef_pure (ev_var 1)) (af_cons (T := nt p) (ef_pure (ev_var 2)) (af_cons (T := dD (dRows kp)) (ef_pure (ev_var 4)) af_nil))) (List.Perm.refl _) (fun H vs h => ⟨_, h, n, p, kp, rfl, hmade, rfl, rfl⟩) (by show c + 1 + 100 + 200 ≤ 1000000000; omega) (.inl rfl)))) fun b h => h)) ?_
    refine bx_cons (ρ' := [some (refT W), some (nt n), some (nt p), some (dD (dRels rels)), some (dD (dRows kp)), none, none, none, none, none, none]) (A' := [(W, wellC (c + 303))]) (b1f_skipF ?_) ?_
    · by_cases hp : p < 3
      · by_cases hnp : n = 3 ∧ p = 2
        · refine tf_wk (tf_w (wf_andT ((et_lt (i := (p : Int)) (j := 3) (ev_var 2) ev_int).to (decide_eq_true (by omega))) (wf_andF ((et_ne hr.units (d := dRow [n, p]) (d' := dRow [3, 2]) (ev_tup (evl_cons (ev_var 1) (evl_cons (ev_var 2) evl_nil))) (ev_tup (evl_cons ev_int (evl_cons ev_int evl_nil))) (shaped_row _) (shaped_row _)).to (by rw [eqv_row, decide_eq_true (by rw [hnp.1, hnp.2])]; rfl))))) (wk_well (by omega))
        · have hgo : GraphOk n p kp := by
            refine ⟨hmade.ne, hmade.few, hmade.dd, hp1, ?_, ?_⟩ <;> rcases sz_of hsz with ⟨rfl, rfl⟩ | ⟨rfl, rfl⟩ | ⟨rfl, rfl⟩ | ⟨rfl, rfl⟩ | ⟨rfl, rfl⟩ | ⟨rfl, rfl⟩ <;> first | decide | omega
          exact tf_w (wf_andT ((et_lt (i := (p : Int)) (j := 3) (ev_var 2) ev_int).to (decide_eq_true (by omega))) (wf_andT ((et_ne hr.units (d := dRow [n, p]) (d' := dRow [3, 2]) (ev_tup (evl_cons (ev_var 1) (evl_cons (ev_var 2) evl_nil))) (ev_tup (evl_cons ev_int (evl_cons ev_int evl_nil))) (shaped_row _) (shaped_row _)).to (by rw [eqv_row, decide_eq_false fun e => hnp (by injection e with e1 e2; injection e2 with e2 _; exact ⟨e1, e2⟩)]; rfl))
            (wf_and1 (tf_imp (tf_not (q := true) (tf_valB (ef_callW (B := []) (c := c + 1 + 100 + 200) (k := 2) h6 hr6 (ev_var 0) (af_cons (T := nt n) (ef_pure (ev_var 1)) (af_cons (T := nt p) (ef_pure (ev_var 2)) (af_cons (T := dD (dRows kp)) (ef_pure (ev_var 4)) af_nil))) (List.Perm.refl _) (fun H vs h => ⟨_, h, n, p, kp, rfl, hgo, rfl, rfl⟩) (by show c + 1 + 100 + 200 + 2 ≤ 1000000000; omega) (.inl rfl)))) fun b h => h))))
      · exact tf_wk (tf_w (wf_andF ((et_lt (i := (p : Int)) (j := 3) (ev_var 2) ev_int).to (decide_eq_false (by omega))))) (wk_well (by omega))
    have hnp9 : n ^ p ≤ 9 := by
      rcases sz_of hsz with ⟨rfl, rfl⟩ | ⟨rfl, rfl⟩ | ⟨rfl, rfl⟩ | ⟨rfl, rfl⟩ | ⟨rfl, rfl⟩ | ⟨rfl, rfl⟩ <;> decide
    refine bx_cons (b1f_set 5 (T := relQT n 3) (A' := [(W, wellC (c + 325))]) (ef_callW (B := []) (c := c + 305) (k := 20) (Ts := [nt n, rngT 2, rngT 3]) (kw_weak h7) hr2 (ev_var 0) (af_cons (ef_pure (ev_var 1)) (af_cons (ef_inc (m := 2) ev_int (ef_callW (B := []) (c := c + 303) (k := 1) h1 hr1 (ev_var 0) (af_cons (ef_pure ev_int) af_nil) (List.Perm.refl _) (fun H vs h => ⟨[nt 2], h, 2, rfl, by decide, by decide, rfl, rfl⟩) (by show c + 303 + 1 ≤ 1000000000; omega) (.inl rfl)))
      (af_cons (ef_inc (m := 3) ev_int (ef_callW (B := []) (c := c + 304) (k := 1) h1 hr1 (ev_var 0) (af_cons (ef_pure ev_int) af_nil) (List.Perm.refl _) (fun H vs h => ⟨[nt 3], h, 3, rfl, by decide, by decide, rfl, rfl⟩) (by show c + 304 + 1 ≤ 1000000000; omega) (.inl rfl))) af_nil))) (List.Perm.refl _) (fun H vs h => ?_) (by show c + 305 + 20 ≤ 1000000000; omega) (.inl rfl)) sc_right.nd) ?_
    · cases h with
      | cons r1 h =>
        cases h with
        | cons r2 h =>
          cases h with
          | cons r3 h =>
            cases h
            obtain ⟨wd, ⟨w1, w2⟩, r2⟩ := r2
            obtain ⟨mn, ⟨m1, m2⟩, r3⟩ := r3
            exact ⟨[nt n, nt wd, nt mn], .cons r1 (.cons r2 (.cons r3 .nil)), relT n wd mn, ⟨n, wd, mn, rfl, hn0, by omega, w1, by omega, m1, by omega, rfl, rfl⟩, fun H v ⟨rel, q, r⟩ => ⟨rel, ⟨q.ok, by rw [q.wide]; exact w1, by rw [q.wide]; omega, q.pos, by have := q.few; omega⟩, r⟩⟩
    refine bx_ex 5 fun more hmore => ?_
    have hg2 := rels_g2 hrels hmore
    have hkm := kept_more hsz hg hg2
    have hlen2 := kept_len hsz hg2 (fun e1 e2 x hx => List.mem_append_left _ (List.mem_cons_of_mem _ (List.mem_reverse.mpr (hrels.sp e1 e2 x hx))))
    rw [hK] at hkm
    have hmk : more.2.length ^ p ≤ 100000 := by
      have h1 : more.2.length ^ p ≤ more.2.length ^ 3 := Nat.pow_le_pow_right hmore.pos hp3
      have h2 : more.2.length ^ 3 ≤ 3 ^ 3 := Nat.pow_le_pow_left hmore.few 3
      omega
    refine Bx.mk (bf_setLcIf 6 (own := [("_law_table", 8)]) (js := [8]) (f := fun i => dRow (kp.getD i [])) (kk := fun i => keepsB (kp.getD i []) n p more) sc_right.nd (src_rows (ev_var 4)) (blkOk_by (own := [("_law_table", 8)]) (N := ["_law_well_here", "_law_size", "_law_places", "_law_relations_here", "_law_kept", "_law_more", "_law_due", "_law_k", "_law_table", "_law_row", "_law_things"]) (sc := defScope s_law_right) (by decide +kernel))
      (fun _ _ _ _ _ => pgn 8 sc_right.nd) (by simp) (by omega) (fun i hi => tgo_name) (fun i hi s0 H0 C' cl fp => ?_) (fun i hi _ s0 H0 C' cl fp => ev_var 8) (?_ : Bx _ _ _ _ _).h)
    · have hd := hdd _ (getD_mem kp i [] hi)
      generalize kp.getD i [] = t at *
      rcases first_or (keepsAt t n p more) (more.2.length ^ p) with hall | ⟨m, q1, q2, q3⟩
      · have hk : keepsB t n p more = true := List.all_eq_true.mpr fun x hx => hall x (List.mem_range.mp hx)
        exact (et_isN (d := .none) (ev_call h8 hr5 (eva_cons (T := nt n) (ev_var 1) (eva_cons (T := dD (dDeed "one" p t)) (ev_tup (evl_cons ev_str (evl_cons (ev_var 2) (evl_cons (ev_var 8) evl_nil)))) (eva_cons (T := dD (dRel more)) (ev_var 5) eva_nil))) ⟨_, p, t, n, more, rfl, hd, hp1, hmore.ok, hmk, .inl ⟨hk, rfl⟩⟩)).to (by rw [hk]; rfl)
      · have hk : keepsB t n p more = false := by
          rw [Bool.eq_false_iff]
          intro z
          have := List.all_eq_true.mp z m (List.mem_range.mpr q1)
          rw [this] at q2; cases q2
        exact (et_isN (d := dRows (pick more.2 p m)) (ev_call h8 hr5 (eva_cons (T := nt n) (ev_var 1) (eva_cons (T := dD (dDeed "one" p t)) (ev_tup (evl_cons ev_str (evl_cons (ev_var 2) (evl_cons (ev_var 8) evl_nil)))) (eva_cons (T := dD (dRel more)) (ev_var 5) eva_nil))) ⟨_, p, t, n, more, rfl, hd, hp1, hmore.ok, hmk, .inr ⟨m, q1, q2, q3, rfl⟩⟩)).to (by rw [hk]; rfl)
    have hdue : (PyData.list (((List.range kp.length).filter fun i => keepsB (kp.getD i []) n p more).map fun i => dRow (kp.getD i []))) = dRows (kp.filter fun t => keepsB t n p more) := by
      rw [← filter_range kp [] fun t => keepsB t n p more]
      unfold dRows
      rw [List.map_map]
      rfl
    rw [hdue]
    refine bx_cons (b1f_skip (et_neR hr.units (rs := kept n p (more :: rels.reverse ++ rels.take 1)) (ss := kp.filter fun t => keepsB t n p more) (ev_callD (Us := [nt 2000]) h3 hr5 (eva_cons (T := nt n) (ev_var 1) (eva_cons (T := dD (dRels (more :: rels.reverse ++ rels.take 1))) (EvE.to (ev_catL (ev_catL (ds := [dRel more]) (es := (rels.map dRel).reverse) (ev_lst (evl_cons (ev_var 5) evl_nil)) (ev_revL (ev_var 3)) (by simp; have := hrels.few; omega)) (ev_sliceL (ds := rels.map dRel) (m := none) (n := some 1) (ev_var 3) eo_none (eo_some (n := 1) ev_int)) (by simp [cutD]; have := hrels.few; omega)) ?_)
      (eva_cons (T := nt p) (ev_var 2) eva_nil))) (fun H => .cons (.int _) .nil) ⟨n, p, _, rfl, so, rels_ok hsz hg2, hlen2, rfl⟩) (ev_var 6)) (by rw [hkm]; simp)) ?_
    · unfold dRels
      have hpos := hrels.pos
      rw [List.map_append, List.map_cons, List.map_reverse, List.map_take]
      unfold cutD
      simp only [Option.getD_none, Option.getD_some, List.length_map]
      rw [Nat.min_eq_left (by omega), Nat.min_eq_left (by omega)]
      rfl
    refine bx_wk (B := [(W, wellC (c + 325 + 0 * (n ^ p)))]) ?_ (wk_well (by omega))
    refine bx_cons (b1f_for (n0 := 6) (js := [7]) (ρ' := [some (refT W), some (nt n), some (nt p), some (dD (dRels rels)), some (dD (dRows kp)), some (dD (dRel more)), some (dD (dRows (kp.filter fun t => keepsB t n p more))), none, none, none, none]) (A' := [(W, wellC (c + 325 + 6 * (n ^ p)))]) (fun i => [some (refT W), some (nt n), some (nt p), some (dD (dRels rels)), some (dD (dRows kp)), some (dD (dRel more)), some (dD (dRows (kp.filter fun t => keepsB t n p more))), none, none, none, none]) _ (fun i => [(W, wellC (c + 325 + i * (n ^ p)))])
      (sf_pure (src_range (n := 6) B.range ev_int (by decide))) (pgn 7 sc_right.nd) (fun m h => Nat.le_of_eq h) (fun i hi => tgo_name) (fun i hi => .inl ?_) (fun m h => by subst h; exact ⟨le_refl, wk_refl⟩)) ?_
    · refine (?_ : Bx _ _ _ _ _).h
      have hin : (i + 1) * (n ^ p) = i * (n ^ p) + n ^ p := Nat.succ_mul ..
      have hib : i * (n ^ p) ≤ 5 * 9 := Nat.mul_le_mul (by omega) hnp9
      have hal := allT_len n p
      generalize hN : n ^ p = nn at *
      refine bx_cons (b1f_set 8 (T := exT (fun r : List Nat => r.length = nn ∧ ∀ x ∈ r, x < n) rowT) (A' := [(W, wellC (c + 325 + (i + 1) * nn))]) (ef_tupleR B.tuple (ef_wk (B := [(W, wellC (c + 325 + (i + 1) * nn))]) (ef_lc (own := [("_law_things", 10)]) (n0 := nn) (js := [10]) (F := fun _ => ltT n) (A' := [(W, wellC (c + 325 + i * nn + nn))]) (fun j => [(W, wellC (c + 325 + i * nn + j))]) sc_right.nd (sf_pure (src_len (src_rows (ev_call (T := dD (dRows (allT n p))) h9 hr1 (eva_cons (T := nt n) (ev_var 1) (eva_cons (T := nt p) (ev_var 2) eva_nil)) ⟨n, p, rfl, hn0, by omega, by omega, by omega, rfl⟩)) hal)) (blkOk_by (own := [("_law_things", 10)]) (N := ["_law_well_here", "_law_size", "_law_places", "_law_relations_here", "_law_kept", "_law_more", "_law_due", "_law_k", "_law_table", "_law_row", "_law_things"]) (sc := defScope s_law_right) (by decide +kernel))
        (fun _ _ _ _ _ => pgn 10 sc_right.nd) (by simp) (fun m h => Nat.le_of_eq h) (by omega) (fun j hj => tgo_name) (fun j hj s0 H0 C' cl fp => ef_callW (B := []) (c := c + 325 + i * nn + j) (k := 1) h1 hr1 (ev_var 0) (af_cons (T := nt n) (ef_pure (ev_var 1)) af_nil) (List.Perm.refl _) (fun H vs h => ⟨_, h, n, rfl, hn0, by omega, rfl, rfl⟩) (by show c + 325 + i * nn + j + 1 ≤ 1000000000; omega) (.inl rfl)) (fun m h => by subst h; exact wk_refl)) (wk_well (by omega))) fun H v h => lt_list h) sc_right.nd) ?_
      refine bx_ex 8 fun t ht => ?_
      have hdt : DeedOk n p t := ⟨hn0, by omega, hp3, by rw [hN]; exact ht.1, ht.2⟩
      have heq : rels.all (keepsB t n p) = decide (t ∈ kp) := by
        rw [← hK]
        cases hb : rels.all (keepsB t n p) with
        | true => exact (decide_eq_true ((kept_mem hsz hg).mpr ⟨⟨hdt.len, ht.2⟩, hb⟩)).symm
        | false => exact (decide_eq_false fun z => by have := ((kept_mem hsz hg).mp z).2; rw [hb] at this; cases this).symm
      refine Bx.mk (bf_forget (bf_one (b1f_skip (et_neB (ev_call (T := dD (.bool (rels.all (keepsB t n p)))) h10 hr6 (eva_cons (T := nt n) (ev_var 1) (eva_cons (T := nt p) (ev_var 2) (eva_cons (T := dD (dRow t)) (ev_var 8) (eva_cons (T := dD (dRels rels)) (ev_var 3) eva_nil)))) ⟨n, p, t, rels, rfl, hdt, hp1, fun r hr => ⟨(hg.2 r hr).ok, by have := ((rels_ok hsz hg).ok r hr).2.2; omega⟩, rfl⟩) (ev_inR (room65 hr) (r := t) (rs := kp) (ev_var 8) (ev_var 4))) (by rw [heq]; simp))) ?_)
      exact le_keep (le_keep (le_keep (le_keep (le_keep (le_keep (le_keep (le_drop (le_drop (le_keep (le_keep le_nil))))))))))
    · exact bx_one (b1f_ret (ef_wk (ef_pure ev_bl) (wk_well (by omega))))
end
end WD
set_option Elab.async false
set_option linter.all false
set_option maxRecDepth 100000
set_option maxHeartbeats 1000000
namespace WD
open PySem PySem.Spec PyProof.Rows L2
def scrT (K : PySem.W.Frag) (ns : List Int) : Ty := ⟨fun H v => ∃ a, v = .ref a ∧ SqL K H a (ns.map V.int), fun H H' v s ⟨a, e, h⟩ => ⟨a, e, by
  rcases h with h | h
  · rcases h with h | ⟨o, h⟩
    · exact .inl (.inl (s _ _ h))
    · exact .inl (.inr ⟨o, s _ _ h⟩)
  · exact .inr h⟩⟩
theorem ev_scr {X : Cx} {a b : Expr} {ρ : Rho} {pos : Pos} {ns : List Int} (ha : EvE X a ρ (scrT X.K ns)) (hb : EvD X b ρ (.list [.int 0])) (hl : ns.length ≤ 1000) : EvD X (.BinOp a .Add b pos) ρ (.list ((ns ++ [0]).map .int)) := ev_op op_catLA ha hb fun x y H Q r1 r2 k => by
  obtain ⟨p1, rfl, h1⟩ := r1
  obtain ⟨p2, ys, rfl, h2, z2, l2, i2⟩ := Rp.lst_inv r2
  match ys, l2 with
  | [y], _ =>
    cases (Rp.int_inv (i2 0 y _ rfl rfl))
    refine ⟨p1, p2, _, _, rfl, rfl, h1, SqL.of h2, small_line (by simp; omega), fun p hp => k _ _ (same_new hp) ?_⟩
    have e : ns.map V.int ++ [V.int 0] = (ns ++ [0]).map V.int := by simp
    rw [e]
    refine .lst upd_same (small_line (by simp; omega)) (by simp) fun i v d e1 e2 => ?_
    rw [List.getElem?_map] at e1 e2
    cases hz : (ns ++ [0])[i]? with
    | none => rw [hz] at e1; cases e1
    | some z => rw [hz] at e1 e2; cases e1; cases e2; exact .int _
def spLaw (K : PySem.W.Frag) : Sp := fun vs H Q _ => ∃ (a : Addr) (ns : List Int), vs = [.ref a] ∧ SqL K H a (ns.map V.int) ∧ ns.length ≤ 1000 ∧ ∀ H', Q (.bl true) H'
section
variable {P : Program} {w : World} {K : PySem.W.Frag} {mg : Str → Option Value} {base : Heap}
structure KnN (P : Program) (w : World) (K : PySem.W.Frag) (mg : Str → Option Value) (base : Heap) (k : Nat) (x : Str) : Prop where
  ex : ∃ (f : Addr) (fd : FuncData) (ps : List Str), FnOk P w K mg base CX0 k f fd ps spN ∧ mg x = some (.ref f) ∧ PySem.W.keepIn K (.ref f) = true ∧ Binds K fd ps []
theorem ev_rightwell {X : Cx} {a b : Expr} {ρ : Rho} {x y : Str} {p1 p2 q1 q2 : Pos} {cell : Int} {k : Nat} (h1 : Kw X.prog X.w X.K X.mg X.base 8 x F_right) (h2 : KnN X.prog X.w X.K X.mg X.base 1 y) (hr : Room 8 X.A) (ha : EvD X a ρ (.int cell)) (hb : EvD X b ρ (.int (k : Int))) (hk : k ≤ 1000) (hg : Gl X x := by rfl) (hg2 : Gl X y := by rfl) (hdb : (x == ("__debug__" : Str)) = false := by decide) (hdb2 : (y == ("__debug__" : Str)) = false := by decide)
    (he : starEach (.Call (.Name y p2) [a, b] [] q2 :: []) X.env = (false, eval (.Call (.Name y p2) [a, b] [] q2) X.env) :: starEach [] X.env := by rfl) (hpl : (backTo q1 (starEach [] X.env)).any (·.1) = false := by rfl)
    (he2 : starEach (a :: [b]) X.env = (false, eval a X.env) :: starEach [b] X.env := by rfl) (he3 : starEach (b :: []) X.env = (false, eval b X.env) :: starEach [] X.env := by rfl) (hpl2 : (backTo q2 (starEach [b] X.env)).any (·.1) = false := by rfl) :
    EvD X (.Call (.Name x p1) [.Call (.Name y p2) [a, b] [] q2] [] q1) ρ (.bool true) := fun σ H sl => by
  obtain ⟨f, fd, ps, G, hm, kp, hbd⟩ := h1.ex
  obtain ⟨f2, fd2, ps2, G2, hm2, kp2, hbd2⟩ := h2.ex
  refine ew_of (pe_call G hr hg hm kp hbd .nil pass0 pa_aw hdb he hpl) (aw_of (pa_cons pe_ew pa_nil he) (ew_of (pe_call G2 (hr.mono (by decide)) hg2 hm2 kp2 hbd2 .nil pass0 pa_aw hdb2 he2 hpl2) (aw_of (pa_cons pe_ew (pa_cons pe_ew pa_nil he3) he2) (ew_mono (ha σ H sl) fun v1 H1 ⟨s1, r1⟩ => ew_mono (hb σ H1 (sl.same s1)) fun v2 H2 ⟨s2, r2⟩ => ?_))))
  cases (Rp.int_inv r1)
  cases (Rp.int_inv r2)
  refine ⟨cell, k, rfl, hk, fun W G' H' s sp => ⟨W, [], [], dD (.bool true), 500, 0, G', rfl, .nil, ⟨rfl, rfl, rfl⟩, by decide, sp, fun v G'' H'' s' sp'' r => ⟨(((s1.trans s2).trans s).trans s').trans sp''.same, Rp.same sp''.same r⟩⟩⟩
theorem sc_law : FnScope ["_law_script", "_law_k", "_law_cell"] ["_law_script"] (defScope s_law) := ⟨rfl, rfl, rfl, by decide +kernel, rfl, by decide +kernel, by decide +kernel⟩
theorem ok_law {f fd} (Fu : FnD K "law" s_law f fd) (B : Bi mg) (h1 : Kw P w K mg base 8 "_law_right" F_right) (h2 : KnN P w K mg base 1 "_law_well") : FnOk P w K mg base CX0 9 f fd ["_law_script"] (spLaw K) := by
  refine Fu.ok sc_law ?_ ?_
  · rintro vs H Q E ⟨a, ns, rfl, _⟩; rfl
  · rintro cdv A outer s H vs Q E hr ⟨a, ns, rfl, hS, hl, hQ⟩
    refine ⟨_, PSs.nox pss_sw, ?_⟩
    have sl0 : Sl H (start ["_law_script", "_law_k", "_law_cell"] [.ref a]) [some (scrT K ns), none, none] := sl_start (Ts := [scrT K ns]) (.cons ⟨a, rfl, hS⟩ .nil)
    have body : Bs (cxOf CX0 P w K mg base ["_law_script", "_law_k", "_law_cell"] "law" (defScope s_law) f cdv A outer s H E).nox (defBody s_law) [some (scrT K ns), none, none] (.ret (dD (.bool true))) := by
      generalize hds : cutD ((ns ++ [0]).map PyData.int) none (some 3) = ds
      have hlen : ds.length ≤ 3 := by rw [← hds]; simp [cutD]; omega
      have hint : ∀ i, i < ds.length → ∃ z : Int, ds.getD i .none = .int z := fun i hi => by
        have hm : ds.getD i .none ∈ ds := getD_mem ds i _ hi
        have hm2 : ds.getD i .none ∈ (ns ++ [0]).map PyData.int := by
          rw [← hds] at hm ⊢
          unfold cutD at hm ⊢
          exact List.mem_of_mem_drop (List.mem_of_mem_take hm)
        obtain ⟨z, _, e⟩ := List.mem_map.mp hm2
        exact ⟨z, e.symm⟩
      refine bs_cons (b1_for (n := ds.length) (js := [1, 2]) (fun _ => [some (scrT K ns), none, none]) _ (src_enum (ds := ds) B.enumerate (hds ▸ ev_sliceL (m := none) (n := some 3) (ev_scr (ev_var 0) (ev_lst (evl_cons ev_int evl_nil)) hl) eo_none (eo_some (n := 3) ev_int))) (pg_tup (n := 2) rfl (pgs_cons (pgn 1 sc_law.nd) (pgs_cons (pgn 2 sc_law.nd) pgs_nil))) (fun i hi => tgo_tupD (n := 2) (tgs_cons (tgs_cons tgs_nil))) (fun i hi => .inl ?_)) (bs_one (b1_ret ev_bl))
      obtain ⟨z, hz⟩ := hint i hi
      rw [hz]
      exact bs_forget (bs_one (b1_skip (et_not (p := true) (et_val (ev_rightwell h1 h2 hr (ev_var 2) (ev_var 1) (by omega)))) rfl)) (le_keep (le_drop (le_drop le_nil)))
    exact body _ H _ sl0 fun v H' s' r => by
      cases (Rp.bl_inv r)
      exact hQ H'
end
end WD
set_option Elab.async false
set_option linter.all false
set_option maxRecDepth 100000
set_option maxHeartbeats 2000000
/-! zip of three tuples, the item kept under a name -/
namespace WD
open PySem PySem.Spec PyProof.Rows L2
open Sem (wp)
abbrev ZipF (h : Heap) (z TI TO : Addr) (old : Value) (f : Bool) : Prop :=
  h.get? z = some { cls := .type "zip", dict := none, data := .fields #[old, .bool f, .bool false, .ref TI, .ref TO], slots := #[] }
def Zst (h : Heap) (z TI TO : Addr) : Prop := ∃ (old : Value) (f : Bool), ZipF h z TI TO old f ∧ (old = .none ∨ ∃ T : Addr, old = rawInt T)
section
variable {prog : Program} {w : World} {A : Around} {E : Value → Shared → Prop} {s : Shared} {z TI TO i1 i2 i3 : Addr} {fp1 fp2 fp3 : List Addr} {n1 n2 n3 i : Nat} {P1 P2 P3 : Nat → Value → Prop} {St1 St2 St3 : Nat → Heap → Prop}
theorem free_any {Q : Bool → Shared → Prop} (hz : Zst s.heap z TI TO) (h : ∀ r h', Zst h' z TI TO → Heap.SameBut z s.heap h' → Q r { s with heap := h' }) : wpAny (model prog w) A (Builtin.SmallTypes.ownedTupleIsFree (.ref z)) Q E s := by
  obtain ⟨old, f, hz, ho⟩ := hz
  unfold Builtin.SmallTypes.ownedTupleIsFree
  rcases ho with rfl | ⟨T, rfl⟩
  · exact wpAny_bind (wpAny_field hz rfl (x := .none) rfl (wpAny_pure (h true s.heap ⟨_, f, hz, .inl rfl⟩ (Heap.SameBut.refl _ _))))
  · refine wpAny_bind (wpAny_field hz rfl (x := rawInt T) rfl ?_)
    show wpAny _ _ (loadIfAlive ((T : Int).toNat) >>= _) _ _ _
    rw [Int.toNat_natCast]
    have hal : ∀ {R : Option Obj → Shared → Prop}, R (s.heap.get? T) s → wpAny (model prog w) A (loadIfAlive T) R E s := fun {R} q => by
      have q' : R (s.heap.get? T) s := q
      exact fun _ _ _ => q'
    refine wpAny_bind (hal ?_)
    cases hT : s.heap.get? T with
    | none => exact wpAny_pure (h true s.heap ⟨_, f, hz, .inr ⟨T, rfl⟩⟩ (Heap.SameBut.refl _ _))
    | some oT =>
      simp only [Option.isNone_some, Bool.false_eq_true, if_false]
      refine wpAny_bind (wpAny_field hz rfl (x := .bool f) rfl ?_)
      cases f with
      | true =>
        rw [if_neg (show ¬ ((Value.bool true != Value.bool true) = true) from Bool.false_ne_true)]
        exact wpAny_pure (h false s.heap ⟨_, true, hz, .inr ⟨T, rfl⟩⟩ (Heap.SameBut.refl _ _))
      | false =>
        rw [if_pos (show (Value.bool false != Value.bool true) = true from rfl)]
        exact wpAny_bind (wpAny_setField_rec hz (by simp) fun h₁ hz₁ hs₁ => wpAny_pure (h false h₁ ⟨_, true, hz₁, .inr ⟨T, rfl⟩⟩ hs₁))
theorem z3_item {Q : Value → Shared → Prop} (S : ZipSep3 z TI TO i1 i2 i3 fp1 fp2 fp3) (D1 : Draws prog w A i1 fp1 n1 P1 St1) (D2 : Draws prog w A i2 fp2 n2 P2 St2) (D3 : Draws prog w A i3 fp3 n3 P3 St3)
    (hz : Zst s.heap z TI TO) (hTI : IsTupOf3 s.heap TI (.ref i1) (.ref i2) (.ref i3)) (hTO : ∃ a1 a2 a3, IsTupOf3 s.heap TO a1 a2 a3) (st1 : St1 i s.heap) (st2 : St2 i s.heap) (st3 : St3 i s.heap) (hlt1 : i < n1) (hlt2 : i < n2) (hlt3 : i < n3)
    (hQ : ∀ x1 x2 x3 h' tk, P1 i x1 → P2 i x2 → P3 i x3 → Zst h' z TI TO → (∃ a1 a2 a3, IsTupOf3 h' TO a1 a2 a3) → St1 (i + 1) h' → St2 (i + 1) h' → St3 (i + 1) h' → IsTupOf3 h' s.heap.objs.size x1 x2 x3 →
      (∀ c o, c ≠ z → c ≠ TO → c ≠ i1 → c ≠ i2 → c ≠ i3 → s.heap.get? c = some o → h'.get? c = some o) → Q (.ref s.heap.objs.size) { s with heap := h', toks := tk }) :
    wpAny (model prog w) A (Builtin.«zip.__next__» ⟨[.ref z], []⟩) (fun fin s' => ∃ v, fin = .done (.ret v) ∧ Q v s') E s := by
  obtain ⟨hp, g, d, tk0, os⟩ := s
  obtain ⟨old, f, hz, hold⟩ := hz
  obtain ⟨a1, a2, a3, hTO⟩ := hTO
  show wpAny _ _ (field (.ref z) 2 >>= _) _ _ _
  refine wpAny_bind (wpAny_field hz rfl (x := .bool false) rfl ?_)
  show wpAny _ _ (field (.ref z) 3 >>= _) _ _ _
  refine wpAny_bind (wpAny_field hz rfl (x := .ref TI) rfl ?_)
  refine wpAny_bind (wpAny_seqItems hTI rfl ?_)
  show wpAny _ _ (Builtin.SmallTypes.ownedTupleIsFree (.ref z) >>= _) _ _ _
  refine wpAny_bind (free_any ⟨old, f, hz, hold⟩ fun r hq hz' hsq => ?_)
  obtain ⟨old', f', hz', hold'⟩ := hz'
  replace hsq : Heap.SameBut z hp hq := hsq
  replace hz' : ZipF hq z TI TO old' f' := hz'
  have hTO' : IsTupOf3 hq TO a1 a2 a3 := hsq.extBut _ _ S.TOz hTO
  have st1' := D1.over st1 hsq S.zf1
  have st2' := D2.over st2 hsq S.zf2
  have st3' := D3.over st3 hsq S.zf3
  cases r with
  | true =>
    simp only [if_true]
    refine wpAny_bind (wpAny_rule ?_)
    refine wpAny_bind (wpAny_field hz' rfl (x := .ref TO) rfl ?_)
    refine wpAny_bind (wpAny_setField_rec hz' (by simp) fun g0 hz0 hs0 => ?_)
    replace hz0 : ZipF g0 z TI TO .ellipsis f' := hz0
    replace hs0 : Heap.SameBut z hq g0 := hs0
    refine wpAny_bind ?_
    simp only [List.zipIdx_cons, List.zipIdx_nil, List.forIn_cons, List.forIn_nil]
    refine wpAny_bind (wpAny_bind (wpAny_onRaise ?_))
    show wpAny _ _ (Builtin.SmallTypes.nextOf (.ref i1) >>= _) _ _ ⟨g0, g, d, tk0, os⟩
    refine wpAny_bind (D1.item i _ _ _ hlt1 (D1.over st1' hs0 S.zf1) fun x1 p1 tk1 hx1 sn1 hp1 => wpAny_pure ?_)
    replace hp1 : Heap.SameBut i1 g0 p1 := hp1
    have hU1 : IsTupOf3 p1 TO a1 a2 a3 := hp1.extBut _ _ S.Ti1 (hs0.extBut _ _ S.TOz hTO')
    refine wpAny_bind (wpAny_seqItems (s := ⟨p1, g, d, tk1, os⟩) hU1 rfl ?_)
    refine wpAny_bind (updateSeq_IsTupOf3 (s := ⟨p1, g, d, tk1, os⟩) hU1 fun g1 hT1 hs1 => ?_)
    replace hT1 : IsTupOf3 g1 TO x1 a2 a3 := hT1
    replace hs1 : Heap.SameBut TO p1 g1 := hs1
    refine wpAny_bind (wpAny_letGo (wpAny_pure ?_))
    refine wpAny_bind (wpAny_bind (wpAny_onRaise ?_))
    show wpAny _ _ (Builtin.SmallTypes.nextOf (.ref i2) >>= _) _ _ ⟨g1, g, d, tk1, os⟩
    refine wpAny_bind (D2.item i _ _ _ hlt2 (D2.over (D2.over (D2.over st2' hs0 S.zf2) hp1 S.sep1_2) hs1 S.Tf2) fun x2 p2 tk2 hx2 sn2 hp2 => wpAny_pure ?_)
    replace hp2 : Heap.SameBut i2 g1 p2 := hp2
    have hU2 : IsTupOf3 p2 TO x1 a2 a3 := hp2.extBut _ _ S.Ti2 hT1
    refine wpAny_bind (wpAny_seqItems (s := ⟨p2, g, d, tk2, os⟩) hU2 rfl ?_)
    refine wpAny_bind (updateSeq_IsTupOf3 (s := ⟨p2, g, d, tk2, os⟩) hU2 fun g2 hT2 hs2 => ?_)
    replace hT2 : IsTupOf3 g2 TO x1 x2 a3 := hT2
    replace hs2 : Heap.SameBut TO p2 g2 := hs2
    refine wpAny_bind (wpAny_letGo (wpAny_pure ?_))
    refine wpAny_bind (wpAny_bind (wpAny_onRaise ?_))
    show wpAny _ _ (Builtin.SmallTypes.nextOf (.ref i3) >>= _) _ _ ⟨g2, g, d, tk2, os⟩
    refine wpAny_bind (D3.item i _ _ _ hlt3 (D3.over (D3.over (D3.over (D3.over (D3.over st3' hs0 S.zf3) hp1 S.sep1_3) hs1 S.Tf3) hp2 S.sep2_3) hs2 S.Tf3) fun x3 p3 tk3 hx3 sn3 hp3 => wpAny_pure ?_)
    replace hp3 : Heap.SameBut i3 g2 p3 := hp3
    have hU3 : IsTupOf3 p3 TO x1 x2 a3 := hp3.extBut _ _ S.Ti3 hT2
    refine wpAny_bind (wpAny_seqItems (s := ⟨p3, g, d, tk3, os⟩) hU3 rfl ?_)
    refine wpAny_bind (updateSeq_IsTupOf3 (s := ⟨p3, g, d, tk3, os⟩) hU3 fun g3 hT3 hs3 => ?_)
    replace hT3 : IsTupOf3 g3 TO x1 x2 x3 := hT3
    replace hs3 : Heap.SameBut TO p3 g3 := hs3
    refine wpAny_bind (wpAny_letGo (wpAny_pure (wpAny_pure ?_)))
    refine wpAny_bind (wpAny_seqItems (s := ⟨g3, g, d, tk3, os⟩) hT3 rfl ?_)
    refine wpAny_bind (wpAny_newTuple ?_)
    have hsz : g3.objs.size = hp.objs.size := by rw [hs3.1, hp3.1, hs2.1, hp2.1, hs1.1, hp1.1, hs0.1, hsq.1]
    have hzz : ZipF g3 z TI TO .ellipsis f' := (hs3.extBut _ _ S.TOz.symm (hp3.extBut _ _ S.zi3 (hs2.extBut _ _ S.TOz.symm (hp2.extBut _ _ S.zi2 (hs1.extBut _ _ S.TOz.symm (hp1.extBut _ _ S.zi1 hz0))))))
    have hkk : ∀ c o, c ≠ z → c ≠ TO → c ≠ i1 → c ≠ i2 → c ≠ i3 → hp.get? c = some o → g3.get? c = some o := fun c o cz cT c1 c2 c3 e =>
      (hs3.extBut _ _ cT (hp3.extBut _ _ c3 (hs2.extBut _ _ cT (hp2.extBut _ _ c2 (hs1.extBut _ _ cT (hp1.extBut _ _ c1 (hs0.extBut _ _ cz (hsq.extBut _ _ cz e))))))))
    have hj1 : St1 (i + 1) g3 := (D1.over (D1.over (D1.over (D1.over (D1.over sn1 hs1 S.Tf1) hp2 S.sep2_1) hs2 S.Tf1) hp3 S.sep3_1) hs3 S.Tf1)
    have hj2 : St2 (i + 1) g3 := (D2.over (D2.over (D2.over sn2 hs2 S.Tf2) hp3 S.sep3_2) hs3 S.Tf2)
    have hj3 : St3 (i + 1) g3 := (D3.over sn3 hs3 S.Tf3)
    have hzlt : z < g3.objs.size := Heap.lt_size hzz
    show wpAny _ _ (Builtin.SmallTypes.ownedTupleHandOut (.ref z) (.ref g3.objs.size) >>= _) _ _ ⟨g3.push { cls := .type "tuple", data := .seq #[x1, x2, x3] }, g, d, tk3, os⟩
    refine wpAny_bind ?_
    unfold Builtin.SmallTypes.ownedTupleHandOut
    have hz₆ : ZipF (g3.push { cls := .type "tuple", data := .seq #[x1, x2, x3] }) z TI TO .ellipsis f' := Heap.get?_push_of_some _ hzz
    refine wpAny_bind (wpAny_setField_rec hz₆ (by simp) fun h₇ hz₇ hs₇ => ?_)
    replace hz₇ : ZipF h₇ z TI TO (rawInt g3.objs.size) f' := hz₇
    refine wpAny_setField_rec hz₇ (by simp) fun h₈ hz₈ hs₈ => ?_
    replace hz₈ : ZipF h₈ z TI TO (rawInt g3.objs.size) false := hz₈
    replace hs₇ : Heap.SameBut z (g3.push { cls := .type "tuple", data := .seq #[x1, x2, x3] }) h₇ := hs₇
    replace hs₈ : Heap.SameBut z h₇ h₈ := hs₈
    have up : ∀ c o, c ≠ z → g3.get? c = some o → h₈.get? c = some o := fun c o c1 e => hs₈.extBut _ _ c1 (hs₇.extBut _ _ c1 (Heap.get?_push_of_some _ e))
    have hT₈ : IsTupOf3 h₈ g3.objs.size x1 x2 x3 := hs₈.extBut _ _ (Nat.ne_of_gt hzlt) (hs₇.extBut _ _ (Nat.ne_of_gt hzlt) (Heap.get?_push_size _ rfl))
    rw [hsz] at hT₈
    refine wpAny_pure ⟨_, rfl, ?_⟩
    show Q (.ref g3.objs.size) ⟨h₈, g, d, tk3, os⟩
    rw [hsz]
    exact hQ x1 x2 x3 h₈ tk3 hx1 hx2 hx3 ⟨_, false, hz₈, .inr ⟨_, rfl⟩⟩ ⟨_, _, _, up _ _ S.TOz hT3⟩ (D1.frame _ _ _ hj1 fun b hb o e => up b o (fun q => S.zf1 (q ▸ hb)) e) (D2.frame _ _ _ hj2 fun b hb o e => up b o (fun q => S.zf2 (q ▸ hb)) e) (D3.frame _ _ _ hj3 fun b hb o e => up b o (fun q => S.zf3 (q ▸ hb)) e) hT₈ fun c o cz cT c1 c2 c3 e => up c o cz (hkk c o cz cT c1 c2 c3 e)
  | false =>
    simp only [Bool.false_eq_true, if_false]
    refine wpAny_bind ?_
    rw [← Array.forIn_toList]
    simp only [List.forIn_cons, List.forIn_nil]
    refine wpAny_bind (wpAny_bind (wpAny_holding ?_))
    show wpAny _ _ (Builtin.SmallTypes.nextOf (.ref i1) >>= _) _ _ ⟨hq, g, d, tk0, os⟩
    refine wpAny_bind (D1.item i _ _ _ hlt1 st1' fun x1 p1 tk1 hx1 sn1 hp1 => wpAny_pure ?_)
    replace hp1 : Heap.SameBut i1 hq p1 := hp1
    refine wpAny_pure ?_
    refine wpAny_bind (wpAny_bind (wpAny_holding ?_))
    show wpAny _ _ (Builtin.SmallTypes.nextOf (.ref i2) >>= _) _ _ ⟨p1, g, d, tk1, os⟩
    refine wpAny_bind (D2.item i _ _ _ hlt2 (D2.over st2' hp1 S.sep1_2) fun x2 p2 tk2 hx2 sn2 hp2 => wpAny_pure ?_)
    replace hp2 : Heap.SameBut i2 p1 p2 := hp2
    refine wpAny_pure ?_
    refine wpAny_bind (wpAny_bind (wpAny_holding ?_))
    show wpAny _ _ (Builtin.SmallTypes.nextOf (.ref i3) >>= _) _ _ ⟨p2, g, d, tk2, os⟩
    refine wpAny_bind (D3.item i _ _ _ hlt3 (D3.over (D3.over st3' hp1 S.sep1_3) hp2 S.sep2_3) fun x3 p3 tk3 hx3 sn3 hp3 => wpAny_pure ?_)
    replace hp3 : Heap.SameBut i3 p2 p3 := hp3
    refine wpAny_pure (wpAny_pure ?_)
    show wpAny _ _ (newTuple [x1, x2, x3] >>= _) _ _ ⟨p3, g, d, tk3, os⟩
    refine wpAny_bind (wpAny_newTuple ?_)
    have hsz : p3.objs.size = hp.objs.size := by rw [hp3.1, hp2.1, hp1.1, hsq.1]
    have hzz : ZipF p3 z TI TO old' f' := hp3.extBut _ _ S.zi3 (hp2.extBut _ _ S.zi2 (hp1.extBut _ _ S.zi1 hz'))
    have hTz : IsTupOf3 p3 TO a1 a2 a3 := hp3.extBut _ _ S.Ti3 (hp2.extBut _ _ S.Ti2 (hp1.extBut _ _ S.Ti1 hTO'))
    have hkk : ∀ c o, c ≠ z → c ≠ TO → c ≠ i1 → c ≠ i2 → c ≠ i3 → hp.get? c = some o → p3.get? c = some o := fun c o cz cT c1 c2 c3 e => hp3.extBut _ _ c3 (hp2.extBut _ _ c2 (hp1.extBut _ _ c1 (hsq.extBut _ _ cz e)))
    have hj1 : St1 (i + 1) p3 := D1.over (D1.over sn1 hp2 S.sep2_1) hp3 S.sep3_1
    have hj2 : St2 (i + 1) p3 := D2.over sn2 hp3 S.sep3_2
    have up : ∀ c o, p3.get? c = some o → (p3.push { cls := .type "tuple", data := .seq #[x1, x2, x3] }).get? c = some o := fun c o e => Heap.get?_push_of_some _ e
    have hT8 : IsTupOf3 (p3.push { cls := .type "tuple", data := .seq #[x1, x2, x3] }) p3.objs.size x1 x2 x3 := Heap.get?_push_size _ rfl
    refine wpAny_pure ⟨_, rfl, ?_⟩
    show Q (.ref p3.objs.size) _
    rw [hsz] at hT8 ⊢
    exact hQ x1 x2 x3 _ tk3 hx1 hx2 hx3 ⟨old', f', up _ _ hzz, hold'⟩ ⟨_, _, _, up _ _ hTz⟩ (D1.frame _ _ _ hj1 fun b hb o e => up b o e) (D2.frame _ _ _ hj2 fun b hb o e => up b o e) (D3.frame _ _ _ sn3 fun b hb o e => up b o e) hT8 fun c o cz cT c1 c2 c3 e => up c o (hkk c o cz cT c1 c2 c3 e)
theorem z3_end {Q : Fin → Shared → Prop} (S : ZipSep3 z TI TO i1 i2 i3 fp1 fp2 fp3) (D1 : Draws prog w A i1 fp1 n1 P1 St1)
    (hz : Zst s.heap z TI TO) (hTI : IsTupOf3 s.heap TI (.ref i1) (.ref i2) (.ref i3)) (st1 : St1 n1 s.heap)
    (hE : ∀ h' tk e, (∀ c o, c ≠ z → c ≠ TO → c ≠ i1 → c ≠ i2 → c ≠ i3 → s.heap.get? c = some o → h'.get? c = some o) → (∃ o, h'.get? e = some o ∧ o.cls = .type "StopIteration") → E (.ref e) { s with heap := h', toks := tk }) :
    wpAny (model prog w) A (Builtin.«zip.__next__» ⟨[.ref z], []⟩) Q E s := by
  obtain ⟨hp, g, d, tk0, os⟩ := s
  obtain ⟨old, f, hz, hold⟩ := hz
  show wpAny _ _ (field (.ref z) 2 >>= _) _ _ _
  refine wpAny_bind (wpAny_field hz rfl (x := .bool false) rfl ?_)
  show wpAny _ _ (field (.ref z) 3 >>= _) _ _ _
  refine wpAny_bind (wpAny_field hz rfl (x := .ref TI) rfl ?_)
  refine wpAny_bind (wpAny_seqItems hTI rfl ?_)
  show wpAny _ _ (Builtin.SmallTypes.ownedTupleIsFree (.ref z) >>= _) _ _ _
  refine wpAny_bind (free_any ⟨old, f, hz, hold⟩ fun r hq hz' hsq => ?_)
  obtain ⟨old', f', hz', hold'⟩ := hz'
  replace hsq : Heap.SameBut z hp hq := hsq
  replace hz' : ZipF hq z TI TO old' f' := hz'
  have st1' := D1.over st1 hsq S.zf1
  cases r with
  | true =>
    simp only [if_true]
    refine wpAny_bind (wpAny_rule ?_)
    refine wpAny_bind (wpAny_field hz' rfl (x := .ref TO) rfl ?_)
    refine wpAny_bind (wpAny_setField_rec hz' (by simp) fun g0 hz0 hs0 => ?_)
    replace hz0 : ZipF g0 z TI TO .ellipsis f' := hz0
    replace hs0 : Heap.SameBut z hq g0 := hs0
    refine wpAny_bind ?_
    simp only [List.zipIdx_cons, List.zipIdx_nil, List.forIn_cons, List.forIn_nil]
    refine wpAny_bind (wpAny_bind (wpAny_onRaise ?_))
    show wpAny _ _ (Builtin.SmallTypes.nextOf (.ref i1) >>= _) _ _ ⟨g0, g, d, tk0, os⟩
    refine wpAny_bind (D1.done ⟨g0, g, d, tk0, os⟩ _ _ (D1.over st1' hs0 S.zf1) fun q e hq2 he => ?_)
    replace hq2 : Heap.ExtBut i1 g0 q := hq2
    obtain ⟨oe, hoe, hce⟩ := he
    replace hoe : q.get? e = some oe := hoe
    have hzq : ZipF q z TI TO .ellipsis f' := hq2 _ _ S.zi1 hz0
    have hez : e ≠ z := fun x => by subst x; rw [hzq] at hoe; cases hoe; simp at hce
    refine wpAny_setField_rec (s := ⟨q, g, d, tk0, os⟩) hzq (by simp) fun q' _ hq' => ?_
    replace hq' : Heap.SameBut z q q' := hq'
    exact hE q' tk0 e (fun c o cz cT c1 c2 c3 x => hq'.extBut _ _ cz (hq2 _ _ c1 (hs0.extBut _ _ cz (hsq.extBut _ _ cz x)))) ⟨oe, hq'.extBut _ _ hez hoe, hce⟩
  | false =>
    simp only [Bool.false_eq_true, if_false]
    refine wpAny_bind ?_
    rw [← Array.forIn_toList]
    simp only [List.forIn_cons, List.forIn_nil]
    refine wpAny_bind (wpAny_bind (wpAny_holding ?_))
    show wpAny _ _ (Builtin.SmallTypes.nextOf (.ref i1) >>= _) _ _ ⟨hq, g, d, tk0, os⟩
    refine wpAny_bind (D1.done ⟨hq, g, d, tk0, os⟩ _ _ st1' fun q e hq2 he => ?_)
    replace hq2 : Heap.ExtBut i1 hq q := hq2
    exact hE q tk0 e (fun c o cz cT c1 c2 c3 x => hq2 _ _ c1 (hsq.extBut _ _ cz x)) he
theorem pyNext_z3_item {Q : Option Value → Shared → Prop} (S : ZipSep3 z TI TO i1 i2 i3 fp1 fp2 fp3) (D1 : Draws prog w A.in1 i1 fp1 n1 P1 St1) (D2 : Draws prog w A.in1 i2 fp2 n2 P2 St2) (D3 : Draws prog w A.in1 i3 fp3 n3 P3 St3)
    (hz : Zst s.heap z TI TO) (hTI : IsTupOf3 s.heap TI (.ref i1) (.ref i2) (.ref i3)) (hTO : ∃ a1 a2 a3, IsTupOf3 s.heap TO a1 a2 a3) (st1 : St1 i s.heap) (st2 : St2 i s.heap) (st3 : St3 i s.heap) (hlt1 : i < n1) (hlt2 : i < n2) (hlt3 : i < n3)
    (hQ : ∀ x1 x2 x3 h' tk, P1 i x1 → P2 i x2 → P3 i x3 → Zst h' z TI TO → (∃ a1 a2 a3, IsTupOf3 h' TO a1 a2 a3) → St1 (i + 1) h' → St2 (i + 1) h' → St3 (i + 1) h' → IsTupOf3 h' s.heap.objs.size x1 x2 x3 →
      (∀ c o, c ≠ z → c ≠ TO → c ≠ i1 → c ≠ i2 → c ≠ i3 → s.heap.get? c = some o → h'.get? c = some o) → Q (some (.ref s.heap.objs.size)) { s with heap := h', toks := tk }) : wpAny (model prog w) A (pyNext (.ref z)) Q E s := by
  have hT : s.TypeIs (.ref z) "zip" := let ⟨_, _, h, _⟩ := hz; ⟨_, h, rfl⟩
  unfold pyNext
  exact wpAny_bind (wpAny_attempt (wpAny_callSpecial?_slot (name := Str.ofString "__next__") hT F.slot_zip_next
    (wpAny_call_entry F.slot_zip_next hT F.entry_zip_next
      (z3_item S D1 D2 D3 hz hTI hTO st1 st2 st3 hlt1 hlt2 hlt3 fun x1 x2 x3 h' tk y1 y2 y3 b1 b2 d1 d2 d3 b5 b7 => wpAny_pure (hQ x1 x2 x3 h' tk y1 y2 y3 b1 b2 d1 d2 d3 b5 b7)) (F.args_zip_next_1 _))))
theorem pyNext_z3_end {Q : Option Value → Shared → Prop} (S : ZipSep3 z TI TO i1 i2 i3 fp1 fp2 fp3) (D1 : Draws prog w A.in1 i1 fp1 n1 P1 St1)
    (hz : Zst s.heap z TI TO) (hTI : IsTupOf3 s.heap TI (.ref i1) (.ref i2) (.ref i3)) (st1 : St1 n1 s.heap)
    (hQ : ∀ h' tk, (∀ c o, c ≠ z → c ≠ TO → c ≠ i1 → c ≠ i2 → c ≠ i3 → s.heap.get? c = some o → h'.get? c = some o) → Q none { s with heap := h', toks := tk }) : wpAny (model prog w) A (pyNext (.ref z)) Q E s := by
  have hT : s.TypeIs (.ref z) "zip" := let ⟨_, _, h, _⟩ := hz; ⟨_, h, rfl⟩
  unfold pyNext
  refine wpAny_bind (wpAny_attempt (wpAny_callSpecial?_slot (name := Str.ofString "__next__") hT F.slot_zip_next
    (wpAny_call_entry F.slot_zip_next hT F.entry_zip_next (z3_end S D1 hz hTI st1 fun h' tk e hk he => ?_) (F.args_zip_next_1 _))))
  obtain ⟨o, ho, hc⟩ := he
  refine wpAny_bind (wpAny_isInstance (T := "StopIteration") (b := true) ⟨o, ho, hc⟩ isSubtype_stop ?_)
  exact wpAny_pure (hQ _ _ hk)
end
abbrev zt1 (h : Heap) (l1 : Addr) : Heap := h.push { cls := .type "tuple_iterator", data := .fields #[.ref l1, .int 0 0] }
abbrev zt2 (h : Heap) (l1 l2 : Addr) : Heap := (zt1 h l1).push { cls := .type "tuple_iterator", data := .fields #[.ref l2, .int 0 0] }
abbrev zt3 (h : Heap) (l1 l2 l3 : Addr) : Heap := (zt2 h l1 l2).push { cls := .type "tuple_iterator", data := .fields #[.ref l3, .int 0 0] }
abbrev zt4 (h : Heap) (l1 l2 l3 : Addr) : Heap := (zt3 h l1 l2 l3).push { cls := .type "tuple", data := .seq #[.ref h.objs.size, .ref (zt1 h l1).objs.size, .ref (zt2 h l1 l2).objs.size] }
abbrev zt5 (h : Heap) (l1 l2 l3 : Addr) : Heap := (zt4 h l1 l2 l3).push { cls := .type "tuple", data := .seq #[.none, .none, .none] }
abbrev zt6 (h : Heap) (l1 l2 l3 : Addr) : Heap := (zt5 h l1 l2 l3).push { cls := .type "zip", data := .fields #[.none, .bool false, .bool false, .ref (zt3 h l1 l2 l3).objs.size, .ref (zt4 h l1 l2 l3).objs.size] }
theorem meets_z3_new (l1 l2 l3 : Addr) (xs ys zs : Array Value) :
    Meets (Builtin.«zip.__new__» ⟨[.type "zip", .ref l1, .ref l2, .ref l3], []⟩) (fun _ R s => s.heap.IsTuple l1 xs ∧ s.heap.IsTuple l2 ys ∧ s.heap.IsTuple l3 zs ∧
      R (.ok (.ret (.ref (zt5 s.heap l1 l2 l3).objs.size))) { s with heap := zt6 s.heap l1 l2 l3 }) :=
  .of_wp fun prog w A R s h => by
    obtain ⟨hp, g, d, tk, os⟩ := s; obtain ⟨hl1, hl2, hl3, h⟩ := h
    have hsub := sub_zip
    have hL1 : Heap.IsTuple (Shared.heap ⟨hp, g, d, tk, os⟩) l1 xs := hl1
    have hL2 : Heap.IsTuple (Shared.heap ⟨hp.push { cls := .type "tuple_iterator", data := .fields #[.ref l1, .int 0 0] }, g, d, tk, os⟩) l2 ys := Heap.IsTuple.push hl2 _
    have hL3 : Heap.IsTuple (Shared.heap ⟨zt2 hp l1 l2, g, d, tk, os⟩) l3 zs := Heap.IsTuple.push (Heap.IsTuple.push hl3 _) _
    wp_walk using wpAny_pyIter_tuple hL1, wpAny_pyIter_tuple hL2, wpAny_pyIter_tuple hL3
    exact ⟨_, rfl, h⟩
end WD
set_option Elab.async false
set_option linter.all false
set_option maxRecDepth 100000
set_option maxHeartbeats 2000000
namespace WD
open PySem PySem.Spec PyProof.Rows L2
open Sem (wp)
theorem call_z3 {prog : Program} {w : World} {A : Around} {E : Value → Shared → Prop} {s : Shared} {l1 l2 l3 : Addr} {xs ys zs : Array Value} {Q : Value → Shared → Prop} (hl1 : s.heap.IsTuple l1 xs) (hl2 : s.heap.IsTuple l2 ys) (hl3 : s.heap.IsTuple l3 zs)
    (h : ∀ h', Zst h' (s.heap.objs.size + 5) (s.heap.objs.size + 3) (s.heap.objs.size + 4) → IsTupOf3 h' (s.heap.objs.size + 3) (.ref s.heap.objs.size) (.ref (s.heap.objs.size + 1)) (.ref (s.heap.objs.size + 2)) →
      IsTupOf3 h' (s.heap.objs.size + 4) .none .none .none → h'.IsTupleIter s.heap.objs.size l1 0 → h'.IsTupleIter (s.heap.objs.size + 1) l2 0 → h'.IsTupleIter (s.heap.objs.size + 2) l3 0 →
      (∀ c o, s.heap.get? c = some o → h'.get? c = some o) → Q (.ref (s.heap.objs.size + 5)) { s with heap := h' }) :
    wpAny (model prog w) A (call (.type "zip") [.ref l1, .ref l2, .ref l3]) Q E s := by
  refine callType_new F.called_zip (by decide) (F.typeCall_zip_3 _ _ _) (F.newCall_zip_3 _ _ _) (fun obj => F.args_object_init_4 obj _ _ _) F.entry_zip_new
    (meets_z3_new l1 l2 l3 xs ys zs) ⟨hl1, hl2, hl3, ?_⟩
  have z1 : (zt1 s.heap l1).objs.size = s.heap.objs.size + 1 := Heap.size_push ..
  have z2 : (zt2 s.heap l1 l2).objs.size = s.heap.objs.size + 2 := by rw [Heap.size_push, z1]
  have z3 : (zt3 s.heap l1 l2 l3).objs.size = s.heap.objs.size + 3 := by rw [Heap.size_push, z2]
  have z4 : (zt4 s.heap l1 l2 l3).objs.size = s.heap.objs.size + 4 := by rw [Heap.size_push, z3]
  have z5 : (zt5 s.heap l1 l2 l3).objs.size = s.heap.objs.size + 5 := by rw [Heap.size_push, z4]
  have g6 : (zt6 s.heap l1 l2 l3).get? (zt5 s.heap l1 l2 l3).objs.size = some _ := Heap.get?_push_size _ rfl
  have g5 : (zt6 s.heap l1 l2 l3).get? (zt4 s.heap l1 l2 l3).objs.size = some _ := Heap.get?_push_of_some _ (Heap.get?_push_size _ rfl)
  have g4 : (zt6 s.heap l1 l2 l3).get? (zt3 s.heap l1 l2 l3).objs.size = some _ := Heap.get?_push_of_some _ (Heap.get?_push_of_some _ (Heap.get?_push_size _ rfl))
  have g3 : (zt6 s.heap l1 l2 l3).get? (zt2 s.heap l1 l2).objs.size = some _ := Heap.get?_push_of_some _ (Heap.get?_push_of_some _ (Heap.get?_push_of_some _ (Heap.get?_push_size _ rfl)))
  have g2 : (zt6 s.heap l1 l2 l3).get? (zt1 s.heap l1).objs.size = some _ := Heap.get?_push_of_some _ (Heap.get?_push_of_some _ (Heap.get?_push_of_some _ (Heap.get?_push_of_some _ (Heap.get?_push_size _ rfl))))
  have g1 : (zt6 s.heap l1 l2 l3).get? s.heap.objs.size = some _ := Heap.get?_push_of_some _ (Heap.get?_push_of_some _ (Heap.get?_push_of_some _ (Heap.get?_push_of_some _ (Heap.get?_push_of_some _ (Heap.get?_push_size _ rfl)))))
  show _ ∧ _
  rw [z3, z4, z5] at g6
  rw [z1, z2, z3] at g4
  rw [z4] at g5
  rw [z2] at g3
  rw [z1] at g2
  rw [z5]
  exact ⟨⟨_, g6, rfl⟩, h _ ⟨.none, false, g6, .inl rfl⟩ g4 g5 ⟨_, g1, rfl, rfl⟩ ⟨_, g2, rfl, rfl⟩ ⟨_, g3, rfl, rfl⟩ fun c o x =>
    Heap.get?_push_of_some _ (Heap.get?_push_of_some _ (Heap.get?_push_of_some _ (Heap.get?_push_of_some _ (Heap.get?_push_of_some _ (Heap.get?_push_of_some _ x)))))⟩
theorem pyIter_z3 {prog : Program} {w : World} {A : Around} {E : Value → Shared → Prop} {s : Shared} {z TI TO : Addr} {Q : Value → Shared → Prop} (hz : Zst s.heap z TI TO) (h : Q (.ref z) s) : wpAny (model prog w) A (pyIter (.ref z)) Q E s := by
  obtain ⟨old, f, hz, _⟩ := hz
  have hT : s.TypeIs (.ref z) "zip" := ⟨_, hz, rfl⟩
  refine wpAny_pyIter_slot hT F.slot_zip_iter (wpAny_call_entry F.slot_zip_iter hT F.entry_zip_iter ?_ (F.args_zip_iter_1 _))
  show wpAny _ _ (ret (.ref z)) _ _ s
  exact wpAny_pure ⟨_, rfl, "zip", _, hT, F.slot_zip_next.lookup, h⟩
/-- the tuples at a, b, c, the items in new tuples -/
def It3 (K : PySem.W.Frag) (a b c : Addr) : It :=
  ⟨fun i H => ∃ (xs ys zs : List V) (x y z : V), SqT K H a xs ∧ SqT K H b ys ∧ SqT K H c zs ∧ xs[i]? = some x ∧ ys[i]? = some y ∧ zs[i]? = some z,
    fun i H v H' => ∃ T x y z, v = .ref T ∧ H T = none ∧ H' = upd H T (.tup [x, y, z]) ∧ (∀ xs, SqT K H a xs → xs[i]? = some x) ∧ (∀ ys, SqT K H b ys → ys[i]? = some y) ∧ ∀ zs, SqT K H c zs → zs[i]? = some z,
    fun i H => ∃ xs : List V, SqT K H a xs ∧ xs.length ≤ i⟩
theorem turn_z3 {P : Program} {w : World} {K : PySem.W.Frag} {x : Str} {tpos : Pos} {a b c z TI TO i1 i2 i3 : Addr} (S : ZipSep3 z TI TO i1 i2 i3 [i1, a] [i2, b] [i3, c]) (n1 : a ≠ i1) (n2 : b ≠ i2) (n3 : c ≠ i3) :
    Turn P w K (.Name x tpos) (It3 K a b c) [z, TI, TO, i1, i2, i3] z (fun i h => Zst h z TI TO ∧ IsTupOf3 h TI (.ref i1) (.ref i2) (.ref i3) ∧ (∃ u v t, IsTupOf3 h TO u v t) ∧ h.IsTupleIter i1 a i ∧ h.IsTupleIter i2 b i ∧ h.IsTupleIter i3 c i) where
  mem := by simp
  obj := fun i h st q hq => by
    obtain ⟨⟨_, _, hz, _⟩, hTI, ⟨_, _, _, hTO⟩, ⟨o1, e1, _, d1⟩, ⟨o2, e2, _, d2⟩, ⟨o3, e3, _, d3⟩⟩ := st
    have e' : q = z ∨ q = TI ∨ q = TO ∨ q = i1 ∨ q = i2 ∨ q = i3 := by simpa using hq
    rcases e' with e | e | e | e | e | e
    · rw [e]; exact ⟨_, hz, fun v q => nomatch q⟩
    · rw [e]; exact ⟨_, hTI, fun v q => nomatch q⟩
    · rw [e]; exact ⟨_, hTO, fun v q => nomatch q⟩
    · rw [e]; exact ⟨o1, e1, fun v q => by rw [d1] at q; cases q⟩
    · rw [e]; exact ⟨o2, e2, fun v q => by rw [d2] at q; cases q⟩
    · rw [e]; exact ⟨o3, e3, fun v q => by rw [d3] at q; cases q⟩
  keep := fun i h h' st k => by
    obtain ⟨⟨old, f, hz, ho⟩, hTI, ⟨u, v, t, hTO⟩, h1, h2, h3⟩ := st
    exact ⟨⟨old, f, k z (by simp) _ hz, ho⟩, k TI (by simp) _ hTI, ⟨u, v, t, k TO (by simp) _ hTO⟩, h1.at fun o q => k i1 (by simp) o q, h2.at fun o q => k i2 (by simp) o q, h3.at fun o q => k i3 (by simp) o q⟩
  item := by
    intro X hP hw hK hc i pins s σ H E I hf st hg
    subst hP hw hK
    obtain ⟨hz, hTI, hTO, h1, h2, h3⟩ := st
    obtain ⟨xs, ys, zs, x, y, t, hqx, hqy, hqz, hx, hy, ht⟩ := hg
    obtain ⟨its, rv, p, _⟩ := I.tuple hqx
    obtain ⟨its2, rv2, p2, _⟩ := I.tuple hqy
    obtain ⟨its3, rv3, p3, _⟩ := I.tuple hqz
    obtain ⟨u1, hu1, ru1⟩ := rv.get hx
    obtain ⟨u2, hu2, ru2⟩ := rv2.get hy
    obtain ⟨u3, hu3, ru3⟩ := rv3.get ht
    have lt1 : i < its.toArray.size := by have := (List.getElem?_eq_some_iff.mp hu1).1; simpa using this
    have lt2 : i < its2.toArray.size := by have := (List.getElem?_eq_some_iff.mp hu2).1; simpa using this
    have lt3 : i < its3.toArray.size := by have := (List.getElem?_eq_some_iff.mp hu3).1; simpa using this
    have low : ∀ q ∈ [z, TI, TO, i1, i2, i3], q < s.heap.objs.size := fun q hq => by
      obtain ⟨_, _, hz', _⟩ := id hz
      obtain ⟨_, _, _, hTO'⟩ := id hTO
      obtain ⟨_, e1, _⟩ := id h1
      obtain ⟨_, e2, _⟩ := id h2
      obtain ⟨_, e3, _⟩ := id h3
      have e' : q = z ∨ q = TI ∨ q = TO ∨ q = i1 ∨ q = i2 ∨ q = i3 := by simpa using hq
      rcases e' with e | e | e | e | e | e <;> rw [e]
      · exact Heap.lt_size hz'
      · exact Heap.lt_size hTI
      · exact Heap.lt_size hTO'
      · exact Heap.lt_size e1
      · exact Heap.lt_size e2
      · exact Heap.lt_size e3
    have hd := I.ok.hd hc
    refine pyNext_z3_item (i := i) S (Draws.tuple (prog := X.prog) (w := X.w) (A := X.A.in1) hd i1 a n1 its.toArray) (Draws.tuple (prog := X.prog) (w := X.w) (A := X.A.in1) hd i2 b n2 its2.toArray) (Draws.tuple (prog := X.prog) (w := X.w) (A := X.A.in1) hd i3 c n3 its3.toArray) hz hTI hTO ⟨h1, p⟩ ⟨h2, p2⟩ ⟨h3, p3⟩ lt1 lt2 lt3 fun v1 v2 v3 h' tk hv1 hv2 hv3 z' TO' st1 st2 st3 hT hk => ?_
    have ev1 : v1 = u1 := by
      have : its.toArray[i]? = some v1 := hv1
      have e : its[i]? = some v1 := by simpa using this
      rw [hu1] at e; exact (Option.some.inj e).symm
    have ev2 : v2 = u2 := by
      have : its2.toArray[i]? = some v2 := hv2
      have e : its2[i]? = some v2 := by simpa using this
      rw [hu2] at e; exact (Option.some.inj e).symm
    have ev3 : v3 = u3 := by
      have : its3.toArray[i]? = some v3 := hv3
      have e : its3[i]? = some v3 := by simpa using this
      rw [hu3] at e; exact (Option.some.inj e).symm
    subst ev1 ev2 ev3
    refine ⟨_, rfl, ?_⟩
    show wpAny _ _ (pure ()) _ _ _
    have new : ObjOk X.prog X.w (upd H s.heap.objs.size (.tup [x, y, t])) h' s.heap.objs.size (.tup [x, y, t]) :=
      ⟨by show 3 ≤ sizeLine; rw [sizeLine_eq]; decide, [v1, v2, v3], .cons ru1 (.cons ru2 (.cons ru3 .nil)), ⟨_, hT, rfl, _, rfl⟩⟩
    have I1 : Inv X pins σ (upd H s.heap.objs.size (.tup [x, y, t])) { s with heap := h', toks := tk } :=
      I.turnedNew (t' := tk) (ch := [z, TI, TO, i1, i2, i3]) (fun q o hb e => hk q o (fun q' => hb (by simp [q'])) (fun q' => hb (by simp [q'])) (fun q' => hb (by simp [q'])) (fun q' => hb (by simp [q'])) (fun q' => hb (by simp [q'])) e) hf (Nat.le_refl _) new
    refine wpAny_pure ⟨.ref s.heap.objs.size, _, I1, rfl, ⟨_, x, y, t, rfl, I.hok.fresh (Nat.le_refl _), rfl, fun l hl => by rw [I.tuple_inj hl hqx]; exact hx, fun l hl => by rw [I.tuple_inj hl hqy]; exact hy, fun l hl => by rw [I.tuple_inj hl hqz]; exact ht⟩, ⟨z', hk _ _ S.TIz S.TITO S.TIi1 S.TIi2 S.TIi3 hTI, TO', st1.1, st2.1, st3.1⟩, fun q hq => ?_⟩
    rw [upd_ne (Nat.ne_of_lt (low q hq))]
    exact (hf q hq).1
  done := by
    intro X hP hw hK hc i pins s σ H E I hf st hg
    subst hP hw hK
    obtain ⟨hz, hTI, hTO, h1, h2, h3⟩ := st
    obtain ⟨xs, hqx, hx⟩ := hg
    obtain ⟨its, rv, p, _⟩ := I.tuple hqx
    have hl := rv.length
    have e : its.toArray[i]? = none := by simp; omega
    have hd := I.ok.hd hc
    have D : Draws X.prog X.w X.A.in1 i1 [i1, a] i (fun _ _ => True) (fun j h => j = i ∧ h.IsTupleIter i1 a i ∧ h.IsTuple a its.toArray) :=
      ⟨fun _ _ st => let ⟨o, ho, _⟩ := st.2.1; ⟨o, ho⟩, fun _ _ _ st hk => ⟨st.1, st.2.1.at fun o e => hk i1 (by simp) o e, st.2.2.at fun o e => hk a (by simp) o e⟩, fun j s Q E hj st hQ => absurd st.1 (by omega), fun s Q E st hE => wpAny_nextOf_tuple_end hd st.2.1 st.2.2 e hE⟩
    exact pyNext_z3_end S D hz hTI ⟨rfl, h1, p⟩ fun h' tk hk => ⟨rfl, I.turnedL (t' := tk) (ch := [z, TI, TO, i1, i2, i3]) (fun q o hb e =>
      hk q o (fun q' => hb (by simp [q'])) (fun q' => hb (by simp [q'])) (fun q' => hb (by simp [q'])) (fun q' => hb (by simp [q'])) (fun q' => hb (by simp [q'])) e) hf⟩
  self := fun A i s Q E st h => by
    exact pyIter_z3 st.1 h
theorem nin_z3 (n k q a : Nat) (h1 : n + k ≠ q) (h2 : a < n) : n + k ∉ [q, a] := fun h => by
  rcases List.mem_cons.mp h with h | h
  · exact h1 h
  · have := List.mem_singleton.mp h
    omega
theorem sep_z3 (n a b c : Nat) (la : a < n) (lb : b < n) (lc : c < n) : ZipSep3 (n + 5) (n + 3) (n + 4) n (n + 1) (n + 2) [n, a] [n + 1, b] [n + 2, c] :=
  have key : ∀ k j : Nat, k ≠ j → n + k ≠ n + j := fun k j h => by omega
  ⟨key 3 5 (by decide), key 4 5 (by decide), key 3 4 (by decide), key 3 0 (by decide), List.mem_cons_self, nin_z3 n 5 n a (key 5 0 (by decide)) la, nin_z3 n 4 n a (key 4 0 (by decide)) la, key 3 1 (by decide), List.mem_cons_self, nin_z3 n 5 (n + 1) b (key 5 1 (by decide)) lb, nin_z3 n 4 (n + 1) b (key 4 1 (by decide)) lb,
    key 3 2 (by decide), List.mem_cons_self, nin_z3 n 5 (n + 2) c (key 5 2 (by decide)) lc, nin_z3 n 4 (n + 2) c (key 4 2 (by decide)) lc, nin_z3 n 0 (n + 1) b (key 0 1 (by decide)) lb, nin_z3 n 0 (n + 2) c (key 0 2 (by decide)) lc, nin_z3 n 1 n a (key 1 0 (by decide)) la, nin_z3 n 1 (n + 2) c (key 1 2 (by decide)) lc, nin_z3 n 2 n a (key 2 0 (by decide)) la, nin_z3 n 2 (n + 1) b (key 2 1 (by decide)) lb⟩
def iZip3 (K : PySem.W.Frag) (ta : TA) : TI := fun σ H R => ta σ H fun vs H1 => ∃ a b c xs ys zs, vs = [.ref a, .ref b, .ref c] ∧ SqT K H1 a xs ∧ SqT K H1 b ys ∧ SqT K H1 c zs ∧ R (It3 K a b c) H1
theorem pi_zip3 {X : Cx} {e e2 e3 : Expr} {ta : TA} {x : Str} {p pos tpos : Pos} (hg : Gl X "zip") (hm : X.mg "zip" = none) (ha : PA X [e, e2, e3] ta)
    (hs : starEach [e, e2, e3] X.env = (false, eval e X.env) :: starEach [e2, e3] X.env := by rfl) (hpl : (backTo pos (starEach [e2, e3] X.env)).any (·.1) = false := by rfl) :
    PI X (.Name x tpos) (.Call (.Name "zip" p) [e, e2, e3] [] pos) (iZip3 X.K ta) := by
  refine ⟨fun pins s σ H R I h => ?_⟩
  refine Call_ (ld_blt I hg hm PyProof.Rows.boot_zip (PyProof.Rows.callWith_type1 (thn (ha.run pos pins s σ H _ I h) fun us s1 ⟨vs, H1, I1, r1, q1⟩ => ?_) hs hpl))
  obtain ⟨a, b, c, xs, ys, zs, ex, hqx, hqy, hqz, q⟩ := q1
  subst ex
  cases r1 with
  | cons r rr =>
    cases rr with
    | cons r' rr =>
      cases rr with
      | cons r'' rr =>
        cases rr
        cases r
        cases r'
        cases r''
        obtain ⟨its, rv, p1, _⟩ := I1.tuple hqx
        obtain ⟨its2, rv2, p2, _⟩ := I1.tuple hqy
        obtain ⟨its3, rv3, p3, _⟩ := I1.tuple hqz
        have la : a < s1.heap.objs.size := by obtain ⟨o, ho, _⟩ := id p1; exact Heap.lt_size ho
        have lb : b < s1.heap.objs.size := by obtain ⟨o, ho, _⟩ := id p2; exact Heap.lt_size ho
        have lc : c < s1.heap.objs.size := by obtain ⟨o, ho, _⟩ := id p3; exact Heap.lt_size ho
        generalize hn : s1.heap.objs.size = n at *
        refine call_z3 (show s1.heap.IsTuple a its.toArray from p1) (show s1.heap.IsTuple b its2.toArray from p2) (show s1.heap.IsTuple c its3.toArray from p3) fun h' hz hTI hTO h1 h2 h3 hk => ?_
        rw [hn] at hz hTI hTO h1 h2 h3 ⊢
        refine pyIter_z3 (s := { s1 with heap := h' }) hz ?_
        have I2 : Inv X pins σ H1 { s1 with heap := h' } := I1.kept (t' := s1.toks) hk
        have sep : ZipSep3 (n + 5) (n + 3) (n + 4) n (n + 1) (n + 2) [n, a] [n + 1, b] [n + 2, c] := by
          exact sep_z3 n a b c la lb lc
        refine ⟨n + 5, [n + 5, n + 3, n + 4, n, n + 1, n + 2], _, _, H1, rfl, I2, turn_z3 sep (Nat.ne_of_lt la) (Nat.ne_of_lt (Nat.lt_add_right 1 lb)) (Nat.ne_of_lt (Nat.lt_add_right 2 lc)), ⟨hz, hTI, ⟨_, _, _, hTO⟩, h1, h2, h3⟩, fun q hq => ?_, q⟩
        have hle : s1.heap.objs.size ≤ q := by
          rw [hn]
          have e' : q = n + 5 ∨ q = n + 3 ∨ q = n + 4 ∨ q = n ∨ q = n + 1 ∨ q = n + 2 := by simpa using hq
          rcases e' with e | e | e | e | e | e <;> rw [e] <;> first | exact Nat.le_add_right _ _ | exact Nat.le_refl _
        exact I1.fpOk hle (I1.hok.fresh hle)
/-- zip of three tuples of one length, the item under a name -/
theorem src_zip3 {X : Cx} {e e2 e3 : Expr} {ρ : Rho} {x : Str} {p' pos tpos : Pos} {ds es gs : List PyData} (hm : X.mg "zip" = none) (h : EvD X e ρ (.tuple ds)) (h' : EvD X e2 ρ (.tuple es)) (h'' : EvD X e3 ρ (.tuple gs)) (hl : ds.length = es.length) (hl2 : ds.length = gs.length) (hg : Gl X "zip" := by rfl)
    (he : starEach (e :: [e2, e3]) X.env = (false, eval e X.env) :: starEach [e2, e3] X.env := by rfl) (he2 : starEach (e2 :: [e3]) X.env = (false, eval e2 X.env) :: starEach [e3] X.env := by rfl) (he3 : starEach (e3 :: []) X.env = (false, eval e3 X.env) :: starEach [] X.env := by rfl) (hpl : (backTo pos (starEach [e2, e3] X.env)).any (·.1) = false := by rfl) :
    Src X (.Name x tpos) (.Call (.Name "zip" p') [e, e2, e3] [] pos) ρ ds.length (fun i => dD (.tuple [ds.getD i .none, es.getD i .none, gs.getD i .none])) := fun σ H sl R k =>
  iw_of (pi_zip3 hg hm pa_aw he hpl) (aw_of (pa_cons pe_ew (pa_cons pe_ew (pa_cons pe_ew pa_nil he3) he2) he) (ew_mono (h σ H sl) fun v H1 ⟨s1, r1⟩ => ew_mono (h' σ H1 (sl.same s1)) fun v2 H2 ⟨s2, r2⟩ => ew_mono (h'' σ H2 (sl.same (s1.trans s2))) fun v3 H3 ⟨s3, r3⟩ => by
    obtain ⟨a, xs, rfl, h1, hz, hl1, hi⟩ := Rp.tup_inv (Rp.same (s2.trans s3) r1)
    obtain ⟨b, ys, rfl, h2, hz2, hl2', hi2⟩ := Rp.tup_inv (Rp.same s3 r2)
    obtain ⟨c, zs, rfl, h3, hz3, hl3', hi3⟩ := Rp.tup_inv r3
    refine ⟨a, b, c, xs, ys, zs, rfl, SqT.of h1, SqT.of h2, SqT.of h3, k _ _ ((s1.trans s2).trans s3) ⟨fun i H2 s2 hlt => ?_, fun i H2 s2 hle => ?_⟩⟩
    · have hltx : i < xs.length := by omega
      have hlty : i < ys.length := by omega
      have hltz : i < zs.length := by omega
      refine ⟨⟨xs, ys, zs, xs[i], ys[i], zs[i], SqT.of (s2 _ _ h1), SqT.of (s2 _ _ h2), SqT.of (s2 _ _ h3), List.getElem?_eq_getElem hltx, List.getElem?_eq_getElem hlty, List.getElem?_eq_getElem hltz⟩, fun x H' y => ?_⟩
      obtain ⟨p, u, v, t, rfl, hp, rfl, y1, y2, y3⟩ := y
      have e1 := y1 xs (SqT.of (s2 _ _ h1))
      have e1' := y2 ys (SqT.of (s2 _ _ h2))
      have e1'' := y3 zs (SqT.of (s2 _ _ h3))
      refine ⟨same_new hp, _, same_new (s2.free hp), same_upd s2, fun b h1 h2 => by rw [upd_ne (fun z => h1 (by rw [z]; exact hp))]; exact h2, ?_⟩
      have gd : ∀ {l : List PyData} {i : Nat}, i < l.length → l[i]? = some (l.getD i .none) := fun {l i} hi => by rw [List.getElem?_eq_getElem hi, List.getD_eq_getElem?_getD, List.getElem?_eq_getElem hi]; rfl
      exact Rp.tup_new (s2.free hp) (by show 3 ≤ sizeLine; rw [sizeLine_eq]; decide) (.cons (hi i u _ e1 (gd hlt)) (.cons (hi2 i v _ e1' (gd (by omega))) (.cons (hi3 i t _ e1'' (gd (by omega))) .nil)))
    · exact ⟨xs, SqT.of (s2 _ _ h1), by omega⟩))
end WD
set_option Elab.async false
set_option linter.all false
set_option maxRecDepth 100000
set_option maxHeartbeats 4000000
namespace WD
open PySem PySem.Spec PyProof.Rows L2
section
variable {P : Program} {w : World} {K : PySem.W.Frag} {mg : Str → Option Value} {base : Heap}
theorem sc_put : FnScope ["table", "size", "rows", "wide", "one", "other", "things"] ["table", "size", "rows", "wide"] (defScope s_put_together) := ⟨rfl, rfl, rfl, by decide +kernel, rfl, by decide +kernel, by decide +kernel⟩
theorem ok_put {f fd} (Fu : FnD K "put_together" s_put_together f fd) (hm : mg "put_together" = some (.ref f)) (B : Bi mg) (h1 : Kn P w K mg base 1 "spot_of" F_spot_of) : Kn P w K mg base 2 "put_together" F_put := by
  refine kn_of Fu (fn_pure (o := .ret) Fu sc_put ?_ (.inl fun _ => rfl) ?_) hm (fun _ _ _ _ _ _ us hl => match us, hl with | [_, _, _, _], _ => rfl)
  · rintro _ _ ⟨t, n, rows, wd, rfl, _⟩; rfl
  · rintro cdv A outer s H E hr _ _ ⟨t, n, rows, wd, rfl, hn0, hn9, hl1, hl3, hwd, ht, hrow, rfl⟩
    show Bs _ (defBody s_put_together) [some (dD (dRow t)), some (nt n), some (dD (dRows rows)), some (nt wd), none, none, none] _
    refine bs_cons (b1_skip (et_eqR hr.units (rs := rows) (ss := []) (ev_var 2) ev_noRows) (decide_eq_false fun e => by rw [e] at hl1; simp at hl1)) ?_
    have hsp : ∀ k, spot n (rows.map fun r => r.getD k 0) < t.length := fun k => by rw [ht]; exact col_spot_lt hn0 (fun r hr => (hrow r hr).2) k
    rcases rows with _ | ⟨r0, _ | ⟨r1, _ | ⟨r2, _ | ⟨r3, rest⟩⟩⟩⟩
    · simp at hl1
    · clear hl1 hl3
      have h0 := hrow r0 (by simp)
      refine bs_stop (b1_then (et_eqI (i := 1) (j := 1) (ev_len (n := 1) B.len (ev_var 2) rfl) ev_int) (by decide) (bs_one (b1_ret (EvE.to (ev_tuple B.tuple (ev_lc (own := [("one", 4)]) (js := [4]) (f := fun k => .int ((t.getD (r0.getD k 0) 0 : Nat) : Int)) sc_put.nd (src_row (ts := r0) (ev_ixRows (rs := [r0]) (i := 0) (ev_var 2) ev_int (by simp))) (blkOk_by (own := [("one", 4)]) (N := ["table", "size", "rows", "wide", "one", "other", "things"]) (sc := defScope s_put_together) (by decide +kernel))
        (fun _ _ _ _ _ => pgn 4 sc_put.nd) (by simp) (by omega) (fun k hk => tgo_name) (fun k hk s0 H0 C' cl fp => ev_ixRow (ev_var 0) (ev_var 4) (by have := hsp k; simpa [spot] using this)))) ?_))))
      rw [h0.1]
      simp [dRow, put, spot, List.map_map, Function.comp_def]
    · clear hl1 hl3
      have h0 := hrow r0 (by simp)
      have h1' := hrow r1 (by simp)
      refine bs_cons (b1_skip (et_eqI (i := 2) (j := 1) (ev_len (n := 2) B.len (ev_var 2) rfl) ev_int) (by decide)) ?_
      refine bs_stop (b1_then (et_eqI (i := 2) (j := 2) (ev_len (n := 2) B.len (ev_var 2) rfl) ev_int) (by decide) (bs_one (b1_ret (EvE.to (ev_tuple B.tuple (ev_lc (own := [("one", 4), ("other", 5)]) (js := [4, 5]) (f := fun k => .int ((t.getD (r0.getD k 0 * n + r1.getD k 0) 0 : Nat) : Int)) sc_put.nd (src_congr (src_zip (ds := r0.map fun (n : Nat) => PyData.int (n : Int)) (es' := r1.map fun (n : Nat) => PyData.int (n : Int)) B.zip (ev_ixRows (rs := [r0, r1]) (i := 0) (ev_var 2) ev_int (by simp)) (ev_ixRows (rs := [r0, r1]) (i := 1) (ev_var 2) ev_int (by simp)) (by simp [h0.1, h1'.1])) (Y' := fun i => dD (.tuple [.int ((r0.getD i 0 : Nat) : Int), .int ((r1.getD i 0 : Nat) : Int)])) fun i hi => ?_) (blkOk_by (own := [("one", 4), ("other", 5)]) (N := ["table", "size", "rows", "wide", "one", "other", "things"]) (sc := defScope s_put_together) (by decide +kernel))
        (fun _ _ _ _ _ => pg_tup (n := 2) rfl (pgs_cons (pgn 4 sc_put.nd) (pgs_cons (pgn 5 sc_put.nd) pgs_nil))) (by simp) (by simp; omega) (fun k hk => tgo_tupD (n := 2) (tgs_cons (tgs_cons tgs_nil))) (fun k hk s0 H0 C' cl fp => ev_ixRow (i := r0.getD k 0 * n + r1.getD k 0) (ev_var 0) (EvE.to (ev_add (i := ((r0.getD k 0 : Nat) : Int) * (n : Int)) (j := ((r1.getD k 0 : Nat) : Int)) (ev_mul (i := ((r0.getD k 0 : Nat) : Int)) (j := (n : Int)) (ev_var 4) (ev_var 1) (.inr ⟨by omega, by omega⟩)) (ev_var 5)) (by rw [Int.natCast_add, Int.natCast_mul])) (by have := hsp k; simpa [spot] using this)))) ?_))))
      · simp only [List.length_map] at hi
        rw [getD_map _ r0 i 0 _ hi, getD_map _ r1 i 0 _ (by omega)]
      · rw [List.length_map, h0.1]
        simp [dRow, put, spot, List.map_map, Function.comp_def]
    · clear hl1 hl3
      have h0 := hrow r0 (by simp)
      have h1' := hrow r1 (by simp)
      have h2' := hrow r2 (by simp)
      refine bs_cons (b1_skip (et_eqI (i := 3) (j := 1) (ev_len (n := 3) B.len (ev_var 2) rfl) ev_int) (by decide)) ?_
      refine bs_cons (b1_skip (et_eqI (i := 3) (j := 2) (ev_len (n := 3) B.len (ev_var 2) rfl) ev_int) (by decide)) ?_
      refine bs_one (b1_ret (EvE.to (ev_tuple B.tuple (ev_lc (own := [("things", 6)]) (js := [6]) (f := fun k => .int ((t.getD (spot n [r0.getD k 0, r1.getD k 0, r2.getD k 0]) 0 : Nat) : Int)) sc_put.nd (src_congr (src_zip3 (ds := r0.map fun (n : Nat) => PyData.int (n : Int)) (es := r1.map fun (n : Nat) => PyData.int (n : Int)) (gs := r2.map fun (n : Nat) => PyData.int (n : Int)) B.zip (ev_ixRows (rs := [r0, r1, r2]) (i := 0) (ev_var 2) ev_int (by simp)) (ev_ixRows (rs := [r0, r1, r2]) (i := 1) (ev_var 2) ev_int (by simp)) (ev_ixRows (rs := [r0, r1, r2]) (i := 2) (ev_var 2) ev_int (by simp)) (by simp [h0.1, h1'.1]) (by simp [h0.1, h2'.1])) (Y' := fun i => dD (dRow [r0.getD i 0, r1.getD i 0, r2.getD i 0])) fun i hi => ?_) (blkOk_by (own := [("things", 6)]) (N := ["table", "size", "rows", "wide", "one", "other", "things"]) (sc := defScope s_put_together) (by decide +kernel))
        (fun _ _ _ _ _ => pgn 6 sc_put.nd) (by simp) (by simp; omega) (fun k hk => tgo_name) (fun k hk s0 H0 C' cl fp => ev_ixRow (ev_var 0) (ev_call (T := nt (spot n [r0.getD k 0, r1.getD k 0, r2.getD k 0])) h1 (hr.mono (by decide)) (eva_cons (ev_var 6) (eva_cons (ev_var 1) eva_nil)) ⟨_, n, .inl rfl, by omega, rfl⟩) (hsp k)))) ?_))
      · simp only [List.length_map] at hi
        rw [getD_map _ r0 i 0 _ hi, getD_map _ r1 i 0 _ (by omega), getD_map _ r2 i 0 _ (by omega)]
        rfl
      · rw [List.length_map, h0.1]
        simp [dRow, put, List.map_map, Function.comp_def]
    · simp at hl3
end
end WD
set_option Elab.async false
set_option linter.all false
set_option maxRecDepth 100000
set_option maxHeartbeats 4000000
namespace WD
open PySem PySem.Spec PyProof.Rows L2
theorem facts {P : Program} {w : World} {K : PySem.W.Frag} {h : Heap} {mg : Str → Option Value} {f : Addr} (X : K.In h) (G : h.Ns mainGlobals mg) (hfa : mg ("law" : Str) = some (.ref f)) (c : He.SaysD fa fn K) :
    ∃ fd : FuncData, (∀ (s : Shared) (v : Value), BindsTo s fd ⟨[v], []⟩ [("_law_script", v)]) ∧ ∀ base : Heap, K.In base → base.Ns mainGlobals mg → FnOk P w K mg base CX0 9 f fd ["_law_script"] (spLaw K) := by
  obtain ⟨fd0, F0⟩ := c.def_ 0 (d := d_is_whole) rfl
  have g0 := He.glo_ok X G (c.fact 0 (f := .glo "is_whole") rfl)
  obtain ⟨fd1, F1⟩ := c.def_ 1 (d := d_is_thing) rfl
  have g1 := He.glo_ok X G (c.fact 1 (f := .glo "is_thing") rfl)
  obtain ⟨fd2, F2⟩ := c.def_ 2 (d := d_is_name) rfl
  have g2 := He.glo_ok X G (c.fact 2 (f := .glo "is_name") rfl)
  obtain ⟨fd3, F3⟩ := c.def_ 3 (d := d_is_row) rfl
  have g3 := He.glo_ok X G (c.fact 3 (f := .glo "is_row") rfl)
  obtain ⟨fd4, F4⟩ := c.def_ 4 (d := d_cells) rfl
  have g4 := He.glo_ok X G (c.fact 4 (f := .glo "cells") rfl)
  obtain ⟨fd5, F5⟩ := c.def_ 5 (d := d_spot_of) rfl
  have g5 := He.glo_ok X G (c.fact 5 (f := .glo "spot_of") rfl)
  obtain ⟨fd6, F6⟩ := c.def_ 6 (d := d_things_at) rfl
  have g6 := He.glo_ok X G (c.fact 6 (f := .glo "things_at") rfl)
  obtain ⟨fd7, F7⟩ := c.def_ 7 (d := d_is_deed) rfl
  have g7 := He.glo_ok X G (c.fact 7 (f := .glo "is_deed") rfl)
  obtain ⟨fd8, F8⟩ := c.def_ 8 (d := d_check_relation) rfl
  have g8 := He.glo_ok X G (c.fact 8 (f := .glo "check_relation") rfl)
  obtain ⟨fd9, F9⟩ := c.def_ 9 (d := d_graph) rfl
  have g9 := He.glo_ok X G (c.fact 9 (f := .glo "graph") rfl)
  obtain ⟨fd10, F10⟩ := c.def_ 10 (d := d_is_given) rfl
  have g10 := He.glo_ok X G (c.fact 10 (f := .glo "is_given") rfl)
  obtain ⟨fd11, F11⟩ := c.def_ 11 (d := d_is_step) rfl
  have g11 := He.glo_ok X G (c.fact 11 (f := .glo "is_step") rfl)
  obtain ⟨fd12, F12⟩ := c.def_ 12 (d := d_check_steps) rfl
  have g12 := He.glo_ok X G (c.fact 12 (f := .glo "check_steps") rfl)
  obtain ⟨fd13, F13⟩ := c.def_ 13 (d := d_put_together) rfl
  have g13 := He.glo_ok X G (c.fact 13 (f := .glo "put_together") rfl)
  obtain ⟨fd14, F14⟩ := c.def_ 14 (d := d_run) rfl
  have g14 := He.glo_ok X G (c.fact 14 (f := .glo "run") rfl)
  obtain ⟨fd15, F15⟩ := c.def_ 15 (d := d_led_out) rfl
  have g15 := He.glo_ok X G (c.fact 15 (f := .glo "led_out") rfl)
  obtain ⟨fd16, F16⟩ := c.def_ 16 (d := d_check_out) rfl
  have g16 := He.glo_ok X G (c.fact 16 (f := .glo "check_out") rfl)
  obtain ⟨fd17, F17⟩ := c.def_ 17 (d := d_check_many) rfl
  have g17 := He.glo_ok X G (c.fact 17 (f := .glo "check_many") rfl)
  obtain ⟨fd18, F18⟩ := c.def_ 18 (d := d_demands_of) rfl
  have g18 := He.glo_ok X G (c.fact 18 (f := .glo "demands_of") rfl)
  obtain ⟨fd19, F19⟩ := c.def_ 19 (d := d_by_last) rfl
  have g19 := He.glo_ok X G (c.fact 19 (f := .glo "by_last") rfl)
  obtain ⟨fd20, F20⟩ := c.def_ 20 (d := d_stands) rfl
  have g20 := He.glo_ok X G (c.fact 20 (f := .glo "stands") rfl)
  obtain ⟨fd21, F21⟩ := c.def_ 21 (d := d_keeping) rfl
  have g21 := He.glo_ok X G (c.fact 21 (f := .glo "keeping") rfl)
  obtain ⟨fd22, F22⟩ := c.def_ 22 (d := d_argument_rows) rfl
  have g22 := He.glo_ok X G (c.fact 22 (f := .glo "argument_rows") rfl)
  obtain ⟨fd23, F23⟩ := c.def_ 23 (d := d_check_places) rfl
  have g23 := He.glo_ok X G (c.fact 23 (f := .glo "check_places") rfl)
  obtain ⟨fd24, F24⟩ := c.def_ 24 (d := d_table_of) rfl
  have g24 := He.glo_ok X G (c.fact 24 (f := .glo "table_of") rfl)
  obtain ⟨fd25, F25⟩ := c.def_ 25 (d := d_law_draw) rfl
  have g25 := He.glo_ok X G (c.fact 25 (f := .glo "_law_draw") rfl)
  obtain ⟨fd26, F26⟩ := c.def_ 26 (d := d_law_well) rfl
  have g26 := He.glo_ok X G (c.fact 26 (f := .glo "_law_well") rfl)
  obtain ⟨fd27, F27⟩ := c.def_ 27 (d := d_law_all) rfl
  have g27 := He.glo_ok X G (c.fact 27 (f := .glo "_law_all") rfl)
  obtain ⟨fd28, F28⟩ := c.def_ 28 (d := d_law_relation) rfl
  have g28 := He.glo_ok X G (c.fact 28 (f := .glo "_law_relation") rfl)
  obtain ⟨fd29, F29⟩ := c.def_ 29 (d := d_law_relations) rfl
  have g29 := He.glo_ok X G (c.fact 29 (f := .glo "_law_relations") rfl)
  obtain ⟨fd30, F30⟩ := c.def_ 30 (d := d_law_is_kept) rfl
  have g30 := He.glo_ok X G (c.fact 30 (f := .glo "_law_is_kept") rfl)
  obtain ⟨fd31, F31⟩ := c.def_ 31 (d := d_law_made_right) rfl
  have g31 := He.glo_ok X G (c.fact 31 (f := .glo "_law_made_right") rfl)
  obtain ⟨fd32, F32⟩ := c.def_ 32 (d := d_law_spot) rfl
  have g32 := He.glo_ok X G (c.fact 32 (f := .glo "_law_spot") rfl)
  obtain ⟨fd33, F33⟩ := c.def_ 33 (d := d_law_commute) rfl
  have g33 := He.glo_ok X G (c.fact 33 (f := .glo "_law_commute") rfl)
  obtain ⟨fd34, F34⟩ := c.def_ 34 (d := d_law_graphs_right) rfl
  have g34 := He.glo_ok X G (c.fact 34 (f := .glo "_law_graphs_right") rfl)
  obtain ⟨fd35, F35⟩ := c.def_ 35 (d := d_law_right) rfl
  have g35 := He.glo_ok X G (c.fact 35 (f := .glo "_law_right") rfl)
  obtain ⟨fd36, F36⟩ := c.def_ 36 (d := d_law) rfl
  have g36 := He.glo_ok X G (c.fact 36 (f := .glo "law") rfl)
  obtain ⟨fd37, F37⟩ := c.def_ 37 (d := dH_init) rfl
  obtain ⟨fd38, F38⟩ := c.def_ 38 (d := dH_things) rfl
  obtain ⟨fd39, F39⟩ := c.def_ 39 (d := dH_names) rfl
  obtain ⟨fd40, F40⟩ := c.def_ 40 (d := dH_deed) rfl
  obtain ⟨fd41, F41⟩ := c.def_ 41 (d := dH_places) rfl
  have B : Bi mg := ⟨He.free_ok X G (c.fact 37 (f := .free "isinstance") rfl), He.free_ok X G (c.fact 38 (f := .free "int") rfl), He.free_ok X G (c.fact 39 (f := .free "bool") rfl), He.free_ok X G (c.fact 40 (f := .free "tuple") rfl), He.free_ok X G (c.fact 41 (f := .free "str") rfl), He.free_ok X G (c.fact 42 (f := .free "list") rfl), He.free_ok X G (c.fact 43 (f := .free "len") rfl), He.free_ok X G (c.fact 44 (f := .free "all") rfl), He.free_ok X G (c.fact 45 (f := .free "range") rfl), He.free_ok X G (c.fact 46 (f := .free "dict") rfl), He.free_ok X G (c.fact 47 (f := .free "sorted") rfl), He.free_ok X G (c.fact 48 (f := .free "set") rfl), He.free_ok X G (c.fact 49 (f := .free "enumerate") rfl), He.free_ok X G (c.fact 50 (f := .free "zip") rfl), He.free_ok X G (c.fact 51 (f := .free "max") rfl)⟩
  have Cc : Co mg := ⟨He.int_ok X G (c.fact 52 (f := .int "MOST_THINGS" 9) rfl), He.int_ok X G (c.fact 53 (f := .int "MOST_DEEDS" 6) rfl), He.int_ok X G (c.fact 54 (f := .int "MOST_PLACES" 3) rfl), He.int_ok X G (c.fact 55 (f := .int "MOST_WIDE_relations" 12) rfl), He.int_ok X G (c.fact 56 (f := .int "MOST_TABLES" 20000) rfl), He.int_ok X G (c.fact 57 (f := .int "MOST_WIDE_deeds" 81) rfl), He.str_ok X G (c.fact 58 (f := .str "SMALL" "abcdefghijklmnopqrstuvwxyz") rfl)⟩
  have gH := He.glo_ok X G (c.fact 59 (f := .glo "House") rfl)
  have hk : HsK K (He.ga K "House") := ⟨He.cls_ok (c.fact 60 (f := .cls "House") rfl), He.noat_ok (c.fact 62 (f := .noat "House" "size") rfl), He.noat_ok (c.fact 63 (f := .noat "House" "by_name") rfl)⟩
  have mk := He.mkr_ok (c.fact 61 (f := .mkr "House") rfl)
  have m_things := He.meth_ok (c.fact 64 (f := .meth "House" "things") rfl)
  have m_names := He.meth_ok (c.fact 65 (f := .meth "House" "names") rfl)
  have m_deed := He.meth_ok (c.fact 66 (f := .meth "House" "deed") rfl)
  have m_places := He.meth_ok (c.fact 67 (f := .meth "House" "places") rfl)
  have e := hfa.symm.trans g36
  cases e
  have b := FunD.bindsA (ps := ["_law_script"]) F36 fun _ _ _ _ _ _ us hl => match us, hl with | [_], _ => rfl
  refine ⟨fd36, fun s v => b s [v] rfl, fun base _ _ => ?_⟩
  have k_whole := ok_is_whole (P := P) (w := w) (mg := mg) (base := base) F0 g0 B
  have k_thing := ok_is_thing (P := P) (w := w) (mg := mg) (base := base) F1 g1 k_whole
  have k_name := ok_is_name (P := P) (w := w) (mg := mg) (base := base) F2 g2 B Cc
  have k_row := ok_is_row (P := P) (w := w) (mg := mg) (base := base) F3 g3 B k_thing
  have k_cells := ok_cells (P := P) (w := w) (mg := mg) (base := base) F4 g4 B
  have k_spot := ok_spot_of (P := P) (w := w) (mg := mg) (base := base) F5 g5 B
  have k_things := ok_things_at (P := P) (w := w) (mg := mg) (base := base) F6 g6 B
  have k_isdeed := ok_is_deed (P := P) (w := w) (mg := mg) (base := base) F7 g7 B Cc k_name k_whole k_cells k_row
  have k_checkrel := ok_check_relation (P := P) (w := w) (mg := mg) (base := base) F8 g8 B Cc k_whole k_row
  have k_graph := ok_graph (P := P) (w := w) (mg := mg) (base := base) F9 g9 B k_things
  have k_put := ok_put (P := P) (w := w) (mg := mg) (base := base) F13 g13 B k_spot
  have k_led := ok_led_out (P := P) (w := w) (mg := mg) (base := base) F15 g15 B k_checkrel k_cells k_things k_put
  have k_cout := ok_check_out (P := P) (w := w) (mg := mg) (base := base) F16 g16 B k_checkrel k_put
  have k_many := ok_check_many (P := P) (w := w) (mg := mg) (base := base) F17 g17 B Cc k_cells
  have k_args := ok_argument_rows (P := P) (w := w) (mg := mg) (base := base) F22 g22 B k_cells k_things
  have k_dem := ok_demands_of (P := P) (w := w) (mg := mg) (base := base) F18 g18 B k_cells k_things k_spot
  have k_by := ok_by_last (P := P) (w := w) (mg := mg) (base := base) F19 g19 B
  have k_st := ok_stands (P := P) (w := w) (mg := mg) (base := base) F20 g20 B
  have k_keepfn := ok_keeping_fn (P := P) (w := w) (mg := mg) (base := base) F21 B Cc k_whole k_checkrel k_many k_dem k_by k_st k_cells
  have k_keep : KnD P w K mg base 5 "keeping" F_keeping [.int 2000] := by
    obtain ⟨ds, h1, h2⟩ := FunD.binds1 (ps := ["size", "relations", "places", "most"]) F21 3 0 (by intro z; cases z) rfl (fun T kV doc pm an cdv ct us its hu hi => match us, its, hu, hi with | [_, _, _], [_], _, _ => ⟨_, rfl, rfl⟩)
    exact ⟨_, _, _, ds, k_keepfn, g21, F21.kp, h2, h1⟩
  have k_Hthings := ok_Hthings (P := P) (w := w) (mg := mg) (base := base) F38 hk m_things
  have k_Hnames := ok_Hnames (P := P) (w := w) (mg := mg) (base := base) F39 B hk m_names
  have k_Hdeed := ok_Hdeed (P := P) (w := w) (mg := mg) (base := base) F40 hk m_deed
  have k_Hplaces := ok_Hplaces (P := P) (w := w) (mg := mg) (base := base) F41 hk m_places k_Hdeed
  have k_given := ok_is_given (P := P) (w := w) (mg := mg) (base := base) F10 g10 B k_whole
  have k_step := ok_is_step (P := P) (w := w) (mg := mg) (base := base) F11 g11 B hk k_given k_Hnames k_Hplaces k_whole
  have k_csteps := ok_check_steps (P := P) (w := w) (mg := mg) (base := base) F12 g12 B k_step
  have k_run := ok_run (P := P) (w := w) (mg := mg) (base := base) F14 g14 B k_Hdeed k_Hthings k_put
  have k_cpl := ok_check_places (P := P) (w := w) (mg := mg) (base := base) F23 g23 Cc k_whole k_cells k_Hthings
  have k_table := ok_table_of (P := P) (w := w) (mg := mg) (base := base) F24 g24 k_cpl k_csteps k_cells k_Hthings k_run k_args
  have k_initfn := ok_Hinit (P := P) (w := w) (mg := mg) (base := base) F37 B Cc hk k_whole k_isdeed
  have k_house : C8.Mak P w K mg base 5 "House" (He.ga K "House") (spInit (He.ga K "House")) [] :=
    ⟨_, _, _, [], mk, k_initfn, gH, FunD.bindsN F37 (fun _ _ _ _ _ _ us hl => match us, hl with | [_, _, _], _ => rfl), .nil⟩
  have k_draw := ok_draw (P := P) (w := w) (mg := mg) (base := base) F25 g25
  have k_well : KnN P w K mg base 1 "_law_well" := ⟨_, _, _, ok_well (P := P) (w := w) (mg := mg) (base := base) F26 B, g26, F26.kp, FunD.bindsN F26 (fun _ _ _ _ _ _ us hl => match us, hl with | [_, _], _ => rfl)⟩
  have k_lall := ok_lall (P := P) (w := w) (mg := mg) (base := base) F27 g27 B
  have k_lspot := ok_lspot (P := P) (w := w) (mg := mg) (base := base) F32 g32 B
  have k_iskept := ok_iskept (P := P) (w := w) (mg := mg) (base := base) F30 g30 k_led k_cout
  have k_comm := ok_commute (P := P) (w := w) (mg := mg) (base := base) F33 g33 B k_lall k_lspot
  have k_rel := ok_relation (P := P) (w := w) (mg := mg) (base := base) F28 g28 B k_draw
  have k_rels := ok_relations (P := P) (w := w) (mg := mg) (base := base) F29 g29 B k_draw k_rel
  have k_made := ok_made (P := P) (w := w) (mg := mg) (base := base) F31 g31 B k_draw k_house k_table
  have k_graphs := ok_graphs (P := P) (w := w) (mg := mg) (base := base) F34 g34 B k_draw k_led k_graph k_comm
  have k_right := ok_right (P := P) (w := w) (mg := mg) (base := base) F35 g35 B k_draw k_rels k_keep k_args k_made k_graphs k_rel k_led k_lall k_iskept
  exact ok_law (P := P) (w := w) (mg := mg) (base := base) F36 B k_right k_well
end WD
open PySem PySem.W PySem.Calls PyProof.Rows
theorem PySem.Challenge.cw_wishdeeds_k37_whole_keepers_together_holds : PySem.Challenge.rw_wishdeeds_k37_whole_keepers_together.Holds := by
  w_on; o_law
  refine HandSHeadRun.head_any (r := OpenLaw.row PySem.Challenge.rw_wishdeeds_k37_whole_keepers_together) (q := view (OpenLaw.row PySem.Challenge.rw_wishdeeds_k37_whole_keepers_together).prog [60]) (H := WD.hk) (ob := WD.ob) (M := 8000) (loose := WD.lo) (d := HandSHeadRun.topDef (OpenLaw.row PySem.Challenge.rw_wishdeeds_k37_whole_keepers_together).prog 60) (kwd := []) WD.ob_eq
    (by kernel_rfl) (fun s => by kernel_rfl) WD.run_eq (by kernel_rfl) (by kernel_rfl) (by kernel_rfl) (by rfl) (by first | assumption | decide +kernel) (by decide +kernel) ⟨rfl, rfl, rfl, rfl, rfl, by decide +kernel⟩ ?hw ?hc
  case hw => w_witness2
  case hc =>
    refine L2.walk_ofE (l := PySem.Challenge.rw_wishdeeds_k37_whole_keepers_together) (n := 63) (k := 9) (x := "_law_script") (CX := L2.CX0) rfl (by decide) (by kernel_rfl) ⟨rfl, by decide, by decide⟩ ?F (fun _ _ _ _ z => z)
    intro w mg fa h Y G hmg0
    obtain ⟨K, KX, c⟩ := Y
    have hmg : mg ("law" : PySem.Str) = some (.ref fa) := by
      have e : (HandSHeadRun.topDef (OpenLaw.row PySem.Challenge.rw_wishdeeds_k37_whole_keepers_together).prog 60).name = ("law" : PySem.Str) := by kernel_rfl
      rw [← e]
      exact hmg0
    obtain ⟨fd, hb, hF⟩ := WD.facts (P := (PySem.Challenge.rw_wishdeeds_k37_whole_keepers_together).prog) (w := w) KX G hmg c
    exact ⟨K, fd, WD.spLaw K, KX, hb, fun H a ns hl _ hS => ⟨a, ns, rfl, hS, by omega, fun _ => rfl⟩, hF⟩

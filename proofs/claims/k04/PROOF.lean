import PyProof.Rows.All
import Wide.All
import OpenK.AllK
import Wide.FinOn
import HandS.HeadHook1
import HandS.HeadHook2
import HandS.HeadHook3
import HandS.HeadHook4
import HandS.ExcInit
import KE.KStateDown
import Lean
import HandS.Base
import HandS.Call
import HandS.Ends
import HandS.More
import HandS.Words
import HandS.WordsExc
import HandS.Defaults
import HandS.Head0
import HandS.Head1
import HandS.Head2
import HandS.HeadEnd
import PySem.Challenge.RW_crewpay_k04_what_are_pages
import HandS.ForMost
import HandS.Set
import HandS.SetFor
import HandS.ForExc
import HandS.Flow
import HandS.IsInst
import HandS.Wide
import HandS.WideBits
import HandS.TupAny
import HandS.Deep
import HandS.SortInts
import HandS.CallSlots
import KE.SortData
import HandS.Style
import HandS.HotCalls
import HandS.ExcCtx
import HandS.ExcIs
import HandS.TupSets
import KE.KDictCopyH
import HandS.Conv
import KE.GoesMore
import HandS.Iter
import HandS.Codes
set_option Elab.async false
set_option linter.all false
set_option maxRecDepth 100000
set_option maxHeartbeats 3200000
open PySem.W renaming Frag → b0, view → a0Z, dataLe → a1F, AllAlike → a12, EachIs → a2g, keepIn → a2h, kitOne → a64, exmOne → b0I, boot_heap → b1A, openGood → b4v, SharedT → b6j, recOk → c3L, nsIn → c73, xlAt → c74, Sortable → c8O, dataKind → d0Q, sortingHeap → d07, findIn → d3C, keyToksAll → d5k, alike → d53, subIn → d54, Hook → d8V, dataKind_inv → d8Z
open L2 renaming pa_cons → c6, tCons → d4, pe_int → d7, pa_nil → d8, defScope → e8, pss_cons → f6, tVar → g9, pss_one → k9, ix_seq → n8, tNil → p7, tCall → r6, gName → v4, pe_op → v5, pe_str → v6, defBody → v7, ps_ret → v9, FnScope → w6, pt_cmpR → w9, defArgs → y6, pe_ix → z6, pss_nil → a0a, nomark → a0d, pe_callB → a0f, ps_set → a0j, pe_glob → a0o, upd_same → a0I, tSeq → a0P, tTest → a1e, pe_lst → a1f, ps_expr → a1k, pg_name → a1r, ps_if → a1s, upd_ne → a1P, call_len → a11, tNext → a15, blkOk_by → a2c, St → a2W, op_eqD → a3g, tCallS → a3h, pe_callTy → a3o, tRet → a3p, ne_of_none → a3v, tAsg → a3w, op_pow → a3O, pt_not → a3P, wp_if_neg → a41, pe_andT → a5c, wipe_length → a5d, tDrop → a5v, call_tuple_of → a5K, pe_cmpR → a5L, tIfS → a6h, Same → a6j, pe_bl → a6K, pts_nil → a6L, pe_tup → a68, keyIs_shape → a8s, rest → a9X, pi_range1 → b1B, tLst → b1C, mixKind → b2S, op_mulW → b2T, pps_cons → b2U, pe_one → b4w, tAndT → b45, op_neD → b6m, pw_or1 → b6n, op_fdivW → b8I, liveOf → b9O, keyIs → c3Q, pe_lc → c3R, pw_or → c3S, set_list → c3T, tYes → c3U, wp_if_pos → c3V, rEqD → c5O, op_sub → c75, tNot → c77, op_mod → d05, po_some → d06, oAt_set_ne → d5l, ps_asg → d5m, tTup → d5n, wipe → d5o, pts_one → d57, CallR → d8N, call_list_of → d8X, iRng1 → d80, mt_append → d81, pg_sub → d82
open PySem renaming PyData → c9, Value → f8, wpAny_bind → g4, World → i3, wpAny_pure → m4, sizeLine → m8, FuncData → n6, Addr → t5, starEach → z7, Shared → a0h, sizeLine_eq → a0V, wpAny_holding → a1I, Program → a2x, Paired → a3n, wpAny → a32, wpAny_setState_of → a4q, SetTable → a5J, model → a6J, scanBound → a69, cLine → a9H, wpAny_storeSet_of → b1D, importedModules → b6l, compEnvC → b8H, Around → b9L, Heap → b9M, wpAny_seqItems → b9P, cellsFrom → c3O, compareOp → c3P, OsState → c5V, fits_of_scanBound → c5Y, ofAClassStatement → c5Z, wpAny_rule → c50, setAddHashed → c76, wpAny_forIn_list → c8P, Reads → d02, backTo → d03, codeAny_builtin → d04, eval → d3p, intText? → d3D, wpAny_listPart → d3F, ReadsAll → d55, codeAny_mono → d8Y, wpAny_eqIsQuiet_tuple → d83, wpAny_typeOf → d84
open List renaming mem_cons_of_mem → e7, mem_map → e9, replicate → f7, mem_cons_self → f9, length_map → g8, getElem?_eq_getElem → j6, getElem?_eq_some_iff → j7, map_cons → j8, getElem?_set_ne → k8, getElem?_set_self → m5, mem_singleton_self → n3, mem_cons → o9, length_set → p8, all_eq_true → t0, length_cons → t4, getElem?_eq_none → t6, mem_append → v0, mem_of_getElem? → w8, map_map → y5, getElem?_map → a0b, mem_append_left → a0E, nil_append → a0L, append_nil → a01, nodup_cons → a02, length_append → a1h, range → a1p, mem_map_of_mem → a1x, mem_singleton → a1Z, filter_cons → a2J, mem_append_right → a2K, getElem?_append_left → a2Q, pairwise_map → a2X, map_congr_left → a3j, mem_range → a3u, find?_cons → a30, mem_of_mem_take → a4y, getElem_of_mem → a5a, mem_nil_iff → a7y, mem_of_mem_drop → a7X, getD_eq_getElem?_getD → a9F, getElem?_append_right → a9G, all_map → a9W, nodup_nil → b0H, filterMap_cons_some → b1y, getElem?_cons_zero → b2O, getElem?_replicate → b2P, length → b2Q, getElem_mem → b4t, length_take → b4u, length_filter_le → b6g, length_singleton → b6h, mem_filter → b6i, filterMap_cons → c12, mergeSort_perm → c13, any_cons → c3H, pairwise_cons → c3I, ext_getElem? → c5S, size_toArray → c5T, any_eq_true → c8J, length_drop → c8K, not_mem_nil → c8L, take_length → c8M, map → d0P, map_append → d0Y, map_id → d0Z, perm_append_singleton → d3n, drop_eq_getElem_cons → d3B, length_erase_of_mem → d5e, getElem?_cons_succ → d51, drop_eq_nil_of_le → d8k, filter_eq_nil_iff → d8l, length_pos_of_mem → d8m, map_nil → d8Q, singleton_append → d8R, take_append_drop → d8S, mem_erase_of_ne → e0m
open PySem.PyData renaming eqv → j3, int → m9, str → y4, bool → a0M, strOk → a1c, eqvAll → a1j, depth → a1M, depthAll → a1N, canLay0 → a2f, tuple → a3f, canLayAll0 → a6I
open Bool renaming and_eq_true → j5, false_eq_true → a0n, true_and → a0s, false_and → a2e, not_true → a5I, false_ne_true → a9S, eq_iff_iff → b6e, and_false → d3x, not_false → d3y, and_eq_true_iff → e0l
open He renaming glo_ok → m6, DefD → z4, ga → a0J, free_ok → a2I, int_ok → b6f
open L2N renaming takes_of → r4, CX → y3, Takes → d8P
open PySem.Heap renaming get?_push_of_some → r8, get?_push_size → a1a, size_push → a63, lt_size → a66, SameBut → a9V
open Option.some renaming inj → r9, injEq → a0l
open PySem.Str renaming ofString → s0, ofString → a0H, ofString_eq_toList → a6k, length → c5X
open Array renaming length_toList → t9, getElem?_toList → a65, all_eq_true' → c3G, getD_eq_getD_getElem? → d0W
open PySem.SetTable renaming bits → z9, grown → a0O, below → a1G, turns → a1H, sizeAbove → a3N, insertAt → c5W, Probe → d3E, fill → d56
open PySem.SeqAt renaming shaped → a0g
open Nat renaming le_trans → a0y, le_refl → a1i, zero_le → a5b, ne_of_lt → a67, lt_succ_of_lt → b1z, le_of_eq → c72, le_add_right → c8N, le_succ → d00, lt_succ_iff → d01, add_le_add_right → e0n
open PySem.F renaming plainAttrs_list → a0z, called_set → a10, slot_list_append → a5s, type_list_append → a5t, excBase_ValueError → d3o, slot_list_extend → d5f, slot_list_insert → d5g, type_list_extend → d5h, type_list_insert → d5i, slot_dict_get → d8T
open Option renaming map_some → a0A, map_eq_none_iff → d8n
open HandSHeadRun renaming topDef → a0K, looksF → a8q, RunEq → a9T, seenQ → a9U
open Int renaming emod_lt_of_pos → a0Y, emod_nonneg → a1L, toNat_natCast → c5Q, le_trans → d8O
open PySem.Value renaming ref → a1O, type → d5j
open Prod.mk renaming injEq → a3k
open Prod renaming snd → a3l, fst → b2R
open PySem.PassesOwn renaming never → a31
open Eq renaming trans → a4o
open PyProof.Rows renaming sortedHeap → a4p, seqObj → a7a
open PyProof.Rows.F renaming plain_set_update_loop → a40, entry_set_update_loop → b9N
open PySem.W.OpenLaw renaming row → a6H
open PySem.Heap.SameBut renaming update → a8r
open Classical renaming byContradiction → b0G
open L2.V renaming ref → b6k
open L2.PW renaming pt → b8L
open PySem.Paired renaming length → c3J
open PySem.W.KFB renaming if_not → c3K
open PySem.Txt renaming join → c3M
open L2.Vals renaming ref1 → c3N
open List.Pairwise renaming nil → c5R
open PySem.Obj renaming putSet → c5U
open PySem.Builtin.List renaming listSubscript? → d0X, listAllItems → d3z, listSameRef → d5c
open PySem.Calls renaming call_function_entry → d3A
open Char renaming toNat → d5d
open PySem.W.Sortable renaming others → d52
open PySem.SetTable.layClean renaming free → d8o
open PySem.W.Frag.In renaming keeps → d8U
open PySem.SeqAt.ReadsAll renaming length → d8W
open PySem.Around renaming under_plainId → e0k
namespace Aq
open PySem PySem.Spec PyProof.Rows L2 Da
section
open He
def kNs:List Str:=["NoArticles", "NoMan", "NoPage", "NoPages", "NoRank", "NoRow", "NoSum", "NoText", "NotThere", "NothingLeft", "TooMany", "Twice"]
def kYs:List Str:=["Faulty", "NoArticles", "NoMan", "NoPage", "NoPages", "NoRank", "NoRow", "NoSum", "NoText", "NotThere", "NothingLeft", "TooMany", "TooMuch", "Twice", "ValueError"]
abbrev evK (K:b0):Str → f8:=fun x=>.ref (a0J K x)
def excB (K:b0) (x:Str):Bool :=
 eqO (d3C K (.ref (ga K x)) "__getattribute__") (some (some (.builtin "BaseException.__getattribute__"))) &&
 (eqO (d3C K (.ref (ga K x)) "__getattr__") (some none) &&
 (decide (d54 K (.ref (ga K x)) (.type "BaseException") = some true) &&
 (PySem.W.hasDictIn K (ga K x) &&
 (eqO (d3C K (.ref (ga K x)) "__class__") (some (some (.builtin "object.__class__"))) &&
 (eqO (PySem.W.specialIn K (.builtin "object.__class__") "__get__") (some (some (.builtin "getset_descriptor.__get__"))) &&
 (decide (PySem.W.takesIn K (.builtin "object.__class__") = some true) &&
 decide (PySem.W.mroIn K (ga K x) (.type "object") = some true)))))))
def cvK (K:b0) (y:Str):f8:=if y = "ValueError" then .type "ValueError" else .ref (ga K y)
def d38 (K:b0) (ns ys:List Str):Bool:=ns.all fun x=>excB K x && (decide (b0I K (.ref (ga K x)) (.ref (ga K "WageError")) = some true) && ys.all fun y=>decide (a64 K (.ref (ga K x)) (cvK K y) = some (x == y || y == "ValueError")))
def b72 (tab:List (Str × Int)) (z:Str):Option Int:=(tab.find? fun p=>decide (p.1 = z)).map (·.2)
def tabB (K:b0) (a:t5) (tab:List (Str × Int)):Bool:=tab.all fun q=>match c73 K a q.1,b72 tab q.1 with
 | some (some (.int u _)),some i=>decide (u = i)
 | _,_=>false
def d4I:List Str → List f8 → Bool
 | [],[]=>true
 | x :: xs,.str y _ :: vs=>decide (y = x) && d4I xs vs
 | _,_=>false
def d7d (K:b0) (a:t5) (xs:List Str):Bool:=match K.lookup a with
 | some ⟨.type c,_,.seq its _,_⟩=>decide (c = "tuple") && (d4I xs its.toList && decide (its.size ≤ 100))
 | _=>false
def obsF (n:Nat) (fa:List Fa) (fn:List DefD) (ts:List Tab) (ex:b0 → Bool) (g:t5 → Option Obj):Bool × AlT:=(ex (frG g (asD g n)),obsTG n fa fn ts g)
def hookF (n:Nat) (fa:List Fa) (fn:List DefD) (ts:List Tab) (ex:b0 → Bool):d8V where
 α:=Bool × AlT
 obs:=fun s=>obsF n fa fn ts ex s.heap.get?
 val:=fun w=>(true,valT fn ts w)
 says:=fun w h=>∃ K:b0,K.In h ∧ SaysT fa fn ts w K ∧ ex K = true
 of:=fun _ _ e=>⟨_,frG_in,congrArg a3l e,congrArg b2R e⟩
 keeps:=fun _ _ _ ⟨K,hK,c⟩ k=>⟨K,d8U hK k,c⟩
theorem obsF_eq {n:Nat} {fa:List Fa} {fn:List DefD} {ts:List Tab} {ex:b0 → Bool} {g:t5 → Option Obj} {s:a0h} (h:∀ a,g a = s.heap.get? a):obsF n fa fn ts ex g = (hookF n fa fn ts ex).obs s:=by
 have e:g = s.heap.get?:=funext h
 rw [e] <;> rfl
end
end Aq
namespace Aq
open PySem PySem.Spec PyProof.Rows L2 Da
end Aq
namespace Aq
open PySem PySem.Spec PyProof.Rows L2
end Aq
set_option maxHeartbeats 0
namespace Aq
open PySem PySem.Spec PyProof.Rows L2 Da
section
open He
/-- as hookF, over written addresses -/
def obsL (as:List t5) (fa:List Fa) (fn:List DefD) (ts:List Tab) (ex:b0 → Bool) (g:t5 → Option Obj):Bool × AlT:=(ex (frG g as),obsT fa fn ts (frG g as))
def d9q (as:List t5) (fa:List Fa) (fn:List DefD) (ts:List Tab) (ex:b0 → Bool):d8V where
 α:=Bool × AlT
 obs:=fun s=>obsL as fa fn ts ex s.heap.get?
 val:=fun w=>(true,valT fn ts w)
 says:=fun w h=>∃ K:b0,K.In h ∧ SaysT fa fn ts w K ∧ ex K = true
 of:=fun _ _ e=>⟨_,frG_in,congrArg a3l e,congrArg b2R e⟩
 keeps:=fun _ _ _ ⟨K,hK,c⟩ k=>⟨K,d8U hK k,c⟩
theorem d7j {as:List t5} {fa:List Fa} {fn:List DefD} {ts:List Tab} {ex:b0 → Bool} {g:t5 → Option Obj} {s:a0h} (h:∀ a,g a = s.heap.get? a):obsL as fa fn ts ex g = (d9q as fa fn ts ex).obs s:=by
 have e:g = s.heap.get?:=funext h
 rw [e] <;> rfl
theorem d91 {σ:Type} {E:Option σ} {k:σ → b0} {fa:List Fa} {fn:List DefD} {ts:List Tab} {ex:b0 → Bool} {w:i3} (h1:E.map (fun s=>(ex (k s),fa.all fun f=>f.ok (k s))) = some (true,true))
  (h2:E.map (fun s=>(fn.all fun d=>d.ok (k s),fn.map fun d=>fnW (k s) d.at_,ts.map fun t=>dicW (k s) (t.1 (k s)))) = some (true,fn.map DefD.val,ts.map fun t=>some (keysIn w.params t.2))):E.map (fun s=>(ex (k s),obsT fa fn ts (k s))) = some (true,valT fn ts w):=by
 cases E with
 | none=>cases h1
 | some s =>
  simp only [a0A,a0l,a3k] at h1 h2
  unfold obsT obsD valT valD
  rw [a0A,h1.1,h1.2,h2.1,h2.2.1,h2.2.2]
  rfl
end
end Aq
namespace Cw
open PySem PySem.Spec PyProof.Rows L2 Aq
def top (i:Nat):Stmt:=PySem.Challenge.pw_crewpay_k04_what_are_pages.main.body.getD i (.Pass ⟨0,0,0,0⟩)
def nm0:List Str:=["WageError", "NoArticles", "NoPages", "NoPage", "NoRank", "NoSum", "NoMan", "Faulty", "TooMuch", "Twice", "TooMany", "NotThere", "NothingLeft", "NoText", "NoRow", "divisor", "lowest", "plus", "below", "whole", "MOST_RANKS", "MOST_CHESTS", "MOST_PENCE", "MOST_PART", "LETTERS", "is_within", "is_name", "is_tuple", "are_rows", "is_articles"]
def nm1:List Str:=["need_articles", "pays_of", "MOST_DAY", "MOST_TIMES", "MOST_PAGES", "LENGTHS", "TURNS", "is_day", "is_sum_page", "is_page", "are_pages", "need_pages", "names_in", "men", "share_by", "chests_at", "turns_of", "two_days", "gone_through", "faults_of", "losses", "faults_of_ship", "faults", "need_man", "need_sound", "stints_of", "on_books", "ranked_rows", "without", "until"]
def nm2:List Str:=["put_together", "paid_rows", "paid_days", "HAD", "sendings_of", "singles_of", "ledger_of", "earned_in", "often", "had_in", "left_in", "earned", "had", "left", "sent_on", "next_from", "next_sent", "when_earned", "drawn_to", "first_beyond", "items_on", "by_bearers", "borne_of", "paid_off", "breaks_of", "drawn_within", "pieces_from", "days_from", "can_send", "room"]
def nm3:List Str:=["first_below", "first_over", "need_both", "rank_at", "unlike_rows", "ranks_unlike", "singles_unlike", "toggles_of", "sendings_unlike", "sums_unlike", "first_unlike", "_law_kind_of", "_law_draws", "_law_draw", "_law_names", "_law_articles", "_law_turn_pages", "_law_sum_page", "_law_any_order", "_law_pages", "_law_near_book", "_law_far_book", "_law_book", "_law_thing", "_law_otherwise", "_law_within", "_law_is_name", "_law_is_page", "_law_are_pages", "_law_men"]
def nm4:List Str:=["_law_asked", "_law_refusal"]
def names:List Str:=nm0 ++ nm1 ++ nm2 ++ nm3 ++ nm4
def b4z:z4:=⟨("_law_draws",none), "_law_draws", "_law_draws",y6 (top 113),v7 (top 113),e8 (top 113),[],[]⟩
def b6x:z4:=⟨("_law_draw",none), "_law_draw", "_law_draw",y6 (top 114),v7 (top 114),e8 (top 114),[],[]⟩
def b4A:z4:=⟨("_law_names",none), "_law_names", "_law_names",y6 (top 115),v7 (top 115),e8 (top 115),[],[]⟩
def a8C:z4:=⟨("_law_articles",none), "_law_articles", "_law_articles",y6 (top 116),v7 (top 116),e8 (top 116),[],[]⟩
def a7c:z4:=⟨("_law_turn_pages",none), "_law_turn_pages", "_law_turn_pages",y6 (top 117),v7 (top 117),e8 (top 117),[],[]⟩
def a8E:z4:=⟨("_law_sum_page",none), "_law_sum_page", "_law_sum_page",y6 (top 118),v7 (top 118),e8 (top 118),[],[]⟩
def a7Y:z4:=⟨("_law_any_order",none), "_law_any_order", "_law_any_order",y6 (top 119),v7 (top 119),e8 (top 119),[],[]⟩
def b4B:z4:=⟨("_law_pages",none), "_law_pages", "_law_pages",y6 (top 120),v7 (top 120),e8 (top 120),[],[]⟩
def a70:z4:=⟨("_law_near_book",none), "_law_near_book", "_law_near_book",y6 (top 121),v7 (top 121),e8 (top 121),[],[]⟩
def a8D:z4:=⟨("_law_far_book",none), "_law_far_book", "_law_far_book",y6 (top 122),v7 (top 122),e8 (top 122),[],[]⟩
def b6w:z4:=⟨("_law_book",none), "_law_book", "_law_book",y6 (top 123),v7 (top 123),e8 (top 123),[],[]⟩
def b4C:z4:=⟨("_law_thing",none), "_law_thing", "_law_thing",y6 (top 124),v7 (top 124),e8 (top 124),[],[]⟩
def a71:z4:=⟨("_law_otherwise",none), "_law_otherwise", "_law_otherwise",y6 (top 125),v7 (top 125),e8 (top 125),[],[]⟩
def b9X:z4:=⟨("is_tuple",none), "is_tuple", "is_tuple",y6 (top 30),v7 (top 30),e8 (top 30),[],[]⟩
def c30:z4:=⟨("is_name",none), "is_name", "is_name",y6 (top 29),v7 (top 29),e8 (top 29),[],[]⟩
def b9W:z4:=⟨("are_rows",none), "are_rows", "are_rows",y6 (top 31),v7 (top 31),e8 (top 31),[],[]⟩
def b6A:z4:=⟨("is_within",none), "is_within", "is_within",y6 (top 28),v7 (top 28),e8 (top 28),[],[]⟩
def b1O:z4:=⟨("is_articles",none), "is_articles", "is_articles",y6 (top 32),v7 (top 32),e8 (top 32),[],[]⟩
def a8F:z4:=⟨("need_articles",none), "need_articles", "need_articles",y6 (top 33),v7 (top 33),e8 (top 33),[],[]⟩
def c8c:z4:=⟨("is_day",none), "is_day", "is_day",y6 (top 41),v7 (top 41),e8 (top 41),[],[]⟩
def b1P:z4:=⟨("is_sum_page",none), "is_sum_page", "is_sum_page",y6 (top 42),v7 (top 42),e8 (top 42),[],[]⟩
def c31:z4:=⟨("is_page",none), "is_page", "is_page",y6 (top 43),v7 (top 43),e8 (top 43),[],[]⟩
def b6y:z4:=⟨("are_pages",none), "are_pages", "are_pages",y6 (top 44),v7 (top 44),e8 (top 44),[],[]⟩
def b1N:z4:=⟨("_law_within",none), "_law_within", "_law_within",y6 (top 126),v7 (top 126),e8 (top 126),[],[]⟩
def a9Y:z4:=⟨("_law_is_name",none), "_law_is_name", "_law_is_name",y6 (top 127),v7 (top 127),e8 (top 127),[],[]⟩
def a9Z:z4:=⟨("_law_is_page",none), "_law_is_page", "_law_is_page",y6 (top 128),v7 (top 128),e8 (top 128),[],[]⟩
def a7Z:z4:=⟨("_law_are_pages",none), "_law_are_pages", "_law_are_pages",y6 (top 129),v7 (top 129),e8 (top 129),[],[]⟩
def b4E:z4:=⟨("need_pages",none), "need_pages", "need_pages",y6 (top 45),v7 (top 45),e8 (top 45),[],[]⟩
def c8b:z4:=⟨("faults",none), "faults", "faults",y6 (top 58),v7 (top 58),e8 (top 58),[],[]⟩
def b9Y:z4:=⟨("names_in",none), "names_in", "names_in",y6 (top 46),v7 (top 46),e8 (top 46),[],[]⟩
def d9h:z4:=⟨("men",none), "men", "men",y6 (top 47),v7 (top 47),e8 (top 47),[],[]⟩
def b6z:z4:=⟨("chests_at",none), "chests_at", "chests_at",y6 (top 50),v7 (top 50),e8 (top 50),[],[]⟩
def b9Z:z4:=⟨("need_man",none), "need_man", "need_man",y6 (top 59),v7 (top 59),e8 (top 59),[],[]⟩
def b90:z4:=⟨("on_books",none), "on_books", "on_books",y6 (top 62),v7 (top 62),e8 (top 62),[],[]⟩
def b6D:z4:=⟨("paid_days",none), "paid_days", "paid_days",y6 (top 68),v7 (top 68),e8 (top 68),[],[]⟩
def b4D:z4:=⟨("first_over",none), "first_over", "first_over",y6 (top 100),v7 (top 100),e8 (top 100),[],[]⟩
def c8a:z4:=⟨("earned",none), "earned", "earned",y6 (top 78),v7 (top 78),e8 (top 78),[],[]⟩
def d9f:z4:=⟨("had",none), "had", "had",y6 (top 79),v7 (top 79),e8 (top 79),[],[]⟩
def d5r:z4:=⟨("left",none), "left", "left",y6 (top 80),v7 (top 80),e8 (top 80),[],[]⟩
def b6C:z4:=⟨("next_sent",none), "next_sent", "next_sent",y6 (top 83),v7 (top 83),e8 (top 83),[],[]⟩
def c32:z4:=⟨("sent_on",none), "sent_on", "sent_on",y6 (top 81),v7 (top 81),e8 (top 81),[],[]⟩
def d5s:z4:=⟨("room",none), "room", "room",y6 (top 98),v7 (top 98),e8 (top 98),[],[]⟩
def b91:z4:=⟨("paid_off",none), "paid_off", "paid_off",y6 (top 91),v7 (top 91),e8 (top 91),[],[]⟩
def b1R:z4:=⟨("when_earned",none), "when_earned", "when_earned",y6 (top 84),v7 (top 84),e8 (top 84),[],[]⟩
def b6B:z4:=⟨("need_both",none), "need_both", "need_both",y6 (top 102),v7 (top 102),e8 (top 102),[],[]⟩
def a93:z4:=⟨("ranks_unlike",none), "ranks_unlike", "ranks_unlike",y6 (top 105),v7 (top 105),e8 (top 105),[],[]⟩
def b1Q:z4:=⟨("sums_unlike",none), "sums_unlike", "sums_unlike",y6 (top 109),v7 (top 109),e8 (top 109),[],[]⟩
def a92:z4:=⟨("first_unlike",none), "first_unlike", "first_unlike",y6 (top 110),v7 (top 110),e8 (top 110),[],[]⟩
def b4y:z4:=⟨("_law_asked",none), "_law_asked", "_law_asked",y6 (top 131),v7 (top 131),e8 (top 131),[],[]⟩
def a90:z4:=⟨("_law_kind_of",none), "_law_kind_of", "_law_kind_of",y6 (top 112),v7 (top 112),e8 (top 112),[],[]⟩
def a91:z4:=⟨("_law_refusal",none), "_law_refusal", "_law_refusal",y6 (top 132),v7 (top 132),e8 (top 132),[],[]⟩
def b9V:z4:=⟨("_law_men",none), "_law_men", "_law_men",y6 (top 130),v7 (top 130),e8 (top 130),[],[]⟩
def d9g:z4:=⟨("law",none), "law", "law",y6 (top 133),v7 (top 133),e8 (top 133),[],[]⟩
def fn:List z4:=[b4z,b6x,b4A,a8C,a7c,a8E,a7Y,b4B,a70,a8D,b6w,b4C,a71,b9X,c30,b9W,b6A,b1O,a8F,c8c,b1P,c31,b6y,b1N,a9Y,a9Z,a7Z,b4E,c8b,b9Y,d9h,b6z,b9Z,b90,b6D,b4D,c8a,d9f,d5r,b6C,c32,d5s,b91,b1R,b6B,a93,b1Q,a92,b4y,a90,a91,b9V,d9g]
def fa:List He.Fa:=[.glo "_law_draws",.glo "_law_draw",.glo "_law_names",.glo "_law_articles",.glo "_law_turn_pages",.glo "_law_sum_page",.glo "_law_any_order",.glo "_law_pages",.glo "_law_near_book",.glo "_law_far_book",.glo "_law_book",.glo "_law_thing",.glo "_law_otherwise",.glo "is_tuple",.glo "is_name",.glo "are_rows",.glo "is_within",.glo "is_articles",.glo "need_articles",.glo "is_day",.glo "is_sum_page",.glo "is_page",.glo "are_pages",.glo "_law_within",.glo "_law_is_name",.glo "_law_is_page",.glo "_law_are_pages",.glo "need_pages",.glo "faults",.glo "names_in",.glo "men",.glo "chests_at",.glo "need_man",.glo "on_books",.glo "paid_days",.glo "first_over",.glo "earned",.glo "had",.glo "left",.glo "next_sent",.glo "sent_on",.glo "room",.glo "paid_off",.glo "when_earned",.glo "need_both",.glo "ranks_unlike",.glo "sums_unlike",.glo "first_unlike",.glo "_law_asked",.glo "_law_kind_of",.glo "_law_refusal",.glo "_law_men",.glo "law",.free "len",.free "int",.free "range",.free "sorted",.free "tuple",.free "min",.free "set",.free "list",.free "isinstance",.free "str",.free "all",.free "bool",.free "ValueError",.free "max",.glo "NoArticles",.glo "LENGTHS",.glo "TURNS",.glo "NoPages",.glo "NoPage",.glo "NoMan",.glo "Faulty",.glo "NoSum",.glo "NoRow",.glo "NoRank",.glo "TooMany",.glo "NothingLeft",.glo "NotThere",.glo "NoText",.glo "Twice",.glo "TooMuch",.glo "WageError",.exc "NoArticles",.exc "NoPages",.str "LETTERS" "abcdefghijklmnopqrstuvwxyz",.int "MOST_RANKS" 12,.int "MOST_CHESTS" 6,.int "MOST_PENCE" 1000000000,.int "MOST_PART" 1000,.int "MOST_DAY" 1000000000000,.int "MOST_TIMES" 1000000,.int "MOST_PAGES" 200]
abbrev R:PySem.W.OpenRow:=PySem.W.OpenLaw.row PySem.Challenge.rw_crewpay_k04_what_are_pages
def exL (K:b0):List Bool:=[d38 K kNs kYs,d7d K (a0J K "TURNS") ["joins", "ranked", "leaves"],tabB K (a0J K "LENGTHS") [("joins",4),("ranked",4),("leaves",3),("away",4),("advance",5),("home",6),("slops",5),("fine",4),("lost",3)]]
def exK:b0 → Bool:=fun K=>(exL K).all id
def ts:List He.Tab:=[(fun K=>a0J K "LENGTHS",["joins", "ranked", "leaves", "away", "advance", "home", "slops", "fine", "lost"])]
def asB:List t5:=List.range' 210 602
def asM:List t5:=[0,2,4,6,22,23,24,25,35,36,37,47,48,49,59,60,61,71,72,73,83,84,85,95,96,97,112,113,114,115,116,131,132,133,134,135,145,146,147,157,158,159,169,170,171,181,182,183,193,194]
def asN:List t5:=[195,205,206,207]
def asL:List t5:=3 :: (asB ++ (asM ++ asN))
section
open PySem.W PySem.Calls
theorem fin_e:opening R.prog = plainProg R.prog.main.scope.names:=by kernel_rfl
theorem fin_f:∀ s,fenceModules? R.prog s = some s:=fun s=>by kernel_rfl
theorem fin_d:defOf (view R.prog [133]) R.name = some (a0K R.prog 133,[]):=by kernel_rfl
theorem fin_p:R.prog.theDef R.name = some ((a0K R.prog 133).params,(a0K R.prog 133).body,(a0K R.prog 133).scope):=by kernel_rfl
theorem fin_k:kwWritten? (a0K R.prog 133).params.kwonlyargs (a0K R.prog 133).params.kw_defaults = some []:=by kernel_rfl
theorem d9j:chainsOk (view R.prog [133]) = true:=by decide +kernel
theorem d9k:opensWell R.prog = true:=by decide +kernel
theorem d9l:(frees R.toRowW && R.within.isEmpty) = true:=by decide +kernel
theorem fin_o:(chainsOk (view R.prog [133]) && opensWell R.prog && (frees R.toRowW && R.within.isEmpty)) = true:=e0l.mpr ⟨e0l.mpr ⟨d9j,d9k⟩,d9l⟩
theorem fin_b:R.prog.bare:=⟨rfl,rfl,rfl,rfl,rfl,by decide +kernel⟩
theorem fin_n:(a0K R.prog 133).name = ("law" : PySem.Str):=by kernel_rfl
end
abbrev hk:d8V:=d9q asL fa fn ts exK
def kS (s:b6j):b0:=He.frG (HandSHeadRun.getT s) asL
def ob (s:b6j):Bool × He.AlT:=(exK (kS s),He.obsT fa fn ts (kS s))
theorem ob_eq (s:b6j):ob s = hk.obs s.abs:=by
 have e:=d7j (as:=asL) (fa:=fa) (fn:=fn) (ts:=ts) (ex:=exK) (HandSHeadRun.getT_eq s)
 rw [← e]
 unfold ob obsL kS
 rfl
noncomputable def d0R (b:Bool) (w:i3) (os:c5V):Option b6j:=HandSHeadRun.endF (HandSHeadRun.stepQ (HandSHeadRun.denQ HandSHeadRun.tabQ) R.prog (w.withFollow "special-get-raises" b)) 20000 R.prog (w.withFollow "special-get-raises" b) os
theorem d5P {b:Bool} {w:i3} {os:c5V} (h1:(d0R b w os).map (fun s=>(a8q R.prog (b1A (w.withFollow "special-get-raises" b).params) s.abs,a9U (a0Z R.prog [133]) names (b6l R.prog.main.body) (fun s=>c74 (a0Z R.prog [133]) [] s && c3L R.toRowW.records s) s.abs)) = some (true,b4v (a0Z R.prog [133]) names))
  (h2:(d0R b w os).map (fun s=>(exK (kS s),fa.all fun f=>f.ok (kS s))) = some (true,true)) (h3:(d0R b w os).map (fun s=>(fn.all fun d=>d.ok (kS s),fn.map fun d=>He.fnW (kS s) d.at_,ts.map fun t=>He.dicW (kS s) (t.1 (kS s)))) = some (true,fn.map He.DefD.val,ts.map fun t=>some (He.keysIn (w.withFollow "special-get-raises" b).params t.2))) :
  (d0R b w os).map (fun s=>(a8q R.prog (b1A (w.withFollow "special-get-raises" b).params) s.abs,a9U (a0Z R.prog [133]) names (b6l R.prog.main.body) (fun s=>c74 (a0Z R.prog [133]) [] s && c3L R.toRowW.records s) s.abs,ob s)) = some (true,b4v (a0Z R.prog [133]) names,(true,He.valT fn ts (w.withFollow "special-get-raises" b))):=by
 have h4:=d91 (E:=d0R b w os) (k:=kS) (fa:=fa) (fn:=fn) (ts:=ts) (ex:=exK) (w:=w.withFollow "special-get-raises" b) h2 h3
 generalize d0R b w os = E at h1 h4 ⊢
 cases E with
 | none=>cases h1
 | some s =>
  rw [a0A] at h1 h4 ⊢
  have h1:=r9 h1
  have h4:ob s = _:=r9 h4
  rw [h4,(Prod.mk.inj h1).1,(Prod.mk.inj h1).2]
theorem c9K (w:i3) (os:c5V):(d0R false w os).map (fun s=>(a8q R.prog (b1A (w.withFollow "special-get-raises" false).params) s.abs,a9U (a0Z R.prog [133]) names (b6l R.prog.main.body) (fun s=>c74 (a0Z R.prog [133]) [] s && c3L R.toRowW.records s) s.abs)) = some (true,b4v (a0Z R.prog [133]) names):=by
 kernel_rfl
theorem c9L (w:i3) (os:c5V):(d0R false w os).map (fun s=>(exK (kS s),fa.all fun f=>f.ok (kS s))) = some (true,true):=by
 kernel_rfl
theorem c9M (w:i3) (os:c5V):(d0R false w os).map (fun s=>(fn.all fun d=>d.ok (kS s),fn.map fun d=>He.fnW (kS s) d.at_,ts.map fun t=>He.dicW (kS s) (t.1 (kS s)))) = some (true,fn.map He.DefD.val,ts.map fun t=>some (He.keysIn (w.withFollow "special-get-raises" false).params t.2)):=by
 kernel_rfl
theorem d18 (w:i3):a9T R (a0Z R.prog [133]) hk ob 20000 names (w.withFollow "special-get-raises" false):=fun os=>d5P (c9K w os) (c9L w os) (c9M w os)
theorem d15 (w:i3) (os:c5V):(d0R true w os).map (fun s=>(a8q R.prog (b1A (w.withFollow "special-get-raises" true).params) s.abs,a9U (a0Z R.prog [133]) names (b6l R.prog.main.body) (fun s=>c74 (a0Z R.prog [133]) [] s && c3L R.toRowW.records s) s.abs)) = some (true,b4v (a0Z R.prog [133]) names):=by
 kernel_rfl
theorem d16 (w:i3) (os:c5V):(d0R true w os).map (fun s=>(exK (kS s),fa.all fun f=>f.ok (kS s))) = some (true,true):=by
 kernel_rfl
theorem d17 (w:i3) (os:c5V):(d0R true w os).map (fun s=>(fn.all fun d=>d.ok (kS s),fn.map fun d=>He.fnW (kS s) d.at_,ts.map fun t=>He.dicW (kS s) (t.1 (kS s)))) = some (true,fn.map He.DefD.val,ts.map fun t=>some (He.keysIn (w.withFollow "special-get-raises" true).params t.2)):=by
 kernel_rfl
theorem d4t (w:i3):a9T R (a0Z R.prog [133]) hk ob 20000 names (w.withFollow "special-get-raises" true):=fun os=>d5P (d15 w os) (d16 w os) (d17 w os)
theorem run (w:i3):a9T R (a0Z R.prog [133]) hk ob 20000 names w:=PySem.W.byRow2 "special-get-raises" (P:=fun w=>a9T R (a0Z R.prog [133]) hk ob 20000 names w) d18 d4t w
end Cw
section
open PySem PySem.W PySem.Calls PyProof.Rows
theorem Cw.early (hc:WalkO (view (a6H PySem.Challenge.rw_crewpay_k04_what_are_pages).prog [133]) Cw.names (XL (view (a6H PySem.Challenge.rw_crewpay_k04_what_are_pages).prog [133]) []) Cw.hk.says (a6H PySem.Challenge.rw_crewpay_k04_what_are_pages).toRowW (a0K (a6H PySem.Challenge.rw_crewpay_k04_what_are_pages).prog 133) [] fun f vs=>PySem.call f vs):PySem.Challenge.rw_crewpay_k04_what_are_pages.Holds:=by
 w_on; o_law
 refine HandSHeadRun.head_any (r:=a6H PySem.Challenge.rw_crewpay_k04_what_are_pages) (q:=view (a6H PySem.Challenge.rw_crewpay_k04_what_are_pages).prog [133]) (H:=Cw.hk) (ob:=Cw.ob) (M:=20000) (loose:=Cw.names) (d:=a0K (a6H PySem.Challenge.rw_crewpay_k04_what_are_pages).prog 133) (kwd:=[]) Cw.ob_eq
  Cw.fin_e Cw.fin_f Cw.run Cw.fin_d Cw.fin_p Cw.fin_k (by rfl) (by assumption) Cw.fin_o Cw.fin_b ?hw ?hc
 case hw=>w_witness2
 case hc=>exact hc
end
set_option maxHeartbeats 3200000
namespace AqS
open PySem PySem.Calls PyProof.Rows L2
/-- a new set's object -/
abbrev fresh (w:i3):Obj:={ cls:=.type "set",dict:=none,data:=.set #[] 0 (.fresh 0 0 (!w.params.followText "set-order")) }
section
variable {P:a2x} {w:i3} {A:b9L} {E:f8 → a0h → Prop}
/-- J i h: the set at S holds what i addings gave -/
structure Adds (P:a2x) (w:i3) (u:Nat) (h0:b9M) (S:t5) (its:List f8) (J:Nat → b9M → Prop):Prop where
 keep:∀ i h h',J i h → (∀ o,h.get? S = some o → h'.get? S = some o) → (∀ b o,h0.get? b = some o → h'.get? b = some o) → J i h'
 add:∀ (A':b9L) (E':f8 → a0h → Prop) (i:Nat) (s':a0h) (v:f8) (Q:Bool → a0h → Prop),A'.units < u → its[i]? = some v → J i s'.heap → (∀ b o,h0.get? b = some o → s'.heap.get? b = some o) →
  (∀ b h' tk,s'.toks ≤ tk → a9V S s'.heap h' → J (i + 1) h' → Q b { s' with heap:=h',toks:=tk }) → a32 (a6J P w) A' (setAdd S v) Q E' s'
theorem d4M {I:t5} {fp wr:List t5} {G:Array GenState → Array GenState → Prop} {n:Nat} {Pv:Nat → f8 → Prop} {St:Nat → a0h → Prop} {R:Result → a0h → Prop} {u:Nat} {its:List f8} {J:Nat → b9M → Prop} {h0:b9M} {S:t5}
  (Wk:WalksS P w A.in1 I fp wr G n Pv St) (hSf:S ∉ fp) (hn:n = its.length) (hval:∀ i v,Pv i v → its[i]? = some v) (a:Adds P w u h0 S its J) (hS0:h0.get? S = none) (hw0:∀ b ∈ wr,h0.get? b = none) (hu:A.in1.units < u) :
  ∀ (k i:Nat) (s:a0h),n - i = k → i ≤ n → St i s → (∀ b o,h0.get? b = some o → s.heap.get? b = some o) → J i s.heap →
   (∀ s',Moved (S :: wr) G s s' → J n s'.heap → (∀ b o,h0.get? b = some o → s'.heap.get? b = some o) → R (.ok (.ret .none)) s') →
   codeAny (a6J P w) A (.builtin "set.update.loop" ⟨[.ref S,.ref I],[]⟩) R s:=by
 have hSw:S ∉ wr:=fun h=>hSf (Wk.sub _ h)
 have hsub:∀ b ∈ wr,b ∈ S :: wr:=fun b hb=>e7 _ hb
 have kp:∀ {s s':a0h},Moved wr G s s' → (∀ b o,h0.get? b = some o → s.heap.get? b = some o) → ∀ b o,h0.get? b = some o → s'.heap.get? b = some o:=fun hm q b o e =>
  hm.heap b o (fun hb=>by rw [hw0 b hb] at e; cases e) (q b o e)
 intro k
 induction k with
 | zero =>
  intro i s hk hi hst hkp hJ hR
  obtain rfl:i = n:=by omega
  refine d04 b9N ?_
  rw [e0k a40 _]
  show a32 _ A.in1 (pyNext (.ref I) >>= _) _ _ s
  refine g4 (Wk.done s _ _ hst fun s1 hm=>?_)
  show a32 _ A.in1 (ret Value.none) _ _ s1
  have q:=kp hm hkp
  exact m4 (hR s1 (hm.mono hsub) (a.keep i _ _ hJ (fun o e=>hm.heap S o hSw e) q) q)
 | succ k ih =>
  intro i s hk hi hst hkp hJ hR
  have hlt:i < n:=by omega
  refine d04 b9N ?_
  rw [e0k a40 _]
  show a32 _ A.in1 (pyNext (.ref I) >>= _) _ _ s
  refine g4 (Wk.item i s _ _ hlt hst fun v s1 hP hst1 hm=>?_)
  have hv:=hval i v hP
  have q:=kp hm hkp
  have J1:J i s1.heap:=a.keep i _ _ hJ (fun o e=>hm.heap S o hSw e) q
  show a32 _ A.in1 (holding [v] (setAdd S v) >>= _) _ _ s1
  refine g4 (a1I ?_)
  refine a.add A.in1 _ i s1 v _ hu hv J1 q fun b h2 tk htk hsb J2=>?_
  have q2:∀ b o,h0.get? b = some o → h2.get? b = some o:=fun b o e=>(hsb.2 b (fun z=>by rw [z,hS0] at e; cases e)).trans (q b o e)
  refine m4 ⟨plainId_quiet a40 _,ih (i + 1) _ (by omega) hlt (Wk.frame _ s1 _ _ hst1 htk fun b hb o e=>?_) q2 J2 fun s3 hm3 J3 q3=>?_⟩
  ·rw [hsb.2 b (fun h:b = S=>hSf (by rw [← h]; exact hb))]; exact e
  ·refine hR s3 (Moved.trans Wk.gtrans ((hm.mono hsub).then_heap htk fun b o hb e=>?_) hm3) J3 q3
   rw [hsb.2 b (fun h:b = S=>hb (by rw [h]; exact f9))]; exact e
/-- set(xs) -/
theorem call_set {s:a0h} {l:t5} {its:List f8} {J:Nat → b9M → Prop} {u:Nat} {Q:f8 → a0h → Prop} (hh:A.handled = none) (hl:s.heap.IsList l its.toArray) (a:Adds P w u s.heap s.heap.objs.size its J) (hu:A.units + 3 < u)
  (start:∀ h,h.get? s.heap.objs.size = some (fresh w) → (∀ b o,s.heap.get? b = some o → h.get? b = some o) → J 0 h)
  (hq:∀ (h':b9M) (tk:Nat),J its.length h' → (∀ b o,s.heap.get? b = some o → h'.get? b = some o) → Q (.ref s.heap.objs.size) { s with heap:=h',toks:=tk }) :
  a32 (a6J P w) A (call (.type "set") [.ref l]) Q E s:=by
 obtain ⟨c,tl,hmro⟩:=a10.mro
 have hmade:=a10.made
 have hsub:=a10.sub
 refine wpAny_call (codeAny_of_tree ?_)
 show a32 _ _ (callAny (.type "set") _) _ _ _
 refine m4 ⟨Code.quiet_builtin _ (by decide +kernel),d04 PySem.F.entry_type_call ?_⟩
 rw [Around.under_plain (weight_type_call_type "set" [.ref l] []) rfl]
 have k1:=a10.notType
 have k2:=a10.canCreate
 have k3:=PySem.F.typeCall_set_1 (.ref l)
 repeat (any_goals (first | assumption | wp_step))
 refine d8Y (code_set_led1 (.ref l) (E:=E) (Q₁:=fun obj s₁=>obj = .ref s.heap.objs.size ∧ s₁ = { s with heap:=s.heap.push (fresh w) }) ⟨rfl,rfl⟩) fun r s₁ hr=>?_
 cases r with
 | error e=>exact hr
 | ok fl =>
  cases fl with
  | ret obj =>
   obtain ⟨rfl,rfl⟩:=hr
   have hS:(s.heap.push (fresh w)).get? s.heap.objs.size = some (fresh w):=a1a _ rfl
   have hT:Shared.TypeIs { s with heap:=s.heap.push (fresh w) } (.ref s.heap.objs.size) "set" := ⟨_,hS,rfl⟩
   have k4:=a10.init.lookup
   have k5:=a10.init.bind (.ref s.heap.objs.size)
   repeat (any_goals (first | assumption | wp_step))
   refine d8Y (codeAny_call_builtin (R:=wants (fun r s₂=>r = .none ∧ ∃ h' tk,s₂ = { s with heap:=h',toks:=tk } ∧ J its.length h' ∧ (∀ b o,s.heap.get? b = some o → h'.get? b = some o)) E) a10.init.plain PySem.F.entry_set_init (check_set_init_1 hT ?_)) fun r₂ s₂ hr₂=>?_
   ·obtain ⟨ol,hol,hcl,nl,hdl⟩:=hl
    obtain ⟨ocls,odict,odata,oslots⟩:=ol
    simp only at hcl hdl
    subst hcl; subst hdl
    have hol':(s.heap.push (fresh w)).get? l = some { cls:=.type "list",dict:=odict,data:=.seq its.toArray nl,slots:=oslots }:=r8 _ hol
    have m1:=PySem.F.sub_list_set
    have m2:=PySem.F.sub_list_frozenset
    have m3:(d5j "list" == d5j "dict") = false:=by decide
    have hl1:(s.heap.push (fresh w)).IsList l its.toArray:=⟨_,hol',rfl,nl,rfl⟩
    unfold Builtin.«set.__init__» noKeywords Builtin.Frozenset.updateFrom
    generalize hPI:pyIter = PI
    wp_walk
    subst hPI
    refine wpAny_pyIter_list hl1 ?_
    refine g4 (wpAny_runValue ?_)
    have hlS:l < s.heap.objs.size:=a66 hol
    have hh3:A.in1.in1.in1.handled = none:=by simp [hh]
    have hneI:l ≠ (s.heap.push (fresh w)).objs.size:=by
     rw [a63]; exact a67 (b1z hlS)
    have hSf:s.heap.objs.size ∉ [(s.heap.push (fresh w)).objs.size,l]:=by
     rw [a63]; simp only [o9,a1Z,c8L,or_false,not_or]
     exact ⟨a67 (Nat.lt_succ_self _),Nat.ne_of_gt hlS⟩
    have none_of:∀ b,s.heap.objs.size ≤ b → s.heap.get? b = none:=fun b hb=>by
     cases q:s.heap.get? b with
     | none=>rfl
     | some o=>exact absurd (Nat.lt_of_lt_of_le (a66 q) hb) (Nat.lt_irrefl _)
    refine d4M ((Walks.list hh3 _ l hneI its.toArray).toS) hSf (by simp) (fun i v hv=>by simpa using hv) a (none_of _ (a1i _)) (fun b hb=>none_of b (by
      rw [a1Z.mp hb,a63]
      exact d00 _)) hu (its.toArray.size - 0) 0 _ (by omega) (a5b _)
     ⟨⟨_,a1a _ rfl,rfl,rfl⟩,(hl1.push _)⟩ (fun b o e=>r8 _ (r8 _ e)) ?hS0 ?hR
    case hS0 =>
     exact start _ (r8 _ hS) fun b o e=>r8 _ (r8 _ e)
    case hR =>
     intro s' hm hJ hkp
     obtain ⟨h',g2,d',tk',os'⟩:=s'
     have eg:g2 = s.gens:=hm.gens
     have ed:d' = s.drawn:=hm.drawn
     have eo:os' = s.os:=hm.os
     subst eg; subst ed; subst eo
     show a32 _ _ _ _ _ _
     refine m4 ?_
     show a32 _ _ (ret Value.none) _ _ _
     have hJ':J its.length h':=by simpa using hJ
     exact m4 ⟨rfl,h',tk',rfl,hJ',hkp⟩
   ·cases r₂ with
    | error e=>exact hr₂
    | ok fl₂ =>
     cases fl₂ with
     | ret r =>
      obtain ⟨rfl,h',tk,rfl,hJ,hk'⟩:=hr₂
      repeat (any_goals (first | assumption | wp_step))
      exact hq _ _ hJ hk'
     | _=>exact hr₂.elim
  | _=>exact hr.elim
end
end AqS
set_option maxHeartbeats 2000000
namespace Aq
open PySem L2
def kD:Key → c9
 | .inl i=>.int i
 | .inr x=>.str x
mutual
inductive Dr (K:b0) (F:Hp):V → c9 → Prop
 | non:Dr K F .non .none
 | bl (b:Bool):Dr K F (.bl b) (.bool b)
 | int (i:Int):Dr K F (.int i) (.int i)
 | str (x:Str):Dr K F (.str x) (.str x)
 | lst {a:t5} {xs:List V} {ds:List c9}:F a = some (.lst xs) → DrAll K F xs ds → Dr K F (.ref a) (.list ds)
 | tup {a:t5} {xs:List V} {ds:List c9}:SqT K F a xs → DrAll K F xs ds → Dr K F (.ref a) (.tuple ds)
 | dic {a:t5} {kvs:List (Key × V)} {es:List (c9 × c9)}:F a = some (.dK kvs) → DrKV K F kvs es → Dr K F (.ref a) (.dict es)
inductive DrAll (K:b0) (F:Hp):List V → List c9 → Prop
 | nil:DrAll K F [] []
 | cons {v:V} {vs:List V} {d:c9} {ds:List c9}:Dr K F v d → DrAll K F vs ds → DrAll K F (v :: vs) (d :: ds)
inductive DrKV (K:b0) (F:Hp):List (Key × V) → List (c9 × c9) → Prop
 | nil:DrKV K F [] []
 | cons {k:Key} {v:V} {vs:List (Key × V)} {d:c9} {ds:List (c9 × c9)}:Dr K F v d → DrKV K F vs ds → DrKV K F ((k,v) :: vs) ((kD k,d) :: ds)
end
theorem b89 {K:b0} {F F':Hp} {a:t5} {xs:List V} (e:a6j F F') (h:SqT K F a xs):SqT K F' a xs:=by
 rcases h with (h | ⟨o,h⟩) | h
 ·exact .inl (.inl (e _ _ h))
 ·exact .inl (.inr ⟨o,e _ _ h⟩)
 ·exact .inr h
section
variable {K:b0} {F F' H:Hp}
mutual
theorem Dr.mono (e:a6j F F'):∀ (d:c9) (v:V),Dr K F v d → Dr K F' v d
 | .none,_,h=>by cases h; exact .non
 | .bool b,_,h=>by cases h; exact .bl b
 | .int i,_,h=>by cases h; exact .int i
 | .str x,_,h=>by cases h; exact .str x
 | .list ds,_,h=>by
  cases h with
  | lst h1 h2=>exact .lst (e _ _ h1) (DrAll.mono e ds _ h2)
 | .tuple ds,_,h=>by
  cases h with
  | tup h1 h2=>exact .tup (b89 e h1) (DrAll.mono e ds _ h2)
 | .dict es,_,h=>by
  cases h with
  | dic h1 h2=>exact .dic (e _ _ h1) (DrKV.mono e es _ h2)
theorem DrAll.mono (e:a6j F F'):∀ (ds:List c9) (vs:List V),DrAll K F vs ds → DrAll K F' vs ds
 | [],_,h=>by cases h; exact .nil
 | d :: ds,_,h=>by
  cases h with
  | cons h1 h2=>exact .cons (Dr.mono e d _ h1) (DrAll.mono e ds _ h2)
theorem DrKV.mono (e:a6j F F'):∀ (es:List (c9 × c9)) (kvs:List (Key × V)),DrKV K F kvs es → DrKV K F' kvs es
 | [],_,h=>by cases h; exact .nil
 | (_,d) :: es,_,h=>by
  cases h with
  | cons h1 h2=>exact .cons (Dr.mono e d _ h1) (DrKV.mono e es _ h2)
end
mutual
def noDic:c9 → Bool
 | .list ds=>noDics ds
 | .tuple ds=>noDics ds
 | .dict _=>false
 | _=>true
def noDics:List c9 → Bool
 | []=>true
 | d :: ds=>noDic d && noDics ds
end
mutual
theorem Dr.dp:∀ (d:c9) (v:V),Dr K F v d → noDic d = true → Dp K F v d
 | .none,_,h,_=>by cases h; exact .non
 | .bool b,_,h,_=>by cases h; exact .bl b
 | .int i,_,h,_=>by cases h; exact .int i
 | .str x,_,h,_=>by cases h; exact .str x
 | .list ds,_,h,n=>by
  cases h with
  | lst h1 h2=>exact .lst (.of h1) (DrAll.dp ds _ h2 (by rw [noDic] at n; exact n))
 | .tuple ds,_,h,n=>by
  cases h with
  | tup h1 h2=>exact .tup h1 (DrAll.dp ds _ h2 (by rw [noDic] at n; exact n))
 | .dict es,_,h,n=>by rw [noDic] at n; cases n
theorem DrAll.dp:∀ (ds:List c9) (vs:List V),DrAll K F vs ds → noDics ds = true → DpAll K F vs ds
 | [],_,h,_=>by cases h; exact .nil
 | d :: ds,_,h,n=>by
  rw [noDics,j5] at n
  cases h with
  | cons h1 h2=>exact .cons (Dr.dp d _ h1 n.1) (DrAll.dp ds _ h2 n.2)
end
theorem DrAll.length:∀ {vs:List V} {ds:List c9},DrAll K F vs ds → vs.length = ds.length
 | _,_,.nil=>rfl
 | _,_,.cons _ t=>by rw [t4,t4,DrAll.length t]
theorem DrAll.at:∀ {vs:List V} {ds:List c9} {i:Nat} {d:c9},DrAll K F vs ds → ds[i]? = some d → ∃ v,vs[i]? = some v ∧ Dr K F v d
 | _,_,_,_,.nil,e=>by simp at e
 | _,_,0,_,.cons h _,e=>by simp at e; subst e; exact ⟨_,rfl,h⟩
 | _,_,i + 1,d,.cons _ t,e=>by
  obtain ⟨v,h1,h2⟩:=DrAll.at (i:=i) (d:=d) t (by simpa using e)
  exact ⟨v,by simpa using h1,h2⟩
theorem DrAll.append:∀ {vs ws:List V} {ds es:List c9},DrAll K F vs ds → DrAll K F ws es → DrAll K F (vs ++ ws) (ds ++ es)
 | _,_,_,_,.nil,s=>s
 | _,_,_,_,.cons r t,s=>.cons r (DrAll.append t s)
theorem DrAll.take:∀ {vs:List V} {ds:List c9} (n:Nat),DrAll K F vs ds → DrAll K F (vs.take n) (ds.take n)
 | _,_,0,_=>.nil
 | _,_,_ + 1,.nil=>.nil
 | _,_,n + 1,.cons r t=>.cons r (DrAll.take n t)
theorem DrAll.drop:∀ {vs:List V} {ds:List c9} (n:Nat),DrAll K F vs ds → DrAll K F (vs.drop n) (ds.drop n)
 | _,_,0,r=>r
 | _,_,_ + 1,.nil=>.nil
 | _,_,n + 1,.cons _ t=>DrAll.drop n t
theorem DrAll.set {x:V} {d:c9} (r:Dr K F x d):∀ {vs:List V} {ds:List c9} (i:Nat),DrAll K F vs ds → DrAll K F (vs.set i x) (ds.set i d)
 | _,_,_,.nil=>.nil
 | _,_,0,.cons _ t=>.cons r t
 | _,_,i + 1,.cons q t=>.cons q (DrAll.set r i t)
theorem DrAll.one {v:V} {d:c9} (h:Dr K F v d):DrAll K F [v] [d]:=.cons h .nil
theorem DrAll.reverse:∀ {vs:List V} {ds:List c9},DrAll K F vs ds → DrAll K F vs.reverse ds.reverse
 | _,_,.nil=>.nil
 | _,_,.cons r t=>by
  rw [List.reverse_cons,List.reverse_cons]
  exact (DrAll.reverse t).append (.one r)
theorem DrAll.eraseIdx:∀ {vs:List V} {ds:List c9} (i:Nat),DrAll K F vs ds → DrAll K F (vs.eraseIdx i) (ds.eraseIdx i)
 | _,_,_,.nil=>.nil
 | _,_,0,.cons _ t=>t
 | _,_,i + 1,.cons q t=>.cons q (DrAll.eraseIdx i t)
theorem DrAll.ints_of:∀ {vs:List V} (ns:List Int),DrAll K F vs (ns.map m9) → vs = ns.map V.int
 | _,[],h=>by cases h; rfl
 | _,n :: ns,h=>by
  cases h with
  | cons h1 h2 =>
   cases h1
   rw [DrAll.ints_of ns h2]
   rfl
theorem DrAll.strs_of:∀ {vs:List V} (ns:List Str),DrAll K F vs (ns.map y4) → vs = ns.map V.str
 | _,[],h=>by cases h; rfl
 | _,n :: ns,h=>by
  cases h with
  | cons h1 h2 =>
   cases h1
   rw [DrAll.strs_of ns h2]
   rfl
theorem DrAll.bls_of:∀ {vs:List V} (ns:List Bool),DrAll K F vs (ns.map a0M) → vs = ns.map V.bl
 | _,[],h=>by cases h; rfl
 | _,n :: ns,h=>by
  cases h with
  | cons h1 h2 =>
   cases h1
   rw [DrAll.bls_of ns h2]
   rfl
end
/-- a dict whose keys are tuples -/
def d58 (K:b0) (F:Hp):List (List Key × V) → List (List Key × c9) → Prop:=a3n fun p q=>p.1 = q.1 ∧ Dr K F p.2 q.2
theorem d58.mono {K:b0} {F F':Hp} (e:a6j F F') {kvs:List (List Key × V)} {es:List (List Key × c9)} (h:d58 K F kvs es):d58 K F' kvs es:=Paired.mapP h fun _ _ z=>⟨z.1,Dr.mono e _ _ z.2⟩
inductive NK where
 | ins (c:Str)
 | dic
 | lst
inductive OT where
 | dat (d:c9)
 | nod (a:t5) (k:NK) (ns:List Str) (cs:List OT)
def c8T (K:b0) (H:Hp) (a:t5) (ns:List Str) (vs:List V):NK → Prop
 | .ins c=>∃ dx,H a = some (.ins (a0J K c) dx (ns.zip vs)) ∧ ns.length = vs.length
 | .dic=>H a = some (.dK ((ns.map Sum.inr).zip vs)) ∧ ns.length = vs.length
 | .lst=>H a = some (.lst vs)
mutual
inductive TrOk (K:b0) (F H:Hp):OT → V → Prop
 | dat {d:c9} {v:V}:Dr K F v d → TrOk K F H (.dat d) v
 | nod {a:t5} {k:NK} {ns:List Str} {cs:List OT} {vs:List V}:c8T K H a ns vs k → TrsOk K F H cs vs → TrOk K F H (.nod a k ns cs) (.ref a)
inductive TrsOk (K:b0) (F H:Hp):List OT → List V → Prop
 | nil:TrsOk K F H [] []
 | cons {t:OT} {ts:List OT} {v:V} {vs:List V}:TrOk K F H t v → TrsOk K F H ts vs → TrsOk K F H (t :: ts) (v :: vs)
end
mutual
def OT.foot:OT → List t5
 | .dat _=>[]
 | .nod a _ _ cs=>a :: OT.foots cs
def OT.foots:List OT → List t5
 | []=>[]
 | t :: ts=>t.foot ++ OT.foots ts
end
section
variable {K:b0} {F F' H H':Hp}
theorem c8T.mono {a:t5} {ns:List Str} {vs:List V} {k:NK} (h:∀ u,H a = some u → H' a = some u) (n:c8T K H a ns vs k):c8T K H' a ns vs k:=by
 cases k with
 | ins c=>obtain ⟨dx,e,l⟩:=n; exact ⟨dx,h _ e,l⟩
 | dic=>exact ⟨h _ n.1,n.2⟩
 | lst=>exact h _ n
theorem c8T.ex {a:t5} {ns:List Str} {vs:List V} {k:NK} (n:c8T K H a ns vs k):∃ u,H a = some u:=by
 cases k with
 | ins c=>obtain ⟨dx,e,l⟩:=n; exact ⟨_,e⟩
 | dic=>exact ⟨_,n.1⟩
 | lst=>exact ⟨_,n⟩
mutual
theorem TrOk.mono (e:a6j F F'):∀ (t:OT) (v:V),(∀ l ∈ t.foot,∀ u,H l = some u → H' l = some u) → TrOk K F H t v → TrOk K F' H' t v
 | .dat d,v,_,h=>by
  cases h with
  | dat h=>exact .dat (h.mono e)
 | .nod a k ns cs,v,q,h=>by
  cases h with
  | nod n hs=>exact .nod (n.mono (q a (by rw [OT.foot]; exact f9))) (TrsOk.mono e cs _ (fun l hl=>q l (by rw [OT.foot]; exact e7 _ hl)) hs)
theorem TrsOk.mono (e:a6j F F'):∀ (ts:List OT) (vs:List V),(∀ l ∈ OT.foots ts,∀ u,H l = some u → H' l = some u) → TrsOk K F H ts vs → TrsOk K F' H' ts vs
 | [],_,_,h=>by cases h; exact .nil
 | t :: ts,_,q,h=>by
  cases h with
  | cons h1 h2=>exact .cons (TrOk.mono e t _ (fun l hl=>q l (by rw [OT.foots]; exact a0E _ hl)) h1) (TrsOk.mono e ts _ (fun l hl=>q l (by rw [OT.foots]; exact a2K _ hl)) h2)
end
mutual
theorem TrOk.ex:∀ (t:OT) (v:V),TrOk K F H t v → ∀ l ∈ t.foot,∃ u,H l = some u
 | .dat d,v,h,l,hl=>by rw [OT.foot] at hl; simp at hl
 | .nod a k ns cs,v,h,l,hl=>by
  rw [OT.foot] at hl
  cases h with
  | nod n hs =>
   rcases o9.mp hl with rfl | hl
   ·exact n.ex
   ·exact TrsOk.ex cs _ hs l hl
theorem TrsOk.ex:∀ (ts:List OT) (vs:List V),TrsOk K F H ts vs → ∀ l ∈ OT.foots ts,∃ u,H l = some u
 | [],_,h,l,hl=>by rw [OT.foots] at hl; simp at hl
 | t :: ts,_,h,l,hl=>by
  rw [OT.foots] at hl
  cases h with
  | cons h1 h2 =>
   rcases v0.mp hl with hl | hl
   ·exact TrOk.ex t _ h1 l hl
   ·exact TrsOk.ex ts _ h2 l hl
end
end
/-- what a locked dict holds -/
abbrev LkD:=List (c9 × c9) ⊕ List (List Key × c9)
inductive AV where
 /-- anything -/
 | un
 | dat (d:c9)
 /-- a list of one's own; p: handed in as the p-th of these -/
 | ml (p:Option Nat) (ds:List c9)
 | mdk (p:Option Nat) (es:List (c9 × c9))
 /-- the script -/
 | scr (ns:List Int)
 /-- a dict of one's own whose keys are tuples -/
 | mdt (p:Option Nat) (es:List (List Key × c9))
 /-- just this value -/
 | opq (v:V)
 /-- a tree of things of one's own -/
 | tr (p:Option Nat) (t:OT)
 /-- a dict of one's own, locked for a walk -/
 | lk (u:LkD)
def LkOk (K:b0) (F:Hp):LkD → HO → Prop
 | .inl es,w=>∃ kvs,w = .dK kvs ∧ DrKV K F kvs es
 | .inr es,w=>∃ kvs,w = .dT kvs ∧ d58 K F kvs es
/-- the entry of a def -/
structure C0 where
 F0:Hp
 H0:Hp
 M0:List t5
def b46 (C:C0) (p:Option Nat) (l:t5):Prop:=match p with
 | none=>C.H0 l = none
 | some j=>C.M0[j]? = some l
def Slot (K:b0) (C:C0) (F H:Hp):AV → Option V → Prop
 | .un,_=>True
 | .dat d,o=>∃ v,o = some v ∧ Dr K F v d
 | .ml p ds,o=>∃ l xs,o = some (.ref l) ∧ F l = none ∧ H l = some (.lst xs) ∧ DrAll K F xs ds ∧ b46 C p l
 | .mdk p es,o=>∃ l kvs,o = some (.ref l) ∧ F l = none ∧ H l = some (.dK kvs) ∧ DrKV K F kvs es ∧ b46 C p l
 | .scr ns,o=>∃ a,o = some (.ref a) ∧ SqL K F a (ns.map V.int)
 | .mdt p es,o=>∃ l kvs,o = some (.ref l) ∧ F l = none ∧ H l = some (.dT kvs) ∧ d58 K F kvs es ∧ b46 C p l
 | .opq v,o=>o = some v
 | .lk u,o=>∃ l ob w,o = some (.ref l) ∧ F l = some (.frz ob w) ∧ LkOk K F u w
 | .tr p t,o=>∃ a,o = some (.ref a) ∧ TrOk K F H t (.ref a) ∧ (∀ l ∈ t.foot,F l = none ∧ (l ∈ C.M0 ∨ C.H0 l = none)) ∧ t.foot.Nodup ∧ a ∈ t.foot ∧ b46 C p a
def AV.isMut:AV → Bool
 | .ml _ _=>true
 | .mdk _ _=>true
 | .mdt _ _=>true
 | .tr _ _=>true
 | _=>false
/-- the addresses within a tree -/
def AV.inn:AV → List t5
 | .tr _ t=>t.foot
 | _=>[]
def AV.isOwn:AV → Bool
 | .ml _ _=>true
 | .mdk _ _=>true
 | _=>false
theorem AV.isOwn_mut {a:AV} (h:a.isOwn = true):a.isMut = true:=by cases a <;> first | rfl | cases h
theorem AV.isOwn_inn {a:AV} (h:a.isOwn = true):a.inn = []:=by cases a <;> first | rfl | cases h
/-- a slot's thing owns an address -/
def c8Q (a:AV) (o:Option (Option V)) (l:t5):Prop:=(a.isMut = true ∧ o = some (some (.ref l))) ∨ l ∈ a.inn
def a2o (σ:a2W) (ρ:List AV) (i:Nat) (l:t5):Prop:=∃ a,ρ[i]? = some a ∧ c8Q a σ[i]? l
theorem a2o.mk {σ:a2W} {ρ:List AV} {i:Nat} {l:t5} {a:AV} (h:ρ[i]? = some a) (m:a.isMut = true) (q:σ[i]? = some (some (.ref l))):a2o σ ρ i l:=⟨a,h,.inl ⟨m,q⟩⟩
/-- what is not changed owns nothing -/
theorem c8Q.mut {a:AV} {o:Option (Option V)} {l:t5} (h:c8Q a o l):a.isMut = true:=by
 rcases h with h | h
 ·exact h.1
 ·cases a <;> first | rfl | simp [AV.inn] at h
theorem a2o.mut {σ:a2W} {ρ:List AV} {i:Nat} {l:t5} {a:AV} (h:a2o σ ρ i l) (e:ρ[i]? = some a):a.isMut = true:=by
 obtain ⟨b,eb,f⟩:=h
 rw [e] at eb
 cases eb
 exact f.mut
structure Rep (K:b0) (C:C0) (F H:Hp) (σ:a2W) (ρ:List AV):Prop where
 len:σ.length = ρ.length
 sub:a6j F H
 gr:a6j C.F0 F
 keep:∀ b o,C.H0 b = some o → b ∉ C.M0 → H b = some o
 there:∀ b o,C.H0 b = some o → ∃ o',H b = some o'
 nw:∀ b o,C.H0 b = some o → C.F0 b = none → F b = none
 mf:∀ l ∈ C.M0,C.F0 l = none ∧ ∃ o,C.H0 l = some o
 tp:∀ q xs,H q = some (.tup xs) → F q = some (.tup xs)
 slot:∀ (i:Nat) (a:AV),ρ[i]? = some a → ∃ o,σ[i]? = some o ∧ Slot K C F H a o
 apart:∀ (i j:Nat) (l:t5),i ≠ j → a2o σ ρ i l → a2o σ ρ j l → False
/-- an expression's answer -/
inductive RV where
 | dat (d:c9)
 /-- what the i-th slot holds, borrowed -/
 | bor (i:Nat)
 /-- a new thing of one's own -/
 | own (a:AV)
 /-- a tuple of a new list of one's own and a thing -/
 | tupO (ds:List c9) (d:c9)
def a6P (K:b0) (C:C0) (F H:Hp) (σ:a2W) (ρ:List AV) (v:V):RV → Prop
 | .dat d=>Dr K F v d
 | .bor i=>σ[i]? = some (some v) ∧ ∃ a,ρ[i]? = some a
 | .own a=>∃ l,v = .ref l ∧ a.isOwn = true ∧ Slot K C F H a (some v) ∧ C.H0 l = none ∧ ∀ i,a2o σ ρ i l → False
 | .tupO ds d=>∃ t l u xs,v = .ref t ∧ F t = some (.tup [.ref l,u]) ∧ F l = none ∧ H l = some (.lst xs) ∧ DrAll K F xs ds ∧ Dr K F u d ∧ C.H0 l = none ∧ ∀ i,a2o σ ρ i l → False
/-- nothing new -/
def RV.old:RV → Prop
 | .dat _=>True
 | .bor _=>True
 | _=>False
/-- what is read there -/
def AV.look:AV → Option c9
 | .dat d=>some d
 | .ml _ ds=>some (.list ds)
 | .mdk _ es=>some (.dict es)
 | .scr _=>none
 | .mdt _ _=>none
 | .opq _=>none
 | .lk _=>none
 | .un=>none
 | .tr _ _=>none
def RV.look (r:RV) (ρ:List AV):Option c9:=match r with
 | .dat d=>some d
 | .bor i=>(ρ[i]?).bind AV.look
 | .own a=>a.look
 | .tupO _ _=>none
/-- a thing that may be read as d -/
def Lk (K:b0) (F H:Hp) (v:V) (d:c9):Prop :=
 Dr K F v d ∨ (∃ l xs ds,v = .ref l ∧ d = .list ds ∧ H l = some (.lst xs) ∧ DrAll K F xs ds) ∨ (∃ l kvs es,v = .ref l ∧ d = .dict es ∧ H l = some (.dK kvs) ∧ DrKV K F kvs es)
section
variable {K:b0} {C:C0} {F F' H H':Hp} {σ:a2W} {ρ:List AV} {v:V} {r:RV} {d:c9}
theorem Slot.lk {a:AV} (s:a6j F H) (h:Slot K C F H a (some v)) (e:a.look = some d):Lk K F H v d:=by
 cases a with
 | un=>cases e
 | dat d' =>
  obtain ⟨w,e1,h1⟩:=h
  cases e1
  cases e
  exact .inl h1
 | ml p ds =>
  obtain ⟨l,xs,e1,_,h1,h2,_⟩:=h
  cases e1
  cases e
  exact .inr (.inl ⟨l,xs,ds,rfl,rfl,h1,h2⟩)
 | mdk p es =>
  obtain ⟨l,xs,e1,_,h1,h2,_⟩:=h
  cases e1
  cases e
  exact .inr (.inr ⟨l,xs,es,rfl,rfl,h1,h2⟩)
 | scr ns=>cases e
 | mdt p es=>cases e
 | opq v=>cases e
 | lk u=>cases e
 | tr p t=>cases e
theorem a6P.lk (R:Rep K C F H σ ρ) (h:a6P K C F H σ ρ v r) (e:r.look ρ = some d):Lk K F H v d:=by
 cases r with
 | dat d' =>
  cases e
  exact .inl h
 | bor i =>
  obtain ⟨e1,a,ea⟩:=h
  obtain ⟨o,eo,hs⟩:=R.slot i a ea
  rw [e1] at eo
  cases eo
  have e2:(ρ[i]?).bind AV.look = some d:=e
  rw [ea] at e2
  exact hs.lk R.sub e2
 | own a =>
  obtain ⟨l,rfl,_,hs,_⟩:=h
  exact hs.lk R.sub e
 | tupO ds d=>cases e
theorem Lk.list {ds:List c9} (s:a6j F H) (h:Lk K F H v (.list ds)):∃ l xs,v = .ref l ∧ H l = some (.lst xs) ∧ DrAll K F xs ds:=by
 rcases h with h | ⟨l,xs,ds',e1,e2,h1,h2⟩ | ⟨_,_,_,_,e,_⟩
 ·cases h with
  | lst h1 h2=>exact ⟨_,_,rfl,s _ _ h1,h2⟩
 ·cases e2
  exact ⟨l,xs,e1,h1,h2⟩
 ·cases e
theorem Lk.tuple {ds:List c9} (s:a6j F H) (h:Lk K F H v (.tuple ds)):∃ l xs,v = .ref l ∧ SqT K H l xs ∧ DrAll K F xs ds:=by
 rcases h with h | ⟨l,xs,ds',e1,e2,h1,h2⟩ | ⟨_,_,_,_,e,_⟩
 ·cases h with
  | tup h1 h2=>exact ⟨_,_,rfl,b89 s h1,h2⟩
 ·cases e2
 ·cases e
theorem Lk.int {i:Int} (h:Lk K F H v (.int i)):v = .int i:=by
 rcases h with h | ⟨l,xs,ds',e1,e2,h1,h2⟩ | ⟨_,_,_,_,e,_⟩
 ·cases h; rfl
 ·cases e2
 ·cases e
theorem Lk.str {i:Str} (h:Lk K F H v (.str i)):v = .str i:=by
 rcases h with h | ⟨l,xs,ds',e1,e2,h1,h2⟩ | ⟨_,_,_,_,e,_⟩
 ·cases h; rfl
 ·cases e2
 ·cases e
theorem Lk.bool {i:Bool} (h:Lk K F H v (.bool i)):v = .bl i:=by
 rcases h with h | ⟨l,xs,ds',e1,e2,h1,h2⟩ | ⟨_,_,_,_,e,_⟩
 ·cases h; rfl
 ·cases e2
 ·cases e
theorem Lk.none (h:Lk K F H v .none):v = .non:=by
 rcases h with h | ⟨l,xs,ds',e1,e2,h1,h2⟩ | ⟨_,_,_,_,e,_⟩
 ·cases h; rfl
 ·cases e2
 ·cases e
theorem Lk.dp (s:a6j F H) (h:Lk K F H v d) (n:noDic d = true):Dp K H v d:=by
 rcases h with h | ⟨l,xs,ds',e1,e2,h1,h2⟩ | ⟨_,_,_,_,e,_⟩
 ·exact Dr.dp d v (h.mono s) n
 ·subst e1 e2
  exact .lst (.of h1) (DrAll.dp _ _ (h2.mono s) (by rw [noDic] at n; exact n))
 ·subst e
  rw [noDic] at n
  cases n
end
end Aq
namespace Aq
open PySem L2
section
variable {K:b0} {C:C0} {F F' H H':Hp} {σ:a2W} {ρ:List AV} {v:V} {r:RV} {d:c9}
theorem LkOk.mono {u:LkD} {w:HO} (e:a6j F F') (h:LkOk K F u w):LkOk K F' u w:=by
 cases u with
 | inl es=>obtain ⟨kvs,e1,h1⟩:=h; exact ⟨kvs,e1,h1.mono e⟩
 | inr es=>obtain ⟨kvs,e1,h1⟩:=h; exact ⟨kvs,e1,h1.mono e⟩
theorem Slot.mono {a:AV} {o:Option V} (e:a6j F F') (k:∀ l u,c8Q a (some o) l → H l = some u → H' l = some u) (n:∀ l,c8Q a (some o) l → F l = none → F' l = none) (h:Slot K C F H a o):Slot K C F' H' a o:=by
 have ft:∀ l,o = some (.ref l) → a.isMut = true → c8Q a (some o) l:=fun l e m=>.inl ⟨m,by rw [e]⟩
 cases a with
 | un=>trivial
 | dat d=>obtain ⟨v,e1,h1⟩:=h; exact ⟨v,e1,h1.mono e⟩
 | ml p ds=>obtain ⟨l,xs,e1,h0,h1,h2,h3⟩:=h; exact ⟨l,xs,e1,n l (ft l e1 rfl) h0,k l _ (ft l e1 rfl) h1,h2.mono e,h3⟩
 | mdk p ds=>obtain ⟨l,xs,e1,h0,h1,h2,h3⟩:=h; exact ⟨l,xs,e1,n l (ft l e1 rfl) h0,k l _ (ft l e1 rfl) h1,h2.mono e,h3⟩
 | mdt p ds=>obtain ⟨l,xs,e1,h0,h1,h2,h3⟩:=h; exact ⟨l,xs,e1,n l (ft l e1 rfl) h0,k l _ (ft l e1 rfl) h1,h2.mono e,h3⟩
 | scr ns=>obtain ⟨l,e1,h1⟩:=h; exact ⟨l,e1,e.seq h1⟩
 | opq v=>exact h
 | lk u=>obtain ⟨l,ob,w,e1,h1,h2⟩:=h; exact ⟨l,ob,w,e1,e _ _ h1,h2.mono e⟩
 | tr p t =>
  obtain ⟨b,e1,h1,h2,h3,h4,h5⟩:=h
  exact ⟨b,e1,TrOk.mono e t _ (fun l hl u=>k l u (.inr hl)) h1,fun l hl=>⟨n l (.inr hl) (h2 l hl).1,(h2 l hl).2⟩,h3,h4,h5⟩
theorem Slot.mutF {a:AV} {o:Option V} {l:t5} (h:Slot K C F H a o) (f:c8Q a (some o) l):F l = none ∧ ∃ u,H l = some u:=by
 cases a with
 | un=>cases f.mut
 | dat d=>cases f.mut
 | ml p ds =>
  obtain ⟨l',xs,e1,h0,h1,_⟩:=h
  rcases f with ⟨_,q⟩ | q
  ·cases e1; cases q; exact ⟨h0,_,h1⟩
  ·simp [AV.inn] at q
 | mdk p ds =>
  obtain ⟨l',xs,e1,h0,h1,_⟩:=h
  rcases f with ⟨_,q⟩ | q
  ·cases e1; cases q; exact ⟨h0,_,h1⟩
  ·simp [AV.inn] at q
 | mdt p ds =>
  obtain ⟨l',xs,e1,h0,h1,_⟩:=h
  rcases f with ⟨_,q⟩ | q
  ·cases e1; cases q; exact ⟨h0,_,h1⟩
  ·simp [AV.inn] at q
 | scr ns=>cases f.mut
 | opq v=>cases f.mut
 | lk u=>cases f.mut
 | tr p t =>
  obtain ⟨b,e1,h1,h2,h3,h4,h5⟩:=h
  have hl:l ∈ t.foot:=by
   rcases f with ⟨_,q⟩ | q
   ·cases e1; cases q; exact h4
   ·exact q
  exact ⟨(h2 l hl).1,TrOk.ex t _ h1 l hl⟩
theorem Slot.whose {a:AV} {o:Option V} {l:t5} (h:Slot K C F H a o) (f:c8Q a (some o) l):l ∈ C.M0 ∨ C.H0 l = none:=by
 have g:∀ p,b46 C p l → l ∈ C.M0 ∨ C.H0 l = none:=fun p z=>by
  cases p with
  | none=>exact .inr z
  | some j=>exact .inl (w8 z)
 cases a with
 | un=>cases f.mut
 | dat d=>cases f.mut
 | ml p ds =>
  obtain ⟨l',xs,e1,h0,h1,_,h3⟩:=h
  rcases f with ⟨_,q⟩ | q
  ·cases e1; cases q; exact g p h3
  ·simp [AV.inn] at q
 | mdk p ds =>
  obtain ⟨l',xs,e1,h0,h1,_,h3⟩:=h
  rcases f with ⟨_,q⟩ | q
  ·cases e1; cases q; exact g p h3
  ·simp [AV.inn] at q
 | mdt p ds =>
  obtain ⟨l',xs,e1,h0,h1,_,h3⟩:=h
  rcases f with ⟨_,q⟩ | q
  ·cases e1; cases q; exact g p h3
  ·simp [AV.inn] at q
 | scr ns=>cases f.mut
 | opq v=>cases f.mut
 | lk u=>cases f.mut
 | tr p t =>
  obtain ⟨b,e1,h1,h2,h3,h4,h5⟩:=h
  have hl:l ∈ t.foot:=by
   rcases f with ⟨_,q⟩ | q
   ·cases e1; cases q; exact h4
   ·exact q
  exact (h2 l hl).2
theorem Rep.mutF {i:Nat} {l:t5} (R:Rep K C F H σ ρ) (m:a2o σ ρ i l):F l = none ∧ ∃ u,H l = some u:=by
 obtain ⟨a,e,f⟩:=m
 obtain ⟨o,eo,hs⟩:=R.slot i a e
 rw [eo] at f
 exact hs.mutF f
theorem Rep.mutW {i:Nat} {l:t5} (R:Rep K C F H σ ρ) (m:a2o σ ρ i l):l ∈ C.M0 ∨ C.H0 l = none:=by
 obtain ⟨a,e,f⟩:=m
 obtain ⟨o,eo,hs⟩:=R.slot i a e
 rw [eo] at f
 exact hs.whose f
/-- an address that no slot owns becomes frozen as it stands -/
theorem Rep.freezeAt {l:t5} {u:HO} (R:Rep K C F H σ ρ) (hF:F l = none) (hH:H l = some u) (h0:C.H0 l = none) (ha:∀ i,a2o σ ρ i l → False):Rep K C (upd F l u) H σ ρ ∧ a6j F (upd F l u):=by
 have s:a6j F (upd F l u):=fun b o e=>by rw [a1P (a3v e hF)]; exact e
 refine ⟨⟨R.len,fun b o e=>?_,R.gr.trans s,R.keep,R.there,fun b o e n=>?_,R.mf,fun q xs e=>s _ _ (R.tp q xs e),fun i a e=>?_,R.apart⟩,s⟩
 ·by_cases hb:b = l
  ·subst hb; rw [a0I] at e; cases e; exact hH
  ·rw [a1P hb] at e; exact R.sub _ _ e
 ·have hb:b ≠ l:=a3v e h0
  rw [a1P hb]; exact R.nw b o e n
 ·obtain ⟨o,eo,hs⟩:=R.slot i a e
  refine ⟨o,eo,hs.mono s (fun l u f h=>h) (fun l' f h=>?_)⟩
  have hl:l' ≠ l:=fun z=>by
   subst z
   exact ha i ⟨a,e,by rw [eo]; exact f⟩
  rw [a1P hl]; exact h
def RV.hold:RV → RV
 | .own (.ml _ ds)=>.dat (.list ds)
 | .own (.mdk _ es)=>.dat (.dict es)
 | .tupO ds d=>.dat (.tuple [.list ds,d])
 | r=>r
theorem a2R (R:Rep K C F H σ ρ) (h:a6P K C F H σ ρ v r):∃ F',Rep K C F' H σ ρ ∧ a6j F F' ∧ a6P K C F' H σ ρ v r.hold ∧ RV.old r.hold:=by
 cases r with
 | dat d=>exact ⟨F,R,.refl _,h,trivial⟩
 | bor i=>exact ⟨F,R,.refl _,h,trivial⟩
 | own a =>
  obtain ⟨l,rfl,m,hs,h0,ha⟩:=h
  cases a with
  | un=>cases m
  | dat d=>cases m
  | scr d=>cases m
  | opq v=>cases m
  | lk u=>cases m
  | tr p t=>cases m
  | ml p ds =>
   obtain ⟨l',xs,e1,hF,h1,h2,h3⟩:=hs
   cases e1
   obtain ⟨R',s⟩:=R.freezeAt hF h1 h0 ha
   exact ⟨_,R',s,.lst a0I (h2.mono s),trivial⟩
  | mdk p ds =>
   obtain ⟨l',xs,e1,hF,h1,h2,h3⟩:=hs
   cases e1
   obtain ⟨R',s⟩:=R.freezeAt hF h1 h0 ha
   exact ⟨_,R',s,.dic a0I (h2.mono s),trivial⟩
  | mdt p ds=>cases m
 | tupO ds d =>
  obtain ⟨t,l,u,xs,rfl,ht,hF,h1,h2,h3,h0,ha⟩:=h
  obtain ⟨R',s⟩:=R.freezeAt hF h1 h0 ha
  exact ⟨_,R',s,.tup (.inl (.inl (s _ _ ht))) (.cons (.lst a0I (h2.mono s)) (.cons (h3.mono s) .nil)),trivial⟩
/-- a new object is laid and frozen -/
theorem Rep.laidF {p:t5} {u:HO} (R:Rep K C F H σ ρ) (hp:H p = none):Rep K C (upd F p u) (upd H p u) σ ρ ∧ a6j F (upd F p u):=by
 have hF:F p = none:=R.sub.free hp
 have s:a6j F (upd F p u):=fun b o e=>by rw [a1P (a3v e hF)]; exact e
 have sH:a6j H (upd H p u):=fun b o e=>by rw [a1P (a3v e hp)]; exact e
 have h0:C.H0 p = none:=by
  cases q:C.H0 p with
  | none=>rfl
  | some o=>obtain ⟨o',e⟩:=R.there p o q; rw [e] at hp; cases hp
 refine ⟨⟨R.len,fun b o e=>?_,R.gr.trans s,fun b o e n=>sH _ _ (R.keep b o e n),fun b o e=>?_,fun b o e n=>?_,R.mf,fun q xs e=>?_,fun i a e=>?_,R.apart⟩,s⟩
 ·by_cases hb:b = p
  ·subst hb; rw [a0I] at e ⊢; exact e
  ·rw [a1P hb] at e ⊢; exact R.sub _ _ e
 ·obtain ⟨o',e'⟩:=R.there b o e
  exact ⟨o',sH _ _ e'⟩
 ·rw [a1P (a3v e h0)]; exact R.nw b o e n
 ·by_cases hq:q = p
  ·subst hq; rw [a0I] at e ⊢; exact e
  ·rw [a1P hq] at e ⊢; exact R.tp q xs e
 ·obtain ⟨o,eo,hs⟩:=R.slot i a e
  refine ⟨o,eo,hs.mono s (fun l u f h=>sH _ _ h) (fun l' f h=>?_)⟩
  have hl:l' ≠ p:=fun z=>by
   subst z
   obtain ⟨_,w,q⟩:=hs.mutF f
   rw [hp] at q; cases q
  rw [a1P hl]; exact h
/-- a new object of one's own -/
theorem Rep.laidM {p:t5} {u:HO} (R:Rep K C F H σ ρ) (hp:H p = none) (hu:∀ xs,u ≠ .tup xs:=by intro _ z; cases z):Rep K C F (upd H p u) σ ρ ∧ F p = none ∧ C.H0 p = none ∧ ∀ i,a2o σ ρ i p → False:=by
 have hF:F p = none:=R.sub.free hp
 have sH:a6j H (upd H p u):=fun b o e=>by rw [a1P (a3v e hp)]; exact e
 have h0:C.H0 p = none:=by
  cases q:C.H0 p with
  | none=>rfl
  | some o=>obtain ⟨o',e⟩:=R.there p o q; rw [e] at hp; cases hp
 have tpn:∀ q xs,upd H p u q = some (.tup xs) → F q = some (.tup xs):=fun q xs e=>by
  by_cases hq:q = p
  ·subst hq; rw [a0I] at e; exact (hu xs (r9 e)).elim
  ·rw [a1P hq] at e; exact R.tp q xs e
 refine ⟨⟨R.len,R.sub.trans sH,R.gr,fun b o e n=>sH _ _ (R.keep b o e n),fun b o e=>?_,R.nw,R.mf,tpn,fun i a e=>?_,R.apart⟩,hF,h0,fun i m=>?_⟩
 ·obtain ⟨o',e'⟩:=R.there b o e
  exact ⟨o',sH _ _ e'⟩
 ·obtain ⟨o,eo,hs⟩:=R.slot i a e
  exact ⟨o,eo,hs.mono (.refl _) (fun l u f h=>sH _ _ h) fun l' f h=>h⟩
 ·obtain ⟨_,w,q⟩:=R.mutF m
  rw [hp] at q; cases q
/-- a slot's own thing changes at one of its addresses -/
theorem Rep.changeAt {i:Nat} {a a':AV} {o:Option V} {l:t5} {u:HO} (R:Rep K C F H σ ρ) (hi:ρ[i]? = some a) (ho:σ[i]? = some o) (hl:c8Q a (some o) l) (hsub:∀ l',c8Q a' (some o) l' → c8Q a (some o) l')
  (new:Slot K C F (upd H l u) a' o) (hu:∀ xs,u ≠ .tup xs:=by intro _ z; cases z):Rep K C F (upd H l u) σ (ρ.set i a'):=by
 have tpn:∀ q xs,upd H l u q = some (.tup xs) → F q = some (.tup xs):=fun q xs e=>by
  by_cases hq:q = l
  ·subst hq; rw [a0I] at e; exact (hu xs (r9 e)).elim
  ·rw [a1P hq] at e; exact R.tp q xs e
 have him:i < ρ.length:=(j7.mp hi).1
 have hma:a2o σ ρ i l:=⟨a,hi,by rw [ho]; exact hl⟩
 obtain ⟨hF,w0,hw0⟩:=R.mutF hma
 have hwh:=R.mutW hma
 refine ⟨by rw [p8]; exact R.len,fun b o e=>?_,R.gr,fun b o e n=>?_,fun b o e=>?_,R.nw,R.mf,tpn,fun j b e=>?_,fun j k l' hne h1 h2=>?_⟩
 ·rw [a1P (a3v e hF)]; exact R.sub _ _ e
 ·have hb:b ≠ l:=fun z=>by
   subst z
   rcases hwh with z | z
   ·exact n z
   ·rw [z] at e; cases e
  rw [a1P hb]; exact R.keep b o e n
 ·by_cases hb:b = l
  ·subst hb; exact ⟨_,a0I⟩
  ·obtain ⟨o',e'⟩:=R.there b o e
   exact ⟨o',by rw [a1P hb]; exact e'⟩
 ·by_cases hj:i = j
  ·subst hj
   rw [m5 him] at e
   cases e
   exact ⟨_,ho,new⟩
  ·rw [k8 hj] at e
   obtain ⟨o',eo,hs'⟩:=R.slot j b e
   refine ⟨o',eo,hs'.mono (.refl _) (fun l' u' f h=>?_) fun l' f h=>h⟩
   have hl':l' ≠ l:=fun z=>by
    subst z
    exact R.apart i j l' hj hma ⟨b,e,by rw [eo]; exact f⟩
   rw [a1P hl']; exact h
 ·have back:∀ n l',a2o σ (ρ.set i a') n l' → a2o σ ρ n l':=fun n l' ⟨b,e,f⟩=>by
   by_cases hn:i = n
   ·subst hn
    rw [m5 him] at e
    cases e
    rw [ho] at f
    exact ⟨a,hi,by rw [ho]; exact hsub l' f⟩
   ·rw [k8 hn] at e; exact ⟨b,e,f⟩
  exact R.apart j k l' hne (back j l' h1) (back k l' h2)
/-- a slot's own thing changes -/
theorem Rep.change {i:Nat} {a a':AV} {l:t5} {u:HO} (R:Rep K C F H σ ρ) (hi:ρ[i]? = some a) (hm:a.isMut = true) (hm':a'.isMut = true) (hl:σ[i]? = some (some (.ref l)))
  (new:Slot K C F (upd H l u) a' (some (.ref l))) (hu:∀ xs,u ≠ .tup xs:=by intro _ z; cases z) (hn:a'.inn = []:=by rfl):Rep K C F (upd H l u) σ (ρ.set i a') :=
 R.changeAt hi hl (.inl ⟨hm,rfl⟩) (fun l' f=>by
  rcases f with ⟨_,q⟩ | q
  ·exact .inl ⟨hm,q⟩
  ·rw [hn] at q; simp at q) new hu
/-- a name is given a value -/
theorem Rep.setD {i:Nat} {v:V} {d:c9} (R:Rep K C F H σ ρ) (h:Dr K F v d):Rep K C F H (σ.set i (some v)) (ρ.set i (.dat d)):=by
 refine ⟨by rw [p8,p8]; exact R.len,R.sub,R.gr,R.keep,R.there,R.nw,R.mf,R.tp,fun j b e=>?_,fun j k l' hne h1 h2=>?_⟩
 ·by_cases hj:i = j
  ·subst hj
   by_cases hi:i < ρ.length
   ·rw [m5 hi] at e
    cases e
    exact ⟨some v,by rw [m5 (by rw [R.len]; exact hi)],v,rfl,h⟩
   ·rw [t6 (by rw [p8]; omega)] at e; cases e
  ·rw [k8 hj] at e
   obtain ⟨o,eo,hs⟩:=R.slot j b e
   exact ⟨o,by rw [k8 hj]; exact eo,hs⟩
 ·have back:∀ n l',a2o (σ.set i (some v)) (ρ.set i (.dat d)) n l' → a2o σ ρ n l':=fun n l' ⟨b,e,f⟩=>by
   by_cases hn:i = n
   ·subst hn
    by_cases hi:i < ρ.length
    ·rw [m5 hi] at e; cases e; cases f.mut
    ·rw [t6 (by rw [p8]; omega)] at e; cases e
   ·rw [k8 hn] at e f; exact ⟨b,e,f⟩
  exact R.apart j k l' hne (back j l' h1) (back k l' h2)
theorem Rep.setT {i:Nat} {l:t5} {a:AV} (R:Rep K C F H σ ρ) (h:Slot K C F H a (some (.ref l))) (ha:∀ l' i,c8Q a (some (some (.ref l))) l' → a2o σ ρ i l' → False):Rep K C F H (σ.set i (some (.ref l))) (ρ.set i a):=by
 refine ⟨by rw [p8,p8]; exact R.len,R.sub,R.gr,R.keep,R.there,R.nw,R.mf,R.tp,fun j b e=>?_,fun j k l' hne h1 h2=>?_⟩
 ·by_cases hj:i = j
  ·subst hj
   by_cases hi:i < ρ.length
   ·rw [m5 hi] at e
    cases e
    exact ⟨_,by rw [m5 (by rw [R.len]; exact hi)],h⟩
   ·rw [t6 (by rw [p8]; omega)] at e; cases e
  ·rw [k8 hj] at e
   obtain ⟨o,eo,hs⟩:=R.slot j b e
   exact ⟨o,by rw [k8 hj]; exact eo,hs⟩
 ·have back:∀ n l',a2o (σ.set i (some (.ref l))) (ρ.set i a) n l' → (i ≠ n ∧ a2o σ ρ n l') ∨ (i = n ∧ c8Q a (some (some (.ref l))) l'):=fun n l' ⟨b,e,f⟩=>by
   by_cases hn:i = n
   ·subst hn
    by_cases hi:i < ρ.length
    ·rw [m5 hi] at e
     rw [m5 (by rw [R.len]; exact hi)] at f
     cases e
     exact .inr ⟨rfl,f⟩
    ·rw [t6 (by rw [p8]; omega)] at e; cases e
   ·rw [k8 hn] at e f; exact .inl ⟨hn,b,e,f⟩
  rcases back j l' h1 with ⟨n1,m1⟩ | ⟨n1,m1⟩
  ·rcases back k l' h2 with ⟨n2,m2⟩ | ⟨n2,m2⟩
   ·exact R.apart j k l' hne m1 m2
   ·exact ha l' j m2 m1
  ·rcases back k l' h2 with ⟨n2,m2⟩ | ⟨n2,m2⟩
   ·exact ha l' k m1 m2
   ·exact hne (n1.symm.trans n2)
theorem Rep.setM {i:Nat} {l:t5} {a:AV} (R:Rep K C F H σ ρ) (h:Slot K C F H a (some (.ref l))) (ha:∀ i,a2o σ ρ i l → False) (hn:a.inn = []:=by rfl):Rep K C F H (σ.set i (some (.ref l))) (ρ.set i a) :=
 R.setT h fun l' j f m=>by
  rcases f with ⟨_,q⟩ | q
  ·cases q; exact ha j m
  ·rw [hn] at q; simp at q
/-- a slot is forgotten -/
theorem Rep.forget {i:Nat} {o:Option V} (R:Rep K C F H σ ρ):Rep K C F H (σ.set i o) (ρ.set i .un):=by
 refine ⟨by rw [p8,p8]; exact R.len,R.sub,R.gr,R.keep,R.there,R.nw,R.mf,R.tp,fun j b e=>?_,fun j k l' hne h1 h2=>?_⟩
 ·by_cases hj:i = j
  ·subst hj
   by_cases hi:i < ρ.length
   ·rw [m5 hi] at e
    cases e
    exact ⟨o,by rw [m5 (by rw [R.len]; exact hi)],trivial⟩
   ·rw [t6 (by rw [p8]; omega)] at e; cases e
  ·rw [k8 hj] at e
   obtain ⟨o,eo,hs⟩:=R.slot j b e
   exact ⟨o,by rw [k8 hj]; exact eo,hs⟩
 ·have back:∀ n l',a2o (σ.set i o) (ρ.set i .un) n l' → a2o σ ρ n l':=fun n l' ⟨b,e,f⟩=>by
   by_cases hn:i = n
   ·subst hn
    by_cases hi:i < ρ.length
    ·rw [m5 hi] at e; cases e; cases f.mut
    ·rw [t6 (by rw [p8]; omega)] at e; cases e
   ·rw [k8 hn] at e f; exact ⟨b,e,f⟩
  exact R.apart j k l' hne (back j l' h1) (back k l' h2)
/-- only what is known is forgotten -/
theorem Rep.unA {i:Nat} (R:Rep K C F H σ ρ):Rep K C F H σ (ρ.set i .un):=by
 refine ⟨by rw [p8]; exact R.len,R.sub,R.gr,R.keep,R.there,R.nw,R.mf,R.tp,fun j b e=>?_,fun j k l' hne h1 h2=>?_⟩
 ·by_cases hj:i = j
  ·subst hj
   by_cases hi:i < ρ.length
   ·rw [m5 hi] at e
    cases e
    obtain ⟨o,eo,_⟩:=R.slot i _ (j6 hi)
    exact ⟨o,eo,trivial⟩
   ·rw [t6 (by rw [p8]; omega)] at e; cases e
  ·rw [k8 hj] at e
   exact R.slot j b e
 ·have back:∀ n l',a2o σ (ρ.set i .un) n l' → a2o σ ρ n l':=fun n l' ⟨b,e,f⟩=>by
   by_cases hn:i = n
   ·subst hn
    by_cases hi:i < ρ.length
    ·rw [m5 hi] at e; cases e; cases f.mut
    ·rw [t6 (by rw [p8]; omega)] at e; cases e
   ·rw [k8 hn] at e; exact ⟨b,e,f⟩
  exact R.apart j k l' hne (back j l' h1) (back k l' h2)
/-- a slot's own local thing is frozen -/
def AV.frozen:AV → Option c9
 | .ml none ds=>some (.list ds)
 | .mdk none es=>some (.dict es)
 | _=>none
theorem Rep.freezeSlot {i:Nat} {a:AV} {d:c9} {v:V} (R:Rep K C F H σ ρ) (hi:ρ[i]? = some a) (hz:a.frozen = some d) (hv:σ[i]? = some (some v)):∃ F',Rep K C F' H σ (ρ.set i (.dat d)) ∧ a6j F F' ∧ Dr K F' v d:=by
 obtain ⟨o,eo,hs⟩:=R.slot i a hi
 rw [hv] at eo
 cases eo
 have R1:Rep K C F H σ (ρ.set i .un):=R.unA
 have fin:∀ {F':Hp},Rep K C F' H σ (ρ.set i .un) → a6j F F' → Dr K F' v d → ∃ F',Rep K C F' H σ (ρ.set i (.dat d)) ∧ a6j F F' ∧ Dr K F' v d:=fun {F'} R' s' hd=>by
  have R2:=R'.setD (i:=i) hd
  have e1:σ.set i (some v) = σ:=by
   refine c5S fun n=>?_
   by_cases hn:i = n
   ·subst hn
    rw [m5 (j7.mp hv).1,hv]
   ·rw [k8 hn]
  rw [e1,List.set_set] at R2
  exact ⟨F',R2,s',hd⟩
 have noMut:∀ l,v = .ref l → a.isMut = true → ∀ j,a2o σ (ρ.set i .un) j l → False:=fun l e m j ⟨b,eb,f⟩=>by
  by_cases hn:i = j
  ·subst hn
   rw [m5 (j7.mp hi).1] at eb
   cases eb; cases f.mut
  ·rw [k8 hn] at eb
   exact R.apart i j l hn (.mk hi m (by rw [hv,e])) ⟨b,eb,f⟩
 cases a with
 | un=>cases hz
 | dat d'=>cases hz
 | scr d'=>cases hz
 | opq v=>cases hz
 | lk u=>cases hz
 | tr p t=>cases hz
 | ml p ds =>
  cases p with
  | some j=>cases hz
  | none =>
   cases hz
   obtain ⟨l',xs,e1,hF,h1,h2,h3⟩:=hs
   cases e1
   obtain ⟨R',s⟩:=R1.freezeAt hF h1 h3 (noMut l' rfl rfl)
   exact fin R' s (.lst a0I (h2.mono s))
 | mdk p ds =>
  cases p with
  | some j=>cases hz
  | none =>
   cases hz
   obtain ⟨l',xs,e1,hF,h1,h2,h3⟩:=hs
   cases e1
   obtain ⟨R',s⟩:=R1.freezeAt hF h1 h3 (noMut l' rfl rfl)
   exact fin R' s (.dic a0I (h2.mono s))
 | mdt p ds=>cases p <;> cases hz
end
abbrev PXT:=f8 → Option (Str × c9) → List AV → Prop
abbrev AEx:=List AV → PXT → (RV → List AV → Prop) → Prop
abbrev ATx:=List AV → PXT → (Bool → List AV → Prop) → Prop
abbrev AAx:=List AV → PXT → (List RV → List AV → Prop) → Prop
structure AEnds where
 nx:List AV → Prop
 rt:RV → List AV → Prop
 bk:List AV → Prop:=fun _=>False
 ct:List AV → Prop:=fun _=>False
 ex:PXT
abbrev ASt:=AEnds → List AV → Prop
def XOk (K:b0) (F H:Hp) (p:Option (Str × c9)) (d:Option t5):Prop:=match p with
 | none=>d = none
 | some (f,x)=>∃ dd v,d = some dd ∧ F dd = some (.xd [(f,v)]) ∧ Dr K F v x
def XS (K:b0) (C:C0) (W:WX) (PX:PXT):Prop:=∀ F' H' σ' ρ' cls p d,Rep K C F' H' σ' ρ' → XOk K F' H' p d → PX cls p ρ' → W cls d σ' H'
def ES (K:b0) (W:WX) (te:TE) (a:AEx):Prop:=∀ C ρ PX P F H σ Q,Rep K C F H σ ρ → a ρ PX P → XS K C W PX →
 (∀ v F' H' r ρ',Rep K C F' H' σ ρ' → a6j F F' → a6P K C F' H' σ ρ' v r → P r ρ' → Q v H') → te σ H Q
def TSd (K:b0) (W:WX) (te:TT) (a:ATx):Prop:=∀ C ρ PX P F H σ Q,Rep K C F H σ ρ → a ρ PX P → XS K C W PX →
 (∀ b F' H' ρ',Rep K C F' H' σ ρ' → a6j F F' → P b ρ' → Q b H') → te σ H Q
def c78 (K:b0) (C:C0) (F H:Hp) (σ:a2W) (ρ:List AV):List V → List RV → Prop:=a3n fun v r=>a6P K C F H σ ρ v r ∧ RV.old r
def AS0 (K:b0) (W:WX) (te:TA) (a:AAx):Prop:=∀ C ρ PX P F H σ Q,Rep K C F H σ ρ → a ρ PX P → XS K C W PX →
 (∀ vs F' H' rs ρ',Rep K C F' H' σ ρ' → a6j F F' → c78 K C F' H' σ ρ' vs rs → P rs ρ' → Q vs H') → te σ H Q
def SS (K:b0) (W:WX) (ts:TS) (a:ASt):Prop:=∀ C D ρ F H σ (D':Ends),Rep K C F H σ ρ → a D ρ → XS K C W D.ex →
 (∀ F' H' σ' ρ',Rep K C F' H' σ' ρ' → a6j F F' → D.nx ρ' → D'.nx σ' H') → (∀ F' H' σ' ρ',Rep K C F' H' σ' ρ' → a6j F F' → D.bk ρ' → D'.bk σ' H') → (∀ F' H' σ' ρ',Rep K C F' H' σ' ρ' → a6j F F' → D.ct ρ' → D'.ct σ' H') →
 (∀ v F' H' σ' ρ' r,Rep K C F' H' σ' ρ' → a6j F F' → a6P K C F' H' σ' ρ' v r → D.rt r ρ' → D'.rt v H') → ts D' σ H
def W0:WX:=fun _ _ _ _=>False
def X0:PXT:=fun _ _ _=>False
theorem xs0 {K:b0} {C:C0} {W:WX}:XS K C W X0:=fun _ _ _ _ _ _ _ _ _ h=>h.elim
def C0.add (C:C0) (D:t5) (o:HO):C0:={ C with H0:=upd C.H0 D o }
theorem Rep.guard {K:b0} {C:C0} {F H:Hp} {σ:a2W} {ρ:List AV} {D:t5} {o:HO} (R:Rep K C F H σ ρ) (hH:H D = some o) (hF:F D = none) (h0:C.H0 D = none) (hm:∀ i,a2o σ ρ i D → False):Rep K (C.add D o) F H σ ρ:=by
 have hM:∀ l ∈ C.M0,l ≠ D:=fun l hl z=>by
  subst z
  obtain ⟨_,u,e⟩:=R.mf l hl
  rw [h0] at e; cases e
 refine ⟨R.len,R.sub,R.gr,fun b u e n=>?_,fun b u e=>?_,fun b u e n=>?_,fun l hl=>?_,R.tp,fun i a e=>?_,R.apart⟩
 ·by_cases hb:b = D
  ·subst hb
   have e':upd C.H0 b o b = some u:=e
   rw [a0I] at e'; cases e'; exact hH
  ·have e':upd C.H0 D o b = some u:=e
   rw [a1P hb] at e'; exact R.keep b u e' n
 ·by_cases hb:b = D
  ·subst hb; exact ⟨o,hH⟩
  ·have e':upd C.H0 D o b = some u:=e
   rw [a1P hb] at e'; exact R.there b u e'
 ·by_cases hb:b = D
  ·subst hb; exact hF
  ·have e':upd C.H0 D o b = some u:=e
   rw [a1P hb] at e'; exact R.nw b u e' n
 ·obtain ⟨h1,u,e⟩:=R.mf l hl
  exact ⟨h1,u,by show upd C.H0 D o l = some u; rw [a1P (hM l hl)]; exact e⟩
 ·obtain ⟨w,eo,hs⟩:=R.slot i a e
  refine ⟨w,eo,?_⟩
  have wh:∀ p l,b46 C p l → l ≠ D → b46 (C.add D o) p l:=fun p l z n=>by
   cases p with
   | none =>
    show upd C.H0 D o l = none
    rw [a1P n]; exact z
   | some j=>exact z
  cases a with
  | un=>trivial
  | dat d=>exact hs
  | scr ns=>exact hs
  | opq v=>exact hs
  | lk u=>exact hs
  | ml p ds =>
   obtain ⟨l,xs,e1,h1,h2,h3,h4⟩:=hs
   refine ⟨l,xs,e1,h1,h2,h3,wh p l h4 fun z=>?_⟩
   subst z
   exact hm i (.mk e rfl (by rw [eo,e1]))
  | mdk p ds =>
   obtain ⟨l,xs,e1,h1,h2,h3,h4⟩:=hs
   refine ⟨l,xs,e1,h1,h2,h3,wh p l h4 fun z=>?_⟩
   subst z
   exact hm i (.mk e rfl (by rw [eo,e1]))
  | mdt p ds =>
   obtain ⟨l,xs,e1,h1,h2,h3,h4⟩:=hs
   refine ⟨l,xs,e1,h1,h2,h3,wh p l h4 fun z=>?_⟩
   subst z
   exact hm i (.mk e rfl (by rw [eo,e1]))
  | tr p t =>
   obtain ⟨b,e1,h1,h2,h3,h4,h5⟩:=hs
   have nD:∀ l ∈ t.foot,l ≠ D:=fun l hl z=>by
    subst z
    exact hm i ⟨_,e,.inr hl⟩
   refine ⟨b,e1,h1,fun l hl=>⟨(h2 l hl).1,?_⟩,h3,h4,wh p b h5 (nD b h4)⟩
   rcases (h2 l hl).2 with z | z
   ·exact .inl z
   ·refine .inr ?_
    show upd C.H0 D o l = none
    rw [a1P (nD l hl)]; exact z
theorem Slot.unadd {K:b0} {C:C0} {F H:Hp} {D:t5} {o:HO} {a:AV} {w:Option V} (h0:C.H0 D = none) (hs:Slot K (C.add D o) F H a w):Slot K C F H a w:=by
 have wh:∀ p l,b46 (C.add D o) p l → b46 C p l:=fun p l z=>by
  cases p with
  | none =>
   have z':upd C.H0 D o l = none:=z
   have n:l ≠ D:=fun y=>by subst y; rw [a0I] at z'; cases z'
   rw [a1P n] at z'; exact z'
  | some j=>exact z
 cases a with
 | un=>trivial
 | dat d=>exact hs
 | scr ns=>exact hs
 | opq v=>exact hs
 | lk u=>exact hs
 | ml p ds =>
  obtain ⟨l,xs,e1,h1,h2,h3,h4⟩:=hs
  exact ⟨l,xs,e1,h1,h2,h3,wh p l h4⟩
 | mdk p ds =>
  obtain ⟨l,xs,e1,h1,h2,h3,h4⟩:=hs
  exact ⟨l,xs,e1,h1,h2,h3,wh p l h4⟩
 | mdt p ds =>
  obtain ⟨l,xs,e1,h1,h2,h3,h4⟩:=hs
  exact ⟨l,xs,e1,h1,h2,h3,wh p l h4⟩
 | tr p t =>
  obtain ⟨b,e1,h1,h2,h3,h4,h5⟩:=hs
  refine ⟨b,e1,h1,fun l hl=>⟨(h2 l hl).1,?_⟩,h3,h4,wh p b h5⟩
  rcases (h2 l hl).2 with z | z
  ·exact .inl z
  ·refine .inr ?_
   have z':upd C.H0 D o l = none:=z
   have n:l ≠ D:=fun y=>by subst y; rw [a0I] at z'; cases z'
   rw [a1P n] at z'; exact z'
theorem Rep.unguard {K:b0} {C:C0} {F H:Hp} {σ:a2W} {ρ:List AV} {D:t5} {o:HO} (h0:C.H0 D = none) (hM:D ∉ C.M0) (hF0:C.F0 D = none) (R:Rep K (C.add D o) F H σ ρ):Rep K C F H σ ρ ∧ H D = some o ∧ F D = none ∧ ∀ i,a2o σ ρ i D → False:=by
 have up:∀ b u,C.H0 b = some u → (C.add D o).H0 b = some u:=fun b u e=>by
  show upd C.H0 D o b = some u
  rw [a1P (a3v e h0)]; exact e
 have me:(C.add D o).H0 D = some o:=a0I
 refine ⟨⟨R.len,R.sub,R.gr,fun b u e n=>R.keep b u (up b u e) n,fun b u e=>R.there b u (up b u e),fun b u e n=>R.nw b u (up b u e) n,fun l hl=>?_,R.tp,fun i a e=>?_,R.apart⟩,R.keep D o me hM,R.nw D o me hF0,fun i m=>?_⟩
 ·obtain ⟨h1,u,e⟩:=R.mf l hl
  refine ⟨h1,u,?_⟩
  have n:l ≠ D:=fun z=>hM (by subst z; exact hl)
  have e':upd C.H0 D o l = some u:=e
  rw [a1P n] at e'; exact e'
 ·obtain ⟨w,eo,hs⟩:=R.slot i a e
  exact ⟨w,eo,hs.unadd h0⟩
 ·rcases R.mutW m with z | z
  ·exact hM z
  ·rw [me] at z; cases z
end Aq
namespace Aq
open PySem L2
variable {K:b0} {W:WX}
def i4 (i:Nat):AEx:=fun ρ _ P=>match ρ[i]? with
 | some (.dat d)=>P (.dat d) ρ
 | some (.ml none ds)=>P (.bor i) ρ ∨ P (.dat (.list ds)) (ρ.set i (.dat (.list ds)))
 | some (.mdk none es)=>P (.bor i) ρ ∨ P (.dat (.dict es)) (ρ.set i (.dat (.dict es)))
 | some (.ml (some _) _)=>P (.bor i) ρ
 | some (.mdk (some _) _)=>P (.bor i) ρ
 | some (.scr _)=>P (.bor i) ρ
 | some (.opq _)=>P (.bor i) ρ
 | some (.mdt _ _)=>P (.bor i) ρ
 | _=>False
theorem c8 {i:Nat}:ES K W (g9 i) (i4 i):=by
 intro C ρ PX P F H σ Q R h _ k
 unfold i4 at h
 have bor:∀ a:AV,ρ[i]? = some a → (∀ o,Slot K C F H a o → ∃ v,o = some v) → P (.bor i) ρ → g9 i σ H Q:=fun a ea hv hp=>by
  obtain ⟨o,eo,hs⟩:=R.slot i a ea
  obtain ⟨v,rfl⟩:=hv o hs
  exact ⟨v,eo,k v F H (.bor i) ρ R (.refl _) ⟨eo,a,ea⟩ hp⟩
 have frz:∀ (a:AV) (d:c9),ρ[i]? = some a → a.frozen = some d → (∀ o,Slot K C F H a o → ∃ v,o = some v) → P (.dat d) (ρ.set i (.dat d)) → g9 i σ H Q:=fun a d ea hz hv hp=>by
  obtain ⟨o,eo,hs⟩:=R.slot i a ea
  obtain ⟨v,rfl⟩:=hv o hs
  obtain ⟨F',R',s',hd⟩:=R.freezeSlot ea hz eo
  exact ⟨v,eo,k v F' H (.dat d) _ R' s' hd hp⟩
 split at h
 ·rename_i d e
  obtain ⟨o,eo,v,rfl,hd⟩:=R.slot i _ e
  exact ⟨v,eo,k v F H (.dat d) ρ R (.refl _) hd h⟩
 ·rename_i ds e
  have hv:∀ o,Slot K C F H (.ml none ds) o → ∃ v,o = some v:=fun o ⟨l,xs,e1,_⟩=>⟨_,e1⟩
  rcases h with h | h
  ·exact bor _ e hv h
  ·exact frz _ _ e rfl hv h
 ·rename_i ds e
  have hv:∀ o,Slot K C F H (.mdk none ds) o → ∃ v,o = some v:=fun o ⟨l,xs,e1,_⟩=>⟨_,e1⟩
  rcases h with h | h
  ·exact bor _ e hv h
  ·exact frz _ _ e rfl hv h
 ·rename_i j ds e
  exact bor _ e (fun o ⟨l,xs,e1,_⟩=>⟨_,e1⟩) h
 ·rename_i j ds e
  exact bor _ e (fun o ⟨l,xs,e1,_⟩=>⟨_,e1⟩) h
 ·rename_i ns e
  exact bor _ e (fun o ⟨l,e1,_⟩=>⟨_,e1⟩) h
 ·rename_i v e
  exact bor _ e (fun o e1=>⟨_,e1⟩) h
 ·rename_i v es e
  exact bor _ e (fun o ⟨l,xs,e1,_⟩=>⟨_,e1⟩) h
 ·exact h.elim
def aC (d:c9):AEx:=fun ρ _ P=>P (.dat d) ρ
theorem es_c {v:V} {d:c9} (hd:∀ F,Dr K F v d):ES K W (tC v) (aC d):=fun C ρ PX P F H σ Q R h _ k=>k v F H (.dat d) ρ R (.refl _) (hd F) h
theorem d6 {i:Int}:ES K W (tC (.int i)) (aC (.int i)):=es_c fun _=>.int i
theorem w3 {i:Str}:ES K W (tC (.str i)) (aC (.str i)):=es_c fun _=>.str i
theorem a4i {i:Bool}:ES K W (tC (.bl i)) (aC (.bool i)):=es_c fun _=>.bl i
theorem d1m:ES K W (tC .non) (aC .none):=es_c fun _=>.non
theorem a6P.stay {C:C0} {F F' H H':Hp} {σ:a2W} {ρ ρ':List AV} {v:V} {r:RV} (s:a6j F F') (R':Rep K C F' H' σ ρ') (n:RV.old r) (h:a6P K C F H σ ρ v r):a6P K C F' H' σ ρ' v r:=by
 cases r with
 | dat d=>exact Dr.mono s d v h
 | bor i =>
  obtain ⟨e,a,_⟩:=h
  have hi:i < ρ'.length:=by rw [← R'.len]; exact (j7.mp e).1
  exact ⟨e,_,j6 hi⟩
 | own a=>exact n.elim
 | tupO ds d=>exact n.elim
def a0X (o:Option c9) (k:c9 → Prop):Prop:=match o with
 | some d=>k d
 | none=>False
theorem a0q {o:Option c9} {k:c9 → Prop} (h:a0X o k):∃ d,o = some d ∧ k d:=by
 unfold a0X at h
 split at h
 ·exact ⟨_,rfl,h⟩
 ·exact h.elim
def n9:AAx:=fun ρ _ P=>P [] ρ
def d3 (a:AEx) (b:AAx):AAx:=fun ρ PX P=>a ρ PX fun r ρ1=>b ρ1 PX fun rs ρ2=>P (r.hold :: rs) ρ2
theorem d9:AS0 K W p7 n9:=fun C ρ PX P F H σ Q R h _ k=>k [] F H [] ρ R (.refl _) .nil h
theorem c7 {te:TE} {t:TA} {a:AEx} {b:AAx} (ha:ES K W te a) (hb:AS0 K W t b):AS0 K W (d4 te t) (d3 a b):=fun C ρ PX P F H σ Q R h xs k =>
 ha C ρ PX _ F H σ _ R h xs fun v F1 H1 r ρ1 R1 s1 o1 p1=>by
  obtain ⟨F2,R2,s2,o2,n2⟩:=a2R R1 o1
  refine hb C ρ1 PX _ F2 H1 σ _ R2 p1 xs fun vs F3 H3 rs ρ3 R3 s3 o3 p3=>?_
  exact k (v :: vs) F3 H3 (r.hold :: rs) ρ3 R3 ((s1.trans s2).trans s3) (.cons ⟨o2.stay s3 R3 n2,n2⟩ o3) p3
inductive Out where
 | dat (d:c9)
 | newL (ds:List c9)
 | newT (ds:List c9)
def Out.rv:Out → RV
 | .dat d=>.dat d
 | .newL ds=>.own (.ml none ds)
 | .newT ds=>.dat (.tuple ds)
structure OutS (K:b0) (F H:Hp) (Pd:Out → Prop) (Q:VK):Prop where
 dat:∀ z d,Dr K F z d → Pd (.dat d) → Q z H
 newL:∀ p xs ds,H p = none → DrAll K F xs ds → Pd (.newL ds) → Q (.ref p) (upd H p (.lst xs))
 newT:∀ p xs ds,H p = none → DrAll K F xs ds → Pd (.newT ds) → Q (.ref p) (upd H p (.tup xs))
theorem d4i {C:C0} {F H:Hp} {σ:a2W} {ρ:List AV} {P:RV → List AV → Prop} {Q:VK} (R:Rep K C F H σ ρ) (k:∀ v F' H' r,Rep K C F' H' σ ρ → a6j F F' → a6P K C F' H' σ ρ v r → P r ρ → Q v H'):OutS K F H (fun o=>P o.rv ρ) Q where
 dat:=fun z d hd hp=>k z F H (.dat d) R (.refl _) hd hp
 newL:=fun p xs ds hn hd hp=>by
  obtain ⟨R',hF,h0,hm⟩:=R.laidM (u:=.lst xs) hn
  exact k (.ref p) F _ (.own (.ml none ds)) R' (.refl _) ⟨p,rfl,rfl,⟨p,xs,rfl,hF,a0I,hd,h0⟩,h0,hm⟩ hp
 newT:=fun p xs ds hn hd hp=>by
  obtain ⟨R',s⟩:=R.laidF (u:=.tup xs) hn
  exact k (.ref p) _ _ (.dat (.tuple ds)) R' s (.tup (.of a0I) (hd.mono s)) hp
def DOp:=c9 → c9 → (Out → Prop) → Prop
def R2S (K:b0) (r:R2) (g:DOp):Prop:=∀ F H x y d e Pd Q,a6j F H → Lk K F H x d → Lk K F H y e → g d e Pd → OutS K F H Pd Q → r x y H Q
def aOp (g:DOp) (a b:AEx):AEx:=fun ρ PX P=>a ρ PX fun r1 ρ1=>b ρ1 PX fun r2 ρ2=>a0X (r1.hold.look ρ2) fun d=>a0X (r2.look ρ2) fun e=>g d e fun o=>P o.rv ρ2
theorem g6 {r:R2} {g:DOp} {ta tb:TE} {a b:AEx} (hr:R2S K r g) (ha:ES K W ta a) (hb:ES K W tb b):ES K W (tOp r ta tb) (aOp g a b):=fun C ρ PX P F H σ Q R h xs k =>
 ha C ρ PX _ F H σ _ R h xs fun v F1 H1 r1 ρ1 R1 s1 o1 p1=>by
  obtain ⟨F2,R2,s2,o2,n2⟩:=a2R R1 o1
  refine hb C ρ1 PX _ F2 H1 σ _ R2 p1 xs fun u F3 H3 r2 ρ3 R3 s3 o3 p3=>?_
  obtain ⟨d,ed,p3⟩:=a0q p3
  obtain ⟨e,ee,p3⟩:=a0q p3
  exact hr F3 H3 v u d e _ Q R3.sub ((o2.stay s3 R3 n2).lk R3 ed) (o3.lk R3 ee) p3 (d4i R3 fun v' F' H' r' R' s' o' p'=>k v' F' H' r' ρ3 R' (((s1.trans s2).trans s3).trans s') o' p')
def DUn:=c9 → (Out → Prop) → Prop
def U1S (K:b0) (r:V → Hp → VK → Prop) (g:DUn):Prop:=∀ F H x d Pd Q,a6j F H → Lk K F H x d → g d Pd → OutS K F H Pd Q → r x H Q
def aUn (g:DUn) (a:AEx):AEx:=fun ρ PX P=>a ρ PX fun r1 ρ1=>a0X (r1.look ρ1) fun d=>g d fun o=>P o.rv ρ1
theorem d6q {r:V → Hp → VK → Prop} {g:DUn} {ta:TE} {a:AEx} (hr:U1S K r g) (ha:ES K W ta a):ES K W (tUn r ta) (aUn g a):=fun C ρ PX P F H σ Q R h xs k =>
 ha C ρ PX _ F H σ _ R h xs fun v F1 H1 r1 ρ1 R1 s1 o1 p1=>by
  obtain ⟨d,ed,p1⟩:=a0q p1
  exact hr F1 H1 v d _ Q R1.sub (o1.lk R1 ed) p1 (d4i R1 fun v' F' H' r' R' s' o' p'=>k v' F' H' r' ρ1 R' (s1.trans s') o' p')
def d7D (o:Out) (k:Bool → Prop):Prop:=match o with
 | .dat (.bool b)=>k b
 | _=>False
def c3W (g g':DOp) (a b c:AEx):AEx:=fun ρ PX P=>a ρ PX fun r1 ρ1=>b ρ1 PX fun r2 ρ2=>a0X (r1.hold.look ρ2) fun d=>a0X (r2.hold.look ρ2) fun e=>g d e fun o=>d7D o fun k =>
 if k = true then c ρ2 PX fun r3 ρ3=>a0X (r2.hold.look ρ3) fun e'=>a0X (r3.look ρ3) fun f=>g' e' f fun o'=>P o'.rv ρ3 else P (.dat (.bool false)) ρ2
theorem c2f {r r':R2} {g g':DOp} {ta tb tc:TE} {a b c:AEx} (hr:R2S K r g) (hr':R2S K r' g') (ha:ES K W ta a) (hb:ES K W tb b) (hc:ES K W tc c):ES K W (tChain r r' ta tb tc) (c3W g g' a b c):=fun C ρ PX P F H σ Q R h xs k =>
 ha C ρ PX _ F H σ _ R h xs fun v F1 H1 r1 ρ1 R1 s1 o1 p1=>by
  obtain ⟨F2,R2,s2,o2,n2⟩:=a2R R1 o1
  refine hb C ρ1 PX _ F2 H1 σ _ R2 p1 xs fun u F3 H3 r2 ρ3 R3 s3 o3 p3=>?_
  obtain ⟨d,ed,p3⟩:=a0q p3
  obtain ⟨e,ee,p3⟩:=a0q p3
  obtain ⟨F4,R4,s4,o4,n4⟩:=a2R R3 o3
  have s24:=s3.trans s4
  refine hr F4 H3 v u d e _ _ R4.sub ((o2.stay s24 R4 n2).lk R4 ed) (o4.lk R4 ee) p3 ⟨fun z dd hz pd=>?_,fun p xs ds hn hd pd=>pd.elim,fun p xs ds hn hd pd=>pd.elim⟩
  cases dd with
  | bool bb =>
   cases hz
   refine ⟨bb,rfl,?_⟩
   cases bb with
   | true =>
    refine hc C ρ3 PX _ F4 H3 σ _ R4 pd xs fun w F5 H5 r3 ρ5 R5 s5 o5 p5=>?_
    obtain ⟨e',ee',p5⟩:=a0q p5
    obtain ⟨f,ef,p5⟩:=a0q p5
    exact hr' F5 H5 u w e' f _ Q R5.sub ((o4.stay s5 R5 n4).lk R5 ee') (o5.lk R5 ef) p5 (d4i R5 fun v' F' H' r' R' s' o' p'=>k v' F' H' r' ρ5 R' ((((s1.trans s2).trans s24).trans s5).trans s') o' p')
   | false=>exact k (.bl false) F4 H3 (.dat (.bool false)) ρ3 R4 ((s1.trans s2).trans s24) (.bl false) pd
  | _=>exact pd.elim
def b7m:List RV → Option (List c9)
 | []=>some []
 | .dat d :: rs=>(b7m rs).map (d :: ·)
 | _ :: _=>none
def a3t (o:Option (List c9)) (k:List c9 → Prop):Prop:=match o with
 | some d=>k d
 | none=>False
theorem a4K {o:Option (List c9)} {k:List c9 → Prop} (h:a3t o k):∃ d,o = some d ∧ k d:=by
 unfold a3t at h
 split at h
 ·exact ⟨_,rfl,h⟩
 ·exact h.elim
theorem a7d {C:C0} {F H:Hp} {σ:a2W} {ρ:List AV}:∀ {vs:List V} {rs:List RV} {ds:List c9},c78 K C F H σ ρ vs rs → b7m rs = some ds → DrAll K F vs ds
 | _,_,_,.nil,e=>by cases e; exact .nil
 | _,.dat d :: rs,ds,.cons h t,e=>by
  unfold b7m at e
  cases q:b7m rs with
  | none=>rw [q] at e; cases e
  | some l =>
   rw [q] at e
   cases e
   exact .cons h.1 (a7d t q)
 | _,.bor i :: rs,ds,.cons h t,e=>by cases e
 | _,.own i :: rs,ds,.cons h t,e=>by cases e
def b8J (a:AAx):AEx:=fun ρ PX P=>a ρ PX fun rs ρ1=>a3t (b7m rs) fun ds=>ds.length ≤ m8 ∧ P (.dat (.tuple ds)) ρ1
theorem a4j {t:TA} {a:AAx} (ha:AS0 K W t a):ES K W (d5n t) (b8J a):=fun C ρ PX P F H σ Q R h xs k =>
 ha C ρ PX _ F H σ _ R h xs fun vs F1 H1 rs ρ1 R1 s1 o1 p1=>by
  obtain ⟨ds,e,z,p1⟩:=a4K p1
  have hd:=a7d o1 e
  refine ⟨by rw [hd.length]; exact z,fun p hp=>?_⟩
  obtain ⟨R',s'⟩:=R1.laidF (u:=.tup vs) hp
  exact k (.ref p) _ _ (.dat (.tuple ds)) ρ1 R' (s1.trans s') (Dr.tup (.of a0I) (hd.mono s')) p1
def a49 (a:AAx):AEx:=fun ρ PX P=>a ρ PX fun rs ρ1=>a3t (b7m rs) fun ds=>ds.length ≤ m8 ∧ P (.own (.ml none ds)) ρ1
theorem a0T {t:TA} {a:AAx} (ha:AS0 K W t a):ES K W (b1C t) (a49 a):=fun C ρ PX P F H σ Q R h xs k =>
 ha C ρ PX _ F H σ _ R h xs fun vs F1 H1 rs ρ1 R1 s1 o1 p1=>by
  obtain ⟨ds,e,z,p1⟩:=a4K p1
  have hd:=a7d o1 e
  refine ⟨by rw [hd.length]; exact z,fun p hp=>?_⟩
  exact (d4i R1 (P:=P) (Q:=Q) fun v' F' H' r' R' s' o' p'=>k v' F' H' r' ρ1 R' (s1.trans s') o' p').newL p vs ds hp hd p1
def b5e (ρ:List AV):List RV → Option (List c9)
 | []=>some []
 | r :: rs=>match r.look ρ,b5e ρ rs with
  | some d,some ds=>some (d :: ds)
  | _,_=>none
abbrev d3H (K:b0) (F H:Hp):List V → List c9 → Prop:=a3n fun v d=>Lk K F H v d
theorem c4K {C:C0} {F H:Hp} {σ:a2W} {ρ:List AV} (R:Rep K C F H σ ρ):∀ {vs:List V} {rs:List RV} {ds:List c9},c78 K C F H σ ρ vs rs → b5e ρ rs = some ds → d3H K F H vs ds
 | _,_,_,.nil,e=>by cases e; exact .nil
 | _,r :: rs,ds,.cons h t,e=>by
  unfold b5e at e
  cases q1:r.look ρ with
  | none=>rw [q1] at e; cases e
  | some d =>
   cases q:b5e ρ rs with
   | none=>rw [q1,q] at e; cases e
   | some l =>
    rw [q1,q] at e
    cases e
    exact .cons (h.1.lk R q1) (c4K R t q)
def DCl:=List c9 → (Out → Prop) → Prop
def R1S (K:b0) (r:List V → Hp → VK → Prop) (g:DCl):Prop:=∀ F H vs ds Pd Q,a6j F H → d3H K F H vs ds → g ds Pd → OutS K F H Pd Q → r vs H Q
def aCB (g:DCl) (a:AAx):AEx:=fun ρ PX P=>a ρ PX fun rs ρ1=>a3t (b5e ρ1 rs) fun ds=>g ds fun o=>P o.rv ρ1
theorem a2l {r:List V → Hp → VK → Prop} {g:DCl} {t:TA} {a:AAx} (hr:R1S K r g) (ha:AS0 K W t a):ES K W (tCB r t) (aCB g a):=fun C ρ PX P F H σ Q R h xs k =>
 ha C ρ PX _ F H σ _ R h xs fun vs F1 H1 rs ρ1 R1 s1 o1 p1=>by
  obtain ⟨ds,e,p1⟩:=a4K p1
  exact hr F1 H1 vs ds _ Q R1.sub (c4K R1 o1 e) p1 (d4i R1 fun v' F' H' r' R' s' o' p'=>k v' F' H' r' ρ1 R' (s1.trans s') o' p')
def c5P (d:c9) (k:Bool → Prop):Prop:=match d with
 | .none=>k false
 | .bool b=>k b
 | .int i=>k (i != 0)
 | .str s=>s.length ≤ m8 ∧ k ((s.length:Int) != 0)
 | .list ds=>k (!ds.isEmpty)
 | .tuple ds=>k (!ds.isEmpty)
 | .dict es=>k (!es.isEmpty)
theorem b96 {F:Hp} {vs:List V} {ds:List c9} (h:DrAll K F vs ds):vs.isEmpty = ds.isEmpty:=by
 cases h <;> rfl
theorem c4d {F:Hp} {vs:List (Key × V)} {ds:List (c9 × c9)} (h:DrKV K F vs ds):vs.isEmpty = ds.isEmpty:=by
 cases h <;> rfl
theorem c22 {F H:Hp} {v:V} {d:c9} {k:Bool → Prop} (s:a6j F H) (h:Lk K F H v d) (t:c5P d k):∃ b,TruV K v H b ∧ k b:=by
 cases d with
 | none=>rw [h.none]; exact ⟨false,rfl,t⟩
 | bool b=>rw [h.bool]; exact ⟨b,rfl,t⟩
 | int i=>rw [h.int]; exact ⟨_,rfl,t⟩
 | str i=>rw [h.str]; exact ⟨_,⟨t.1,rfl⟩,t.2⟩
 | list ds =>
  obtain ⟨l,xs,rfl,h1,h2⟩:=h.list s
  exact ⟨_,.inl ⟨xs,.of h1,rfl⟩,by rw [b96 h2]; exact t⟩
 | tuple ds =>
  obtain ⟨l,xs,rfl,h1,h2⟩:=h.tuple s
  exact ⟨_,.inr (.inl ⟨xs,h1,rfl⟩),by rw [b96 h2]; exact t⟩
 | dict es =>
  rcases h with h | ⟨l,xs,ds',e1,e2,h1,h2⟩ | ⟨l,kvs,es',e1,e2,h1,h2⟩
  ·cases h with
   | dic h1 h2=>exact ⟨_,.inr (.inr ⟨_,s _ _ h1,rfl⟩),by rw [c4d h2]; exact t⟩
  ·cases e2
  ·cases e2
   subst e1
   exact ⟨_,.inr (.inr ⟨_,h1,rfl⟩),by rw [c4d h2]; exact t⟩
def a8Q (K:b0) (ta:TE):TT:=fun σ H Q=>ta σ H fun x H'=>∃ k,TruV K x H' k ∧ Q k H'
def a9I (a:AEx):ATx:=fun ρ PX P=>a ρ PX fun r ρ1=>a0X (r.look ρ1) fun d=>c5P d fun b=>P b ρ1
theorem a1V {ta:TE} {a:AEx} (ha:ES K W ta a):TSd K W (a8Q K ta) (a9I a):=fun C ρ PX P F H σ Q R h xs k =>
 ha C ρ PX _ F H σ _ R h xs fun v F1 H1 r1 ρ1 R1 s1 o1 p1=>by
  obtain ⟨d,ed,p1⟩:=a0q p1
  obtain ⟨b,hb,p1⟩:=c22 R1.sub (o1.lk R1 ed) p1
  exact ⟨b,hb,k b F1 H1 ρ1 R1 s1 p1⟩
def d5p (a b:ATx):ATx:=fun ρ PX P=>a ρ PX fun c ρ1=>if c = true then b ρ1 PX P else P false ρ1
def aOr (a b:ATx):ATx:=fun ρ PX P=>a ρ PX fun c ρ1=>if c = true then P true ρ1 else b ρ1 PX P
def b2M (a:ATx):ATx:=fun ρ PX P=>a ρ PX fun c ρ1=>P (!c) ρ1
theorem c1a {t u:TT} {a b:ATx} (ha:TSd K W t a) (hb:TSd K W u b):TSd K W (tAnd t u) (d5p a b):=fun C ρ PX P F H σ Q R h xs k =>
 ha C ρ PX _ F H σ _ R h xs fun c F1 H1 ρ1 R1 s1 p1=>by
  cases c with
  | true=>exact hb C ρ1 PX P F1 H1 σ Q R1 p1 xs fun c F2 H2 ρ2 R2 s2 p2=>k c F2 H2 ρ2 R2 (s1.trans s2) p2
  | false=>exact k false F1 H1 ρ1 R1 s1 p1
theorem a9R {t u:TT} {a b:ATx} (ha:TSd K W t a) (hb:TSd K W u b):TSd K W (tOr t u) (aOr a b):=fun C ρ PX P F H σ Q R h xs k =>
 ha C ρ PX _ F H σ _ R h xs fun c F1 H1 ρ1 R1 s1 p1=>by
  cases c with
  | false=>exact hb C ρ1 PX P F1 H1 σ Q R1 p1 xs fun c F2 H2 ρ2 R2 s2 p2=>k c F2 H2 ρ2 R2 (s1.trans s2) p2
  | true=>exact k true F1 H1 ρ1 R1 s1 p1
theorem a2s {t:TT} {a:ATx} (ha:TSd K W t a):TSd K W (c77 t) (b2M a):=fun C ρ PX P F H σ Q R h xs k =>
 ha C ρ PX _ F H σ _ R h xs fun c F1 H1 ρ1 R1 s1 p1=>k (!c) F1 H1 ρ1 R1 s1 p1
def a7D (a b:AEx):AEx:=fun ρ PX P=>a ρ PX fun r ρ1=>a0X (r.hold.look ρ1) fun d=>c5P d fun c=>if c = true then b ρ1 PX P else P r.hold ρ1
def aOrT (a b:AEx):AEx:=fun ρ PX P=>a ρ PX fun r ρ1=>a0X (r.hold.look ρ1) fun d=>c5P d fun c=>if c = true then P r.hold ρ1 else b ρ1 PX P
def d3M (a:AEx):AEx:=fun ρ PX P=>a ρ PX fun r ρ1=>a0X (r.look ρ1) fun d=>c5P d fun c=>P (.dat (.bool (!c))) ρ1
theorem a23 {ta tb:TE} {a b:AEx} (ha:ES K W ta a) (hb:ES K W tb b):ES K W (b45 K ta tb) (a7D a b):=fun C ρ PX P F H σ Q R h xs k =>
 ha C ρ PX _ F H σ _ R h xs fun v F1 H1 r ρ1 R1 s1 o1 p1=>by
  obtain ⟨F2,R2,s2,o2,n2⟩:=a2R R1 o1
  obtain ⟨d,ed,p1⟩:=a0q p1
  obtain ⟨c,hc,p1⟩:=c22 R2.sub (o2.lk R2 ed) p1
  refine ⟨c,hc,?_⟩
  cases c with
  | true=>exact hb C ρ1 PX P F2 H1 σ Q R2 p1 xs fun v F3 H3 r3 ρ3 R3 s3 o3 p3=>k v F3 H3 r3 ρ3 R3 ((s1.trans s2).trans s3) o3 p3
  | false=>exact k v F2 H1 r.hold ρ1 R2 (s1.trans s2) o2 p1
theorem d5x {ta tb:TE} {a b:AEx} (ha:ES K W ta a) (hb:ES K W tb b):ES K W (tOrT K ta tb) (aOrT a b):=fun C ρ PX P F H σ Q R h xs k =>
 ha C ρ PX _ F H σ _ R h xs fun v F1 H1 r ρ1 R1 s1 o1 p1=>by
  obtain ⟨F2,R2,s2,o2,n2⟩:=a2R R1 o1
  obtain ⟨d,ed,p1⟩:=a0q p1
  obtain ⟨c,hc,p1⟩:=c22 R2.sub (o2.lk R2 ed) p1
  refine ⟨c,hc,?_⟩
  cases c with
  | false=>exact hb C ρ1 PX P F2 H1 σ Q R2 p1 xs fun v F3 H3 r3 ρ3 R3 s3 o3 p3=>k v F3 H3 r3 ρ3 R3 ((s1.trans s2).trans s3) o3 p3
  | true=>exact k v F2 H1 r.hold ρ1 R2 (s1.trans s2) o2 p1
theorem d1n {ta:TE} {a:AEx} (ha:ES K W ta a):ES K W (tNotT K ta) (d3M a):=fun C ρ PX P F H σ Q R h xs k =>
 ha C ρ PX _ F H σ _ R h xs fun v F1 H1 r ρ1 R1 s1 o1 p1=>by
  obtain ⟨d,ed,p1⟩:=a0q p1
  obtain ⟨c,hc,p1⟩:=c22 R1.sub (o1.lk R1 ed) p1
  exact ⟨c,hc,k (.bl (!c)) F1 H1 (.dat (.bool (!c))) ρ1 R1 s1 (.bl _) p1⟩
end Aq
namespace Aq
open PySem L2
variable {K:b0} {W:WX}
def a1m:ASt:=fun D ρ=>D.nx ρ
def a0t (a b:ASt):ASt:=fun D ρ=>a { D with nx:=b D } ρ
theorem y0:SS K W a15 a1m:=fun C D ρ F H σ D' R h _ n _ _ _=>n F H σ ρ R (.refl _) h
theorem j9 {t u:TS} {a b:ASt} (ha:SS K W t a) (hb:SS K W u b):SS K W (a0P t u) (a0t a b):=fun C D ρ F H σ D' R h xs n bk ct rt =>
 ha C { D with nx:=b D } ρ F H σ { D' with nx:=u D' } R h xs
  (fun F1 H1 σ1 ρ1 R1 s1 p1=>hb C D ρ1 F1 H1 σ1 D' R1 p1 xs (fun F2 H2 σ2 ρ2 R2 s2 p2=>n F2 H2 σ2 ρ2 R2 (s1.trans s2) p2) (fun F2 H2 σ2 ρ2 R2 s2 p2=>bk F2 H2 σ2 ρ2 R2 (s1.trans s2) p2) (fun F2 H2 σ2 ρ2 R2 s2 p2=>ct F2 H2 σ2 ρ2 R2 (s1.trans s2) p2)
   fun v F2 H2 σ2 ρ2 r2 R2 s2 o2 p2=>rt v F2 H2 σ2 ρ2 r2 R2 (s1.trans s2) o2 p2) bk ct rt
def a3m (a:AEx):ASt:=fun D ρ=>a ρ D.ex fun _ ρ1=>D.nx ρ1
theorem a0R {te:TE} {a:AEx} (ha:ES K W te a):SS K W (a5v te) (a3m a):=fun C D ρ F H σ D' R h xs n _ _ _ =>
 ha C ρ D.ex _ F H σ _ R h xs fun v F1 H1 r ρ1 R1 s1 o1 p1=>n F1 H1 σ ρ1 R1 s1 p1
/-- what is handed back: a local list that is borrowed becomes the asker's own -/
def d8z (r:RV) (ρ:List AV) (k:RV → List AV → Prop):Prop:=match r with
 | .bor i=>(match ρ[i]? with
  | some (.ml none ds)=>k (.own (.ml none ds)) (ρ.set i .un)
  | some (.mdk none ds)=>k (.own (.mdk none ds)) (ρ.set i .un)
  | _=>False)
 | r=>k r ρ
theorem d7y {C:C0} {F H:Hp} {σ:a2W} {ρ:List AV} {v:V} {r:RV} {k:RV → List AV → Prop} (R:Rep K C F H σ ρ) (h:a6P K C F H σ ρ v r) (p:d8z r ρ k):∃ r' ρ',Rep K C F H σ ρ' ∧ a6P K C F H σ ρ' v r' ∧ k r' ρ':=by
 have go:∀ (i:Nat) (a:AV),σ[i]? = some (some v) → ρ[i]? = some a → a.isOwn = true → (∀ l,Slot K C F H a (some (.ref l)) → C.H0 l = none) → (∃ l,v = .ref l) → k (.own a) (ρ.set i .un) → ∃ r' ρ',Rep K C F H σ ρ' ∧ a6P K C F H σ ρ' v r' ∧ k r' ρ':=fun i a ev ea m h0 ⟨l,el⟩ q=>by
  subst el
  obtain ⟨o,eo,hs⟩:=R.slot i a ea
  rw [ev] at eo
  cases eo
  refine ⟨.own a,_,R.unA (i:=i),⟨l,rfl,m,hs,h0 l hs,fun j ⟨b,eb,f⟩=>?_⟩,q⟩
  by_cases hn:i = j
  ·subst hn
   rw [m5 (j7.mp ea).1] at eb
   cases eb; cases f.mut
  ·rw [k8 hn] at eb
   exact R.apart i j l hn (.mk ea (AV.isOwn_mut m) ev) ⟨b,eb,f⟩
 cases r with
 | dat d=>exact ⟨_,_,R,h,p⟩
 | own a=>exact ⟨_,_,R,h,p⟩
 | tupO ds d=>exact ⟨_,_,R,h,p⟩
 | bor i =>
  obtain ⟨ev,_⟩:=h
  have p':(match ρ[i]? with
   | some (.ml none ds)=>k (.own (.ml none ds)) (ρ.set i .un)
   | some (.mdk none ds)=>k (.own (.mdk none ds)) (ρ.set i .un)
   | _=>False):=p
  split at p'
  ·rename_i ds e
   obtain ⟨o,eo,l,xs,e1,hs⟩:=R.slot i _ e
   rw [ev] at eo
   cases eo
   cases e1
   exact go i _ ev e rfl (fun l' ⟨l2,xs2,e2,_,_,_,h3⟩=>by cases e2; exact h3) ⟨l,rfl⟩ p'
  ·rename_i ds e
   obtain ⟨o,eo,l,xs,e1,hs⟩:=R.slot i _ e
   rw [ev] at eo
   cases eo
   cases e1
   exact go i _ ev e rfl (fun l' ⟨l2,xs2,e2,_,_,_,h3⟩=>by cases e2; exact h3) ⟨l,rfl⟩ p'
  ·exact p'.elim
def a2r (a:AEx):ASt:=fun D ρ=>a ρ D.ex fun r ρ1=>d8z r ρ1 D.rt
theorem t7 {te:TE} {a:AEx} (ha:ES K W te a):SS K W (a3p te) (a2r a):=fun C D ρ F H σ D' R h xs _ _ _ rt =>
 ha C ρ D.ex _ F H σ _ R h xs fun v F1 H1 r ρ1 R1 s1 o1 p1=>by
  obtain ⟨r',ρ',R',o',p'⟩:=d7y R1 o1 p1
  exact rt v F1 H1 σ ρ' r' R' s1 o' p'
def sRetN:ASt:=fun D ρ=>D.rt (.dat .none) ρ
def sIf (c:ATx) (a b:ASt):ASt:=fun D ρ=>c ρ D.ex fun k ρ1=>if k = true then a D ρ1 else b D ρ1
theorem a05 {c:TT} {t u:TS} {cc:ATx} {a b:ASt} (hc:TSd K W c cc) (ha:SS K W t a) (hb:SS K W u b):SS K W (a6h c t u) (sIf cc a b):=fun C D ρ F H σ D' R h xs n bk ct rt =>
 hc C ρ D.ex _ F H σ _ R h xs fun k F1 H1 ρ1 R1 s1 p1=>by
  cases k with
  | true=>exact ha C D ρ1 F1 H1 σ D' R1 p1 xs (fun F2 H2 σ2 ρ2 R2 s2 p2=>n F2 H2 σ2 ρ2 R2 (s1.trans s2) p2) (fun F2 H2 σ2 ρ2 R2 s2 p2=>bk F2 H2 σ2 ρ2 R2 (s1.trans s2) p2) (fun F2 H2 σ2 ρ2 R2 s2 p2=>ct F2 H2 σ2 ρ2 R2 (s1.trans s2) p2) fun v F2 H2 σ2 ρ2 r2 R2 s2 o2 p2=>rt v F2 H2 σ2 ρ2 r2 R2 (s1.trans s2) o2 p2
  | false=>exact hb C D ρ1 F1 H1 σ D' R1 p1 xs (fun F2 H2 σ2 ρ2 R2 s2 p2=>n F2 H2 σ2 ρ2 R2 (s1.trans s2) p2) (fun F2 H2 σ2 ρ2 R2 s2 p2=>bk F2 H2 σ2 ρ2 R2 (s1.trans s2) p2) (fun F2 H2 σ2 ρ2 R2 s2 p2=>ct F2 H2 σ2 ρ2 R2 (s1.trans s2) p2) fun v F2 H2 σ2 ρ2 r2 R2 s2 o2 p2=>rt v F2 H2 σ2 ρ2 r2 R2 (s1.trans s2) o2 p2
def d92:ASt:=fun D ρ=>D.bk ρ
def sCont:ASt:=fun D ρ=>D.ct ρ
def setR (i:Nat) (r:RV) (ρ:List AV) (k:List AV → Prop):Prop:=match r with
 | .dat d=>k (ρ.set i (.dat d))
 | .own a=>k (ρ.set i a)
 | .bor _=>False
 | .tupO _ _=>False
def a2T (i:Nat) (a:AEx):ASt:=fun D ρ=>a ρ D.ex fun r ρ1=>setR i r ρ1 D.nx
theorem y9 {i:Nat} {te:TE} {a:AEx} (ha:ES K W te a):SS K W (a3w te (v4 i)) (a2T i a):=fun C D ρ F H σ D' R h xs n _ _ _ =>
 ha C ρ D.ex _ F H σ _ R h xs fun v F1 H1 r ρ1 R1 s1 o1 p1=>by
  cases r with
  | dat d=>exact n F1 H1 _ _ (R1.setD o1) s1 p1
  | own a =>
   obtain ⟨l,rfl,m,hs,h0,hm⟩:=o1
   exact n F1 H1 _ _ (R1.setM hs hm (AV.isOwn_inn m)) s1 p1
  | bor j=>exact p1.elim
  | tupO _ _=>exact p1.elim
abbrev ATg:=c9 → List AV → (List AV → Prop) → Prop
abbrev d3q:=List c9 → List AV → (List AV → Prop) → Prop
def d09 (js:List Nat) (σ σ':a2W):Prop:=σ'.length = σ.length ∧ ∀ i,i ∉ js → σ'[i]? = σ[i]?
def GS (K:b0) (js:List Nat) (t:TG) (g:ATg):Prop:=∀ C ρ F H σ v d P Q,Rep K C F H σ ρ → Dr K F v d → g d ρ P → (∀ σ' ρ',d09 js σ σ' → Rep K C F H σ' ρ' → P ρ' → Q σ' H) → t v σ H Q
def GSs (K:b0) (js:List Nat) (t:TGs) (g:d3q):Prop:=∀ C ρ F H σ vs ds P Q,Rep K C F H σ ρ → DrAll K F vs ds → g ds ρ P → (∀ σ' ρ',d09 js σ σ' → Rep K C F H σ' ρ' → P ρ' → Q σ' H) → t vs σ H Q
def gN (i:Nat):ATg:=fun d ρ k=>k (ρ.set i (.dat d))
def d6v:d3q:=fun ds ρ k=>match ds with
 | []=>k ρ
 | _=>False
def c4c (t:ATg) (u:d3q):d3q:=fun ds ρ k=>match ds with
 | d :: ds=>t d ρ fun ρ1=>u ds ρ1 k
 | []=>False
def gT (n:Nat) (t:d3q):ATg:=fun d ρ k=>match d with
 | .tuple ds=>ds.length = n ∧ t ds ρ k
 | _=>False
theorem a0W {i:Nat}:GS K [i] (v4 i) (gN i):=fun C ρ F H σ v d P Q R hd h k=>k _ _ ⟨p8,fun j hj=>k8 (fun e=>hj (by simp [e]))⟩ (R.setD hd) h
theorem d9o:GSs K [] gNil d6v:=fun C ρ F H σ vs ds P Q R hd h k=>by
 cases hd with
 | nil=>exact ⟨rfl,k _ _ ⟨rfl,fun _ _=>rfl⟩ R h⟩
 | cons _ _=>exact h.elim
theorem c6b {js ks:List Nat} {t:TG} {u:TGs} {g:ATg} {gs:d3q} (h1:GS K js t g) (h2:GSs K ks u gs):GSs K (js ++ ks) (gCons t u) (c4c g gs):=fun C ρ F H σ vs ds P Q R hd h k=>by
 cases hd with
 | nil=>exact h.elim
 | cons d1 d2=>exact ⟨_,_,rfl,h1 C ρ F H σ _ _ _ _ R d1 h fun σ1 ρ1 o1 R1 p1=>h2 C ρ1 F H σ1 _ _ P Q R1 d2 p1 fun σ2 ρ2 o2 R2 p2 =>
   k σ2 ρ2 ⟨o2.1.trans o1.1,fun i hi=>(o2.2 i fun z=>hi (a2K _ z)).trans (o1.2 i fun z=>hi (a0E _ z))⟩ R2 p2⟩
theorem d9p {js:List Nat} {n:Nat} {t:TGs} {g:d3q} (h1:GSs K js t g):GS K js (gTup K n t) (gT n g):=fun C ρ F H σ v d P Q R hd h k=>by
 cases d with
 | tuple ds =>
  obtain ⟨e,h⟩:=h
  cases hd with
  | tup q1 q2=>exact ⟨_,_,rfl,b89 R.sub q1,by rw [q2.length]; exact e,h1 C ρ F H σ _ _ P Q R q2 h k⟩
 | _=>exact h.elim
def sAsg (a:AEx) (g:ATg):ASt:=fun D ρ=>a ρ D.ex fun r ρ1=>match r.hold with
 | .dat d=>g d ρ1 D.nx
 | _=>False
theorem d97 {js:List Nat} {te:TE} {t:TG} {a:AEx} {g:ATg} (ha:ES K W te a) (hg:GS K js t g):SS K W (a3w te t) (sAsg a g):=fun C D ρ F H σ D' R h xs n _ _ _ =>
 ha C ρ D.ex _ F H σ _ R h xs fun v F1 H1 r ρ1 R1 s1 o1 p1=>by
  obtain ⟨F2,R2,s2,o2,n2⟩:=a2R R1 o1
  cases e:r.hold with
  | dat d =>
   rw [e] at o2
   simp only [e] at p1
   exact hg C ρ1 F2 H1 σ v d D.nx _ R2 o2 p1 fun σ3 ρ3 _ R3 p3=>n F2 H1 σ3 ρ3 R3 (s1.trans s2) p3
  | bor j=>simp only [e] at p1
  | own j=>simp only [e] at p1
  | tupO _ _=>simp only [e] at p1
/-- a, b = x, y -/
def sPar (i j:Nat) (a:AAx):ASt:=fun D ρ=>a ρ D.ex fun rs ρ1=>a3t (b7m rs) fun ds=>match ds with
 | [d,e]=>D.nx ((ρ1.set i (.dat d)).set j (.dat e))
 | _=>False
def d5Q (c:ATx) (b:ASt):ASt:=fun D ρ=>∃ I:Nat → List AV → Prop,(∃ m,I m ρ) ∧ ∀ m ρ,I m ρ → c ρ D.ex fun k ρ1=>if k = true then b { D with nx:=fun ρ'=>∃ m',m' < m ∧ I m' ρ',ct:=fun ρ'=>∃ m',m' < m ∧ I m' ρ',bk:=D.nx } ρ1 else D.nx ρ1
theorem d4H {c:TT} {t:TS} {cc:ATx} {b:ASt} (hc:TSd K W c cc) (hb:SS K W t b):SS K W (tWhile c t) (d5Q cc b):=fun C D ρ F H σ D' R h xs n bk ct rt=>by
 obtain ⟨I,⟨m0,i0⟩,step⟩:=h
 refine ⟨fun m σ' H'=>∃ F' ρ',Rep K C F' H' σ' ρ' ∧ a6j F F' ∧ I m ρ',⟨m0,F,ρ,R,.refl _,i0⟩,fun m σ1 H1 ⟨F1,ρ1,R1,s1,i1⟩=>?_⟩
 refine hc C ρ1 D.ex _ F1 H1 σ1 _ R1 (step m ρ1 i1) xs fun k F2 H2 ρ2 R2 s2 p2=>?_
 cases k with
 | true =>
  refine ⟨fun σ' H'=>∃ F' ρ',Rep K C F' H' σ' ρ' ∧ a6j F F' ∧ ∃ m',m' < m ∧ I m' ρ',fun σ' H' ⟨F',ρ',R',s',m',lt,i'⟩=>⟨m',lt,F',ρ',R',s',i'⟩,?_⟩
  have s12:=s1.trans s2
  exact hb C _ ρ2 F2 H2 σ1 _ R2 p2 xs (fun F3 H3 σ3 ρ3 R3 s3 p3=>⟨F3,ρ3,R3,s12.trans s3,p3⟩) (fun F3 H3 σ3 ρ3 R3 s3 p3=>n F3 H3 σ3 ρ3 R3 (s12.trans s3) p3) (fun F3 H3 σ3 ρ3 R3 s3 p3=>⟨F3,ρ3,R3,s12.trans s3,p3⟩)
   fun v F3 H3 σ3 ρ3 r3 R3 s3 o3 p3=>rt v F3 H3 σ3 ρ3 r3 R3 (s12.trans s3) o3 p3
 | false=>exact n F2 H2 σ1 ρ2 R2 (s1.trans s2) p2
/-- a walk over data -/
structure Wk (K:b0) (F:Hp) (J:It) (ds:List c9):Prop where
 go:∀ F' H' i,a6j F F' → a6j F' H' → i < ds.length → J.go i H'
 stop:∀ F' H' i,a6j F F' → a6j F' H' → ds.length ≤ i → J.stop i H'
 yld:∀ C F' H' σ ρ i x H3 d,Rep K C F' H' σ ρ → a6j F F' → ds[i]? = some d → J.yld i H' x H3 → ∃ F3,Rep K C F3 H3 σ ρ ∧ a6j F' F3 ∧ Dr K F3 x d ∧ a6j H' H3
abbrev AIt:=List AV → PXT → (List c9 → List AV → Prop) → Prop
def IS (K:b0) (W:WX) (wi:TI) (ai:AIt):Prop:=∀ C ρ PX P F H σ R',Rep K C F H σ ρ → ai ρ PX P → XS K C W PX → (∀ J F' H' ds ρ',Rep K C F' H' σ ρ' → a6j F F' → Wk K F' J ds → P ds ρ' → R' J H') → wi σ H R'
def c4a (g:ATg) (b:ASt) (D:AEnds):List c9 → List AV → Prop
 | [],ρ=>D.nx ρ
 | d :: ds,ρ=>g d ρ fun ρ1=>b { D with nx:=c4a g b D ds,ct:=c4a g b D ds,bk:=D.nx } ρ1
def d2a (ai:AIt) (g:ATg) (b:ASt):ASt:=fun D ρ=>ai ρ D.ex fun ds ρ1=>c4a g b D ds ρ1
theorem c01 {js:List Nat} {wi:TI} {t:TG} {tb:TS} {ai:AIt} {g:ATg} {b:ASt} (hi:IS K W wi ai) (hg:GS K js t g) (hb:SS K W tb b):SS K W (tFor wi t tb) (d2a ai g b):=fun C D ρ F H σ D' R h xs n bk ct rt =>
 hi C ρ D.ex _ F H σ _ R h xs fun J F1 H1 ds ρ1 R1 s1 wk p1=>by
  refine ⟨fun i m σ' H'=>∃ F' ρ',Rep K C F' H' σ' ρ' ∧ a6j F1 F' ∧ m = ds.length - i ∧ i ≤ ds.length ∧ c4a g b D (ds.drop i) ρ',⟨_,F1,ρ1,R1,.refl _,rfl,a5b _,p1⟩,?_⟩
  rintro i m σ2 H2 ⟨F2,ρ2,R2,s2,rfl,hle,p2⟩
  by_cases hlt:i < ds.length
  ·have e1:ds.drop i = ds[i] :: ds.drop (i + 1):=d3B hlt
   rw [e1] at p2
   refine .inr ⟨wk.go F2 H2 i s2 R2.sub hlt,fun σ' H'=>∃ F' ρ',Rep K C F' H' σ' ρ' ∧ a6j F1 F' ∧ c4a g b D (ds.drop (i + 1)) ρ',fun σ' H' ⟨F',ρ',R',s',p'⟩=>⟨ds.length - (i + 1),by omega,F',ρ',R',s',rfl,hlt,p'⟩,fun x H3 hy=>?_⟩
   obtain ⟨F3,R3,s3,hd,_⟩:=wk.yld C F2 H2 σ2 ρ2 i x H3 ds[i] R2 s2 (j6 hlt) hy
   refine hg C ρ2 F3 H3 σ2 x ds[i] _ _ R3 hd p2 fun σ4 ρ4 _ R4 p4=>?_
   have s13:=s2.trans s3
   exact hb C _ ρ4 F3 H3 σ4 _ R4 p4 xs (fun F5 H5 σ5 ρ5 R5 s5 p5=>⟨F5,ρ5,R5,s13.trans s5,p5⟩) (fun F5 H5 σ5 ρ5 R5 s5 p5=>n F5 H5 σ5 ρ5 R5 (s1.trans (s13.trans s5)) p5) (fun F5 H5 σ5 ρ5 R5 s5 p5=>⟨F5,ρ5,R5,s13.trans s5,p5⟩)
    fun v F5 H5 σ5 ρ5 r5 R5 s5 o5 p5=>rt v F5 H5 σ5 ρ5 r5 R5 (s1.trans (s13.trans s5)) o5 p5
  ·have e:ds.drop i = []:=d8k (by omega)
   rw [e] at p2
   exact .inl ⟨wk.stop F2 H2 i s2 R2.sub (by omega),n F2 H2 σ2 ρ2 R2 (s1.trans s2) p2⟩
theorem d7E {F:Hp} {a:t5} {xs:List V} {ds:List c9} (h:F a = some (.lst xs)) (hd:DrAll K F xs ds):Wk K F (Itl K a) ds where
 go:=fun F' H' i s s' hi=>by
  have hi':i < xs.length:=by rw [hd.length]; exact hi
  exact ⟨xs,xs[i],.of (s' _ _ (s _ _ h)),j6 hi'⟩
 stop:=fun F' H' i s s' hi=>⟨xs,.of (s' _ _ (s _ _ h)),by rw [hd.length]; exact hi⟩
 yld:=fun C F' H' σ ρ i x H3 d R s e ⟨e3,hx⟩=>by
  subst e3
  have q:=hx xs (.of (R.sub _ _ (s _ _ h)))
  obtain ⟨v,ev,hv⟩:=hd.at e
  rw [q] at ev
  cases ev
  exact ⟨F',R,.refl _,hv.mono s,.refl _⟩
theorem e0j {F:Hp} {a:t5} {xs:List V} {ds:List c9} (h:SqT K F a xs) (hd:DrAll K F xs ds):Wk K F (Itt K a) ds where
 go:=fun F' H' i s s' hi=>by
  have hi':i < xs.length:=by rw [hd.length]; exact hi
  exact ⟨xs,xs[i],b89 (s.trans s') h,j6 hi'⟩
 stop:=fun F' H' i s s' hi=>⟨xs,b89 (s.trans s') h,by rw [hd.length]; exact hi⟩
 yld:=fun C F' H' σ ρ i x H3 d R s e ⟨e3,hx⟩=>by
  subst e3
  have q:=hx xs (b89 (s.trans R.sub) h)
  obtain ⟨v,ev,hv⟩:=hd.at e
  rw [q] at ev
  cases ev
  exact ⟨F',R,.refl _,hv.mono s,.refl _⟩
/-- range(n), range(m, n) -/
def rng (lo:Int) (n:Nat):List c9:=(a1p n).map fun (i:Nat)=>m9 (lo + (i:Int))
theorem d5V {F:Hp} {lo:Int} {n:Nat}:Wk K F (Itr lo n) (rng lo n) where
 go:=fun F' H' i s s' hi=>by
  have q:i < n:=by simpa [rng] using hi
  exact q
 stop:=fun F' H' i s s' hi=>by
  have q:n ≤ i:=by simpa [rng] using hi
  exact q
 yld:=fun C F' H' σ ρ i x H3 d R s e ⟨e3,hx⟩=>by
  subst e3 hx
  have q:d = .int (lo + (i:Int)):=by
   unfold rng at e
   rw [a0b] at e
   cases z:(a1p n)[i]? with
   | none=>rw [z] at e; cases e
   | some j =>
    rw [z] at e
    obtain ⟨hj,ej⟩:=j7.mp z
    rw [List.getElem_range] at ej
    subst ej
    exact (r9 e).symm
  subst q
  exact ⟨F',R,.refl _,.int _,.refl _⟩
def b47 (a:AAx):AIt:=fun ρ PX P=>a ρ PX fun rs ρ1=>a3t (b7m rs) fun ds=>match ds with
 | [.int j]=>(-(2 ^ 62) ≤ j ∧ j < 2 ^ 62) ∧ P (rng 0 j.toNat) ρ1
 | _=>False
def d6e (a:AAx):AIt:=fun ρ PX P=>a ρ PX fun rs ρ1=>a3t (b7m rs) fun ds=>match ds with
 | [.int i,.int j]=>(-(2 ^ 62) ≤ i ∧ i < 2 ^ 62 ∧ -(2 ^ 62) ≤ j ∧ j < 2 ^ 62) ∧ P (rng i (j - i).toNat) ρ1
 | _=>False
theorem a7Q {t:TA} {a:AAx} (ha:AS0 K W t a):IS K W (d80 t) (b47 a):=fun C ρ PX P F H σ R' R h xs k =>
 ha C ρ PX _ F H σ _ R h xs fun vs F1 H1 rs ρ1 R1 s1 o1 p1=>by
  obtain ⟨ds,e,p1⟩:=a4K p1
  have hd:=a7d o1 e
  split at p1
  ·rename_i j
   cases hd with
   | cons h1 h2 =>
    cases h1
    cases h2
    exact ⟨j,rfl,p1.1.1,p1.1.2,k _ F1 H1 _ ρ1 R1 s1 d5V p1.2⟩
  ·exact p1.elim
theorem d6w {t:TA} {a:AAx} (ha:AS0 K W t a):IS K W (iRng2 t) (d6e a):=fun C ρ PX P F H σ R' R h xs k =>
 ha C ρ PX _ F H σ _ R h xs fun vs F1 H1 rs ρ1 R1 s1 o1 p1=>by
  obtain ⟨ds,e,p1⟩:=a4K p1
  have hd:=a7d o1 e
  split at p1
  ·rename_i i j
   cases hd with
   | cons h1 h2 =>
    cases h2 with
    | cons h2 h3 =>
     cases h1
     cases h2
     cases h3
     exact ⟨i,j,rfl,p1.1,k _ F1 H1 _ ρ1 R1 s1 d5V p1.2⟩
  ·exact p1.elim
end Aq
namespace Aq
open PySem L2
variable {K:b0} {W:WX}
def a3s (ρ:List AV):List Nat → List AV
 | []=>ρ
 | v :: vs=>(a3s ρ vs).set v .un
theorem a9y (ρ:List AV):∀ (vs:List Nat) (i:Nat) (a:AV),i ∈ vs → (a3s ρ vs)[i]? = some a → a = .un
 | [],i,a,h,_=>by simp at h
 | v :: vs,i,a,h,e=>by
  unfold a3s at e
  by_cases hv:v = i
  ·subst hv
   by_cases hl:v < (a3s ρ vs).length
   ·rw [m5 hl] at e; exact (r9 e).symm
   ·rw [t6 (by rw [p8]; omega)] at e; cases e
  ·rw [k8 hv] at e
   refine a9y ρ vs i a ?_ e
   rcases o9.mp h with z | z
   ·exact absurd z.symm hv
   ·exact z
theorem Rep.wiped {C:C0} {F H:Hp} {σ:a2W} {ρ:List AV} (R:Rep K C F H σ ρ):∀ vs,Rep K C F H (d5o σ vs) (a3s ρ vs)
 | []=>R
 | v :: vs=>(Rep.wiped R vs).forget
theorem a7S {σ:a2W}:∀ {vs:List Nat} {i:Nat},i ∉ vs → (d5o σ vs)[i]? = σ[i]?
 | [],_,_=>rfl
 | v :: vs,i,h=>by
  unfold d5o
  have hv:v ≠ i:=fun z=>h (by rw [z]; exact f9)
  rw [k8 hv]
  exact a7S fun z=>h (e7 _ z)
theorem a82 {σ:a2W}:∀ {vs:List Nat} {i:Nat},i ∈ vs → i < σ.length → (d5o σ vs)[i]? = some none
 | [],_,h,_=>by simp at h
 | v :: vs,i,h,hl=>by
  unfold d5o
  by_cases hv:v = i
  ·subst hv
   rw [m5 (by rw [a5d]; exact hl)]
  ·rw [k8 hv]
   rcases o9.mp h with z | z
   ·exact absurd z.symm hv
   ·exact a82 z hl
theorem d2F {js vs:List Nat} {σ σ':a2W} (o:d09 js σ σ') (h:∀ j ∈ js,j ∈ vs):d5o σ' vs = d5o σ vs:=by
 refine c5S fun i=>?_
 by_cases hi:i ∈ vs
 ·by_cases hl:i < σ.length
  ·rw [a82 hi (by rw [o.1]; exact hl),a82 hi hl]
  ·rw [t6 (by rw [a5d,o.1]; omega),t6 (by rw [a5d]; omega)]
 ·rw [a7S hi,a7S hi]
  exact o.2 i fun z=>hi (h i z)
theorem d2G {σ:a2W} {vs:List Nat}:d5o (d5o σ vs) vs = d5o σ vs:=by
 refine c5S fun i=>?_
 by_cases hi:i ∈ vs
 ·by_cases hl:i < σ.length
  ·rw [a82 hi (by rw [a5d]; exact hl),a82 hi hl]
  ·rw [t6 (by rw [a5d,a5d]; omega),t6 (by rw [a5d]; omega)]
 ·rw [a7S hi]
theorem Rep.unwipe {C:C0} {F H:Hp} {σ:a2W} {ρ:List AV} {vs:List Nat} (R:Rep K C F H (d5o σ vs) ρ) (hu:∀ i a,i ∈ vs → ρ[i]? = some a → a = .un):Rep K C F H σ ρ:=by
 have hl:σ.length = ρ.length:=by rw [← R.len,a5d]
 refine ⟨hl,R.sub,R.gr,R.keep,R.there,R.nw,R.mf,R.tp,fun i a e=>?_,fun i j l hne h1 h2=>?_⟩
 ·by_cases hi:i ∈ vs
  ·have:=hu i a hi e
   subst this
   have hlt:i < σ.length:=by rw [hl]; exact (j7.mp e).1
   exact ⟨_,j6 hlt,trivial⟩
  ·obtain ⟨o,eo,hs⟩:=R.slot i a e
   rw [a7S hi] at eo
   exact ⟨o,eo,hs⟩
 ·have back:∀ n l',a2o σ ρ n l' → a2o (d5o σ vs) ρ n l':=fun n l' ⟨b,e,f⟩=>by
   by_cases hn:n ∈ vs
   ·have:=hu n b hn e
    subst this
    cases f.mut
   ·exact ⟨b,e,by rw [a7S hn]; exact f⟩
  exact R.apart i j l hne (back i l h1) (back j l h2)
/-- an object that nobody here knows changes -/
theorem Rep.outside {C:C0} {F H:Hp} {σ:a2W} {ρ:List AV} {D:t5} {o:HO} (R:Rep K C F H σ ρ) (hF:F D = none) (h0:C.H0 D = none) (hm:∀ i,a2o σ ρ i D → False) (hu:∀ xs,o ≠ .tup xs:=by intro _ z; cases z):Rep K C F (upd H D o) σ ρ:=by
 have tpn:∀ q xs,upd H D o q = some (.tup xs) → F q = some (.tup xs):=fun q xs e=>by
  by_cases hq:q = D
  ·subst hq; rw [a0I] at e; exact (hu xs (r9 e)).elim
  ·rw [a1P hq] at e; exact R.tp q xs e
 refine ⟨R.len,fun b u e=>?_,R.gr,fun b u e n=>?_,fun b u e=>?_,R.nw,R.mf,tpn,fun i a e=>?_,R.apart⟩
 ·rw [a1P (a3v e hF)]; exact R.sub _ _ e
 ·rw [a1P (a3v e h0)]; exact R.keep b u e n
 ·obtain ⟨u',e'⟩:=R.there b u e
  exact ⟨u',by rw [a1P (a3v e h0)]; exact e'⟩
 ·obtain ⟨w,eo,hs⟩:=R.slot i a e
  refine ⟨w,eo,hs.mono (.refl _) (fun l u f h=>?_) fun l f h=>h⟩
  have hl:l ≠ D:=fun z=>by
   subst z
   exact hm i ⟨a,e,by rw [eo]; exact f⟩
  rw [a1P hl]; exact h
def c6x (vs:List Nat) (g:ATg) (tt:ATx) (a:AEx) (P:RV → List AV → Prop):List c9 → List c9 → List AV → Prop
 | [],acc,ρ=>P (.own (.ml none acc)) ρ
 | d :: ds,acc,ρ=>g d ρ fun ρ1=>tt ρ1 X0 fun k ρ2=>if k = true then a ρ2 X0 fun r ρ3=>(match r.hold with
   | .dat e=>acc.length < m8 ∧ c6x vs g tt a P ds (acc ++ [e]) (a3s ρ3 vs)
   | _=>False) else c6x vs g tt a P ds acc (a3s ρ2 vs)
def aLc (ai:AIt) (vs:List Nat) (g:ATg) (tt:ATx) (a:AEx):AEx:=fun ρ PX P=>ai ρ PX fun ds ρ1=>c6x vs g tt a P ds [] (a3s ρ1 vs)
def b9R:ATx:=fun ρ _ P=>P true ρ
theorem a57:TSd K W c3U b9R:=fun C ρ PX P F H σ Q R h _ k=>k true F H ρ R (.refl _) h
theorem a6Z {js vs:List Nat} {wi:TI} {t:TG} {tt:TT} {te:TE} {ai:AIt} {g:ATg} {ta:ATx} {a:AEx} (hi:IS K W wi ai) (hg:GS K js t g) (ht:TSd K W0 tt ta) (he:ES K W0 te a) (hj:∀ j ∈ js,j ∈ vs):ES K W (tLc wi t tt te vs) (aLc ai vs g ta a):=fun C ρ PX P F H σ Q R h xs k =>
 hi C ρ PX _ F H σ _ R h xs fun J F1 H1 ds ρ1 R1 s1 wk p1=>by
  intro D hD
  have h0:C.H0 D = none:=by
   cases q:C.H0 D with
   | none=>rfl
   | some o=>obtain ⟨o',e⟩:=R1.there D o q; rw [e] at hD; cases hD
  have hM:D ∉ C.M0:=fun z=>by
   obtain ⟨_,u,e⟩:=R1.mf D z
   rw [h0] at e; cases e
  obtain ⟨R1',hF1,_,hm1⟩:=R1.laidM (u:=.lst []) hD
  have hF0:C.F0 D = none:=R1.gr.free hF1
  refine ⟨fun i m H'=>∃ F' ρ' accV acc,Rep K C F' H' (d5o σ vs) ρ' ∧ a6j F1 F' ∧ m = ds.length - i ∧ i ≤ ds.length ∧ (∀ i a,i ∈ vs → ρ'[i]? = some a → a = .un) ∧ H' D = some (.lst accV) ∧ F' D = none ∧ (∀ j,a2o (d5o σ vs) ρ' j D → False) ∧ DrAll K F' accV acc ∧ c6x vs g ta a P (ds.drop i) acc ρ',?_,?_⟩
  ·refine ⟨_,F1,a3s ρ1 vs,[],[],R1'.wiped vs,.refl _,rfl,a5b _,a9y ρ1 vs,a0I,hF1,fun j mj=>?_,.nil,p1⟩
   obtain ⟨_,u,e⟩:=(R1.wiped vs).mutF mj
   rw [hD] at e; cases e
  ·rintro i m H2 ⟨F2,ρ2,accV,acc,R2,s2,rfl,hle,hu2,hD2,hF2,hm2,hd2,p2⟩
   by_cases hlt:i < ds.length
   ·have e1:ds.drop i = ds[i] :: ds.drop (i + 1):=d3B hlt
    rw [e1] at p2
    have G2:=R2.guard (o:=.lst accV) hD2 hF2 h0 hm2
    refine .inr ⟨wk.go F2 H2 i s2 R2.sub hlt,fun H'=>∃ F' ρ' accV acc,Rep K C F' H' (d5o σ vs) ρ' ∧ a6j F1 F' ∧ (∀ i a,i ∈ vs → ρ'[i]? = some a → a = .un) ∧ H' D = some (.lst accV) ∧ F' D = none ∧ (∀ j,a2o (d5o σ vs) ρ' j D → False) ∧ DrAll K F' accV acc ∧ c6x vs g ta a P (ds.drop (i + 1)) acc ρ',
     fun H' ⟨F',ρ',accV,acc,R',s',hu',hD',hF',hm',hd',p'⟩=>⟨ds.length - (i + 1),by omega,F',ρ',accV,acc,R',s',rfl,hlt,hu',hD',hF',hm',hd',p'⟩,fun x H3 hy=>?_⟩
    obtain ⟨F3,R3,s3,hd3,_⟩:=wk.yld _ F2 H2 _ ρ2 i x H3 ds[i] G2 s2 (j6 hlt) hy
    refine hg _ ρ2 F3 H3 _ x ds[i] _ _ R3 hd3 p2 fun σ4 ρ4 o4 R4 p4=>?_
    have ew:d5o σ4 vs = d5o σ vs:=(d2F o4 hj).trans d2G
    refine ⟨ew,?_⟩
    refine ht _ ρ4 X0 _ F3 H3 σ4 _ R4 p4 xs0 fun b F5 H5 ρ5 R5 s5 p5=>?_
    have s15:=(s2.trans s3).trans s5
    cases b with
    | true =>
     refine he _ ρ5 X0 _ F5 H5 σ4 _ R5 p5 xs0 fun y F6 H6 r ρ6 R6 s6 o6 p6=>?_
     obtain ⟨F7,R7,s7,o7,n7⟩:=a2R R6 o6
     cases er:r.hold with
     | dat e =>
      rw [er] at o7
      simp only [er] at p6
      obtain ⟨R8,hD8,hF8,hm8⟩:=Rep.unguard h0 hM hF0 R7
      have s17:=(s15.trans s6).trans s7
      have len:accV.length < m8:=by rw [hd2.length]; exact p6.1
      have W8:=R8.wiped vs
      rw [ew] at W8
      have hm9:∀ j,a2o (d5o σ vs) (a3s ρ6 vs) j D → False:=fun j ⟨b,eb,f⟩=>by
       have hjv:j ∉ vs:=fun z=>by
        have:=a9y ρ6 vs j b z eb
        subst this
        cases f.mut
       have eb':ρ6[j]? = some b:=by
        have aux:∀ ws:List Nat,j ∉ ws → (a3s ρ6 ws)[j]? = ρ6[j]?:=fun ws=>by
         induction ws with
         | nil=>exact fun _=>rfl
         | cons w ws ih =>
          intro hn
          unfold a3s
          rw [k8 (fun z=>hn (by rw [z]; exact f9))]
          exact ih fun z=>hn (e7 _ z)
        rw [aux vs hjv] at eb
        exact eb
       refine hm8 j ⟨b,eb',?_⟩
       rw [← ew,a7S hjv] at f
       exact f
      exact ⟨accV,hD8,len,F7,a3s ρ6 vs,accV ++ [y],acc ++ [e],W8.outside hF8 h0 hm9,s17,a9y ρ6 vs,a0I,hF8,hm9,((hd2.mono (((s3.trans s5).trans s6).trans s7)).append (.one o7)),p6.2⟩
     | bor j=>simp only [er] at p6
     | own j=>simp only [er] at p6
     | tupO _ _=>simp only [er] at p6
    | false =>
     obtain ⟨R8,hD8,hF8,hm8⟩:=Rep.unguard h0 hM hF0 R5
     have W8:=R8.wiped vs
     rw [ew] at W8
     refine ⟨F5,a3s ρ5 vs,accV,acc,W8,s15,a9y ρ5 vs,hD8,hF8,fun j ⟨b,eb,f⟩=>?_,hd2.mono (s3.trans s5),p5⟩
     have hjv:j ∉ vs:=fun z=>by
      have:=a9y ρ5 vs j b z eb
      subst this
      cases f.mut
     have aux:∀ ws:List Nat,j ∉ ws → (a3s ρ5 ws)[j]? = ρ5[j]?:=fun ws=>by
      induction ws with
      | nil=>exact fun _=>rfl
      | cons w ws ih =>
       intro hn
       unfold a3s
       rw [k8 (fun z=>hn (by rw [z]; exact f9))]
       exact ih fun z=>hn (e7 _ z)
     rw [aux vs hjv] at eb
     refine hm8 j ⟨b,eb,?_⟩
     rw [← ew,a7S hjv] at f
     exact f
   ·have e:ds.drop i = []:=d8k (by omega)
    rw [e] at p2
    refine .inl ⟨wk.stop F2 H2 i s2 R2.sub (by omega),?_⟩
    refine k (.ref D) F2 H2 (.own (.ml none acc)) ρ2 (R2.unwipe hu2) (s1.trans s2) ⟨D,rfl,rfl,⟨D,accV,rfl,hF2,hD2,hd2,h0⟩,h0,fun j ⟨b,eb,f⟩=>?_⟩ p2
    have hjv:j ∉ vs:=fun z=>by
     have:=hu2 j b z eb
     subst this
     cases f.mut
    exact hm2 j ⟨b,eb,by rw [a7S hjv]; exact f⟩
end Aq
namespace Aq
open PySem L2
variable {K:b0} {W:WX}
abbrev Ct:=List AV → (RV → List AV → Prop) → PXT → Prop
def spOf (K:b0) (c:Ct):Sp:=fun vs H Q E=>∃ F M ρ P PX,Rep K ⟨F,H,M⟩ F H (vs.map some) ρ ∧ c ρ P PX ∧
 (∀ v F' H' σ' ρ' r,Rep K ⟨F,H,M⟩ F' H' σ' ρ' → a6P K ⟨F,H,M⟩ F' H' σ' ρ' v r → P r ρ' → Q v H') ∧
 (∀ F' H' σ' ρ' cls p d,Rep K ⟨F,H,M⟩ F' H' σ' ρ' → XOk K F' H' p d → PX cls p ρ' → E cls d H')
theorem b2l {c:Ct} {n:Nat} (hc:∀ ρ P PX,c ρ P PX → ρ.length = n) {vs:List V} {H:Hp} {Q:VK} {E:XK} (h:spOf K c vs H Q E):vs.length = n:=by
 obtain ⟨F,M,ρ,P,PX,R,h,_⟩:=h
 have:=R.len
 rw [g8] at this
 rw [this,hc ρ P PX h]
/-- further slots, not yet given -/
theorem Rep.more {C:C0} {F H:Hp} {σ:a2W} {ρ:List AV} (R:Rep K C F H σ ρ) (n:Nat):Rep K C F H (σ ++ f7 n none) (ρ ++ f7 n .un):=by
 refine ⟨by simp [R.len],R.sub,R.gr,R.keep,R.there,R.nw,R.mf,R.tp,fun i a e=>?_,fun i j l hne h1 h2=>?_⟩
 ·by_cases hi:i < ρ.length
  ·rw [a2Q hi] at e
   obtain ⟨o,eo,hs⟩:=R.slot i a e
   exact ⟨o,by rw [a2Q (by rw [R.len]; exact hi)]; exact eo,hs⟩
  ·rw [a9G (by omega),b2P] at e
   split at e
   ·rename_i hlt
    cases e
    refine ⟨none,?_,trivial⟩
    rw [a9G (by rw [R.len]; omega),b2P,if_pos (by rw [R.len]; exact hlt)]
   ·cases e
 ·have back:∀ n' l',a2o (σ ++ f7 n none) (ρ ++ f7 n .un) n' l' → a2o σ ρ n' l':=fun n' l' ⟨b,e,f⟩=>by
   by_cases hi:n' < ρ.length
   ·rw [a2Q hi] at e
    rw [a2Q (by rw [R.len]; exact hi)] at f
    exact ⟨b,e,f⟩
   ·rw [a9G (by omega),b2P] at e
    split at e
    ·cases e; cases f.mut
    ·cases e
  exact R.apart i j l hne (back i l h1) (back j l h2)
/-- a def's body keeps its contract -/
theorem c2d {N:List Str} {c:Ct} {t:TS} {a:ASt} {vs:List V} {H:Hp} {Q:VK} {E:XK} (h:spOf K c vs H Q E) (hs:SS K (fun cls d _ H'=>E cls d H') t a)
  (hp:∀ ρ P PX,c ρ P PX → a { nx:=fun ρ'=>P (.dat .none) ρ',rt:=P,ex:=PX } (ρ ++ f7 (N.length - ρ.length) .un)):t { nx:=fun _ H'=>Q .non H',rt:=Q } (start N vs) H:=by
 obtain ⟨F,M,ρ,P,PX,R,h,k,kx⟩:=h
 have len:vs.length = ρ.length:=by have:=R.len; rw [g8] at this; exact this
 have R':=R.more (N.length - vs.length)
 have h':=hp ρ P PX h
 rw [← len] at h'
 exact hs _ _ _ F H _ _ R' h' (fun F' H' σ' ρ' cls p d R2 x2 p2=>kx F' H' σ' ρ' cls p d R2 x2 p2) (fun F' H' σ' ρ' R2 _ p2=>k .non F' H' σ' ρ' (.dat .none) R2 Dr.non p2) (fun _ _ _ _ _ _ z=>z.elim) (fun _ _ _ _ _ _ z=>z.elim)
  fun v F' H' σ' ρ' r R2 _ o2 p2=>k v F' H' σ' ρ' r R2 o2 p2
/-- what is handed in: data, or borrowed things; and which slots are borrowed -/
def a0D (ρ:List AV):List RV → Nat → Option (List AV × List Nat)
 | [],_=>some ([],[])
 | .dat d :: rs,j=>(a0D ρ rs j).map fun p=>(.dat d :: p.1,p.2)
 | .bor i :: rs,j=>match ρ[i]? with
  | some (.ml _ ds)=>(a0D ρ rs (j + 1)).map fun p=>(.ml (some j) ds :: p.1,i :: p.2)
  | some (.mdk _ ds)=>(a0D ρ rs (j + 1)).map fun p=>(.mdk (some j) ds :: p.1,i :: p.2)
  | some (.mdt _ ds)=>(a0D ρ rs (j + 1)).map fun p=>(.mdt (some j) ds :: p.1,i :: p.2)
  | some (.scr ns)=>(a0D ρ rs j).map fun p=>(.scr ns :: p.1,p.2)
  | some (.opq v)=>(a0D ρ rs j).map fun p=>(.opq v :: p.1,p.2)
  | _=>none
 | .own _ :: _,_=>none
 | .tupO _ _ :: _,_=>none
def AV.tag:AV → Option Nat
 | .ml p _=>p
 | .mdk p _=>p
 | .mdt p _=>p
 | .tr p _=>p
 | _=>none
def AV.retag (p:Option Nat):AV → AV
 | .ml _ ds=>.ml p ds
 | .mdk _ ds=>.mdk p ds
 | .mdt _ ds=>.mdt p ds
 | .tr _ _=>.un
 | a=>a
/-- what became of the j-th borrowed thing -/
def a9L (ρ':List AV) (j:Nat):Option AV:=ρ'.find? fun a=>a.tag == some j
def a5B (ρ':List AV):List Nat → Nat → List AV → List AV
 | [],_,ρ=>ρ
 | i :: is,j,ρ=>a5B ρ' is (j + 1) (ρ.set i (match a9L ρ' j with
  | some a=>a.retag ((ρ[i]?).bind AV.tag)
  | none=>.un))
def a3G (c:Ct) (a:AAx):AEx:=fun ρ PX P=>a ρ PX fun rs ρ1=>match a0D ρ1 rs 0 with
 | some (ρc,is)=>is.Nodup ∧ c ρc (fun r ρ'=>match r with
   | .bor _=>False
   | r=>P r (a5B ρ' is 0 ρ1)) (fun cls p ρ'=>PX cls p (a5B ρ' is 0 ρ1))
 | none=>False
/-- the addresses that are borrowed -/
def d8p (σ:a2W) (is:List Nat) (M:List t5):Prop:=a3n (fun (i:Nat) (l:t5)=>σ[i]? = some (some (.ref l))) is M
theorem a3n.getR {α β:Type} {r:α → β → Prop}:∀ {as:List α} {bs:List β} {i:Nat} {b:β},a3n r as bs → bs[i]? = some b → ∃ a,as[i]? = some a ∧ r a b
 | _,_,_,_,.nil,e=>by simp at e
 | _,_,0,_,.cons h _,e=>by simp at e; subst e; exact ⟨_,rfl,h⟩
 | _,_,i + 1,b,.cons _ t,e=>by
  obtain ⟨a,h1,h2⟩:=a3n.getR (i:=i) (b:=b) t (by simpa using e)
  exact ⟨a,by simpa using h1,h2⟩
theorem a3n.getL {α β:Type} {r:α → β → Prop}:∀ {as:List α} {bs:List β} {i:Nat} {a:α},a3n r as bs → as[i]? = some a → ∃ b,bs[i]? = some b ∧ r a b
 | _,_,_,_,.nil,e=>by simp at e
 | _,_,0,_,.cons h _,e=>by simp at e; subst e; exact ⟨_,rfl,h⟩
 | _,_,i + 1,b,.cons _ t,e=>by
  obtain ⟨a,h1,h2⟩:=a3n.getL (i:=i) (a:=b) t (by simpa using e)
  exact ⟨a,by simpa using h1,h2⟩
section
variable {C:C0} {F H:Hp} {σ:a2W} {ρ:List AV}
/-- the callee's view of its arguments -/
theorem a9q (R:Rep K C F H σ ρ):∀ {vs:List V} {rs:List RV} {j:Nat} {ρc:List AV} {is:List Nat},c78 K C F H σ ρ vs rs → a0D ρ rs j = some (ρc,is) →
  ∃ M,d8p σ is M ∧ (∀ i ∈ is,∃ a,ρ[i]? = some a ∧ a.isMut = true ∧ a.inn = []) ∧ ∀ M0:List t5,M0.drop j = M → a3n (fun a v=>Slot K ⟨F,H,M0⟩ F H a (some v) ∧ a.inn = [] ∧ (∀ l,v = b6k l → a.isMut = true → ∃ k:Nat,a.tag = some (j + k) ∧ M[k]? = some l)) ρc vs
 | _,[],j,ρc,is,h,e=>by
  cases h
  cases e
  exact ⟨[],.nil,fun _ z=>by simp at z,fun _ _=>.nil⟩
 | _,.dat d :: rs,j,ρc,is,h,e=>by
  cases h with
  | cons h1 h2 =>
   cases q:a0D ρ rs j with
   | none=>simp [a0D,q] at e
   | some p =>
    simp only [a0D,q,a0A,a0l,a3k] at e
    obtain ⟨rfl,rfl⟩:=e
    obtain ⟨M,b,m,f⟩:=a9q R h2 q
    exact ⟨M,b,m,fun M0 hM=>.cons ⟨⟨_,rfl,h1.1⟩,rfl,fun _ _ z=>by cases z⟩ (f M0 hM)⟩
 | _,.own a :: rs,j,ρc,is,h,e=>by simp [a0D] at e
 | _,.tupO _ _ :: rs,j,ρc,is,h,e=>by simp [a0D] at e
 | _,.bor i :: rs,j,ρc,is,h,e=>by
  cases h with
  | cons h1 h2 =>
   rename_i v vs
   obtain ⟨⟨ev,a,ea⟩,_⟩:=h1
   obtain ⟨o,eo,hs⟩:=R.slot i a ea
   rw [ev] at eo
   cases eo
   have next:∀ (mk:AV),mk.isMut = true → mk.inn = [] → a.inn = [] → mk.tag = some j → (∀ M0:List t5,∀ l,v = b6k l → M0[j]? = some l → Slot K ⟨F,H,M0⟩ F H mk (some v)) → a.isMut = true → (∃ l,v = b6k l) → (a0D ρ rs (j + 1)).map (fun p=>(mk :: p.1,i :: p.2)) = some (ρc,is) →
     ∃ M,d8p σ is M ∧ (∀ i ∈ is,∃ a,ρ[i]? = some a ∧ a.isMut = true ∧ a.inn = []) ∧ ∀ M0:List t5,M0.drop j = M → a3n (fun a v=>Slot K ⟨F,H,M0⟩ F H a (some v) ∧ a.inn = [] ∧ (∀ l,v = b6k l → a.isMut = true → ∃ k:Nat,a.tag = some (j + k) ∧ M[k]? = some l)) ρc (v :: vs):=fun mk hmk hin hia htag hsl hm ⟨l,el⟩ e=>by
    cases q:a0D ρ rs (j + 1) with
    | none=>simp [q] at e
    | some p =>
     simp only [q,a0A,a0l,a3k] at e
     obtain ⟨rfl,rfl⟩:=e
     obtain ⟨M,b,m,f⟩:=a9q R h2 q
     subst el
     refine ⟨l :: M,.cons ev b,fun i' hi'=>?_,fun M0 hM=>?_⟩
     ·rcases o9.mp hi' with z | z
      ·subst z; exact ⟨a,ea,hm,hia⟩
      ·exact m i' z
     ·have hj:M0[j]? = some l:=by
       have:=congrArg (fun z:List t5=>z[0]?) hM
       simpa using this
      have hd:M0.drop (j + 1) = M:=by
       have:=congrArg List.tail hM
       simpa [List.tail_drop] using this
      refine .cons ⟨hsl M0 l rfl hj,hin,fun l' e' _=>⟨0,htag,by cases e'; rfl⟩⟩ (Paired.mapP (f M0 hd) fun a' v' z=>⟨z.1,z.2.1,fun l' e' m'=>?_⟩)
      obtain ⟨k,e1,e2⟩:=z.2.2 l' e' m'
      exact ⟨k + 1,by rw [e1]; congr 1; omega,by simpa using e2⟩
   cases a with
   | un=>simp [a0D,ea] at e
   | dat d=>simp [a0D,ea] at e
   | tr p t=>simp [a0D,ea] at e
   | lk u=>simp [a0D,ea] at e
   | ml p ds =>
    obtain ⟨l,xs,e1,hF,hH,hd,hw⟩:=hs
    cases e1
    simp only [a0D,ea] at e
    exact next (.ml (some j) ds) rfl rfl rfl rfl (fun M0 l' el hj=>⟨l,xs,rfl,hF,hH,hd,by cases el; exact hj⟩) rfl ⟨l,rfl⟩ e
   | mdk p ds =>
    obtain ⟨l,xs,e1,hF,hH,hd,hw⟩:=hs
    cases e1
    simp only [a0D,ea] at e
    exact next (.mdk (some j) ds) rfl rfl rfl rfl (fun M0 l' el hj=>⟨l,xs,rfl,hF,hH,hd,by cases el; exact hj⟩) rfl ⟨l,rfl⟩ e
   | mdt p ds =>
    obtain ⟨l,xs,e1,hF,hH,hd,hw⟩:=hs
    cases e1
    simp only [a0D,ea] at e
    exact next (.mdt (some j) ds) rfl rfl rfl rfl (fun M0 l' el hj=>⟨l,xs,rfl,hF,hH,hd,by cases el; exact hj⟩) rfl ⟨l,rfl⟩ e
   | scr ns =>
    cases q:a0D ρ rs j with
    | none=>simp [a0D,ea,q] at e
    | some p =>
     simp only [a0D,ea,q,a0A,a0l,a3k] at e
     obtain ⟨rfl,rfl⟩:=e
     obtain ⟨M,b,m,f⟩:=a9q R h2 q
     exact ⟨M,b,m,fun M0 hM=>.cons ⟨hs,rfl,fun _ _ z=>by cases z⟩ (f M0 hM)⟩
   | opq v =>
    cases q:a0D ρ rs j with
    | none=>simp [a0D,ea,q] at e
    | some p =>
     simp only [a0D,ea,q,a0A,a0l,a3k] at e
     obtain ⟨rfl,rfl⟩:=e
     obtain ⟨M,b,m,f⟩:=a9q R h2 q
     exact ⟨M,b,m,fun M0 hM=>.cons ⟨hs,rfl,fun _ _ z=>by cases z⟩ (f M0 hM)⟩
theorem d8p.mem {is:List Nat} {M:List t5} (b:d8p σ is M) {l:t5} (h:l ∈ M):∃ i,i ∈ is ∧ σ[i]? = some (some (.ref l)):=by
 obtain ⟨j,hj,e⟩:=a5a h
 obtain ⟨i,ei,q⟩:=a3n.getR b (j7.mpr ⟨hj,e⟩)
 exact ⟨i,w8 ei,q⟩
/-- the callee's entry -/
theorem Rep.enter {vs:List V} {rs:List RV} {ρc:List AV} {is:List Nat} {M:List t5} (R:Rep K C F H σ ρ) (b:d8p σ is M) (hm:∀ i ∈ is,∃ a,ρ[i]? = some a ∧ a.isMut = true ∧ a.inn = []) (nd:is.Nodup)
  (f:a3n (fun a v=>Slot K ⟨F,H,M⟩ F H a (some v) ∧ a.inn = [] ∧ (∀ l,v = b6k l → a.isMut = true → ∃ k:Nat,a.tag = some (0 + k) ∧ M[k]? = some l)) ρc vs) (ft:∀ i j:Nat,i ≠ j → ∀ a a':AV,ρc[i]? = some a → ρc[j]? = some a' → a.isMut = true → a'.isMut = true → a.tag ≠ a'.tag):Rep K ⟨F,H,M⟩ F H (vs.map some) ρc:=by
 have ndM:∀ i j:Nat,∀ l,M[i]? = some l → M[j]? = some l → i = j:=fun i j l h1 h2=>by
  obtain ⟨a1,e1,q1⟩:=a3n.getR b h1
  obtain ⟨a2,e2,q2⟩:=a3n.getR b h2
  by_cases ha:a1 = a2
  ·subst ha
   have l1:=(j7.mp e1).1
   have l2:=(j7.mp e2).1
   have z1:=(j7.mp e1).2
   have z2:=(j7.mp e2).2
   exact (List.getElem_inj nd).mp (z1.trans z2.symm)
  ·obtain ⟨b1,f1,m1,_⟩:=hm a1 (w8 e1)
   obtain ⟨b2,f2,m2,_⟩:=hm a2 (w8 e2)
   exact (R.apart a1 a2 l ha (.mk f1 m1 q1) (.mk f2 m2 q2)).elim
 refine ⟨by rw [g8]; exact (c3J f).symm,R.sub,.refl _,fun b o e _=>e,fun b o e=>⟨o,e⟩,fun b o e n=>n,fun l hl=>?_,R.tp,fun i a e=>?_,fun i j l hne h1 h2=>?_⟩
 ·obtain ⟨i,hi,q⟩:=b.mem hl
  obtain ⟨a,ea,m,_⟩:=hm i hi
  exact R.mutF (.mk ea m q)
 ·obtain ⟨v,ev,h1,_⟩:=a3n.getL f e
  exact ⟨some v,by rw [a0b,ev]; rfl,h1⟩
 ·obtain ⟨a1,e1,t1⟩:=h1
  obtain ⟨a2,e2,t2⟩:=h2
  obtain ⟨v1,f1,_,n1,g1⟩:=a3n.getL f e1
  obtain ⟨v2,f2,_,n2,g2⟩:=a3n.getL f e2
  obtain ⟨m1,q1⟩:a1.isMut = true ∧ (vs.map some)[i]? = some (some (.ref l)):=by
   rcases t1 with z | z
   ·exact z
   ·rw [n1] at z; simp at z
  obtain ⟨m2,q2⟩:a2.isMut = true ∧ (vs.map some)[j]? = some (some (.ref l)):=by
   rcases t2 with z | z
   ·exact z
   ·rw [n2] at z; simp at z
  rw [a0b,f1] at q1
  rw [a0b,f2] at q2
  have z1:v1 = .ref l:=r9 (r9 q1)
  have z2:v2 = .ref l:=r9 (r9 q2)
  obtain ⟨k1,t1,w1⟩:=g1 l z1 m1
  obtain ⟨k2,t2,w2⟩:=g2 l z2 m2
  have:=ndM k1 k2 l w1 w2
  exact ft i j hne a1 a2 e1 e2 m1 m2 (by rw [t1,t2,this])
theorem a5G {ρ:List AV}:∀ {rs:List RV} {j:Nat} {ρc:List AV} {is:List Nat},a0D ρ rs j = some (ρc,is) → (∀ (i:Nat) (a:AV),ρc[i]? = some a → a.isMut = true → ∃ k,a.tag = some k ∧ j ≤ k) ∧ (∀ i i':Nat,i ≠ i' → ∀ a a':AV,ρc[i]? = some a → ρc[i']? = some a' → a.isMut = true → a'.isMut = true → a.tag ≠ a'.tag)
 | [],j,ρc,is,e=>by
  cases e
  exact ⟨fun i a e=>by simp at e,fun i i' _ a a' e=>by simp at e⟩
 | .dat d :: rs,j,ρc,is,e=>by
  cases q:a0D ρ rs j with
  | none=>simp [a0D,q] at e
  | some p =>
   simp only [a0D,q,a0A,a0l,a3k] at e
   obtain ⟨rfl,rfl⟩:=e
   obtain ⟨h1,h2⟩:=a5G q
   refine ⟨fun i a e m=>?_,fun i i' hn a a' e e' m m'=>?_⟩
   ·cases i with
    | zero=>simp at e; subst e; cases m
    | succ i=>exact h1 i a (by simpa using e) m
   ·cases i with
    | zero=>simp at e; subst e; cases m
    | succ i =>
     cases i' with
     | zero=>simp at e'; subst e'; cases m'
     | succ i'=>exact h2 i i' (by omega) a a' (by simpa using e) (by simpa using e') m m'
 | .own a :: rs,j,ρc,is,e=>by simp [a0D] at e
 | .tupO _ _ :: rs,j,ρc,is,e=>by simp [a0D] at e
 | .bor i0 :: rs,j,ρc,is,e=>by
  have next:∀ mk:AV,mk.isMut = true → mk.tag = some j → (a0D ρ rs (j + 1)).map (fun p=>(mk :: p.1,i0 :: p.2)) = some (ρc,is) → (∀ (i:Nat) (a:AV),ρc[i]? = some a → a.isMut = true → ∃ k,a.tag = some k ∧ j ≤ k) ∧ (∀ i i':Nat,i ≠ i' → ∀ a a':AV,ρc[i]? = some a → ρc[i']? = some a' → a.isMut = true → a'.isMut = true → a.tag ≠ a'.tag):=fun mk hmk htag e=>by
   cases q:a0D ρ rs (j + 1) with
   | none=>simp [q] at e
   | some p =>
    simp only [q,a0A,a0l,a3k] at e
    obtain ⟨rfl,rfl⟩:=e
    obtain ⟨h1,h2⟩:=a5G q
    refine ⟨fun i a e m=>?_,fun i i' hn a a' e e' m m'=>?_⟩
    ·cases i with
     | zero=>simp at e; subst e; exact ⟨j,htag,a1i _⟩
     | succ i =>
      obtain ⟨k,t,hk⟩:=h1 i a (by simpa using e) m
      exact ⟨k,t,by omega⟩
    ·cases i with
     | zero =>
      simp at e; subst e
      cases i' with
      | zero=>exact absurd rfl hn
      | succ i' =>
       obtain ⟨k,t,hk⟩:=h1 i' a' (by simpa using e') m'
       rw [htag,t]
       intro z
       have:=r9 z
       omega
     | succ i =>
      cases i' with
      | zero =>
       simp at e'; subst e'
       obtain ⟨k,t,hk⟩:=h1 i a (by simpa using e) m
       rw [htag,t]
       intro z
       have:=r9 z
       omega
      | succ i'=>exact h2 i i' (by omega) a a' (by simpa using e) (by simpa using e') m m'
  cases ea:ρ[i0]? with
  | none=>simp [a0D,ea] at e
  | some a =>
   cases a with
   | un=>simp [a0D,ea] at e
   | dat d=>simp [a0D,ea] at e
   | tr p t=>simp [a0D,ea] at e
   | lk u=>simp [a0D,ea] at e
   | ml p ds=>simp only [a0D,ea] at e; exact next _ rfl rfl e
   | mdk p ds=>simp only [a0D,ea] at e; exact next _ rfl rfl e
   | mdt p ds=>simp only [a0D,ea] at e; exact next _ rfl rfl e
   | scr ns =>
    cases q:a0D ρ rs j with
    | none=>simp [a0D,ea,q] at e
    | some p =>
     simp only [a0D,ea,q,a0A,a0l,a3k] at e
     obtain ⟨rfl,rfl⟩:=e
     obtain ⟨h1,h2⟩:=a5G q
     refine ⟨fun i a e m=>?_,fun i i' hn a a' e e' m m'=>?_⟩
     ·cases i with
      | zero=>simp at e; subst e; cases m
      | succ i=>exact h1 i a (by simpa using e) m
     ·cases i with
      | zero=>simp at e; subst e; cases m
      | succ i =>
       cases i' with
       | zero=>simp at e'; subst e'; cases m'
       | succ i'=>exact h2 i i' (by omega) a a' (by simpa using e) (by simpa using e') m m'
   | opq v =>
    cases q:a0D ρ rs j with
    | none=>simp [a0D,ea,q] at e
    | some p =>
     simp only [a0D,ea,q,a0A,a0l,a3k] at e
     obtain ⟨rfl,rfl⟩:=e
     obtain ⟨h1,h2⟩:=a5G q
     refine ⟨fun i a e m=>?_,fun i i' hn a a' e e' m m'=>?_⟩
     ·cases i with
      | zero=>simp at e; subst e; cases m
      | succ i=>exact h1 i a (by simpa using e) m
     ·cases i with
      | zero=>simp at e; subst e; cases m
      | succ i =>
       cases i' with
       | zero=>simp at e'; subst e'; cases m'
       | succ i'=>exact h2 i i' (by omega) a a' (by simpa using e) (by simpa using e') m m'
theorem b54 {ρ':List AV}:∀ {is:List Nat} {j:Nat} {ρ:List AV} {i:Nat},i ∉ is → (a5B ρ' is j ρ)[i]? = ρ[i]?
 | [],_,_,_,_=>rfl
 | i0 :: is,j,ρ,i,h=>by
  unfold a5B
  rw [b54 (fun z=>h (e7 _ z)),k8 (fun z=>h (by rw [z]; exact f9))]
theorem c3Y {ρ':List AV}:∀ {is:List Nat} {j:Nat} {ρ:List AV},(a5B ρ' is j ρ).length = ρ.length
 | [],_,_=>rfl
 | i0 :: is,j,ρ=>by unfold a5B; rw [c3Y,p8]
theorem c2c {ρ':List AV}:∀ {is:List Nat} {j k:Nat} {ρ:List AV} {i:Nat},is.Nodup → is[k]? = some i → i < ρ.length → (a5B ρ' is j ρ)[i]? = some (match a9L ρ' (j + k) with
  | some a=>a.retag ((ρ[i]?).bind AV.tag)
  | none=>.un)
 | [],_,_,_,_,_,e,_=>by simp at e
 | i0 :: is,j,0,ρ,i,nd,e,hl=>by
  simp at e; subst e
  unfold a5B
  rw [b54 (a02.mp nd).1,m5 hl]
  rfl
 | i0 :: is,j,k + 1,ρ,i,nd,e,hl=>by
  have e':is[k]? = some i:=by simpa using e
  have hne:i0 ≠ i:=fun z=>(a02.mp nd).1 (by rw [z]; exact w8 e')
  unfold a5B
  rw [c2c (a02.mp nd).2 e' (by rw [p8]; exact hl),k8 hne]
  have:j + 1 + k = j + (k + 1):=by omega
  rw [this]
theorem d13 {a:AV} {p:Option Nat}:(a.retag p).inn = []:=by cases a <;> rfl
theorem b99 {is:List Nat} {ρ':List AV} (hm:∀ i ∈ is,∃ a,ρ[i]? = some a ∧ a.isMut = true ∧ a.inn = []) (nd:is.Nodup):∀ n l,a2o σ (a5B ρ' is 0 ρ) n l → a2o σ ρ n l:=fun n l ⟨a,e,f⟩=>by
  by_cases hn:n ∈ is
  ·obtain ⟨a',e',m',n'⟩:=hm n hn
   obtain ⟨k,hk,ek⟩:=a5a hn
   rw [c2c nd (j7.mpr ⟨hk,ek⟩) (j7.mp e').1] at e
   have hin:a.inn = []:=by
    have ea:=r9 e
    cases ho:a9L ρ' (0 + k) with
    | none=>rw [ho] at ea; rw [← ea]; rfl
    | some a1 =>
     rw [ho] at ea
     rw [← ea]
     exact d13
   rcases f with ⟨_,q⟩ | z
   ·exact .mk e' m' q
   ·rw [hin] at z; simp at z
  ·rw [b54 hn] at e; exact ⟨a,e,f⟩
/-- behind the call -/
theorem Rep.leave {is:List Nat} {M:List t5} {F' H':Hp} {σ':a2W} {ρ':List AV} (R:Rep K C F H σ ρ) (b:d8p σ is M) (hm:∀ i ∈ is,∃ a,ρ[i]? = some a ∧ a.isMut = true ∧ a.inn = []) (nd:is.Nodup) (R':Rep K ⟨F,H,M⟩ F' H' σ' ρ'):Rep K C F' H' σ (a5B ρ' is 0 ρ):=by
 have hMC:∀ l ∈ M,l ∈ C.M0 ∨ C.H0 l = none:=fun l hl=>by
  obtain ⟨i,hi,q⟩:=b.mem hl
  obtain ⟨a,ea,m,_⟩:=hm i hi
  exact R.mutW (.mk ea m q)
 have mutBack:=b99 (σ:=σ) (ρ':=ρ') hm nd
 refine ⟨by rw [c3Y]; exact R.len,R'.sub,R.gr.trans R'.gr,fun c o e n=>?_,fun c o e=>?_,fun c o e n=>?_,R.mf,R'.tp,fun i a e=>?_,fun i j l hne h1 h2=>R.apart i j l hne (mutBack i l h1) (mutBack j l h2)⟩
 ·refine R'.keep c o (R.keep c o e n) fun z=>?_
  rcases hMC c z with y | y
  ·exact n y
  ·rw [y] at e; cases e
 ·obtain ⟨o1,e1⟩:=R.there c o e
  exact R'.there c o1 e1
 ·obtain ⟨o1,e1⟩:=R.there c o e
  exact R'.nw c o1 e1 (R.nw c o e n)
 ·by_cases hi:i ∈ is
  ·obtain ⟨k,hk,ek⟩:=a5a hi
   have ek':is[k]? = some i:=j7.mpr ⟨hk,ek⟩
   obtain ⟨a0,e0,m0,n0⟩:=hm i hi
   have hlt:i < ρ.length:=(j7.mp e0).1
   rw [c2c nd ek' hlt] at e
   obtain ⟨l,hl,q⟩:=a3n.getL b ek'
   refine ⟨_,q,?_⟩
   obtain ⟨o0,eo0,hs0⟩:=R.slot i a0 e0
   rw [q] at eo0
   cases eo0
   have hw:b46 C a0.tag l:=by
    cases a0 with
    | un=>cases m0
    | dat d=>cases m0
    | scr d=>cases m0
    | opq v=>cases m0
    | lk u=>cases m0
    | tr p t=>obtain ⟨b,e1,_,_,_,_,h5⟩:=hs0; cases e1; exact h5
    | ml p ds=>obtain ⟨l',xs,e1,_,_,_,h3⟩:=hs0; cases e1; exact h3
    | mdk p ds=>obtain ⟨l',xs,e1,_,_,_,h3⟩:=hs0; cases e1; exact h3
    | mdt p ds=>obtain ⟨l',xs,e1,_,_,_,h3⟩:=hs0; cases e1; exact h3
   rw [Nat.zero_add] at e
   cases ho:a9L ρ' k with
   | none=>rw [ho] at e; cases e; trivial
   | some a1 =>
    rw [ho] at e
    have ea:a1.retag ((ρ[i]?).bind AV.tag) = a:=r9 e
    rw [e0] at ea
    have htag:a1.tag = some k:=by
     have:=List.find?_some ho
     simpa using this
    obtain ⟨n,hn,en⟩:=a5a (List.mem_of_find?_eq_some ho)
    obtain ⟨o1,eo1,hs1⟩:=R'.slot n a1 (j7.mpr ⟨hn,en⟩)
    subst ea
    cases a1 with
    | un=>cases htag
    | dat d=>cases htag
    | scr d=>cases htag
    | opq v=>cases htag
    | lk u=>cases htag
    | tr p t=>trivial
    | ml p ds =>
     obtain ⟨l1,xs,e1,hF1,hH1,hd1,hw1⟩:=hs1
     have hp:p = some k:=htag
     subst hp
     have el:l1 = l:=by
      have z:M[k]? = some l1:=hw1
      rw [hl] at z
      exact (r9 z).symm
     subst el
     exact ⟨l1,xs,rfl,hF1,hH1,hd1,hw⟩
    | mdk p ds =>
     obtain ⟨l1,xs,e1,hF1,hH1,hd1,hw1⟩:=hs1
     have hp:p = some k:=htag
     subst hp
     have el:l1 = l:=by
      have z:M[k]? = some l1:=hw1
      rw [hl] at z
      exact (r9 z).symm
     subst el
     exact ⟨l1,xs,rfl,hF1,hH1,hd1,hw⟩
    | mdt p ds =>
     obtain ⟨l1,xs,e1,hF1,hH1,hd1,hw1⟩:=hs1
     have hp:p = some k:=htag
     subst hp
     have el:l1 = l:=by
      have z:M[k]? = some l1:=hw1
      rw [hl] at z
      exact (r9 z).symm
     subst el
     exact ⟨l1,xs,rfl,hF1,hH1,hd1,hw⟩
  ·rw [b54 hi] at e
   obtain ⟨o,eo,hs⟩:=R.slot i a e
   refine ⟨o,eo,hs.mono R'.gr (fun l u f h=>?_) fun l f h=>?_⟩
   ·refine R'.keep l u h fun z=>?_
    obtain ⟨i',hi',q'⟩:=b.mem z
    obtain ⟨a',e',m',_⟩:=hm i' hi'
    exact R.apart i i' l (fun w=>hi (by rw [w]; exact hi')) ⟨a,e,by rw [eo]; exact f⟩ (.mk e' m' q')
   ·obtain ⟨_,u,hu⟩:=hs.mutF f
    exact R'.nw l u hu h
theorem a6P.leave {is:List Nat} {M:List t5} {F' H':Hp} {σ':a2W} {ρ':List AV} {v:V} {r:RV} (R:Rep K C F H σ ρ) (R':Rep K ⟨F,H,M⟩ F' H' σ' ρ') (hm:∀ i ∈ is,∃ a,ρ[i]? = some a ∧ a.isMut = true ∧ a.inn = []) (nd:is.Nodup) (h:a6P K ⟨F,H,M⟩ F' H' σ' ρ' v r) (hn:∀ i,r ≠ .bor i):a6P K C F' H' σ (a5B ρ' is 0 ρ) v r:=by
 have mb:=b99 (σ:=σ) (ρ':=ρ') hm nd
 cases r with
 | dat d=>exact h
 | bor i=>exact absurd rfl (hn i)
 | own a =>
  obtain ⟨l,rfl,m,hs,h0,_⟩:=h
  have h0':H l = none:=h0
  have c0:C.H0 l = none:=by
   cases q:C.H0 l with
   | none=>rfl
   | some o=>obtain ⟨o',e⟩:=R.there l o q; rw [e] at h0'; cases h0'
  refine ⟨l,rfl,m,?_,c0,fun i mi=>?_⟩
  ·have wh:∀ p,b46 ⟨F,H,M⟩ p l → (l ∈ M → False) → b46 C p l:=fun p z n=>by
    cases p with
    | none=>exact c0
    | some j=>exact (n (w8 z)).elim
   have nM:l ∈ M → False:=fun z=>by
    obtain ⟨_,o,e⟩:=R'.mf l z
    have e':H l = some o:=e
    rw [h0'] at e'; cases e'
   cases a with
   | un=>cases m
   | dat d=>cases m
   | scr d=>cases m
   | opq v=>cases m
   | lk u=>cases m
   | tr p t=>cases m
   | ml p ds=>obtain ⟨l',xs,e1,q1,q2,q3,q4⟩:=hs; cases e1; exact ⟨l,xs,rfl,q1,q2,q3,wh p q4 nM⟩
   | mdk p ds=>obtain ⟨l',xs,e1,q1,q2,q3,q4⟩:=hs; cases e1; exact ⟨l,xs,rfl,q1,q2,q3,wh p q4 nM⟩
   | mdt p ds=>cases m
  ·obtain ⟨_,u,hu⟩:=R.mutF (mb i l mi)
   rw [h0'] at hu; cases hu
 | tupO ds d =>
  obtain ⟨t,l,u,xs,rfl,ht,hF,h1,h2,h3,h0,_⟩:=h
  have h0':H l = none:=h0
  have c0:C.H0 l = none:=by
   cases q:C.H0 l with
   | none=>rfl
   | some o=>obtain ⟨o',e⟩:=R.there l o q; rw [e] at h0'; cases h0'
  refine ⟨t,l,u,xs,rfl,ht,hF,h1,h2,h3,c0,fun i mi=>?_⟩
  obtain ⟨_,u,hu⟩:=R.mutF (mb i l mi)
  rw [h0'] at hu; cases hu
end
theorem a0G {c:Ct} {t:TA} {a:AAx} (ha:AS0 K W t a):ES K W (a3h (spOf K c) (WE W) t) (a3G c a):=fun C ρ PX P F H σ Q R h xs k =>
 ha C ρ PX _ F H σ _ R h xs fun vs F1 H1 rs ρ1 R1 s1 o1 p1=>by
  cases e:a0D ρ1 rs 0 with
  | none=>simp only [e] at p1
  | some q =>
   obtain ⟨ρc,is⟩:=q
   simp only [e] at p1
   obtain ⟨nd,p1⟩:=p1
   obtain ⟨M,b,hm,f⟩:=a9q R1 o1 e
   have Rc:Rep K ⟨F1,H1,M⟩ F1 H1 (vs.map some) ρc:=R1.enter (rs:=rs) b hm nd (f M rfl) (a5G e).2
   refine ⟨F1,M,ρc,_,_,Rc,p1,fun v F' H' σ' ρ' r R' o' p'=>?_,fun F' H' σ' ρ' cls p d R' x' p'=>?_⟩
   ·have L:=R1.leave b hm nd R'
    cases r with
    | bor i=>exact p'.elim
    | dat d=>exact k v F' H' (.dat d) _ L (s1.trans R'.gr) (o'.leave R1 R' hm nd fun _ z=>nomatch z) p'
    | own a=>exact k v F' H' (.own a) _ L (s1.trans R'.gr) (o'.leave R1 R' hm nd fun _ z=>nomatch z) p'
    | tupO ds d=>exact k v F' H' (.tupO ds d) _ L (s1.trans R'.gr) (o'.leave R1 R' hm nd fun _ z=>nomatch z) p'
   ·exact xs F' H' σ _ cls p d (R1.leave b hm nd R') x' p'
def m7 (c:Ct) (a:AAx):AEx:=fun ρ PX P=>a ρ PX fun rs ρ1=>match a0D ρ1 rs 0 with
 | some (ρc,is)=>is.Nodup ∧ c ρc (fun r ρ'=>match r with
   | .bor _=>False
   | r=>P r (a5B ρ' is 0 ρ1)) X0
 | none=>False
theorem j4 {c:Ct} {t:TA} {a:AAx} (ha:AS0 K W t a):ES K W (r6 (spOf K c) [] E0 t) (m7 c a):=fun C ρ PX P F H σ Q R h xs k =>
 ha C ρ PX _ F H σ _ R h xs fun vs F1 H1 rs ρ1 R1 s1 o1 p1=>by
  cases e:a0D ρ1 rs 0 with
  | none=>simp only [e] at p1
  | some q =>
   obtain ⟨ρc,is⟩:=q
   simp only [e] at p1
   obtain ⟨nd,p1⟩:=p1
   obtain ⟨M,b,hm,f⟩:=a9q R1 o1 e
   have Rc:Rep K ⟨F1,H1,M⟩ F1 H1 (vs.map some) ρc:=R1.enter (rs:=rs) b hm nd (f M rfl) (a5G e).2
   rw [a01]
   refine ⟨F1,M,ρc,_,_,Rc,p1,fun v F' H' σ' ρ' r R' o' p'=>?_,fun F' H' σ' ρ' cls p d R' x' p'=>p'.elim⟩
   have L:=R1.leave b hm nd R'
   cases r with
   | bor i=>exact p'.elim
   | dat d=>exact k v F' H' (.dat d) _ L (s1.trans R'.gr) (o'.leave R1 R' hm nd fun _ z=>nomatch z) p'
   | own a=>exact k v F' H' (.own a) _ L (s1.trans R'.gr) (o'.leave R1 R' hm nd fun _ z=>nomatch z) p'
   | tupO ds d=>exact k v F' H' (.tupO ds d) _ L (s1.trans R'.gr) (o'.leave R1 R' hm nd fun _ z=>nomatch z) p'
def DMt:=List c9 → List c9 → (c9 → List c9 → Prop) → Prop
def MS (K:b0) (r:V → List V → Hp → VK → Prop) (g:DMt):Prop:=∀ F H l xs ds vs es k Q,a6j F H → H l = some (.lst xs) → DrAll K F xs ds → DrAll K F vs es → g ds es k → (∀ z d xs' ds',Dr K F z d → DrAll K F xs' ds' → k d ds' → Q z (upd H l (.lst xs'))) → r (.ref l) vs H Q
def aMt (g:DMt) (b:AEx) (a:AAx):AEx:=fun ρ PX P=>b ρ PX fun rb ρ1=>match rb with
 | .bor i=>(match ρ1[i]? with
  | some (.ml _ _)=>a ρ1 PX fun rs ρ2=>a3t (b7m rs) fun es=>match ρ2[i]? with
   | some (.ml p ds)=>g ds es fun d ds'=>P (.dat d) (ρ2.set i (.ml p ds'))
   | _=>False
  | _=>False)
 | _=>False
theorem e0e {C:C0} {F H:Hp} {σ:a2W} {ρ:List AV} {i:Nat} {p:Option Nat} {ds:List c9} {v:V} (R:Rep K C F H σ ρ) (ev:σ[i]? = some (some v)) (ea:ρ[i]? = some (.ml p ds)):tyV K "list" v H:=by
 obtain ⟨o,eo,l,xs',e1,hF,hH,hd2,hw⟩:=R.slot i _ ea
 rw [ev] at eo
 cases eo
 cases e1
 exact .inl ⟨rfl,_,.of hH⟩
theorem c2h {r:V → List V → Hp → VK → Prop} {g:DMt} {tb:TE} {t:TA} {b:AEx} {a:AAx} (hr:MS K r g) (hb:ES K W tb b) (ha:AS0 K W t a):ES K W (tBM K "list" r tb t) (aMt g b a):=fun C ρ PX P F H σ Q R h xs k =>
 hb C ρ PX _ F H σ _ R h xs fun v F1 H1 r1 ρ1 R1 s1 o1 p1=>by
  cases r1 with
  | dat d=>exact p1.elim
  | own d=>exact p1.elim
  | tupO _ _=>exact p1.elim
  | bor i =>
   obtain ⟨ev,a0,ea0⟩:=o1
   cases ea1:ρ1[i]? with
   | none=>simp only [ea1] at p1
   | some a1 =>
    cases a1 with
    | ml p1' ds1 =>
     simp only [ea1] at p1
     refine ⟨e0e R1 ev ea1,?_⟩
     refine ha C ρ1 PX _ F1 H1 σ _ R1 p1 xs fun vs F2 H2 rs ρ2 R2 s2 o2 p2=>?_
     obtain ⟨es,ee,p2⟩:=a4K p2
     have hd:=a7d o2 ee
     cases ea:ρ2[i]? with
     | none=>simp only [ea] at p2
     | some a2 =>
      cases a2 with
      | ml p ds =>
       simp only [ea] at p2
       obtain ⟨o,eo,l,xs',e1,hF,hH,hd2,hw⟩:=R2.slot i _ ea
       rw [ev] at eo
       cases eo
       cases e1
       refine hr F2 H2 l xs' ds vs es _ _ R2.sub hH hd2 hd p2 fun z d xs3 ds3 hz h3 p3=>?_
       exact k z F2 _ (.dat d) _ (R2.change (a':=.ml p ds3) ea rfl rfl ev ⟨l,xs3,rfl,hF,a0I,h3,hw⟩) (s1.trans s2) hz p3
      | _=>simp only [ea] at p2
    | _=>simp only [ea1] at p1
/-- without arguments -/
def aMt0 (g:DMt) (b:AEx):AEx:=fun ρ PX P=>b ρ PX fun rb ρ1=>match rb with
 | .bor i=>(match ρ1[i]? with
  | some (.ml p ds)=>g ds [] fun d ds'=>P (.dat d) (ρ1.set i (.ml p ds'))
  | _=>False)
 | _=>False
/-- xs[i] = e -/
def d4u (a b c:AEx):ASt:=fun D ρ=>a ρ D.ex fun r ρ1=>match r.hold with
 | .dat d=>b ρ1 D.ex fun rb ρ2=>(match rb with
  | .bor i=>c ρ2 D.ex fun rc ρ3=>(match rc,ρ3[i]? with
   | .dat (.int k),some (.ml p ds)=>(match ixN ds.length k with
    | some j=>D.nx (ρ3.set i (.ml p (ds.set j d)))
    | none=>False)
   | _,_=>False)
  | _=>False)
 | _=>False
theorem b7K {ta tb tc:TE} {a b c:AEx} (ha:ES K W ta a) (hb:ES K W tb b) (hc:ES K W tc c):SS K W (a3w ta (gSub tb tc rSetL)) (d4u a b c):=fun C D ρ F H σ D' R h xs n _ _ _ =>
 ha C ρ D.ex _ F H σ _ R h xs fun v F1 H1 r ρ1 R1 s1 o1 p1=>by
  obtain ⟨F2,R2,s2,o2,n2⟩:=a2R R1 o1
  cases er:r.hold with
  | bor j=>simp only [er] at p1
  | own j=>simp only [er] at p1
  | tupO _ _=>simp only [er] at p1
  | dat d =>
   rw [er] at o2
   simp only [er] at p1
   refine hb C ρ1 D.ex _ F2 H1 σ _ R2 p1 xs fun vb F3 H3 rb ρ3 R3 s3 o3 p3=>?_
   cases rb with
   | dat _=>exact p3.elim
   | own _=>exact p3.elim
   | tupO _ _=>exact p3.elim
   | bor i =>
    obtain ⟨ev,_⟩:=o3
    refine hc C ρ3 D.ex _ F3 H3 σ _ R3 p3 xs fun vc F4 H4 rc ρ4 R4 s4 o4 p4=>?_
    cases rc with
    | bor _=>exact p4.elim
    | own _=>exact p4.elim
    | tupO _ _=>exact p4.elim
    | dat dc =>
     cases dc with
     | int k =>
      cases ea:ρ4[i]? with
      | none=>simp only [ea] at p4
      | some a4 =>
       cases a4 with
       | ml p ds =>
        simp only [ea] at p4
        cases ej:ixN ds.length k with
        | none=>simp only [ej] at p4
        | some j =>
         simp only [ej] at p4
         obtain ⟨o,eo,l,xs',e1,hF,hH,hd2,hw⟩:=R4.slot i _ ea
         rw [ev] at eo
         cases eo
         cases e1
         have ok:vc = .int k:=by cases o4; rfl
         subst ok
         refine ⟨l,xs',k,j,rfl,rfl,hH,by rw [hd2.length]; exact ej,?_⟩
         exact n F4 _ σ _ (R4.change (a':=.ml p (ds.set j d)) ea rfl rfl ev ⟨l,_,rfl,hF,a0I,DrAll.set (Dr.mono (s3.trans s4) d v o2) j hd2,hw⟩) (((s1.trans s2).trans s3).trans s4) p4
       | _=>simp only [ea] at p4
     | _=>exact p4.elim
end Aq
namespace Aq
open PySem L2
variable {K:b0} {W:WX} {X:Cx}
abbrev shp (d:c9):Prop:=a0g d = true
mutual
theorem c8o:∀ d:c9,d.canLay0 = true → noDic d = true
 | .none,_=>by simp [noDic]
 | .bool _,_=>by simp [noDic]
 | .int _,_=>by simp [noDic]
 | .str _,_=>by simp [noDic]
 | .list ds,h=>by rw [noDic]; exact b6X ds (by rw [a2f] at h; exact h)
 | .tuple ds,h=>by rw [noDic]; exact b6X ds (by rw [a2f] at h; exact h)
 | .dict _,h=>by rw [a2f] at h; cases h
theorem b6X:∀ ds:List c9,a6I ds = true → noDics ds = true
 | [],_=>by simp [noDics]
 | d :: ds,h=>by
  rw [a6I,j5] at h
  rw [noDics,c8o d h.1,b6X ds h.2]
  rfl
end
theorem a8P {d:c9} (h:shp d):noDic d = true:=c8o d (SeqAt.canLay_of_shaped h)
def gI (f:Int → Int → (Out → Prop) → Prop):DOp:=fun d e P=>match d,e with
 | .int a,.int b=>f a b P
 | _,_=>False
theorem r2_I0 {g:Int → Int → Int}:R2S K (rI0 fun i j=>.int (g i j)) (gI fun a b P=>P (.dat (.int (g a b)))):=fun F H x y d e Pd Q s hx hy h o=>by
 cases d with
 | int a =>
  cases e with
  | int b=>rw [hx.int,hy.int]; exact ⟨a,b,rfl,rfl,o.dat _ _ (.int _) h⟩
  | _=>exact h.elim
 | _=>exact h.elim
theorem r2_I {C:Int → Int → Prop} {g:Int → Int → Int}:R2S K (rI C fun i j=>.int (g i j)) (gI fun a b P=>C a b ∧ P (.dat (.int (g a b)))):=fun F H x y d e Pd Q s hx hy h o=>by
 cases d with
 | int a =>
  cases e with
  | int b=>rw [hx.int,hy.int]; exact ⟨a,b,rfl,rfl,h.1,o.dat _ _ (.int _) h.2⟩
  | _=>exact h.elim
 | _=>exact h.elim
def c4b:DOp:=gI fun a b P=>P (.dat (.int (a - b)))
def c80:DOp:=gI fun a b P=>CMulW a b ∧ P (.dat (.int (a * b)))
def d3r:DOp:=gI fun a b P=>CDivW a b ∧ P (.dat (.int (a / b)))
def d1r:DOp:=gI fun a b P=>0 < b ∧ P (.dat (.int (a % b)))
def b2N:DOp:=gI fun a b P=>CPow a b ∧ P (.dat (.int (a ^ b.toNat)))
abbrev c2M:R2:=rI0 fun i j=>.int (i - j)
abbrev b3E:R2:=rI CMulW fun i j=>.int (i * j)
abbrev c2J:R2:=rI CDivW fun i j=>.int (i / j)
abbrev b7k:R2:=rI (fun _ j=>0 < j) fun i j=>.int (i % j)
abbrev a4J:R2:=rI CPow fun i j=>.int (i ^ j.toNat)
theorem c0V:R2S K c2M c4b:=r2_I0
theorem a8H:R2S K b3E c80:=r2_I
theorem b4G:R2S K c2J d3r:=r2_I
theorem b2c:R2S K b7k d1r:=r2_I
theorem a2q:R2S K a4J b2N:=r2_I
def a0U (K:b0):R2:=fun x y H Q=>rI0 (fun i j=>.int (i + j)) x y H Q ∨ ((∃ i j,x = .str i ∧ y = .str j ∧ i.length + j.length ≤ m8 ∧ Q (.str (i ++ j)) H) ∨ (rCat x y H Q ∨ rCatA K x y H Q))
theorem v3:OpR X (binaryOp .Add) (a0U X.K):=op_add.or (op_add_str.or (op_cat.or op_catA))
def a3i:DOp:=fun d e P=>match d,e with
 | .int a,.int b=>P (.dat (.int (a + b)))
 | .str a,.str b=>a.length + b.length ≤ m8 ∧ P (.dat (.str (a ++ b)))
 | .list a,.list b=>a.length + b.length ≤ m8 ∧ P (.newL (a ++ b))
 | .tuple a,.tuple b=>a.length + b.length ≤ m8 ∧ P (.dat (.tuple (a ++ b))) ∧ P (.newT (a ++ b))
 | _,_=>False
theorem a0k:R2S K (a0U K) a3i:=fun F H x y d e Pd Q s hx hy h o=>by
 cases d with
 | int a =>
  cases e with
  | int b=>rw [hx.int,hy.int]; exact .inl ⟨a,b,rfl,rfl,o.dat _ _ (.int _) h⟩
  | _=>exact h.elim
 | str a =>
  cases e with
  | str b=>rw [hx.str,hy.str]; exact .inr (.inl ⟨a,b,rfl,rfl,h.1,o.dat _ _ (.str _) h.2⟩)
  | _=>exact h.elim
 | list a =>
  cases e with
  | list b =>
   obtain ⟨l,xs,rfl,h1,h2⟩:=hx.list s
   obtain ⟨m,ys,rfl,k1,k2⟩:=hy.list s
   exact .inr (.inr (.inl ⟨l,m,xs,ys,rfl,rfl,h1,k1,by rw [h2.length,k2.length]; exact h.1,fun p hp=>o.newL p _ _ hp (h2.append k2) h.2⟩))
  | _=>exact h.elim
 | tuple a =>
  cases e with
  | tuple b =>
   obtain ⟨l,xs,rfl,h1,h2⟩:=hx.tuple s
   obtain ⟨m,ys,rfl,k1,k2⟩:=hy.tuple s
   have dx:Dr K F (.ref l) (.tuple a):=by
    rcases hx with hx | ⟨_,_,_,_,e2,_⟩ | ⟨_,_,_,_,e2,_⟩
    ·exact hx
    ·cases e2
    ·cases e2
   have dy:Dr K F (.ref m) (.tuple b):=by
    rcases hy with hx | ⟨_,_,_,_,e2,_⟩ | ⟨_,_,_,_,e2,_⟩
    ·exact hx
    ·cases e2
    ·cases e2
   refine .inr (.inr (.inr ⟨l,m,xs,ys,rfl,rfl,h1,k1,by rw [h2.length,k2.length]; exact h.1,fun e=>?_,fun _ e=>?_,fun _ _ p hp=>o.newT p _ _ hp (h2.append k2) h.2.2⟩))
   ·subst e
    cases h2
    exact o.dat _ _ dy h.2.1
   ·subst e
    cases k2
    have:=h.2.1
    rw [a01] at this
    exact o.dat _ _ dx this
  | _=>exact h.elim
 | _=>exact h.elim
def gEq:DOp:=fun d e P=>shp d ∧ shp e ∧ P (.dat (.bool (j3 d e)))
def gNe:DOp:=fun d e P=>shp d ∧ shp e ∧ P (.dat (.bool (!j3 d e)))
theorem a4s:R2S K (c5O K) gEq:=fun F H x y d e Pd Q s hx hy h o=>⟨d,e,hx.dp s (a8P h.1),hy.dp s (a8P h.2.1),h.1,h.2.1,o.dat _ _ (.bl _) h.2.2⟩
theorem b3D:R2S K (rNeD K) gNe:=fun F H x y d e Pd Q s hx hy h o=>⟨d,e,hx.dp s (a8P h.1),hy.dp s (a8P h.2.1),h.1,h.2.1,o.dat _ _ (.bl _) h.2.2⟩
/-- of two numbers or two texts -/
def rIS (p:Int → Int → Bool) (q:Str → Str → Bool):R2:=fun x y H Q=>rI0 (fun i j=>.bl (p i j)) x y H Q ∨ ∃ i j,x = .str i ∧ y = .str j ∧ Q (.bl (q i j)) H
def gIS (p:Int → Int → Bool) (q:Str → Str → Bool):DOp:=fun d e P=>match d,e with
 | .int a,.int b=>P (.dat (.bool (p a b)))
 | .str a,.str b=>P (.dat (.bool (q a b)))
 | _,_=>False
theorem a3X {p:Int → Int → Bool} {q:Str → Str → Bool}:R2S K (rIS p q) (gIS p q):=fun F H x y d e Pd Q s hx hy h o=>by
 cases d with
 | int a =>
  cases e with
  | int b=>rw [hx.int,hy.int]; exact .inl ⟨a,b,rfl,rfl,o.dat _ _ (.bl _) h⟩
  | _=>exact h.elim
 | str a =>
  cases e with
  | str b=>rw [hx.str,hy.str]; exact .inr ⟨a,b,rfl,rfl,o.dat _ _ (.bl _) h⟩
  | _=>exact h.elim
 | _=>exact h.elim
def b1h (i j:Str):Bool:=decide (i.cps.toList < j.cps.toList)
abbrev c8w:R2:=rIS (fun i j=>decide (i < j)) b1h
abbrev d11:R2:=rIS (fun i j=>decide (i ≤ j)) (fun i j=>!b1h j i)
abbrev d5O:R2:=rIS (fun i j=>decide (j < i)) (fun i j=>b1h j i)
abbrev rGeA:R2:=rIS (fun i j=>decide (j ≤ i)) (fun i j=>!b1h i j)
theorem a72:OpR X (c3P .Lt) c8w:=op_lt.or op_lt_str
theorem a94:OpR X (c3P .LtE) d11:=op_le.or op_le_str
theorem b67:OpR X (c3P .Gt) d5O:=op_gt.or op_gt_str
theorem d9X:OpR X (c3P .GtE) rGeA:=op_ge.or op_ge_str
abbrev gLt:DOp:=gIS (fun i j=>decide (i < j)) b1h
abbrev gLe:DOp:=gIS (fun i j=>decide (i ≤ j)) (fun i j=>!b1h j i)
abbrev gGt:DOp:=gIS (fun i j=>decide (j < i)) (fun i j=>b1h j i)
abbrev gGe:DOp:=gIS (fun i j=>decide (j ≤ i)) (fun i j=>!b1h i j)
def isN:c9 → Bool
 | .none=>true
 | _=>false
def gIs (neg:Bool):DOp:=fun d e P=>match d,e with
 | d,.none=>P (.dat (.bool (if neg then !isN d else isN d)))
 | .bool a,.bool b=>P (.dat (.bool (if neg then !decide (a = b) else decide (a = b))))
 | _,_=>False
def b1T:c9 → Bool
 | .none=>true
 | .bool _=>true
 | .int _=>true
 | .str _=>true
 | _=>false
theorem c59 {F H:Hp} {v:V} {d:c9} (h:Lk K F H v d) (f:b1T d = true):flatV v = true:=by
 cases d with
 | none=>rw [h.none]; rfl
 | bool b=>rw [h.bool]; rfl
 | int b=>rw [h.int]; rfl
 | str b=>rw [h.str]; rfl
 | _=>cases f
theorem d6k {F H F' H':Hp} {v u:V} {d e:c9} (h:Lk K F H v d) (k:Lk K F' H' u e) (f:b1T d = true) (g:b1T e = true):eqV v u = j3 d e:=by
 cases d with
 | none=>rw [h.none]; cases e with
  | none=>rw [k.none]; simp [eqV,j3]
  | bool b=>rw [k.bool]; simp [eqV,j3]
  | int b=>rw [k.int]; simp [eqV,j3]
  | str b=>rw [k.str]; simp [eqV,j3]
  | _=>cases g
 | bool b=>rw [h.bool]; cases e with
  | none=>rw [k.none]; simp [eqV,j3]
  | bool b=>rw [k.bool]; simp [eqV,j3]
  | int b=>rw [k.int]; simp [eqV,j3]
  | str b=>rw [k.str]; simp [eqV,j3]
  | _=>cases g
 | int b=>rw [h.int]; cases e with
  | none=>rw [k.none]; simp [eqV,j3]
  | bool b=>rw [k.bool]; simp [eqV,j3]
  | int b=>rw [k.int]; simp [eqV,j3]
  | str b=>rw [k.str]; simp [eqV,j3]
  | _=>cases g
 | str b=>rw [h.str]; cases e with
  | none=>rw [k.none]; simp [eqV,j3]
  | bool b=>rw [k.bool]; simp [eqV,j3]
  | int b=>rw [k.int]; simp [eqV,j3]
  | str b=>rw [k.str]; simp [eqV,j3]
  | _=>cases g
 | _=>cases f
theorem c6c {F H:Hp} {x:V} {d:c9} (hx:Lk K F H x d) (f:b1T d = true):∀ {xs:List V} {ds:List c9},DrAll K F xs ds → ds.all b1T = true → inV x xs = (ds.any fun z=>j3 z d) ∧ xs.all flatV = true
 | _,_,.nil,_=>⟨rfl,rfl⟩
 | _,_,.cons h t,g=>by
  rw [List.all_cons,j5] at g
  obtain ⟨i1,i2⟩:=c6c hx f t g.2
  have e1:=d6k (H:=H) (.inl h) hx g.1 f
  refine ⟨?_,?_⟩
  ·unfold inV at i1 ⊢
   rw [c3H,c3H,e1,i1]
  ·rw [List.all_cons,c59 (H:=H) (.inl h) g.1,i2]
   rfl
def b5z (j i:Str):Bool:=!(Builtin.Str.occurrences j i 0 j.length 1).isEmpty
def d4q (K:b0):R2:=fun x y H Q=>(∃ i j,x = .str i ∧ y = .str j ∧ Q (.bl (b5z j i)) H) ∨ (rIn K false x y H Q ∨ rInD K x y H Q)
def c2L (K:b0):R2:=fun x y H Q=>(∃ i j,x = .str i ∧ y = .str j ∧ Q (.bl (!b5z j i)) H) ∨ (rIn K true x y H Q ∨ rNotInD K x y H Q)
theorem c0a (hu:X.A.units + 65 < a9H):OpR X (c3P .In) (d4q X.K):=op_in_str.or (op_in_seq.or (op_inD hu))
theorem d1U (hu:X.A.units + 65 < a9H):OpR X (c3P .NotIn) (c2L X.K):=op_notin_str.or (op_notIn_seq.or (op_notInD hu))
def inD (neg:Bool) (b:Bool):c9:=.bool (if neg then !b else b)
def gIn (neg:Bool):DOp:=fun d e P=>match d,e with
 | .str i,.str j=>P (.dat (inD neg (b5z j i)))
 | d,.tuple ds=>b1T d = true ∧ ds.all b1T = true ∧ P (.dat (inD neg (ds.any fun z=>j3 z d)))
 | d,.list ds=>shp d ∧ shp (.list ds) ∧ P (.dat (inD neg (ds.any fun z=>j3 z d)))
 | _,_=>False
theorem c9I:R2S K (d4q K) (gIn false):=fun F H x y d e Pd Q s hx hy h o=>by
 cases e with
 | str j =>
  cases d with
  | str i=>rw [hx.str,hy.str]; exact .inl ⟨i,j,rfl,rfl,o.dat _ _ (.bl _) h⟩
  | _=>exact h.elim
 | tuple ds =>
  have h':b1T d = true ∧ ds.all b1T = true ∧ Pd (.dat (inD false (ds.any fun z=>j3 z d))):=by cases d <;> exact h
  obtain ⟨l,ys,rfl,k1,k2⟩:=hy.tuple s
  obtain ⟨i1,i2⟩:=c6c hx h'.1 k2 h'.2.1
  refine .inr (.inl ⟨l,ys,rfl,.inr k1,c59 hx h'.1,i2,?_⟩)
  have e2:(if false = true then !inV x ys else inV x ys) = (ds.any fun z=>j3 z d):=i1
  rw [e2]
  exact o.dat _ _ (.bl _) h'.2.2
 | list ds =>
  have h':shp d ∧ shp (.list ds) ∧ Pd (.dat (inD false (ds.any fun z=>j3 z d))):=by cases d <;> exact h
  exact .inr (.inr ⟨d,ds,hx.dp s (a8P h'.1),hy.dp s (a8P h'.2.1),h'.1,h'.2.1,o.dat _ _ (.bl _) h'.2.2⟩)
 | _=>cases d <;> exact h.elim
theorem d4p:R2S K (c2L K) (gIn true):=fun F H x y d e Pd Q s hx hy h o=>by
 cases e with
 | str j =>
  cases d with
  | str i=>rw [hx.str,hy.str]; exact .inl ⟨i,j,rfl,rfl,o.dat _ _ (.bl _) h⟩
  | _=>exact h.elim
 | tuple ds =>
  have h':b1T d = true ∧ ds.all b1T = true ∧ Pd (.dat (inD true (ds.any fun z=>j3 z d))):=by cases d <;> exact h
  obtain ⟨l,ys,rfl,k1,k2⟩:=hy.tuple s
  obtain ⟨i1,i2⟩:=c6c hx h'.1 k2 h'.2.1
  refine .inr (.inl ⟨l,ys,rfl,.inr k1,c59 hx h'.1,i2,?_⟩)
  have e2:(if true = true then !inV x ys else inV x ys) = !(ds.any fun z=>j3 z d):=by rw [if_pos rfl,i1]
  rw [e2]
  exact o.dat _ _ (.bl _) h'.2.2
 | list ds =>
  have h':shp d ∧ shp (.list ds) ∧ Pd (.dat (inD true (ds.any fun z=>j3 z d))):=by cases d <;> exact h
  exact .inr (.inr ⟨d,ds,hx.dp s (a8P h'.1),hy.dp s (a8P h'.2.1),h'.1,h'.2.1,o.dat _ _ (.bl _) h'.2.2⟩)
 | _=>cases d <;> exact h.elim
def gIx:DOp:=fun d e P=>match d,e with
 | .list ds,.int i=>a0X (atI ds i) fun z=>P (.dat z)
 | .tuple ds,.int i=>a0X (atI ds i) fun z=>P (.dat z)
 | .str s,.int i=>s.length ≤ m8 ∧ match atI s.cps.toList i with
  | some c=>P (.dat (.str ⟨#[c]⟩))
  | none=>False
 | _,_=>False
theorem d1c {F:Hp} {xs:List V} {ds:List c9} {i:Int} {d:c9} (h:DrAll K F xs ds) (e:atI ds i = some d):∃ v,atI xs i = some v ∧ Dr K F v d:=by
 unfold atI at e ⊢
 rw [h.length]
 cases q:ixN ds.length i with
 | none=>rw [q] at e; cases e
 | some j =>
  rw [q] at e
  exact h.at e
theorem y8:R2S K (rIx K) gIx:=fun F H x y d e Pd Q s hx hy h o=>by
 cases e with
 | int i =>
  rw [hy.int]
  cases d with
  | list ds =>
   obtain ⟨l,xs,rfl,h1,h2⟩:=hx.list s
   obtain ⟨z,ez,hz⟩:=a0q h
   obtain ⟨v,ev,hv⟩:=d1c h2 ez
   exact .inl ⟨l,xs,i,v,rfl,rfl,.of h1,ev,o.dat _ _ hv hz⟩
  | tuple ds =>
   obtain ⟨l,xs,rfl,h1,h2⟩:=hx.tuple s
   obtain ⟨z,ez,hz⟩:=a0q h
   obtain ⟨v,ev,hv⟩:=d1c h2 ez
   exact .inr (.inl ⟨l,xs,i,v,rfl,rfl,h1,ev,o.dat _ _ hv hz⟩)
  | str z =>
   rw [hx.str]
   obtain ⟨h0,h⟩:=h
   cases ec:atI z.cps.toList i with
   | none=>simp only [ec] at h
   | some c =>
    simp only [ec] at h
    exact .inr (.inr ⟨z,i,c,rfl,rfl,h0,ec,o.dat _ _ (.str _) h⟩)
  | _=>exact h.elim
 | _=>cases d <;> exact h.elim
abbrev AOx:=List AV → PXT → (Option Int → List AV → Prop) → Prop
def OS (K:b0) (W:WX) (te:TO) (a:AOx):Prop:=∀ C ρ PX P F H σ Q,Rep K C F H σ ρ → a ρ PX P → XS K C W PX → (∀ b F' H' ρ',Rep K C F' H' σ ρ' → a6j F F' → P b ρ' → Q b H') → te σ H Q
def b0P:AOx:=fun ρ _ P=>P none ρ
def b6q (a:AEx):AOx:=fun ρ PX P=>a ρ PX fun r ρ1=>match r with
 | .dat (.int i)=>P (some i) ρ1
 | _=>False
theorem c6M:OS K W tNoPart b0P:=fun C ρ PX P F H σ Q R h _ k=>k none F H ρ R (.refl _) h
theorem b02 {te:TE} {a:AEx} (ha:ES K W te a):OS K W (tPart te) (b6q a):=fun C ρ PX P F H σ Q R h xs k =>
 ha C ρ PX _ F H σ _ R h xs fun v F1 H1 r ρ1 R1 s1 o1 p1=>by
  cases r with
  | dat d =>
   cases d with
   | int i =>
    cases o1
    exact ⟨i,rfl,k _ F1 H1 ρ1 R1 s1 p1⟩
   | _=>exact p1.elim
  | _=>exact p1.elim
def b9U (xs:List c9) (lo hi:Option Int):List c9:=(xs.drop (HT.sIx xs.length 0 lo)).take (HT.sIx xs.length xs.length hi - HT.sIx xs.length 0 lo)
theorem d1h {F:Hp} {xs:List V} {ds:List c9} (h:DrAll K F xs ds) (lo hi:Option Int):DrAll K F (cutV xs lo hi) (b9U ds lo hi):=by
 unfold cutV b9U
 rw [h.length]
 exact (h.drop _).take _
def DSl:=c9 → Option Int → Option Int → (Out → Prop) → Prop
def c0W (K:b0):V → Option Int → Option Int → Hp → VK → Prop:=fun x lo hi H Q=>rSlL K x lo hi H Q ∨ (rSlA K x lo hi H Q ∨ rSlS x lo hi H Q)
theorem d96 {r r':V → Option Int → Option Int → Hp → VK → Prop} (h:SlR X r) (h':SlR X r'):SlR X (fun x lo hi H Q=>r x lo hi H Q ∨ r' x lo hi H Q):=fun pins s σ H x v vl vu lo hi sl Q I rx hs pl pu z =>
 z.elim (fun z=>h pins s σ H x v vl vu lo hi sl Q I rx hs pl pu z) fun z=>h' pins s σ H x v vl vu lo hi sl Q I rx hs pl pu z
theorem c8B:SlR X (c0W X.K):=d96 sl_list (d96 sl_tupA sl_str)
def gSl:DSl:=fun d lo hi P=>match d with
 | .list ds=>P (.newL (b9U ds lo hi))
 | .tuple ds=>P (.dat (.tuple (b9U ds lo hi))) ∧ P (.newT (b9U ds lo hi))
 | .str z=>z.length ≤ m8 ∧ P (.dat (.str (cutS z lo hi)))
 | _=>False
def aSl (a:AEx) (l h:AOx):AEx:=fun ρ PX P=>a ρ PX fun r ρ1=>l ρ1 PX fun lo ρ2=>h ρ2 PX fun hi ρ3=>a0X (r.hold.look ρ3) fun d=>gSl d lo hi fun o=>P o.rv ρ3
theorem d3V {te:TE} {tl th:TO} {a:AEx} {l h:AOx} (ha:ES K W te a) (hl:OS K W tl l) (hh:OS K W th h):ES K W (tSl (c0W K) te tl th) (aSl a l h):=fun C ρ PX P F H σ Q R h xs k =>
 ha C ρ PX _ F H σ _ R h xs fun v F1 H1 r ρ1 R1 s1 o1 p1=>by
  obtain ⟨F2,R2,s2,o2,n2⟩:=a2R R1 o1
  refine hl C ρ1 PX _ F2 H1 σ _ R2 p1 xs fun lo F3 H3 ρ3 R3 s3 p3=>?_
  refine hh C ρ3 PX _ F3 H3 σ _ R3 p3 xs fun hi F4 H4 ρ4 R4 s4 p4=>?_
  obtain ⟨d,ed,p4⟩:=a0q p4
  have lk:=(o2.stay (s3.trans s4) R4 n2).lk R4 ed
  have o:=d4i R4 (P:=P) (Q:=Q) fun v' F' H' r' R' s' o' p'=>k v' F' H' r' ρ4 R' ((((s1.trans s2).trans s3).trans s4).trans s') o' p'
  cases d with
  | list ds =>
   obtain ⟨l,xs,rfl,h1,h2⟩:=lk.list R4.sub
   exact .inl ⟨l,xs,rfl,.of h1,fun p hp=>o.newL p _ _ hp (d1h h2 lo hi) p4⟩
  | tuple ds =>
   have dx:Dr K F4 v (.tuple ds):=by
    rcases lk with hx | ⟨_,_,_,_,e2,_⟩ | ⟨_,_,_,_,e2,_⟩
    ·exact hx
    ·cases e2
    ·cases e2
   obtain ⟨l,xs,rfl,h1,h2⟩:=lk.tuple R4.sub
   refine .inr (.inl ⟨l,xs,rfl,h1,fun e=>?_,fun _ p hp=>o.newT p _ _ hp (d1h h2 lo hi) p4.2⟩)
   have e3:b9U ds lo hi = ds:=by
    unfold b9U
    rw [← h2.length,e.1,e.2,h2.length]
    simp
   have:=p4.1
   rw [e3] at this
   exact o.dat _ _ dx this
  | str z =>
   rw [lk.str]
   exact .inr (.inr ⟨z,rfl,p4.1,o.dat _ _ (.str _) p4.2⟩)
  | _=>exact p4.elim
def gC1 (f:c9 → (Out → Prop) → Prop):DCl:=fun ds P=>match ds with
 | [d]=>f d P
 | _=>False
theorem d1L {F H:Hp} {vs:List V} {d:c9} (h:d3H K F H vs [d]):∃ v,vs = [v] ∧ Lk K F H v d:=by
 cases h with
 | cons h1 h2=>cases h2; exact ⟨_,rfl,h1⟩
theorem d5J {F H:Hp} {vs:List V} {d e:c9} (h:d3H K F H vs [d,e]):∃ v u,vs = [v,u] ∧ Lk K F H v d ∧ Lk K F H u e:=by
 cases h with
 | cons h1 h2 =>
  cases h2 with
  | cons h2 h3=>cases h3; exact ⟨_,_,rfl,h1,h2⟩
theorem c9H {r:List V → Hp → VK → Prop} {f:c9 → (Out → Prop) → Prop} (h:∀ F H v d Pd Q,a6j F H → Lk K F H v d → f d Pd → OutS K F H Pd Q → r [v] H Q):R1S K r (gC1 f):=fun F H vs ds Pd Q s l g o=>by
 match ds,l,g with
 | [d],l,g =>
  obtain ⟨v,rfl,lv⟩:=d1L l
  exact h F H v d Pd Q s lv g o
 | [],_,g=>exact g.elim
 | _ :: _ :: _,_,g=>exact g.elim
abbrev a5E (K:b0):List V → Hp → VK → Prop:=fun xs H Q=>∃ x n,xs = [x] ∧ LenV K x H n ∧ Q (.int n) H
def b6H:DCl:=gC1 fun d P=>match d with
 | .list ds=>P (.dat (.int ds.length))
 | .tuple ds=>P (.dat (.int ds.length))
 | .str s=>s.length ≤ m8 ∧ P (.dat (.int s.length))
 | _=>False
theorem a4w:R1S K (a5E K) b6H:=c9H fun F H v d Pd Q s l h o=>by
 cases d with
 | list ds =>
  obtain ⟨l,xs,rfl,h1,h2⟩:=l.list s
  exact ⟨_,ds.length,rfl,.inl ⟨xs,.of h1,h2.length.symm⟩,o.dat _ _ (.int _) h⟩
 | tuple ds =>
  obtain ⟨l,xs,rfl,h1,h2⟩:=l.tuple s
  exact ⟨_,ds.length,rfl,.inr ⟨xs,h1,h2.length.symm⟩,o.dat _ _ (.int _) h⟩
 | str z =>
  rw [l.str]
  exact ⟨_,z.length,rfl,⟨h.1,rfl⟩,o.dat _ _ (.int _) h.2⟩
 | _=>exact h.elim
def a8B:List c9 → Option (List Bool)
 | []=>some []
 | .bool b :: ds=>(a8B ds).map (b :: ·)
 | _=>none
def a9J:List c9 → Option (List Int)
 | []=>some []
 | .int b :: ds=>(a9J ds).map (b :: ·)
 | _=>none
theorem b6u:∀ {ds:List c9} {bs:List Bool},a8B ds = some bs → ds = bs.map a0M
 | [],bs,e=>by cases e; rfl
 | .bool b :: ds,bs,e=>by
  unfold a8B at e
  cases q:a8B ds with
  | none=>rw [q] at e; cases e
  | some l=>rw [q] at e; cases e; rw [b6u q]; rfl
 | .none :: ds,bs,e=>by cases e
 | .int _ :: ds,bs,e=>by cases e
 | .str _ :: ds,bs,e=>by cases e
 | .list _ :: ds,bs,e=>by cases e
 | .tuple _ :: ds,bs,e=>by cases e
 | .dict _ :: ds,bs,e=>by cases e
theorem b20:∀ {ds:List c9} {bs:List Int},a9J ds = some bs → ds = bs.map m9
 | [],bs,e=>by cases e; rfl
 | .int b :: ds,bs,e=>by
  unfold a9J at e
  cases q:a9J ds with
  | none=>rw [q] at e; cases e
  | some l=>rw [q] at e; cases e; rw [b20 q]; rfl
 | .none :: ds,bs,e=>by cases e
 | .bool _ :: ds,bs,e=>by cases e
 | .str _ :: ds,bs,e=>by cases e
 | .list _ :: ds,bs,e=>by cases e
 | .tuple _ :: ds,bs,e=>by cases e
 | .dict _ :: ds,bs,e=>by cases e
theorem b9T (bs:List Bool):a8B (bs.map a0M) = some bs:=by
 induction bs with
 | nil=>rfl
 | cons b bs ih=>show (a8B (bs.map a0M)).map (b :: ·) = _; rw [ih]; rfl
theorem b1U (bs:List Int):a9J (bs.map m9) = some bs:=by
 induction bs with
 | nil=>rfl
 | cons b bs ih=>show (a9J (bs.map m9)).map (b :: ·) = _; rw [ih]; rfl
def d5z:DCl:=gC1 fun d P=>match d with
 | .list ds=>(match a8B ds with
  | some bs=>P (.dat (.bool (bs.all id)))
  | none=>False)
 | _=>False
def gAny:DCl:=gC1 fun d P=>match d with
 | .list ds=>(match a8B ds with
  | some bs=>P (.dat (.bool (bs.any id)))
  | none=>False)
 | _=>False
def gSum:DCl:=gC1 fun d P=>match d with
 | .list ds=>(match a9J ds with
  | some bs=>P (.dat (.int bs.sum))
  | none=>False)
 | _=>False
theorem c0U:R1S K (rAll K) d5z:=c9H fun F H v d Pd Q s l h o=>by
 cases d with
 | list ds =>
  obtain ⟨l',xs,rfl,h1,h2⟩:=l.list s
  cases e:a8B ds with
  | none=>simp only [e] at h
  | some bs =>
   simp only [e] at h
   rw [b6u e] at h2
   rw [h2.bls_of] at h1
   exact ⟨l',bs,rfl,.of h1,o.dat _ _ (.bl _) h⟩
 | _=>exact h.elim
/-- max, min of two numbers, of a list -/
def d7u (K:b0):List V → Hp → VK → Prop:=fun xs H Q=>(∃ i j,xs = [.int i,.int j] ∧ Q (.int (if j > i then j else i)) H) ∨ rMax K xs H Q
def c9J (K:b0):List V → Hp → VK → Prop:=fun xs H Q=>(∃ i j,xs = [.int i,.int j] ∧ Q (.int (if j < i then j else i)) H) ∨ rMin K xs H Q
theorem d1f (hc:X.calm = true):d8N X (.builtin "max") (d7u X.K):=(call_max2 hc).or (cr_max hc)
theorem b1M (hc:X.calm = true):d8N X (.builtin "min") (c9J X.K):=(call_min2 hc).or (cr_min hc)
def gMax:DCl:=fun ds P=>match ds with
 | [.int i,.int j]=>P (.dat (.int (if j > i then j else i)))
 | [.list ds]=>(match a9J ds with
  | some bs=>0 < bs.length ∧ ∀ m,m ∈ bs → (∀ y,y ∈ bs → y ≤ m) → P (.dat (.int m))
  | none=>False)
 | _=>False
def d6t:DCl:=fun ds P=>match ds with
 | [.int i,.int j]=>P (.dat (.int (if j < i then j else i)))
 | [.list ds]=>(match a9J ds with
  | some bs=>0 < bs.length ∧ ∀ m,m ∈ bs → (∀ y,y ∈ bs → m ≤ y) → P (.dat (.int m))
  | none=>False)
 | _=>False
theorem d90:R1S K (d7u K) gMax:=fun F H vs ds Pd Q s l g o=>by
 unfold gMax at g
 split at g
 ·obtain ⟨v,u,rfl,l1,l2⟩:=d5J l
  rw [l1.int,l2.int]
  exact .inl ⟨_,_,rfl,o.dat _ _ (.int _) g⟩
 ·obtain ⟨v,rfl,l1⟩:=d1L l
  rename_i ds
  obtain ⟨l',xs,rfl,h1,h2⟩:=l1.list s
  cases e:a9J ds with
  | none=>simp only [e] at g
  | some bs =>
   simp only [e] at g
   rw [b20 e] at h2
   rw [h2.ints_of] at h1
   exact .inr ⟨l',bs,rfl,.of h1,g.1,fun m m1 m2=>o.dat _ _ (.int _) (g.2 m m1 m2)⟩
 ·exact g.elim
theorem c8u:R1S K (c9J K) d6t:=fun F H vs ds Pd Q s l g o=>by
 unfold d6t at g
 split at g
 ·obtain ⟨v,u,rfl,l1,l2⟩:=d5J l
  rw [l1.int,l2.int]
  exact .inl ⟨_,_,rfl,o.dat _ _ (.int _) g⟩
 ·obtain ⟨v,rfl,l1⟩:=d1L l
  rename_i ds
  obtain ⟨l',xs,rfl,h1,h2⟩:=l1.list s
  cases e:a9J ds with
  | none=>simp only [e] at g
  | some bs =>
   simp only [e] at g
   rw [b20 e] at h2
   rw [h2.ints_of] at h1
   exact .inr ⟨l',bs,rfl,.of h1,g.1,fun m m1 m2=>o.dat _ _ (.int _) (g.2 m m1 m2)⟩
 ·exact g.elim
def gAbs:DCl:=gC1 fun d P=>match d with
 | .int i=>P (.dat (.int (if i < 0 then -i else i)))
 | _=>False
def d7t:List V → Hp → VK → Prop:=fun xs H Q=>((∃ i,xs = [.int i] ∧ Q (.int i) H) ∨ ∃ k,xs = [.bl k] ∧ Q (.int (if k then 1 else 0)) H) ∨ ∃ a n,xs = [.str a] ∧ d3D a = some n ∧ a.length ≤ 640 ∧ Q (.int n) H
theorem d1e:d8N X (.type "int") d7t:=call_int1.or call_int_str
def gInt:DCl:=gC1 fun d P=>match d with
 | .int i=>P (.dat (.int i))
 | .bool k=>P (.dat (.int (if k then 1 else 0)))
 | .str a=>a.length ≤ 640 ∧ (match d3D a with
  | some n=>P (.dat (.int n))
  | none=>False)
 | _=>False
theorem d9Z:R1S K d7t gInt:=c9H fun F H v d Pd Q s l h o=>by
 cases d with
 | int i=>rw [l.int]; exact .inl (.inl ⟨i,rfl,o.dat _ _ (.int _) h⟩)
 | bool i=>rw [l.bool]; exact .inl (.inr ⟨i,rfl,o.dat _ _ (.int _) h⟩)
 | str a =>
  rw [l.str]
  obtain ⟨h0,h⟩:=h
  cases e:d3D a with
  | none=>simp only [e] at h
  | some n=>simp only [e] at h; exact .inr ⟨a,n,rfl,e,h0,o.dat _ _ (.int _) h⟩
 | _=>exact h.elim
abbrev c8v (K:b0):List V → Hp → VK → Prop:=fun xs H Q=>∃ p ys,xs = [.ref p] ∧ (SqL K H p ys ∨ SqT K H p ys) ∧ ∀ l,H l = none → Q (.ref l) (upd H l (.lst ys))
def c6a:DCl:=gC1 fun d P=>match d with
 | .list ds=>P (.newL ds)
 | .tuple ds=>P (.newL ds)
 | _=>False
theorem c6Q:R1S K (c8v K) c6a:=c9H fun F H v d Pd Q s l h o=>by
 cases d with
 | list ds =>
  obtain ⟨l',xs,rfl,h1,h2⟩:=l.list s
  exact ⟨l',xs,rfl,.inl (.of h1),fun p hp=>o.newL p _ _ hp h2 h⟩
 | tuple ds =>
  obtain ⟨l',xs,rfl,h1,h2⟩:=l.tuple s
  exact ⟨l',xs,rfl,.inr h1,fun p hp=>o.newL p _ _ hp h2 h⟩
 | _=>exact h.elim
abbrev c4I (K:b0):List V → Hp → VK → Prop:=fun xs H Q=>∃ p ys,xs = [.ref p] ∧ ((SqL K H p ys ∧ ∀ l,H l = none → Q (.ref l) (upd H l (.tup ys))) ∨ (SqT K H p ys ∧ Q (.ref p) H))
def b48:DCl:=gC1 fun d P=>match d with
 | .list ds=>P (.newT ds)
 | .tuple ds=>P (.dat (.tuple ds))
 | _=>False
theorem b7j:R1S K (c4I K) b48:=c9H fun F H v d Pd Q s l h o=>by
 cases d with
 | list ds =>
  obtain ⟨l',xs,rfl,h1,h2⟩:=l.list s
  exact ⟨l',xs,rfl,.inl ⟨.of h1,fun p hp=>o.newT p _ _ hp h2 h⟩⟩
 | tuple ds =>
  have dx:Dr K F v (.tuple ds):=by
   rcases l with hx | ⟨_,_,_,_,e2,_⟩ | ⟨_,_,_,_,e2,_⟩
   ·exact hx
   ·cases e2
   ·cases e2
  obtain ⟨l',xs,rfl,h1,h2⟩:=l.tuple s
  exact ⟨l',xs,rfl,.inr ⟨h1,o.dat _ _ dx h⟩⟩
 | _=>exact h.elim
def b28:DMt:=fun ds es k=>match es with
 | [e]=>ds.length < m8 ∧ k .none (ds ++ [e])
 | _=>False
theorem b11:MS K rAppend b28:=fun F H l xs ds vs es k Q s h hd he g o=>by
 match es,he,g with
 | [e],.cons h1 .nil,g=>exact ⟨l,xs,_,rfl,rfl,h,by rw [hd.length]; exact g.1,o _ _ _ _ .non (hd.append (.one h1)) g.2⟩
 | [],_,g=>exact g.elim
 | _ :: _ :: _,_,g=>exact g.elim
def b6U:DMt:=fun ds es k=>match es with
 | [.list e]=>ds.length + e.length ≤ m8 ∧ k .none (ds ++ e)
 | _=>False
theorem c4o:MS K rExtend b6U:=fun F H l xs ds vs es k Q s h hd he g o=>by
 unfold b6U at g
 split at g
 ·cases he with
  | cons h1 h2 =>
   cases h2
   cases h1 with
   | lst q1 q2=>exact ⟨l,_,xs,_,rfl,rfl,h,s _ _ q1,by rw [hd.length,q2.length]; exact g.1,o _ _ _ _ .non (hd.append q2) g.2⟩
 ·exact g.elim
def mPop:DMt:=fun ds es k=>match es with
 | []=>a0X (ds[ds.length - 1]?) fun d=>k d ds.dropLast
 | _=>False
theorem DrAll.dropLast {F:Hp}:∀ {vs:List V} {ds:List c9},DrAll K F vs ds → DrAll K F vs.dropLast ds.dropLast
 | _,_,.nil=>.nil
 | _,_,.cons _ .nil=>.nil
 | _,_,.cons r (.cons r2 t)=>.cons r (DrAll.dropLast (.cons r2 t))
def c8k:DMt:=fun ds es k=>match es with
 | [.int i]=>(0 ≤ i ∧ i < 2 ^ 63) ∧ a0X (ds[i.toNat]?) fun d=>k d (ds.eraseIdx i.toNat)
 | _=>False
theorem d4g:MS K rPopAt c8k:=fun F H l xs ds vs es k Q s h hd he g o=>by
 unfold c8k at g
 split at g
 ·rename_i i
  cases he with
  | cons h1 h2 =>
   cases h2
   cases h1
   obtain ⟨⟨g1,g2⟩,g⟩:=g
   obtain ⟨d,e,g⟩:=a0q g
   obtain ⟨v,ev,hv⟩:=hd.at e
   have hlt:i.toNat < xs.length:=(j7.mp ev).1
   refine ⟨l,xs,i,i.toNat,v,rfl,rfl,h,by omega,g2,?_,ev,o _ _ _ _ hv (hd.eraseIdx _) g⟩
   unfold seqIndex?
   have:¬ i < 0:=by omega
   simp [this]
   omega
 ·exact g.elim
def b6V:DMt:=fun ds es k=>match es with
 | [.int i,e]=>(ds.length < m8 ∧ 0 ≤ i ∧ i < 2 ^ 63) ∧ k .none (ds.take i.toNat ++ [e] ++ ds.drop i.toNat)
 | _=>False
abbrev c2K:V → List V → Hp → VK → Prop:=fun x vs H Q=>∃ (l:t5) (xs:List V) (i:Int) (y:V),x = .ref l ∧ vs = [.int i,y] ∧ H l = some (.lst xs) ∧ xs.length < m8 ∧ 0 ≤ i ∧ i < 2 ^ 63 ∧
  Q .non (upd H l (.lst (xs.take i.toNat ++ [y] ++ xs.drop i.toNat)))
theorem c4p:MS K c2K b6V:=fun F H l xs ds vs es k Q s h hd he g o=>by
 unfold b6V at g
 split at g
 ·rename_i i e
  cases he with
  | cons h1 h2 =>
   cases h2 with
   | cons h2 h3 =>
    cases h3
    cases h1
    exact ⟨l,xs,i,_,rfl,rfl,h,by rw [hd.length]; exact g.1.1,g.1.2.1,g.1.2.2,o _ _ _ _ .non (((hd.take _).append (.one h2)).append (hd.drop _)) g.2⟩
 ·exact g.elim
end Aq
set_option maxHeartbeats 3200000
namespace AqS
open PySem PySem.Calls PyProof.Rows L2
def b8N (e:Int × f8):Key:=match e.2 with
 | .int k _=>.inl k
 | .str x _=>.inr x
 | _=>.inl 0
def KyE (w:i3) (e:Int × f8):Prop:=∃ k:Key,c3Q k e.2 = true ∧ e.1 = keyH w k
theorem c6w {k:Key} {e:Int × f8} (h:c3Q k e.2 = true):b8N e = k:=by
 rcases a8s h with ⟨i,t,rfl,q⟩ | ⟨x,t,rfl,q⟩
 ·unfold b8N; rw [q]
 ·unfold b8N; rw [q]
theorem d1t {w:i3} {e:Int × f8} (g:KyE w e):c3Q (b8N e) e.2 = true:=by
 obtain ⟨k,h,_⟩:=g
 rw [c6w h]; exact h
/-- the set at a holds just ks -/
def c8R (w:i3) (h:b9M) (a:t5) (ks:List Key):Prop :=
 ∃ o es ep t,h.get? a = some o ∧ o.ExactSet ∧ o.data = .set es ep t ∧ (∀ e ∈ es.toList,KyE w e) ∧ (es.toList.map b8N).Nodup ∧ (es.toList.map b8N).Perm ks ∧ es.size < a69 ∧ t.fits es.size = true ∧ Ris t.place.toList ∧ (w.params.followText "set-order" = true ∨ t.led = true)
section
variable {P:a2x} {w:i3} {A:b9L} {E:f8 → a0h → Prop} {s:a0h} {a:t5} {ks:List Key}
theorem c8R.at {h h':b9M} (R:c8R w h a ks) (k:∀ o,h.get? a = some o → h'.get? a = some o):c8R w h' a ks:=by
 obtain ⟨o,es,ep,t,ho,r⟩:=R
 exact ⟨o,es,ep,t,k o ho,r⟩
theorem d9P {l:List (Int × f8)} (g:∀ e ∈ l,KyE w e):ElemsOf (b2S P w) l:=fun e he=>by
 obtain ⟨k,h1,h2⟩:=g e he
 refine ⟨⟨k,h1,h2⟩,?_⟩
 rcases a8s h1 with ⟨i,t,_,q⟩ | ⟨x,t,_,q⟩ <;> rw [q] <;> rfl
theorem kmem {l:List (Int × f8)} (g:∀ e ∈ l,KyE w e) (k:Key):k ∈ l.map b8N ↔ ∃ e ∈ l,c3Q k e.2 = true:=by
 rw [e9]
 constructor
 ·rintro ⟨e,he,rfl⟩
  exact ⟨e,he,d1t (g e he)⟩
 ·rintro ⟨e,he,q⟩
  exact ⟨e,he,c6w q⟩
theorem d1C {h:b9M} {o:Obj} {es es':Array (Int × f8)} {ep:Nat} {t t':a5J} (ho:h.get? a = some o) (hd:o.data = .set es ep t):(h.update a (c5U es' t')).get? a = some { o with data:=.set es' (ep + 1) t' }:=by
 rw [Heap.get?_update_self (c5U es' t') ho (by rw [putSet_of es' t' hd] <;> rfl),putSet_of es' t' hd]
theorem d9R {g:Bool → Sem Unit} (hg:∀ (b:Bool) (s₁:a0h) (Q':Unit → a0h → Prop),Q' () s₁ → a32 (a6J P w) A (g b) Q' E s₁)
  {o:Obj} {es:Array (Int × f8)} {ep:Nat} {t:a5J} (ho:s.heap.get? a = some o) (hex:o.ExactSet) (hd:o.data = .set es ep t)
  {es1:Array (Int × f8)} {t2:a5J} (g1:∀ e ∈ es1.toList,KyE w e) (nd1:(es1.toList.map b8N).Nodup) (m1:(es1.toList.map b8N).Perm ks)
  (hb1:es1.size < a69) (hf2:t2.fits es1.size = true) (hr:Ris t2.place.toList) (hl:w.params.followText "set-order" = true ∨ t2.led = true) {wasDummy:Bool} {R:Option Bool → a0h → Prop}
  (hR:∀ h',a9V a s.heap h' → c8R w h' a ks → R (some true) { s with heap:=h' }) :
  a32 (a6J P w) A (do
    storeSet a es1 t2
    if (!wasDummy && t2.tooFull) = true then do
      g (relayAll t2 es1 (a0O es1.size)).2.2
      storeSet a (relayAll t2 es1 (a0O es1.size)).1 (relayAll t2 es1 (a0O es1.size)).2.1
      pure (some true)
     else pure (some true)) R E s:=by
 refine g4 (b1D ho hd ?_ (c5Y hb1))
 have ho1:=d1C (es':=es1) (t':=t2) ho hd
 have sb1:=a8r s.heap a (c5U es1 t2)
 split
 ·have pm:=relayAll_perm t2 es1 (a0O es1.size)
  have hf3:=relayAll_fits t2 es1 (a0O es1.size)
  have hr3:=relayAll_ris t2 es1 (a0O es1.size)
  have hl3:=relayAll_led t2 es1 (a0O es1.size)
  generalize relayAll t2 es1 (a0O es1.size) = Z at pm hf3 hr3 hl3 ⊢
  obtain ⟨es2,t3,gave⟩:=Z
  dsimp only at pm hf3 hr3 hl3 ⊢
  have hsz:es2.size = es1.size:=by rw [← t9,pm.length_eq,t9]
  have hb2:es2.size < a69:=by rw [hsz]; exact hb1
  refine g4 (hg _ _ _ ?_)
  refine g4 (b1D ho1 rfl ?_ (c5Y hb2))
  have ho2:=d1C (es':=es2) (t':=t3) ho1 rfl
  refine m4 (hR _ (sb1.trans (a8r _ a _)) ?_)
  have pk:=pm.map b8N
  exact ⟨_,es2,_,t3,ho2,hex,rfl,fun e he=>g1 e (pm.mem_iff.mp he),pk.nodup_iff.mpr nd1,pk.trans m1,hb2,hf3,hr3,hl.imp id fun z=>by rw [hl3]; exact z⟩
 ·exact m4 (hR _ sb1 ⟨_,es1,_,t2,ho1,hex,rfl,g1,nd1,m1,hb1,hf2,hr,hl⟩)
def addK (k:Key) (ks:List Key):List Key:=if (ks.any fun z=>decide (z = k)) = true then ks else k :: ks
theorem addK_in {k:Key} {ks:List Key} (h:k ∈ ks):addK k ks = ks:=by
 unfold addK
 rw [if_pos (c8J.mpr ⟨k,h,decide_eq_true rfl⟩)]
theorem addK_out {k:Key} {ks:List Key} (h:k ∉ ks):addK k ks = k :: ks:=by
 unfold addK
 rw [if_neg fun z=>by
  obtain ⟨x,hx,e⟩:=c8J.mp z
  rw [of_decide_eq_true e] at hx
  exact h hx]
theorem kadd {k:Key} {v:f8} {Q:Bool → a0h → Prop} (R:c8R w s.heap a ks) (room:ks.length + 1 < a69) (hv:c3Q k v = true)
  (hQ:∀ b h',a9V a s.heap h' → c8R w h' a (addK k ks) → Q b { s with heap:=h' }) :
  a32 (a6J P w) A (c76 a v (keyH w k)) Q E s:=by
 obtain ⟨o,es,ep,t,ho,hex,hd,g,nd,hm,hb,hf,hr,hl⟩:=R
 have hsc:v.scannable = true:=by
  rcases a8s hv with ⟨i,t,_,q⟩ | ⟨x,t,_,q⟩ <;> rw [q] <;> rfl
 have hel:ElemsOf (b2S P w) es.toList:=d9P g
 have hn:es.size = ks.length:=by rw [← hm.length_eq,g8,t9]
 unfold c76 setAddHashedIn
 refine a1I (g4 (a4q ho hd hf ?_))
 dsimp only
 rw [byScan_of hsc hb hel]
 simp only [↓reduceIte]
 unfold setAddByScan
 refine g4 ?_
 refine g4 (c50 ?_)
 have hkey:(b2S P w).is k v = true:=hv
 refine g4 (wpAny_setScan_of (knd:=b2S P w) (k:=k) hkey ho hd hf hel ?_)
 cases hfi:List.findIdx? (fun e=>(b2S P w).is k e.2) es.toList with
 | some j =>
  dsimp only
  obtain ⟨hj,pj,_⟩:=List.findIdx?_eq_some_iff_getElem.mp hfi
  have hk:k ∈ ks:=hm.mem_iff.mp ((kmem g k).2 ⟨es.toList[j],b4t hj,pj⟩)
  refine m4 (m4 ?_)
  refine hQ _ s.heap (Heap.SameBut.refl a s.heap) ?_
  rw [addK_in hk]
  exact ⟨o,es,ep,t,ho,hex,hd,g,nd,hm,hb,hf,hr,hl⟩
 | none =>
  dsimp only
  have hnk:k ∉ es.toList.map b8N:=fun z=>by
   obtain ⟨e,he,q⟩:=(kmem g k).1 z
   have c:=List.findIdx?_eq_none_iff.mp hfi e he
   have q':(b2S P w).is k e.2 = true:=q
   rw [q'] at c
   cases c
  have hks:k ∉ ks:=fun z=>hnk (hm.mem_iff.mpr z)
  have hgw:∀ (b:Bool) {s₁:a0h} {Q':Unit → a0h → Prop},Q' () s₁ → a32 (a6J P w) A (match b with | true=>rule "set.scan.the-table-gave-way" | false=>pure ()) Q' E s₁ :=
   fun b s₁ Q' q=>by cases b <;> first | exact m4 q | exact c50 q
  have pm:=layNew_perm t es (keyH w k) v
  have hf1:=layNew_fits t es (keyH w k) v
  have hr1:=layNew_ris t es (keyH w k) v hr
  have hl1:=layNew_led t es (keyH w k) v
  generalize layNew t es (keyH w k) v = Z at pm hf1 hr1 hl1 ⊢
  obtain ⟨es1,t1,wasDummy,gave⟩:=Z
  dsimp only at pm hf1 hr1 hl1 ⊢
  rw [Array.toList_push] at pm
  have pc:es1.toList.Perm ((keyH w k,v) :: es.toList):=pm.trans (d3n _ _)
  have pk:(es1.toList.map b8N).Perm (k :: es.toList.map b8N):=by
   have q:=pc.map b8N
   rw [j8,c6w (e:=(keyH w k,v)) hv] at q
   exact q
  have g1:∀ e ∈ es1.toList,KyE w e:=fun e he=>by
   rcases o9.mp (pc.mem_iff.mp he) with z | z
   ·rw [z]; exact ⟨k,hv,rfl⟩
   ·exact g e z
  have nd1:(es1.toList.map b8N).Nodup:=pk.nodup_iff.mpr (a02.mpr ⟨hnk,nd⟩)
  have m1:(es1.toList.map b8N).Perm (addK k ks):=by
   rw [addK_out hks]
   exact pk.trans (hm.cons k)
  have hsz:es1.size = ks.length + 1:=by rw [← t9,pc.length_eq,t4,t9,hn]
  have hb1:es1.size < a69:=by rw [hsz]; exact room
  have hled:w.params.followText "set-order" = true ∨ t1.led = true:=hl.imp id fun z=>by rw [hl1]; exact z
  refine g4 (hgw _ ?_)
  split
  ·refine g4 ?_
   rw [hashByValue_scannable 8 hsc]
   refine m4 ?_
   refine d9R ?_ ho hex hd g1 nd1 m1 hb1 ?_ ?_ ?_ ?_
   ·intro b s₁ Q' q; cases b <;> first | exact m4 q | exact c50 q
   ·first | (split <;> first | exact hf1 | exact SetTable.fits_plain_off hf1) | exact hf1
   ·first | (split <;> exact hr1) | exact hr1
   ·first | (split <;> exact hled) | exact hled
   ·intro h' sb r; dsimp only; exact m4 (hQ _ h' sb r)
  ·refine g4 (m4 ?_)
   simp only [↓reduceIte]
   refine d9R ?_ ho hex hd g1 nd1 m1 hb1 hf1 hr1 hled ?_
   ·intro b s₁ Q' q; cases b <;> first | exact m4 q | exact c50 q
   ·intro h' sb r; dsimp only; exact m4 (hQ _ h' sb r)
/-- what set(..) of these keys holds, the last one first -/
def made:List Key → List Key
 | []=>[]
 | k :: ks=>addK k (made ks)
theorem c8m:∀ ks:List Key,(made ks).length ≤ ks.length
 | []=>a1i _
 | k :: ks=>by
  have h:=c8m ks
  unfold made
  by_cases q:k ∈ made ks
  ·rw [addK_in q,t4]; omega
  ·rw [addK_out q,t4,t4]; omega
/-- few enough keys, each counted once -/
def FewK (ks:List Key):Prop:=(made ks.reverse).length + 1 < a69
theorem c8l:∀ xs ys:List Key,(made ys).length ≤ (made (xs ++ ys)).length
 | [],_=>a1i _
 | x :: xs,ys=>by
  have h:=c8l xs ys
  have e:made (x :: xs ++ ys) = addK x (made (xs ++ ys)):=rfl
  rw [e]
  by_cases q:x ∈ made (xs ++ ys)
  ·rw [addK_in q]; exact h
  ·rw [addK_out q,t4]
   omega
theorem fewK {ks:List Key} (h:ks.length + 1 < a69):FewK ks:=by
 have:=c8m ks.reverse
 rw [List.length_reverse] at this
 unfold FewK
 omega
theorem d1b {h0:b9M} {S:t5} {its:List f8} {ks:List Key} (hp:a3n (fun k v=>c3Q k v = true) ks its) (hb:FewK ks):Adds P w (2 ^ 63) h0 S its (fun i h=>c8R w h S (made (ks.take i).reverse)) where
 keep:=fun i h h' J k _=>J.at k
 add:=fun A' E' i s' v Q _ hv J _ hQ=>by
  obtain ⟨k,hk,hkv⟩:=Aq.a3n.getR hp hv
  unfold setAdd
  refine a1I ?_
  refine g4 ((b2S P w).pyHash (k:=k) hkv ?_)
  have hlen:(made (ks.take i).reverse).length + 1 < a69:=by
   have:=c8l (ks.drop i).reverse (ks.take i).reverse
   rw [← List.reverse_append,d8S] at this
   unfold FewK at hb
   omega
  refine kadd (s:={ s' with toks:=s'.toks + 1 }) J hlen hkv fun b h' sb R=>?_
  refine hQ b h' _ (d00 _) sb ?_
  have e:(ks.take (i + 1)).reverse = k :: (ks.take i).reverse:=by
   rw [List.take_add_one,hk]
   simp
  show c8R w h' S (made (ks.take (i + 1)).reverse)
  rw [e]
  exact R
end
end AqS
namespace AqS
open PySem PySem.Calls PyProof.Rows L2
def leD (a b:c9):Prop:=PySem.W.dataLt b a = false
theorem d4b {β:Type} (k:β → c9):PySem.W.TotalLe (a1F false k):=PySem.W.sortLe_total _ _ _
theorem pw_sort {β:Type} (k:β → c9) (l:List β):(l.mergeSort (a1F false k)).Pairwise (fun a b=>leD (k a) (k b)):=by
 refine (PySem.W.sort_pairwise (d4b k) l).imp fun {a b} h=>?_
 have h':(!PySem.W.dataLt (k b) (k a)) = true:=h
 unfold leD
 simpa using h'
def rSortD (K:b0):List V → Hp → VK → Prop:=fun vs H Q=>∃ (a:t5) (xs:List V) (ds:List c9),vs = [b6k a] ∧ H a = some (.lst xs) ∧ DpAll K H xs ds ∧ a12 ds ∧ c8O ds ∧ (∀ d ∈ ds,d.depth ≤ 60) ∧
 ∀ (p:t5) (ps:List (V × c9)),ps.Perm (xs.zip ds) → (ps.map a3l).Pairwise leD → H p = none → Q (.ref p) (upd H p (.lst (ps.map b2R)))
theorem b6E {K:b0} {H:Hp}:∀ {vs:List V} {ds:List c9},DpAll K H vs ds → vs.length = ds.length
 | _,_,.nil=>rfl
 | _,_,.cons _ t=>by rw [t4,t4,b6E t]
section
variable {X:Cx}
theorem c8e {pins:List (t5 × Obj)} {σ:a2W} {H:Hp} {s:a0h} (I:Inv X pins σ H s):∀ {xs:List V} {ds:List c9} {us:List f8},DpAll X.K H xs ds → Vals xs us → a2g (fun v b=>RelV b.1 v) us (xs.zip ds) ∧ a2g (fun v b=>∃ as,d02 s.heap v (a3l b) as) us (xs.zip ds)
 | _,_,_,.nil,.nil=>⟨.nil,.nil⟩
 | _,_,_,.cons h t,.cons r q=>by
  obtain ⟨a,b⟩:=c8e I t q
  obtain ⟨as,hr⟩:=Dp.reads I _ _ _ h r
  exact ⟨.cons r a,.cons ⟨as,hr⟩ b⟩
theorem c5a:∀ {us:List f8} {ps:List (V × c9)},a2g (fun v b=>RelV b.1 v) us ps → Vals (ps.map b2R) us
 | _,_,.nil=>.nil
 | _,_,.cons r t=>.cons r (c5a t)
theorem cr_sortD (hu:X.A.units + 64 < a9H):d8N X (.builtin "sorted") (rSortD X.K):=by
 intro pins s σ H vs us Q I r h
 obtain ⟨a,xs,ds,rfl,hs,hd,hal,hk,hdep,q⟩:=h
 obtain ⟨its,rv,hl,hz⟩:=I.list (.of hs)
 rw [c3N r]
 obtain ⟨e1,e2⟩:=c8e I hd rv
 have hz2:(xs.zip ds).map a3l = ds:=by
  rw [List.map_snd_zip]
  exact c72 (b6E hd).symm
 have hlen:(xs.zip ds).length = xs.length:=by rw [List.length_zip,b6E hd]; omega
 refine PySem.W.sorted_data (R:=fun v b=>RelV b.1 v) (enc:=a3l) (bs:=xs.zip ds) hl.isList e1 e2 (by rw [hz2]; exact hal) (by rw [hz2]; exact hk) (by rw [hlen]; exact hz) (fun b hb=>?_) fun out ho eo=>?_
 ·have:=hdep b.2 (by rw [← hz2]; exact e9.mpr ⟨b,hb,rfl⟩)
  omega
 ·obtain ⟨ep,he'⟩:=PyProof.Rows.sortedAll_at s.heap its out.toArray
  have pm:=c13 (xs.zip ds) (a1F false a3l)
  have hlen2:(((xs.zip ds).mergeSort (a1F false a3l)).map b2R).length ≤ m8:=by
   rw [g8,pm.length_eq,hlen]; exact hz
  exact ⟨.ref _,upd H (s.heap.objs.size + 1) (.lst (((xs.zip ds).mergeSort (a1F false a3l)).map b2R)),I.laid (t':=s.toks) (fun _ _=>PyProof.Rows.sortedAll_old) (d00 _) ⟨hlen2,out,ep,c5a eo,he'⟩,rfl,
   q _ _ pm (a2X.mpr (pw_sort a3l _)) (I.hok.fresh (d00 _))⟩
def KSetO (w:i3) (a:t5) (ks:List Key):HO:=.ext fun h=>c8R w h a ks
theorem d1B {P:a2x} {w:i3} {H:Hp} {h:b9M} {a:t5} {ks:List Key} (R:c8R w h a ks):ObjOk P w H h a (KSetO w a ks):=by
 have ⟨o,_,_,_,ho,_⟩:=R
 exact ⟨R,⟨o,ho⟩,fun h1 h2 p k=>p.at k⟩
def rSetK (w:i3) (K:b0):List V → Hp → VK → Prop:=fun xs H Q=>∃ (l:t5) (ks:List Key),xs = [b6k l] ∧ H l = some (.lst (ks.map kV)) ∧ FewK ks ∧ ∀ a,H a = none → Q (.ref a) (upd H a (KSetO w a (made ks.reverse)))
theorem d1z:∀ {ks:List Key} {us:List f8},Vals (ks.map kV) us → a3n (fun k v=>c3Q k v = true) ks us
 | [],_,h=>by cases h; exact .nil
 | k :: ks,_,h=>by
  cases h with
  | cons r t =>
   refine .cons ?_ (d1z t)
   cases k with
   | inl i=>obtain ⟨t,rfl⟩:=r; exact keyIs_int i t
   | inr x=>obtain ⟨t,rfl⟩:=r; exact keyIs_str x t
theorem d6j:a9H ≤ 2 ^ 63:=by decide
theorem cr_setK (hc:X.calm = true) (hu:X.A.units + 64 < a9H):d8N X (.type "set") (rSetK X.w X.K):=by
 intro pins s σ H xs us Q I r h
 obtain ⟨l,ks,rfl,hl,hb,q⟩:=h
 rw [c3N r]
 obtain ⟨its,rv,pl,hz⟩:=I.list (.of hl)
 have hn:H s.heap.objs.size = none:=I.hok.fresh (a1i _)
 have pk:=d1z rv
 have len:its.length = ks.length:=(c3J pk).symm
 refine call_set (P:=X.prog) (w:=X.w) (u:=2 ^ 63) (I.ok.hd hc) pl.isList (d1b pk hb) (by have:=d6j; omega) (fun h ho _=>?_) fun h' tk J k=>?_
 ·show c8R X.w h _ (made [])
  refine ⟨_,#[],0,_,ho,⟨rfl,rfl,rfl⟩,rfl,(fun e he=>by simp at he),(by simp),(by exact List.Perm.refl _),(by decide),(by rfl),c5R,?_⟩
  show _ ∨ (!X.w.params.followText "set-order") = true
  cases X.w.params.followText "set-order"
  ·exact .inr rfl
  ·exact .inl rfl
 ·have J':c8R X.w h' s.heap.objs.size (made ks.reverse):=by
   rw [len,c8M] at J
   exact J
  exact ⟨.ref s.heap.objs.size,upd H s.heap.objs.size (KSetO X.w s.heap.objs.size (made ks.reverse)),I.laid (t':=tk) k (a1i _) (d1B J'),rfl,q _ hn⟩
def rSortK (w:i3):List V → Hp → VK → Prop:=fun vs H Q=>∃ (a:t5) (ks:List Key),vs = [b6k a] ∧ H a = some (KSetO w a ks) ∧ a12 (ks.map Aq.kD) ∧
 ∀ (p:t5) (ys:List Key),ys.Perm ks → (ys.map Aq.kD).Pairwise leD → H p = none → Q (.ref p) (upd H p (.lst (ys.map kV)))
theorem c34 {h:b9M} {a:t5}:∀ {vs:List f8} {bs:List Key},a3n (fun v k=>c3Q k v = true) vs bs → a2g (fun v k=>c3Q k v = true) vs bs ∧ a2g (fun v k=>∃ as,d02 h v (Aq.kD k) as ∧ a ∉ as) vs bs
 | _,_,.nil=>⟨.nil,.nil⟩
 | _,_,.cons r t=>by
  obtain ⟨x,y⟩:=c34 (h:=h) (a:=a) t
  refine ⟨.cons r x,.cons ?_ y⟩
  rcases a8s r with ⟨i,t,rfl,rfl⟩ | ⟨x,t,rfl,rfl⟩
  ·exact ⟨[],Reads.int i t,by simp⟩
  ·exact ⟨[],Reads.str x t,by simp⟩
theorem c35:∀ {vs:List f8} {ks:List Key},a2g (fun v k=>c3Q k v = true) vs ks → Vals (ks.map kV) vs
 | _,_,.nil=>.nil
 | _,_,.cons r t=>by
  refine .cons ?_ (c35 t)
  rcases a8s r with ⟨i,t,rfl,rfl⟩ | ⟨x,t,rfl,rfl⟩
  ·exact ⟨t,rfl⟩
  ·exact ⟨t,rfl⟩
theorem d33 (k:Key):(Aq.kD k).depth = 0:=by cases k <;> simp [Aq.kD,a1M]
theorem d34 (k:Key):Aq.kD k ≠ .none ∧ ∀ xs,Aq.kD k ≠ .tuple xs:=by
 cases k with
 | inl i=>exact ⟨fun z=>(by cases z),fun _ z=>(by cases z)⟩
 | inr x=>exact ⟨fun z=>(by cases z),fun _ z=>(by cases z)⟩
theorem cr_sortK (hc:X.calm = true) (hu:X.A.units + 64 < a9H):d8N X (.builtin "sorted") (rSortK X.w):=by
 intro pins s σ H vs us Q I r h
 obtain ⟨a,ks,rfl,ha,hal,q⟩:=h
 rw [c3N r]
 obtain ⟨o,es,ep,t,ho,hex,hd,g,nd,hm,hb,hf,hr,hl⟩:c8R X.w s.heap a ks:=(I.hok a _ ha).1
 refine d3A kind_sorted plain_sorted entry_sorted (args_sorted1 _) ?_
 unfold Builtin.«sorted»
 refine g4 (m:=checkCount "sorted" 1 1 _) (m4 ?_)
 refine g4 (collect_set (A:=X.A.in1) (I.ok.hd hc) ⟨o,ho,hex.1,hd⟩ hf hb hr hl fun s1 vs k1 hz g1 o1 pm=>?_)
 obtain ⟨bs,hpb,hpm⟩:∃ bs:List Key,a3n (fun v k=>c3Q k v = true) vs bs ∧ bs.Perm ks:=by
  refine ⟨vs.map fun v=>b8N (0,v),?_,?_⟩
  ·have aux:∀ l:List f8,(∀ v ∈ l,c3Q (b8N (0,v)) v = true) → a3n (fun v k=>c3Q k v = true) l (l.map fun v=>b8N (0,v)):=fun l=>by
    induction l with
    | nil=>exact fun _=>.nil
    | cons v l ih=>exact fun hh=>.cons (hh v f9) (ih fun u hu=>hh u (e7 _ hu))
   refine aux vs fun v hv=>?_
   obtain ⟨e,he,rfl⟩:=e9.mp (pm.mem_iff.mp hv)
   show c3Q (b8N e) e.2 = true
   exact d1t (g e he)
  ·have q1:=pm.map fun v=>b8N (0,v)
   rw [y5] at q1
   exact q1.trans hm
 have hvl:vs.length = ks.length:=(c3J hpb).trans hpm.length_eq
 have hsmall:ks.length ≤ m8:=by
  rw [← hm.length_eq,g8,t9]
  exact c5Y hb
 refine g4 (wpAny_newList ?_ (by rw [hvl]; exact hsmall))
 have hoL:(s1.heap.push (a7a "list" vs.toArray 0)).get? s1.heap.objs.size = some (a7a "list" vs.toArray 0):=a1a _ rfl
 obtain ⟨e1,e2⟩:=c34 (h:=s1.heap.push (a7a "list" vs.toArray 0)) (a:=s1.heap.objs.size) hpb
 have hal2:a12 (bs.map Aq.kD):=fun d hd d' hd'=>by
  obtain ⟨k,hk,rfl⟩:=e9.mp hd
  obtain ⟨k',hk',rfl⟩:=e9.mp hd'
  exact hal _ (e9.mpr ⟨k,hpm.mem_iff.mp hk,rfl⟩) _ (e9.mpr ⟨k',hpm.mem_iff.mp hk',rfl⟩)
 refine g4 (a1I (PySem.W.list_sort_data (s:={ s1 with heap:=s1.heap.push (a7a "list" vs.toArray 0) }) (enc:=Aq.kD) (bs:=bs) hoL e1 e2 hal2 (d52 d34) (by rw [hpm.length_eq]; exact hsmall) (fun b _=>by rw [d33]; show X.A.in1.units + 1 + 0 < a9H; show X.A.units + 1 + 1 + 0 < a9H; omega) fun out hol eo=>?_))
 obtain ⟨c,hc2⟩:=sortedHeap_at (vs:=vs) (out:=out.toArray) hoL
 have pms:=c13 bs (a1F false Aq.kD)
 have hv:=c35 eo
 have hlen:((bs.mergeSort (a1F false Aq.kD)).map kV).length ≤ m8:=by
  rw [g8,pms.length_eq,hpm.length_eq]; exact hsmall
 have hn:H s1.heap.objs.size = none:=I.hok.fresh hz
 have kk:∀ b u,s.heap.get? b = some u → (a4p (s1.heap.push (a7a "list" vs.toArray 0)) s1.heap.objs.size vs out.toArray).get? b = some u:=fun b u e=>by
  have q1:=k1 b u e
  have hlt:=a66 q1
  rw [sortedHeap_old (a67 hlt) (by rw [a63]; exact b1z hlt)]
  exact r8 _ q1
 have J:Inv X pins σ (upd H s1.heap.objs.size (.lst ((bs.mergeSort (a1F false Aq.kD)).map kV))) { s with heap:=a4p (s1.heap.push (a7a "list" vs.toArray 0)) s1.heap.objs.size vs out.toArray,gens:=s1.gens,drawn:=s1.drawn,toks:=s1.toks } :=
  I.call (ch:=[]) (Un.laid kk hz hn) (I.hok.laid kk hz ⟨hlen,out,c,hv,hc2⟩) (by rw [g1]; exact I.bare) (fun _ z=>nomatch z)
 refine m4 ⟨_,rfl,?_⟩
 have e:(⟨a4p (s1.heap.push (a7a "list" vs.toArray 0)) s1.heap.objs.size vs out.toArray,s1.gens,s1.drawn,s1.toks,s1.os⟩:a0h) = { s with heap:=a4p (s1.heap.push (a7a "list" vs.toArray 0)) s1.heap.objs.size vs out.toArray,gens:=s1.gens,drawn:=s1.drawn,toks:=s1.toks }:=by
  rw [o1]
 show EP X pins σ Q (.ref s1.heap.objs.size) ⟨a4p (s1.heap.push (a7a "list" vs.toArray 0)) s1.heap.objs.size vs out.toArray,s1.gens,s1.drawn,s1.toks,s1.os⟩
 rw [e]
 exact ⟨.ref s1.heap.objs.size,_,J,rfl,q _ _ (pms.trans hpm) (a2X.mpr (pw_sort Aq.kD _)) hn⟩
end
end AqS
namespace Aq
open PySem PySem.Calls PyProof.Rows L2
variable {K:b0} {W:WX} {X:Cx}
def c2j (K:b0) (tl:TE):TI:=fun σ H R=>tl σ H fun x H1=>(∃ a xs,x = .ref a ∧ SqL K H1 a xs ∧ R (Itl K a) H1) ∨ (∃ a xs,x = .ref a ∧ SqT K H1 a xs ∧ R (Itt K a) H1) ∨ ∃ z,x = .str z ∧ R (Its z) H1
theorem a47 {tg l:Expr} {tl:TE} (hl:PE X l tl):PI X tg l (c2j X.K tl) where
 run:=fun pins s σ H R I h=>thn (hl.run pins s σ H _ I h) fun v s1 ⟨x,H1,I1,r1,q1⟩=>by
  have fp:∀ b ∈ [s1.heap.objs.size],FpOk X pins H1 b:=fun b hb=>by
   obtain rfl:b = s1.heap.objs.size:=by simpa using hb
   exact I1.fpOk (a1i _) (I1.hok.fresh (a1i _))
  rcases q1 with ⟨a,xs,rfl,hq,q⟩ | ⟨a,xs,rfl,hq,q⟩ | ⟨z,rfl,q⟩
  ·cases r1
   obtain ⟨its,rv,p,hz⟩:=I1.list hq
   exact wpAny_pyIter_list p.isList ⟨s1.heap.objs.size,[s1.heap.objs.size],_,_,H1,rfl,I1.kept (t':=s1.toks) fun b o e=>r8 _ e,turn_list a _,⟨_,a1a _ rfl,rfl,rfl⟩,fp,q⟩
  ·cases r1
   obtain ⟨its,rv,p,hz⟩:=I1.tuple hq
   exact wpAny_pyIter_tuple (show s1.heap.IsTuple a its.toArray from p) ⟨s1.heap.objs.size,[s1.heap.objs.size],_,_,H1,rfl,I1.kept (t':=s1.toks) fun b o e=>r8 _ e,turn_tuple a _,⟨_,a1a _ rfl,rfl,rfl⟩,fp,q⟩
  ·obtain ⟨t,rfl⟩:=r1
   cases ha:z.cps.all (· < 128)
   ·exact wpAny_pyIter_wide ha (pi_one (tk:=s1.toks) I1 _ (turn_str _ z t "str_iterator" (.inr rfl)) ⟨_,a1a _ rfl,rfl,rfl⟩ q)
   ·exact wpAny_pyIter_ascii ha (pi_one (tk:=s1.toks) I1 _ (turn_str _ z t "str_ascii_iterator" (.inl rfl)) ⟨_,a1a _ rfl,rfl,rfl⟩ q)
def a8o (z:Str):List c9:=z.cps.toList.map fun c=>y4 ⟨#[c]⟩
theorem e0i {F:Hp} {z:Str}:Wk K F (Its z) (a8o z) where
 go:=fun F' H' i s s' hi=>by
  have q:i < z.cps.size:=by simpa [a8o] using hi
  exact q
 stop:=fun F' H' i s s' hi=>by
  have q:z.cps.size ≤ i:=by simpa [a8o] using hi
  exact q
 yld:=fun C F' H' σ ρ i x H3 d R s e ⟨e3,c,hc,hx⟩=>by
  subst e3 hx
  unfold a8o at e
  rw [a0b,a65,hc] at e
  cases e
  exact ⟨F',R,.refl _,.str _,.refl _⟩
def a6i (a:AEx):AIt:=fun ρ PX P=>a ρ PX fun r ρ1=>match r.hold with
 | .dat (.list ds)=>P ds ρ1
 | .dat (.tuple ds)=>P ds ρ1
 | .dat (.str z)=>P (a8o z) ρ1
 | _=>False
theorem a45 {tl:TE} {a:AEx} (ha:ES K W tl a):IS K W (c2j K tl) (a6i a):=fun C ρ PX P F H σ R' R h xs k =>
 ha C ρ PX _ F H σ _ R h xs fun v F1 H1 r ρ1 R1 s1 o1 p1=>by
  obtain ⟨F2,R2,s2,o2,n2⟩:=a2R R1 o1
  cases e:r.hold with
  | dat d =>
   rw [e] at o2
   simp only [e] at p1
   cases d with
   | list ds =>
    cases o2 with
    | lst q1 q2=>exact .inl ⟨_,_,rfl,.of (R2.sub _ _ q1),k _ F2 H1 ds ρ1 R2 (s1.trans s2) (d7E q1 q2) p1⟩
   | tuple ds =>
    cases o2 with
    | tup q1 q2=>exact .inr (.inl ⟨_,_,rfl,b89 R2.sub q1,k _ F2 H1 ds ρ1 R2 (s1.trans s2) (e0j q1 q2) p1⟩)
   | str z =>
    cases o2
    exact .inr (.inr ⟨z,rfl,k _ F2 H1 _ ρ1 R2 (s1.trans s2) e0i p1⟩)
   | _=>exact p1.elim
  | bor j=>simp only [e] at p1
  | own j=>simp only [e] at p1
  | tupO _ _=>simp only [e] at p1
/-- enumerate(xs) of a list -/
def c8V:List c9 → Nat → List c9
 | [],_=>[]
 | d :: ds,i=>.tuple [.int (i:Nat),d] :: c8V ds (i + 1)
def aEnum (a:AAx):AIt:=fun ρ PX P=>a ρ PX fun rs ρ1=>match rs with
 | [.dat (.list ds)]=>P (c8V ds 0) ρ1
 | _=>False
open AqS in
def d6u:DCl:=gC1 fun d P=>match d with
 | .list ds=>a12 ds ∧ c8O ds ∧ (∀ d ∈ ds,d.depth ≤ 60) ∧ noDics ds = true ∧ ∀ es,es.Perm ds → es.Pairwise AqS.leD → P (.newL es)
 | _=>False
theorem d5X {F:Hp}:∀ {xs:List V} {ds:List c9},DrAll K F xs ds → ∀ q ∈ xs.zip ds,Dr K F q.1 q.2
 | _,_,.nil,q,hq=>by simp at hq
 | _,_,.cons h1 h2,q,hq=>by
  rw [List.zip_cons_cons,o9] at hq
  rcases hq with rfl | hq
  ·exact h1
  ·exact d5X h2 q hq
theorem d4N {F:Hp} {xs:List V} {ds:List c9} (h:DrAll K F xs ds) {ps:List (V × c9)} (p:ps.Perm (xs.zip ds)):DrAll K F (ps.map b2R) (ps.map a3l) ∧ (ps.map a3l).Perm ds:=by
 have all:=d5X h
 have go:∀ l:List (V × c9),(∀ q ∈ l,Dr K F q.1 q.2) → DrAll K F (l.map b2R) (l.map a3l):=fun l=>by
  induction l with
  | nil=>exact fun _=>.nil
  | cons a l ih=>exact fun hh=>.cons (hh a f9) (ih fun q hq=>hh q (e7 _ hq))
 refine ⟨go ps fun q hq=>all q (p.mem_iff.mp hq),?_⟩
 have e:(xs.zip ds).map a3l = ds:=by
  rw [List.map_snd_zip]
  exact c72 h.length.symm
 have:=p.map a3l
 rw [e] at this
 exact this
theorem d7s:R1S K (AqS.rSortD K) d6u:=c9H fun F H v d Pd Q s l h o=>by
 cases d with
 | list ds =>
  obtain ⟨a,xs,rfl,h1,h2⟩:=l.list s
  refine ⟨a,xs,ds,rfl,h1,DrAll.dp _ _ (h2.mono s) h.2.2.2.1,h.1,h.2.1,h.2.2.1,fun p ps hp hw hn=>?_⟩
  obtain ⟨z1,z2⟩:=d4N h2 hp
  exact o.newL p _ _ hn z1 (h.2.2.2.2 _ z2 hw)
 | _=>exact h.elim
def keyD:c9 → Option Key
 | .int i=>some (.inl i)
 | .str x=>some (.inr x)
 | _=>none
def b8M:List c9 → Option (List Key)
 | []=>some []
 | d :: ds=>match keyD d,b8M ds with
  | some k,some ks=>some (k :: ks)
  | _,_=>none
theorem b97 {F:Hp}:∀ {ds:List c9} {ks:List Key} {xs:List V},b8M ds = some ks → DrAll K F xs ds → xs = ks.map kV ∧ ds = ks.map kD
 | [],_,_,e,h=>by cases e; cases h; exact ⟨rfl,rfl⟩
 | d :: ds,ks,_,e,h=>by
  unfold b8M at e
  cases q1:keyD d with
  | none=>rw [q1] at e; cases e
  | some k =>
   cases q2:b8M ds with
   | none=>rw [q1,q2] at e; cases e
   | some l =>
    rw [q1,q2] at e
    cases e
    cases h with
    | cons h1 h2 =>
     obtain ⟨e1,e2⟩:=b97 q2 h2
     subst e1 e2
     cases d with
     | int i=>cases q1; cases h1; exact ⟨rfl,rfl⟩
     | str x=>cases q1; cases h1; exact ⟨rfl,rfl⟩
     | _=>cases q1
theorem d4f {k x:Key} {ks:List Key}:x ∈ AqS.addK k ks ↔ x = k ∨ x ∈ ks:=by
 by_cases h:k ∈ ks
 ·rw [AqS.addK_in h]
  exact ⟨.inr,fun z=>z.elim (fun e=>by rw [e]; exact h) id⟩
 ·rw [AqS.addK_out h,o9]
theorem c8n {x:Key}:∀ {ks:List Key},x ∈ AqS.made ks ↔ x ∈ ks
 | []=>Iff.rfl
 | k :: ks=>by
  unfold AqS.made
  rw [d4f,c8n,o9]
theorem b3b:∀ ks:List Key,(AqS.made ks).Nodup
 | []=>c5R
 | k :: ks=>by
  unfold AqS.made
  by_cases h:k ∈ AqS.made ks
  ·rw [AqS.addK_in h]; exact b3b ks
  ·rw [AqS.addK_out h]; exact a02.mpr ⟨h,b3b ks⟩
/-- set(e) and sorted(set(e)) in one -/
def b57 (w:i3) (K:b0) (ta:TE):TE:=tCB (AqS.rSortK w) (d4 (tCB (AqS.rSetK w K) (d4 ta p7)) p7)
def b51 (a:AEx):AEx:=fun ρ PX P=>a ρ PX fun r ρ1=>match r.hold with
 | .dat (.list ds)=>(match b8M ds with
  | some ks=>AqS.FewK ks ∧ a12 ds ∧ ∀ ys:List Key,ys.Nodup → (∀ k,k ∈ ys ↔ k ∈ ks) → (ys.map kD).Pairwise AqS.leD → P (.own (.ml none (ys.map kD))) ρ1
  | none=>False)
 | _=>False
theorem c8d {F:Hp}:∀ ks:List Key,DrAll K F (ks.map kV) (ks.map kD)
 | []=>.nil
 | .inl i :: ks=>.cons (.int i) (c8d ks)
 | .inr x :: ks=>.cons (.str x) (c8d ks)
theorem b94 {w:i3} {ta:TE} {a:AEx} (ha:ES K W ta a):ES K W (b57 w K ta) (b51 a):=fun C ρ PX P F H σ Q R h xs k =>
 ha C ρ PX _ F H σ _ R h xs fun v F1 H1 r ρ1 R1 s1 o1 p1=>by
  obtain ⟨F2,R2,s2,o2,n2⟩:=a2R R1 o1
  cases e:r.hold with
  | bor j=>simp only [e] at p1
  | own j=>simp only [e] at p1
  | tupO _ _=>simp only [e] at p1
  | dat d =>
   rw [e] at o2
   simp only [e] at p1
   cases d with
   | list ds =>
    cases o2 with
    | lst q1 q2 =>
     cases ek:b8M ds with
     | none=>simp only [ek] at p1
     | some ks =>
      simp only [ek] at p1
      obtain ⟨hb,hal,hp⟩:=p1
      obtain ⟨e1,e2⟩:=b97 ek q2
      subst e1
      refine ⟨_,ks,rfl,R2.sub _ _ q1,hb,fun b hb2=>?_⟩
      have R3:=(R2.laidM (u:=AqS.KSetO w b (AqS.made ks.reverse)) hb2).1
      have mm:∀ x,x ∈ AqS.made ks.reverse ↔ x ∈ ks:=fun x=>by rw [c8n,List.mem_reverse]
      refine ⟨b,AqS.made ks.reverse,rfl,a0I,fun d hd d' hd'=>?_,fun p ys pm pw hn=>?_⟩
      ·obtain ⟨z,hz,rfl⟩:=e9.mp hd
       obtain ⟨z',hz',rfl⟩:=e9.mp hd'
       rw [e2] at hal
       exact hal _ (e9.mpr ⟨z,(mm z).mp hz,rfl⟩) _ (e9.mpr ⟨z',(mm z').mp hz',rfl⟩)
      ·have nd:ys.Nodup:=pm.nodup_iff.mpr (b3b _)
       have q:=hp ys nd (fun x=>by rw [pm.mem_iff,mm]) pw
       exact (d4i R3 (P:=P) (Q:=Q) fun v' F' H' r' R' s' o' p'=>k v' F' H' r' ρ1 R' ((s1.trans s2).trans s') o' p').newL p _ _ hn (c8d ys) q
   | _=>simp only [e] at p1
def isT (T:String):c9 → Bool
 | .none=>T == "NoneType"
 | .bool _=>T == "bool" || T == "int"
 | .int _=>T == "int"
 | .str _=>T == "str"
 | .list _=>T == "list"
 | .tuple _=>T == "tuple"
 | .dict _=>T == "dict"
def tyN:c9 → String
 | .none => "NoneType"
 | .bool _ => "bool"
 | .int _ => "int"
 | .str _ => "str"
 | .list _ => "list"
 | .tuple _ => "tuple"
 | .dict _ => "dict"
def c04 (K:b0) (T:String) (ta:TE):TE:=tCB (rIsi K) (d4 ta (d4 (tC (.ty T)) p7))
def b9Q (T:String) (a:AEx):AEx:=fun ρ PX P=>a ρ PX fun r ρ1=>a0X (r.hold.look ρ1) fun d=>P (.dat (.bool (isT T d))) ρ1
theorem e0f {F H:Hp} {v:V} {d:c9} (s:a6j F H) (h:Lk K F H v d):TyX K H v (.type (tyN d)):=by
 cases d with
 | none=>rw [h.none]; exact .base .non
 | bool b=>rw [h.bool]; exact .base (.bl b)
 | int b=>rw [h.int]; exact .base (.int b)
 | str b=>rw [h.str]; exact .base (.str b)
 | list ds=>obtain ⟨l,xs,rfl,h1,_⟩:=h.list s; exact .base (.lst h1)
 | tuple ds =>
  obtain ⟨l,xs,rfl,h1,_⟩:=h.tuple s
  rcases h1 with (h1 | ⟨o,h1⟩) | ⟨o,its,n,hk,hc,_⟩
  ·exact .base (.tup h1)
  ·exact .fTuple h1
  ·exact .kTuple hk hc
 | dict es =>
  rcases h with h | ⟨l,xs,ds',e1,e2,h1,h2⟩ | ⟨l,kvs,es',e1,e2,h1,h2⟩
  ·cases h with
   | dic h1 h2=>exact .base (.dK (s _ _ h1))
  ·cases e2
  ·subst e1; exact .base (.dK h1)
/-- what is to be known of the class T -/
structure IsiOk (K:b0) (T:String):Prop where
 all:∀ U ∈ ["NoneType", "bool", "int", "str", "list", "tuple", "dict"],a64 K (.type U) (.type T) = some (U == T || (U == "bool" && T == "int"))
theorem d9s (T:String) (d:c9):isT T d = (tyN d == T || (tyN d == "bool" && T == "int")):=by
 cases d <;> simp [isT,tyN,Bool.beq_comm,BEq.comm]
theorem a4t {T:String} {ta:TE} {a:AEx} (hT:IsiOk K T) (ha:ES K W ta a):ES K W (c04 K T ta) (b9Q T a):=fun C ρ PX P F H σ Q R h xs k =>
 ha C ρ PX _ F H σ _ R h xs fun v F1 H1 r ρ1 R1 s1 o1 p1=>by
  obtain ⟨F2,R2,s2,o2,n2⟩:=a2R R1 o1
  obtain ⟨d,ed,p1⟩:=a0q p1
  have lk:=o2.lk R2 ed
  refine ⟨v,.ty T,.type (tyN d),.type T,isT T d,rfl,.ty T,e0f R2.sub lk,?_,k (.bl _) F2 H1 (.dat (.bool (isT T d))) ρ1 R2 (s1.trans s2) (.bl _) p1⟩
  rw [d9s]
  refine hT.all (tyN d) ?_
  cases d <;> simp [tyN]
def b9j:List c9 → Option (List Str)
 | []=>some []
 | .str b :: ds=>(b9j ds).map (b :: ·)
 | _=>none
theorem c03:∀ {ds:List c9} {bs:List Str},b9j ds = some bs → ds = bs.map y4
 | [],bs,e=>by cases e; rfl
 | .str b :: ds,bs,e=>by
  unfold b9j at e
  cases q:b9j ds with
  | none=>rw [q] at e; cases e
  | some l=>rw [q] at e; cases e; rw [c03 q]; rfl
 | .none :: ds,bs,e=>by cases e
 | .bool _ :: ds,bs,e=>by cases e
 | .int _ :: ds,bs,e=>by cases e
 | .list _ :: ds,bs,e=>by cases e
 | .tuple _ :: ds,bs,e=>by cases e
 | .dict _ :: ds,bs,e=>by cases e
theorem c43 (bs:List Str):b9j (bs.map y4) = some bs:=by
 induction bs with
 | nil=>rfl
 | cons b bs ih=>show (b9j (bs.map y4)).map (b :: ·) = _; rw [ih]; rfl
def d4r (K:b0):V → List V → Hp → VK → Prop:=fun x xs H Q=>∃ a p,∃ ys:List Str,x = .str a ∧ xs = [.ref p] ∧ (SqL K H p (ys.map V.str) ∨ SqT K H p (ys.map V.str)) ∧ (ys.map (·.length)).sum + ys.length * a.length ≤ 16777216 ∧ Q (.str (c3M a ys)) H
def d3K (b a:AEx):AEx:=fun ρ PX P=>b ρ PX fun rb ρ1=>match rb with
 | .dat (.str z)=>a ρ1 PX fun r ρ2=>a0X (r.look ρ2) fun d=>(match d with
  | .list ds=>(match b9j ds with
   | some ys=>(ys.map (·.length)).sum + ys.length * z.length ≤ 16777216 ∧ P (.dat (.str (c3M z ys))) ρ2
   | none=>False)
  | _=>False)
 | _=>False
theorem d1l {tb te:TE} {b a:AEx} (hb:ES K W tb b) (ha:ES K W te a):ES K W (tM1 (d4r K) tb te) (d3K b a):=fun C ρ PX P F H σ Q R h xs k =>
 hb C ρ PX _ F H σ _ R h xs fun v F1 H1 r1 ρ1 R1 s1 o1 p1=>by
  cases r1 with
  | bor j=>exact p1.elim
  | own j=>exact p1.elim
  | tupO _ _=>exact p1.elim
  | dat d =>
   cases d with
   | str z =>
    cases o1
    refine ⟨⟨z,rfl⟩,?_⟩
    refine ha C ρ1 PX _ F1 H1 σ _ R1 p1 xs fun u F2 H2 r2 ρ2 R2 s2 o2 p2=>?_
    obtain ⟨d,ed,p2⟩:=a0q p2
    cases d with
    | list ds =>
     cases es:b9j ds with
     | none=>simp only [es] at p2
     | some ys =>
      simp only [es] at p2
      obtain ⟨l,xs',rfl,h1,h2⟩:=(o2.lk R2 ed).list R2.sub
      rw [c03 es] at h2
      rw [h2.strs_of] at h1
      exact ⟨z,l,ys,rfl,rfl,.inl (.of h1),p2.1,k _ F2 H2 (.dat (.str (c3M z ys))) ρ2 R2 (s1.trans s2) (.str _) p2.2⟩
    | _=>exact p2.elim
   | _=>exact p1.elim
def d6d (a:AEx):AEx:=fun ρ PX P=>a ρ PX fun r ρ1=>a0X (r.look ρ1) fun d=>match d with
 | .list ds=>P (.own (.ml none ds.reverse)) ρ1
 | _=>False
theorem d6p {ta:TE} {a:AEx} (ha:ES K W ta a):ES K W (tRevL K ta) (d6d a):=fun C ρ PX P F H σ Q R h xs k =>
 ha C ρ PX _ F H σ _ R h xs fun v F1 H1 r1 ρ1 R1 s1 o1 p1=>by
  obtain ⟨d,ed,p1⟩:=a0q p1
  cases d with
  | list ds =>
   obtain ⟨l,xs',rfl,h1,h2⟩:=(o1.lk R1 ed).list R1.sub
   exact ⟨l,xs',rfl,.of h1,fun p hp=>(d4i R1 (P:=P) (Q:=Q) fun v' F' H' r' R' s' o' p'=>k v' F' H' r' ρ1 R' (s1.trans s') o' p').newL p _ _ hp h2.reverse p1⟩
  | _=>exact p1.elim
def c53 (i:Nat):AEx:=fun ρ _ P=>match ρ[i]? with
 | some (.scr ns)=>P (.dat (.int ns.length)) ρ
 | _=>False
theorem c2g {i:Nat}:ES K W (tCB (a5E K) (d4 (g9 i) p7)) (c53 i):=fun C ρ PX P F H σ Q R h xs k=>by
 unfold c53 at h
 split at h
 ·rename_i ns e
  obtain ⟨o,eo,a,rfl,hs⟩:=R.slot i _ e
  refine ⟨_,eo,.ref a,ns.length,rfl,.inl ⟨_,R.sub.seq hs,by rw [g8]⟩,k _ F H (.dat (.int ns.length)) ρ R (.refl _) (.int _) h⟩
 ·exact h.elim
def d88 (i:Nat) (b:AEx):AEx:=fun ρ PX P=>match ρ[i]? with
 | some (.scr ns)=>b ρ PX fun r ρ1=>(match r with
  | .dat (.int k)=>(match atI ns k with
   | some z=>P (.dat (.int z)) ρ1
   | none=>False)
  | _=>False)
 | _=>False
theorem c2a {α β:Type} (f:α → β) (xs:List α) (i:Int):atI (xs.map f) i = (atI xs i).map f:=by
 unfold atI
 rw [g8]
 cases ixN xs.length i with
 | none=>rfl
 | some j=>simp
theorem d5w {i:Nat} {tb:TE} {b:AEx} (hb:ES K W tb b):ES K W (tOp (rIx K) (g9 i) tb) (d88 i b):=fun C ρ PX P F H σ Q R h xs k=>by
 unfold d88 at h
 split at h
 ·rename_i ns e
  obtain ⟨o,eo,a,rfl,hs⟩:=R.slot i _ e
  refine ⟨_,eo,?_⟩
  refine hb C ρ PX _ F H σ _ R h xs fun u F1 H1 r ρ1 R1 s1 o1 p1=>?_
  cases r with
  | dat d =>
   cases d with
   | int j =>
    cases o1
    cases ez:atI ns j with
    | none=>simp only [ez] at p1
    | some z =>
     simp only [ez] at p1
     exact .inl ⟨a,_,j,.int z,rfl,rfl,(s1.trans R1.sub).seq hs,by rw [c2a,ez]; rfl,k _ F1 H1 (.dat (.int z)) ρ1 R1 s1 (.int _) p1⟩
   | _=>exact p1.elim
  | _=>exact p1.elim
 ·exact h.elim
end Aq
namespace AqS
open PySem PySem.Calls PyProof.Rows L2 HT
section
variable {prog:a2x} {w:i3} {A:b9L} {E:f8 → a0h → Prop} {s:a0h}
theorem bnd {a c n:Nat} (ha:a ≤ n) (hac:a ≤ c):sliceBounds (some (a:Int)) (some (c:Int)) none n = ((a:Int),((min c n:Nat):Int),1):=by
 have h1:¬ ((a:Int) < 0):=by omega
 have h2:¬ ((c:Int) < 0):=by omega
 simp only [sliceBounds,Option.getD_none,h1,h2,if_false,show (1:Int) > 0 by decide,if_true]
 congr 1
 ·omega
 ·congr 1; omega
theorem d7z {l b sl:t5} {items new:Array f8} {n n2:Nat} {vl vu:f8} {a c:Nat} {Q:Unit → a0h → Prop}
  (e:s.heap.get? l = some { cls:=.type "list",data:=.seq items n }) (e2:s.heap.get? b = some { cls:=.type "list",data:=.seq new n2 }) (hne:l ≠ b)
  (hs:s.heap.IsSliceOf sl vl vu .none) (pl:IsPart vl (some (a:Int))) (pu:IsPart vu (some (c:Int))) (ha:a ≤ items.size) (hac:a ≤ c)
  (hsz:items.size + new.size ≤ m8) (h:Q () { s with heap:=s.heap.update l (Obj.mapSeq fun xs=>xs.extract 0 a ++ new ++ xs.extract (min c items.size) xs.size) }) :
  a32 (a6J prog w) A (setItem (.ref l) (.ref sl) (.ref b)) Q E s:=by
 have hl:s.heap.IsList l items:=PySem.IsL.isList e
 have hb:s.heap.IsList b new:=PySem.IsL.isList e2
 obtain ⟨os,hos,hcs,hds⟩:=id hs
 have hTs:s.TypeIs (.ref sl) "slice" := ⟨os,hos,hcs⟩
 have k0:¬ ((rawPart none == rawInt 0) = true):=a9S
 have k1:d5c (.ref l) (.ref b) = false:=by unfold d5c; exact beq_eq_false_iff_ne.mpr hne
 have k2:(max (a:Int) ((min c items.size:Nat):Int)).toNat = min c items.size:=by omega
 have k3:((fun xs:Array f8=>xs.extract 0 a ++ new ++ xs.extract (min c items.size) xs.size) items).size ≤ m8 + 1:=by
  simp only [Array.size_append,Array.size_extract]; omega
 unfold setItem
 try with_reducible refine a1I ?_
 first | refine g4 (m4 ?_) | skip
 refine g4 (wpAny_sequenceKey hl.typeIs (by decide) ?_)
 refine g4 (wpAny_callSpecial?_slot (name:=s0 "__setitem__") hl.typeIs slot_list_setitem (wpAny_call_entry slot_list_setitem hl.typeIs entry_list_setitem ?_ (args_list_setitem _ _ _)))
 show a32 _ _ (d0X (.ref sl) >>= _) _ _ s
 refine g4 ?_
 unfold d0X
 refine g4 (wpAny_specialOf hTs slice_no_index ?_)
 simp only [Option.isNone_none,if_true]
 refine m4 ?_
 show a32 _ _ (typeOf (.ref sl) >>= _) _ _ s
 refine g4 (d84 hTs ?_)
 first | rw [if_neg (by decide)] | refine c3K (by decide) ?_
 rw [listSliceParts_eq]
 refine g4 (g4 (wpAny_field hos hds (x:=.none) rfl (g4 (d3F .none ?_))))
 rw [if_neg k0]
 refine g4 (wpAny_field hos hds (x:=vl) rfl (g4 (d3F pl ?_)))
 refine g4 (wpAny_field hos hds (x:=vu) rfl (g4 (d3F pu (m4 ?_))))
 first | simp only [k1,a0n,if_false] | refine c3K k1 ?_
 refine g4 (m:=d3z (.ref b) "must assign iterable to extended slice") ?_
 unfold d3z
 refine g4 (d84 hb.typeIs ?_)
 first | refine PySem.W.KFB.if_so (by decide) ?_ | rw [if_pos (by decide)] | simp only [beq_self_eq_true,Bool.true_or,if_true]
 unfold Builtin.List.listItems
 refine g4 (b9P e2 rfl (m4 ?_))
 refine g4 (g4 (b9P e rfl (m4 ?_)))
 refine g4 (wpAny_of_eq ((sliceIndices_raw (some (a:Int)) (some (c:Int)) none items.size (by simp)).trans (congrArg (pure:Int × Int × Int → Sem (Int × Int × Int)) (bnd ha hac))) ?_)
 show a32 _ _ (if ((1:Int) == 1) = true then _ else _) _ _ s
 rw [if_pos (by decide)]
 refine g4 (c50 ?_)
 first | simp only [notLongL hsz,a0n,if_false] | refine c3K (notLongL hsz) ?_
 first | refine g4 (m4 ?_) | skip
 show a32 _ _ (updateSeq l (fun xs=>xs.extract 0 ((a:Int)).toNat ++ new ++ xs.extract (max (a:Int) ((min c items.size:Nat):Int)).toNat xs.size) >>= _) _ _ s
 rw [k2,c5Q]
 refine g4 (wpAny_updateSeq (hz:=a0y (c8N _ _) hsz) (_hz':=k3) e rfl ?_)
 refine g4 (wpAny_letGo ?_)
 first
  | exact g4 (m4 (m4 ⟨.none,rfl,m4 h⟩))
  | exact m4 ⟨.none,rfl,m4 h⟩
end
section
variable {X:Cx}
/-- o[lo:hi] = e -/
def tSetSl (te to:TE) (tl th:TO):TS:=fun D σ H=>te σ H fun v H1=>to σ H1 fun o H2=>tl σ H2 fun lo H3=>th σ H3 fun hi H4 =>
 ∃ (l b:t5) (xs ys:List V) (a c:Nat),o = .ref l ∧ v = .ref b ∧ H4 l = some (.lst xs) ∧ H4 b = some (.lst ys) ∧ l ≠ b ∧ lo = some (a:Int) ∧ hi = some (c:Int) ∧ a ≤ xs.length ∧ a ≤ c ∧ xs.length + ys.length ≤ m8 ∧ D.nx σ (upd H4 l (.lst (xs.take a ++ ys ++ xs.drop (min c xs.length))))
theorem ps_setSl {e o:Expr} {lo hi:Option Expr} {te to:TE} {tl th:TO} {p2 p3 pos:Pos} (he:PE X e te) (ho:PE X o to) (hl:PO X lo tl) (hh:PO X hi th)
  (ha:∀ v,assign (.Subscript o (.Slice lo hi none p2) p3) X.env v = (do
   let ov ← holding [v] (d3p o X.env)
   let iv ← holding [v,ov] (d3p (.Slice lo hi none p2) X.env)
   standAt p3
   holding [v,ov,iv] (setItem ov iv v)
   release [iv,v,ov] []):=by intro _; rfl)
  (hs:swapsWithSole [.Subscript o (.Slice lo hi none p2) p3] e pos.line X.env = pure false:=by rfl) (hw:swappedStores [.Subscript o (.Slice lo hi none p2) p3] e X.env = pure none:=by rfl)
  (h1:(assignEach [.Subscript o (.Slice lo hi none p2) p3] X.env).map (·.2) = [assign (.Subscript o (.Slice lo hi none p2) p3) X.env]:=by rfl):PS X (.Assign [.Subscript o (.Slice lo hi none p2) p3] e pos) (tSetSl te to tl th) where
 run:=fun pins s σ H D I h=>by
  refine wpAny_Assign_stores (thn (he.run pins s σ H _ I h) fun v s1 ⟨x,H1,I1,r1,q1⟩=>?_) hs hw
  rw [h1]
  have G:PG X (.Subscript o (.Slice lo hi none p2) p3) (fun v σ H Q=>to σ H fun o H2=>tl σ H2 fun lo H3=>th σ H3 fun hi H4 =>
    ∃ (l b:t5) (xs ys:List V) (a c:Nat),o = .ref l ∧ v = .ref b ∧ H4 l = some (.lst xs) ∧ H4 b = some (.lst ys) ∧ l ≠ b ∧ lo = some (a:Int) ∧ hi = some (c:Int) ∧ a ≤ xs.length ∧ a ≤ c ∧ xs.length + ys.length ≤ m8 ∧ Q σ (upd H4 l (.lst (xs.take a ++ ys ++ xs.drop (min c xs.length))))):=by
   refine ⟨fun pins s σ H x v Q I r hq=>?_⟩
   rw [ha]
   refine g4 (a1I (thn (ho.run pins s σ H _ I hq) fun ov s1 ⟨y,H1,I1,r1,q1⟩=>?_))
   refine g4 (a1I (wpAny_Slice (thn (hl.run pins s1 σ H1 _ I1 q1) fun vl s2 ⟨l,H2,I2,pl,q2⟩=>thn (hh.run pins s2 σ H2 _ I2 q2) fun vu s3 ⟨u,H3,I3,pu,q3⟩=>?_)))
   rw [evalPart_none]
   refine m4 ?_
   have I4:Inv X pins σ H3 { s3 with heap:=s3.heap.push { cls:=.type "slice",data:=.fields #[vl,vu,.none] } }:=I3.kept (t':=s3.toks) fun b ob q=>r8 _ q
   obtain ⟨la,b,xs,ys,a,c,ey,ex,hL,hB,hne,el,eu,hal,hac,hz,q⟩:=q3
   subst ey ex el eu
   cases r1
   cases r
   obtain ⟨z,its,n,rv,hl',e⟩:=I4.lstM hL
   obtain ⟨z2,its2,n2,rv2,hl2,e2⟩:=I4.lstM hB
   refine g4 (wpAny_standAt (g4 (a1I (d7z (a:=a) (c:=c) e e2 hne (Heap.IsSliceOf.new ..) pl pu (by rw [c5T,← rv.length]; exact hal) hac (by rw [c5T,c5T,← rv.length,← rv2.length]; exact hz) ?_))))
   refine wpAny_release ⟨σ,_,I4.lset (its':=its.take a ++ its2 ++ its.drop (min c its.length)) (t':=s3.toks) hL e ?_ (Vals.append (Vals.append (rv.take _) rv2) (by rw [← rv.length]; exact rv.drop _)) ?_,q⟩
   ·have:=splice_eq its its2 a (min c its.length)
    simpa using this
   ·rw [a1h,a1h,b4u,c8K]
    omega
  exact thn (G.run pins s1 σ H1 x v _ I1 r1 q1) fun _ s2 q=>q
end
end AqS
namespace Aq
open PySem L2
variable {K:b0} {W:WX}
def aRevT (a:AEx):AEx:=fun ρ PX P=>a ρ PX fun r ρ1=>a0X (r.look ρ1) fun d=>match d with
 | .tuple ds=>P (.dat (.tuple ds.reverse)) ρ1
 | _=>False
def d2e (a b:AEx) (l h:AOx):ASt:=fun D ρ=>a ρ D.ex fun r ρ1=>match r.hold with
 | .dat (.list es)=>b ρ1 D.ex fun rb ρ2=>(match rb with
  | .bor i=>l ρ2 D.ex fun lo ρ3=>h ρ3 D.ex fun hi ρ4=>(match lo,hi,ρ4[i]? with
   | some a,some c,some (.ml p ds)=>(0 ≤ a ∧ a ≤ ds.length ∧ a ≤ c ∧ ds.length + es.length ≤ m8) ∧ D.nx (ρ4.set i (.ml p (ds.take a.toNat ++ es ++ ds.drop (min c.toNat ds.length))))
   | _,_,_=>False)
  | _=>False)
 | _=>False
theorem d4G {ta tb:TE} {tl th:TO} {a b:AEx} {l h:AOx} (ha:ES K W ta a) (hb:ES K W tb b) (hl:OS K W tl l) (hh:OS K W th h):SS K W (AqS.tSetSl ta tb tl th) (d2e a b l h):=fun C D ρ F H σ D' R hq xs n _ _ _ =>
 ha C ρ D.ex _ F H σ _ R hq xs fun v F1 H1 r ρ1 R1 s1 o1 p1=>by
  obtain ⟨F2,R2,s2,o2,n2⟩:=a2R R1 o1
  cases er:r.hold with
  | bor j=>simp only [er] at p1
  | own j=>simp only [er] at p1
  | tupO _ _=>simp only [er] at p1
  | dat d =>
   rw [er] at o2
   simp only [er] at p1
   cases d with
   | list es =>
    refine hb C ρ1 D.ex _ F2 H1 σ _ R2 p1 xs fun vb F3 H3 rb ρ3 R3 s3 o3 p3=>?_
    cases rb with
    | dat _=>exact p3.elim
    | own _=>exact p3.elim
    | tupO _ _=>exact p3.elim
    | bor i =>
     obtain ⟨ev,_⟩:=o3
     refine hl C ρ3 D.ex _ F3 H3 σ _ R3 p3 xs fun lo F4 H4 ρ4 R4 s4 p4=>?_
     refine hh C ρ4 D.ex _ F4 H4 σ _ R4 p4 xs fun hi F5 H5 ρ5 R5 s5 p5=>?_
     cases lo with
     | none=>exact p5.elim
     | some a =>
      cases hi with
      | none=>exact p5.elim
      | some c =>
       cases ea:ρ5[i]? with
       | none=>simp only [ea] at p5
       | some a5 =>
        cases a5 with
        | ml p ds =>
         simp only [ea] at p5
         obtain ⟨⟨c1,c2,c3,c4⟩,p5⟩:=p5
         obtain ⟨o,eo,la,xs',e1,hF,hH,hd2,hw⟩:=R5.slot i _ ea
         rw [ev] at eo
         cases eo
         cases e1
         have od:=Dr.mono ((s3.trans s4).trans s5) _ _ o2
         cases od with
         | lst q1 q2 =>
          rename_i b ys
          have hne:la ≠ b:=fun z=>by subst z; rw [hF] at q1; cases q1
          refine ⟨la,b,xs',ys,a.toNat,c.toNat,rfl,rfl,hH,R5.sub _ _ q1,hne,by rw [Int.toNat_of_nonneg c1],by rw [Int.toNat_of_nonneg (d8O c1 c3)],by rw [hd2.length]; omega,by omega,by rw [hd2.length,q2.length]; exact c4,?_⟩
          refine n F5 _ σ _ (R5.change (a':=.ml p (ds.take a.toNat ++ es ++ ds.drop (min c.toNat ds.length))) ea rfl rfl ev ⟨la,_,rfl,hF,a0I,?_,hw⟩) ((((s1.trans s2).trans s3).trans s4).trans s5) p5
          rw [hd2.length]
          exact ((hd2.take _).append q2).append (hd2.drop _)
        | _=>simp only [ea] at p5
   | _=>exact p1.elim
end Aq
namespace Aq
open PySem PySem.Spec PyProof.Rows L2
variable {K:b0} {W:WX} {X:Cx}
abbrev FnP (K:b0) (x:Str) (st:Stmt) (f:t5) (fd:n6):Prop:=FunD K x x (y6 st) (v7 st) (e8 st) [] [] f fd
/-- a def of the module that keeps its contract, by at most so many calls one in another -/
structure Fn (P:a2x) (w:i3) (K:b0) (mg:Str → Option f8) (base:b9M) (CX:CXT) (n:Nat) (x:Str) (ps:List Str) (c:Ct):Prop where
 ex:∃ f fd,FnOk P w K mg base CX n f fd ps (spOf K c) ∧ mg x = some (.ref f) ∧ a2h K (.ref f) = true ∧ Binds K fd ps []
theorem Fn.mk0 {P:a2x} {w:i3} {mg:Str → Option f8} {base:b9M} {k:Nat} {x:Str} {st:Stmt} {f:t5} {fd:n6} {N ps:List Str} {c:Ct} {t:TS} {a:ASt} (F:FnP K x st f fd) (S:w6 N ps (e8 st)) (gm:mg x = some (.ref f)) (gb:Binds K fd ps [])
  (hl:∀ ρ P PX,c ρ P PX → ρ.length = ps.length) (hs:∀ W,SS K W t a) (hp:∀ ρ P PX,c ρ P PX → a { nx:=fun ρ'=>P (.dat .none) ρ',rt:=P,ex:=PX } (ρ ++ f7 (N.length - ρ.length) .un))
  (hd:∀ (cdv:f8) (A:b9L) (outer:List Env) (s:a0h) (H:Hp) (E:XK),Room k (A.deeper (envOfC x (e8 st) s.heap.objs.size f cdv)) → PSs (cxOf CX0 P w K mg base N x (e8 st) f cdv A outer s H E).nox (v7 st) t):Fn P w K mg base CX0 (k + 1) x ps c :=
 ⟨f,fd,F.ok S (fun vs H Q E h=>b2l hl h) fun cdv A outer s H vs Q E hr h=>⟨t,PSs.nox (hd cdv A outer s H E hr),c2d h (hs _) hp⟩,gm,F.kp,gb⟩
def a3Z (a:AEx):ATx:=fun ρ PX P=>a ρ PX fun r ρ1=>match r with
 | .dat (.bool b)=>P b ρ1
 | _=>False
theorem t8 {ta:TE} {a:AEx} (ha:ES K W ta a):TSd K W (a1e ta) (a3Z a):=fun C ρ PX P F H σ Q R h xs k =>
 ha C ρ PX _ F H σ _ R h xs fun v F1 H1 r1 ρ1 R1 s1 o1 p1=>by
  cases r1 with
  | dat d =>
   cases d with
   | bool b=>cases o1; exact ⟨b,rfl,k b F1 H1 ρ1 R1 s1 p1⟩
   | _=>exact p1.elim
  | _=>exact p1.elim
/-- nothing is promised: the bottom of a recursion -/
theorem Fn.none {P:a2x} {w:i3} {mg:Str → Option f8} {base:b9M} {n:Nat} {x:Str} {f:t5} {fd:n6} {ps:List Str} {c:Ct} (gm:mg x = some (.ref f)) (kp:a2h K (.ref f) = true) (gb:Binds K fd ps []) (hc:∀ ρ P PX,¬ c ρ P PX):Fn P w K mg base CX0 n x ps c :=
 ⟨f,fd,⟨fun vs H Q E h=>by obtain ⟨_,_,_,_,_,_,h,_⟩:=h; exact (hc _ _ _ h).elim,fun A outer s H args us vs Q E _ _ _ _ h=>by obtain ⟨_,_,_,_,_,_,h,_⟩:=h; exact (hc _ _ _ h).elim⟩,gm,kp,gb⟩
theorem b1i {A:b9L} {k:Nat} (hr:Room k A):A.units + 65 < a9H:=by have:=hr.un; omega
def d9m:DUn:=fun d P=>match d with
 | .int i=>P (.dat (.int (-i)))
 | _=>False
theorem d2C:U1S K (rU fun i=>.int (-i)) d9m:=fun F H x d Pd Q s l h o=>by
 cases d with
 | int i=>rw [l.int]; exact ⟨i,rfl,o.dat _ _ (.int _) h⟩
 | _=>exact h.elim
theorem a1T {a:Expr} {ta:TE} (ha:PE X a ta) (he:∀ whole,isTrue a X.env whole = (do let v ← whole; standAt a.pos; holding [v] (truthy v)):=by intro _; rfl):PT X a (a8Q X.K ta):=pt_truth ha he
theorem a4u {e:Expr} {te:TE} {T:String} {x:Str} {p q pos:Pos} (he:PE X e te) (hg:Gl X "isinstance") (hm:X.mg "isinstance" = none) (hg2:Gl X x) (hm2:X.mg x = none) (hv:bootBuiltins x = some (.type T))
  (he1:z7 (e :: [.Name x q]) X.env = (false,d3p e X.env) :: z7 [.Name x q] X.env:=by rfl) (he2:z7 [.Name x q] X.env = (false,d3p (.Name x q) X.env) :: z7 [] X.env:=by rfl)
  (hpl:(d03 pos (z7 [.Name x q] X.env)).any (·.1) = false:=by rfl) (hn:x ≠ "__name__" := by decide) (hd:(x == ("__debug__" : Str)) = false:=by decide):PE X (.Call (.Name "isinstance" p) [e,.Name x q] [] pos) (c04 X.K T te) :=
 a0f call_isi hg hm (by decide +kernel) (c6 he (c6 (pe_bltn hg2 hm2 hv rfl hn hd) d8 he2) he1) (by decide) (by decide) he1 hpl
theorem c0c {e:Expr} {te:TE} {p q p2 pos:Pos} (hc:X.calm = true) (hu:X.A.units + 64 < a9H) (he:PE X e te) (hg:Gl X "sorted") (hm:X.mg "sorted" = none) (hg2:Gl X "set") (hm2:X.mg "set" = none)
  (h1:z7 [.Call (.Name "set" q) [e] [] p2] X.env = (false,d3p (.Call (.Name "set" q) [e] [] p2) X.env) :: z7 [] X.env:=by rfl) (h2:z7 [e] X.env = (false,d3p e X.env) :: z7 [] X.env:=by rfl) :
  PE X (.Call (.Name "sorted" p) [.Call (.Name "set" q) [e] [] p2] [] pos) (b57 X.w X.K te) :=
 a0f (AqS.cr_sortK hc hu) hg hm (by decide +kernel) (c6 (a3o (AqS.cr_setK hc hu) hg2 hm2 (by decide +kernel) (c6 he d8 h2) (by decide) (by decide) h2 rfl) d8 h1) (by decide) (by decide) h1 rfl
theorem c8t {o e:Expr} {to te:TE} {apos pos:Pos} (ho:PE X o to) (he:PE X e te) (hs:z7 [e] X.env = [(false,d3p e X.env)]:=by rfl) (hbase:attributeBase o "join" X.env (d3p o X.env) = d3p o X.env:=by rfl) (hline:(apos.endLine == pos.line) = true:=by rfl) :
  PE X (.Call (.Attribute o "join" apos) [e] [] pos) (tM1 (d4r X.K) to te):=pe_join ho he hs hbase hline
theorem g7 {n k:Nat} {f:t5} {fd:n6} {ps:List Str} {c:Ct} {x:Str} {p pos:Pos} {e:Expr} {es:List Expr} {t:TA} (G:FnOk X.prog X.w X.K X.mg X.base CX0 n f fd ps (spOf X.K c)) (hr:Room k X.A) (hnk:n ≤ k) (hg:Gl X x) (hm:X.mg x = some (.ref f)) (hk:a2h X.K (.ref f) = true) (hb:Binds X.K fd ps [])
  (ha:PA X (e :: es) t) (hdb:(x == ("__debug__" : Str)) = false:=by decide) (he:z7 (e :: es) X.env = (false,d3p e X.env) :: z7 es X.env:=by rfl) (hpl:(d03 pos (z7 es X.env)).any (·.1) = false:=by rfl) :
  PE X (.Call (.Name x p) (e :: es) [] pos) (r6 (spOf X.K c) [] E0 t):=pe_call G (hr.mono hnk) hg hm hk hb .nil pass0 ha hdb he hpl
end Aq
set_option maxHeartbeats 2000000
namespace Aq
open PySem L2
theorem b6G {g:ATg} {b:ASt} {D:AEnds} (I:List c9 → List AV → Prop) (step:∀ d ds ρ,I (d :: ds) ρ → ∀ N:List AV → Prop,(∀ ρ',I ds ρ' → N ρ') → g d ρ fun ρ1=>b { D with nx:=N,ct:=N,bk:=D.nx } ρ1) (fin:∀ ρ,I [] ρ → D.nx ρ):∀ (ds:List c9) (ρ:List AV),I ds ρ → c4a g b D ds ρ
 | [],ρ,h=>fin ρ h
 | d :: ds,ρ,h=>step d ds ρ h _ fun ρ' h'=>b6G I step fin ds ρ' h'
def d1D (vs:List Nat) (acc:List c9) (N:List c9 → List AV → Prop) (r:RV) (ρ3:List AV):Prop:=match r.hold with
 | .dat e=>acc.length < m8 ∧ N (acc ++ [e]) (a3s ρ3 vs)
 | _=>False
theorem c84 {vs:List Nat} {g:ATg} {tt:ATx} {a:AEx} {P:RV → List AV → Prop} (I:List c9 → List c9 → List AV → Prop)
  (step:∀ d ds acc ρ,I (d :: ds) acc ρ → ∀ N:List c9 → List AV → Prop,(∀ acc' ρ',I ds acc' ρ' → N acc' ρ') → g d ρ fun ρ1=>tt ρ1 X0 fun k ρ2=>if k = true then a ρ2 X0 fun r ρ3=>d1D vs acc N r ρ3 else N acc (a3s ρ2 vs))
  (fin:∀ acc ρ,I [] acc ρ → P (.own (.ml none acc)) ρ):∀ (ds acc:List c9) (ρ:List AV),I ds acc ρ → c6x vs g tt a P ds acc ρ
 | [],acc,ρ,h=>fin acc ρ h
 | d :: ds,acc,ρ,h=>step d ds acc ρ h (fun acc' ρ'=>c6x vs g tt a P ds acc' ρ') fun acc' ρ' h'=>c84 I step fin ds acc' ρ' h'
/-- a comprehension that changes nothing -/
theorem b6M {vs:List Nat} {g:ATg} {tt:ATx} {a:AEx} {P:RV → List AV → Prop} {ρ:List AV} (st:c9 → List AV) (p:c9 → Bool) (f:c9 → c9):∀ (ds acc:List c9)
  (_:∀ d ∈ ds,∀ k,k (st d) → g d ρ k) (_:∀ d ∈ ds,a3s (st d) vs = ρ) (_:∀ d ∈ ds,∀ k,k (p d) (st d) → tt (st d) X0 k) (_:∀ d ∈ ds,p d = true → ∀ k,k (.dat (f d)) (st d) → a (st d) X0 k) (_:acc.length + ds.length ≤ m8)
  (_:P (.own (.ml none (acc ++ (ds.filter p).map f))) ρ),c6x vs g tt a P ds acc ρ
 | [],acc,_,_,_,_,_,h=>by
  simp only [List.filter_nil,d8Q,a01] at h
  exact h
 | d :: ds,acc,h1,h2,h3,h4,hz,h=>by
  have m:d ∈ d :: ds:=f9
  have ih:=fun acc hz h=>b6M (P:=P) st p f ds acc (fun d hd=>h1 d (e7 _ hd)) (fun d hd=>h2 d (e7 _ hd)) (fun d hd=>h3 d (e7 _ hd)) (fun d hd=>h4 d (e7 _ hd)) hz h
  rw [t4] at hz
  unfold c6x
  refine h1 d m _ (h3 d m _ ?_)
  cases hp:p d with
  | true =>
   rw [if_pos rfl]
   refine h4 d m hp _ ?_
   refine ⟨by omega,?_⟩
   rw [h2 d m]
   refine ih _ (by rw [a1h]; simp; omega) ?_
   rw [a2J,if_pos hp] at h
   simpa using h
  | false =>
   rw [if_neg a9S,h2 d m]
   refine ih _ (by omega) ?_
   rw [a2J,if_neg (by rw [hp]; exact a9S)] at h
   exact h
theorem c8W (ds:List c9):ds.filter (fun _=>true) = ds:=by simp
/-- without a test -/
theorem c2l {vs:List Nat} {g:ATg} {a:AEx} {P:RV → List AV → Prop} {ρ:List AV} (st:c9 → List AV) (f:c9 → c9) (ds acc:List c9)
  (h1:∀ d ∈ ds,∀ k,k (st d) → g d ρ k) (h2:∀ d ∈ ds,a3s (st d) vs = ρ) (h4:∀ d ∈ ds,∀ k,k (.dat (f d)) (st d) → a (st d) X0 k) (hz:acc.length + ds.length ≤ m8)
  (h:P (.own (.ml none (acc ++ ds.map f))) ρ):c6x vs g b9R a P ds acc ρ :=
 b6M st (fun _=>true) f ds acc h1 h2 (fun d hd k hk=>hk) (fun d hd _=>h4 d hd) hz (by rw [c8W]; exact h)
def Sm (i:Int):Prop:=i.natAbs < 2 ^ 1000
theorem b6W {i j:Int} (hi:Sm i) (hj:Sm j):CMulW i j:=wide_mul hi hj (by decide) (by decide) (by decide)
theorem c33 {i j:Int} (h:0 < j) (hj:Sm j):CDivW i j:=wide_div h hj (by decide) (by decide)
theorem a3Y {i:Int} (h1 : -(10 ^ 150) ≤ i) (h2:i ≤ 10 ^ 150):Sm i:=by
 have e:(10:Nat) ^ 150 < 2 ^ 1000:=by decide +kernel
 have q:i.natAbs ≤ 10 ^ 150:=by omega
 exact Nat.lt_of_le_of_lt q e
theorem a51 {a b:Int} (h0:0 ≤ b) (h1:b ≤ 1000) (h2:a.natAbs < 2 ^ 64):CPow a b:=⟨h0,by omega,h2⟩
theorem c02 (z:Str) (c:Nat):b5z z ⟨#[c]⟩ = decide (c ∈ z.cps.toList):=PySem.StrLaws.found_one z c
end Aq
namespace Aq
open PySem L2
section
variable {d:c9} {ds es:List c9} {z:Str} {i j:Int} {b c:Bool} {p:Option Nat} {ρ:List AV} {kk:c9 → Prop} {kb:Bool → Prop} {kl:List c9 → Prop} {n:Nat} {kvs:List (c9 × c9)} {ko:Out → Prop} {kr:RV → List AV → Prop} {kρ:List AV → Prop} {a:AV} {ns:List Int} {PX:PXT} {D:AEnds}
theorem b3p:(RV.dat d).hold = .dat d:=rfl
theorem b3q:(RV.bor n).hold = .bor n:=rfl
theorem b3r:(RV.own (.ml p ds)).hold = .dat (.list ds):=rfl
theorem b3s:(RV.own (.mdk p kvs)).hold = .dat (.dict kvs):=rfl
theorem b3v:(RV.dat d).look ρ = some d:=rfl
theorem b3w:(RV.bor n).look ρ = (ρ[n]?).bind AV.look:=rfl
theorem b07:(RV.own a).look ρ = a.look:=rfl
theorem a9r:(AV.dat d).look = some d:=rfl
theorem a7R:(AV.ml p ds).look = some (.list ds):=rfl
theorem a9s:(AV.mdk p kvs).look = some (.dict kvs):=rfl
theorem b08:a0X (some d) kk = kk d:=rfl
theorem a9v:a3t (some ds) kl = kl ds:=rfl
theorem b3C:d7D (.dat (.bool b)) kb = kb b:=rfl
theorem b3y:b7m [] = some []:=rfl
theorem b3z {rs:List RV}:b7m (.dat d :: rs) = (b7m rs).map (d :: ·):=rfl
theorem a9t:b5e ρ [] = some []:=rfl
theorem a9u {r:RV} {rs:List RV}:b5e ρ (r :: rs) = (r.look ρ).bind fun d=>(b5e ρ rs).map (d :: ·):=by
 show (match r.look ρ,b5e ρ rs with
  | some d,some ds=>some (d :: ds)
  | _,_=>none) = _
 cases r.look ρ <;> cases b5e ρ rs <;> rfl
theorem c0N:c5P .none kb = kb false:=rfl
theorem c0O:c5P (.bool b) kb = kb b:=rfl
theorem c0P:c5P (.int i) kb = kb (i != 0):=rfl
theorem c0Q:c5P (.str z) kb = (z.length ≤ m8 ∧ kb ((z.length:Int) != 0)):=rfl
theorem c0R:c5P (.list ds) kb = kb (!ds.isEmpty):=rfl
theorem c0S:c5P (.tuple ds) kb = kb (!ds.isEmpty):=rfl
theorem c0T:c5P (.dict kvs) kb = kb (!kvs.isEmpty):=rfl
theorem c0I:d8z (.dat d) ρ kr = kr (.dat d) ρ:=rfl
theorem c0J:d8z (.own a) ρ kr = kr (.own a) ρ:=rfl
theorem c0K:setR n (.dat d) ρ kρ = kρ (ρ.set n (.dat d)):=rfl
theorem c0L:setR n (.own a) ρ kρ = kρ (ρ.set n a):=rfl
theorem c9z:(Out.dat d).rv = .dat d:=rfl
theorem c9A:(Out.newL ds).rv = .own (.ml none ds):=rfl
theorem c9B:(Out.newT ds).rv = .dat (.tuple ds):=rfl
theorem q_I {f:Int → Int → (Out → Prop) → Prop}:gI f (.int i) (.int j) ko = f i j ko:=rfl
theorem c0e:a3i (.int i) (.int j) ko = ko (.dat (.int (i + j))):=rfl
theorem c0f {y:Str}:a3i (.str z) (.str y) ko = (z.length + y.length ≤ m8 ∧ ko (.dat (.str (z ++ y)))):=rfl
theorem c0g:a3i (.list ds) (.list es) ko = (ds.length + es.length ≤ m8 ∧ ko (.newL (ds ++ es))):=rfl
theorem c0h:a3i (.tuple ds) (.tuple es) ko = (ds.length + es.length ≤ m8 ∧ ko (.dat (.tuple (ds ++ es))) ∧ ko (.newT (ds ++ es))):=rfl
theorem c9d {f:Int → Int → Bool} {g:Str → Str → Bool}:gIS f g (.int i) (.int j) ko = ko (.dat (.bool (f i j))):=rfl
theorem c9e {f:Int → Int → Bool} {g:Str → Str → Bool} {y:Str}:gIS f g (.str z) (.str y) ko = ko (.dat (.bool (g z y))):=rfl
theorem c9p {neg:Bool}:gIs neg d .none ko = ko (.dat (.bool (if neg then !isN d else isN d))):=by cases d <;> rfl
theorem c9q {neg:Bool}:gIs neg (.bool b) (.bool c) ko = ko (.dat (.bool (if neg then !decide (b = c) else decide (b = c)))):=rfl
theorem c9l {neg:Bool} {y:Str}:gIn neg (.str z) (.str y) ko = ko (.dat (.bool (if neg then !b5z y z else b5z y z))):=rfl
theorem c9m {neg:Bool}:gIn neg d (.tuple ds) ko = (b1T d = true ∧ ds.all b1T = true ∧ ko (.dat (.bool (if neg then !ds.any fun z=>j3 z d else ds.any fun z=>j3 z d)))):=by cases d <;> rfl
theorem c9n {neg:Bool}:gIn neg d (.list ds) ko = (shp d ∧ shp (.list ds) ∧ ko (.dat (.bool (if neg then !ds.any fun z=>j3 z d else ds.any fun z=>j3 z d)))):=by cases d <;> rfl
theorem c9r:gIx (.list ds) (.int i) ko = a0X (atI ds i) fun z=>ko (.dat z):=rfl
theorem c9s:gIx (.tuple ds) (.int i) ko = a0X (atI ds i) fun z=>ko (.dat z):=rfl
theorem c9t:gIx (.str z) (.int i) ko = (z.length ≤ m8 ∧ match atI z.cps.toList i with
  | some c=>ko (.dat (.str ⟨#[c]⟩))
  | none=>False):=rfl
theorem c9C {lo hi:Option Int}:gSl (.list ds) lo hi ko = ko (.newL (b9U ds lo hi)):=rfl
theorem c9D {lo hi:Option Int}:gSl (.tuple ds) lo hi ko = (ko (.dat (.tuple (b9U ds lo hi))) ∧ ko (.newT (b9U ds lo hi))):=rfl
theorem c9E {lo hi:Option Int}:gSl (.str z) lo hi ko = (z.length ≤ m8 ∧ ko (.dat (.str (cutS z lo hi)))):=rfl
theorem c0D:b6H [.list ds] ko = ko (.dat (.int ds.length)):=rfl
theorem c0E:b6H [.tuple ds] ko = ko (.dat (.int ds.length)):=rfl
theorem c0F:b6H [.str z] ko = (z.length ≤ m8 ∧ ko (.dat (.int z.length))):=rfl
theorem c9g {bs:List Bool}:d5z [.list (bs.map a0M)] ko = ko (.dat (.bool (bs.all id))):=by
 show (match a8B (bs.map a0M) with
  | some bs=>ko (.dat (.bool (bs.all id)))
  | none=>False) = _
 rw [b9T]
theorem c9h {bs:List Bool}:gAny [.list (bs.map a0M)] ko = ko (.dat (.bool (bs.any id))):=by
 show (match a8B (bs.map a0M) with
  | some bs=>ko (.dat (.bool (bs.any id)))
  | none=>False) = _
 rw [b9T]
theorem c9G {bs:List Int}:gSum [.list (bs.map m9)] ko = ko (.dat (.int bs.sum)):=by
 show (match a9J (bs.map m9) with
  | some bs=>ko (.dat (.int bs.sum))
  | none=>False) = _
 rw [b1U]
theorem c0G:gMax [.int i,.int j] ko = ko (.dat (.int (if j > i then j else i))):=rfl
theorem c0H:d6t [.int i,.int j] ko = ko (.dat (.int (if j < i then j else i))):=rfl
theorem c9f:gAbs [.int i] ko = ko (.dat (.int (if i < 0 then -i else i))):=rfl
theorem c0s:gInt [.int i] ko = ko (.dat (.int i)):=rfl
theorem c0t:gInt [.bool b] ko = ko (.dat (.int (if b then 1 else 0))):=rfl
theorem b3t:c6a [.list ds] ko = ko (.newL ds):=rfl
theorem b3u:c6a [.tuple ds] ko = ko (.newL ds):=rfl
theorem b3A:b48 [.list ds] ko = ko (.newT ds):=rfl
theorem b3B:b48 [.tuple ds] ko = ko (.dat (.tuple ds)):=rfl
theorem c9w:d9m (.int i) ko = ko (.dat (.int (-i))):=rfl
theorem c9i {k:c9 → List c9 → Prop}:b28 ds [d] k = (ds.length < m8 ∧ k .none (ds ++ [d])):=rfl
theorem c9k {k:c9 → List c9 → Prop}:b6U ds [.list es] k = (ds.length + es.length ≤ m8 ∧ k .none (ds ++ es)):=rfl
theorem c9x {k:c9 → List c9 → Prop}:mPop ds [] k = a0X (ds[ds.length - 1]?) fun d=>k d ds.dropLast:=rfl
theorem b3x {k:c9 → List c9 → Prop}:c8k ds [.int i] k = ((0 ≤ i ∧ i < 2 ^ 63) ∧ a0X (ds[i.toNat]?) fun d=>k d (ds.eraseIdx i.toNat)):=rfl
theorem c9o {k:c9 → List c9 → Prop}:b6V ds [.int i,d] k = ((ds.length < m8 ∧ 0 ≤ i ∧ i < 2 ^ 63) ∧ k .none (ds.take i.toNat ++ [d] ++ ds.drop i.toNat)):=rfl
theorem b3o:d6v [] ρ kρ = kρ ρ:=rfl
theorem d8y {t:d3q}:gT n t (.tuple ds) ρ kρ = (ds.length = n ∧ t ds ρ kρ):=rfl
theorem a5l {ρ':List AV} {j:Nat}:a5B ρ' [] j ρ = ρ:=rfl
theorem a1U {ρ':List AV} {j:Nat} {is:List Nat} (h:a9L ρ' j = some a):a5B ρ' (n :: is) j ρ = a5B ρ' is (j + 1) (ρ.set n (a.retag ((ρ[n]?).bind AV.tag))):=by
 rw [a5B,h]
theorem a5D {q:Option Nat}:(AV.ml p ds).retag q = .ml q ds:=rfl
theorem c0M:(AV.ml p ds).tag = p:=rfl
theorem c0i {j:Nat}:a0D ρ [] j = some ([],[]):=rfl
theorem c0j {j:Nat} {rs:List RV}:a0D ρ (.dat d :: rs) j = (a0D ρ rs j).map fun p=>(.dat d :: p.1,p.2):=rfl
/-- what follows a call -/
def bk (P:RV → List AV → Prop) (ρ1:List AV) (is:List Nat) (r:RV) (ρ':List AV):Prop:=match r with
 | .bor _=>False
 | r=>P r (a5B ρ' is 0 ρ1)
theorem a60 {P:RV → List AV → Prop} {ρ1 ρ':List AV} {is:List Nat}:bk P ρ1 is (.dat d) ρ' = P (.dat d) (a5B ρ' is 0 ρ1):=rfl
theorem b2b {P:RV → List AV → Prop} {ρ1 ρ':List AV} {is:List Nat}:bk P ρ1 is (.own a) ρ' = P (.own a) (a5B ρ' is 0 ρ1):=rfl
def d9b (c:Ct) (P:RV → List AV → Prop) (ρ1:List AV):Option (List AV × List Nat) → Prop
 | some (ρc,is)=>is.Nodup ∧ c ρc (bk P ρ1 is) X0
 | none=>False
theorem b3n {c:Ct} {P:RV → List AV → Prop} {ρ1 ρc:List AV} {is:List Nat}:d9b c P ρ1 (some (ρc,is)) = (is.Nodup ∧ c ρc (bk P ρ1 is) X0):=rfl
theorem c0k:j3 (.int i) (.int j) = (i == j):=by rw [j3]
theorem c0l {y:Str}:j3 (.str z) (.str y) = (z == y):=by rw [j3]
theorem c0m:j3 (.bool b) (.bool c) = (b == c):=by rw [j3]
theorem c0n:j3 .none .none = true:=by rw [j3]
theorem c0o:j3 (.int i) (.str z) = false:=by simp [j3]
theorem c0p:j3 (.str z) (.int i) = false:=by simp [j3]
theorem c0q:j3 (.list ds) (.list es) = a1j ds es:=by rw [j3]
theorem c0r:j3 (.tuple ds) (.tuple es) = a1j ds es:=by rw [j3]
theorem c9v:c80 (.int i) (.int j) ko = (CMulW i j ∧ ko (.dat (.int (i * j)))):=rfl
theorem c9j:d3r (.int i) (.int j) ko = (CDivW i j ∧ ko (.dat (.int (i / j)))):=rfl
theorem c9u:d1r (.int i) (.int j) ko = (0 < j ∧ ko (.dat (.int (i % j)))):=rfl
theorem c9y:b2N (.int i) (.int j) ko = (CPow i j ∧ ko (.dat (.int (i ^ j.toNat)))):=rfl
theorem c9F:c4b (.int i) (.int j) ko = ko (.dat (.int (i - j))):=rfl
theorem c0B:ixN 2 0 = some 0:=rfl
theorem c0C:ixN 2 1 = some 1:=rfl
theorem c0u {T:String}:isT T .none = (T == "NoneType"):=rfl
theorem c0v {T:String}:isT T (.bool b) = (T == "bool" || T == "int"):=rfl
theorem c0w {T:String}:isT T (.int i) = (T == "int"):=rfl
theorem c0x {T:String}:isT T (.str z) = (T == "str"):=rfl
theorem c0y {T:String}:isT T (.list ds) = (T == "list"):=rfl
theorem c0z {T:String}:isT T (.tuple ds) = (T == "tuple"):=rfl
theorem c0A {T:String}:isT T (.dict kvs) = (T == "dict"):=rfl
end
abbrev PK:=RV → List AV → Prop
section
variable {d:c9} {ds es:List c9} {i j:Int} {b c:Bool} {p:Option Nat} {ρ:List AV} {n:Nat} {PX:PXT} {D:AEnds} {P:PK}
def varL (ds:List c9) (n:Nat) (ρ:List AV) (P:PK):Prop:=P (.bor n) ρ ∨ P (.dat (.list ds)) (ρ.set n (.dat (.list ds)))
def varM (ds:List (c9 × c9)) (n:Nat) (ρ:List AV) (P:PK):Prop:=P (.bor n) ρ ∨ P (.dat (.dict ds)) (ρ.set n (.dat (.dict ds)))
theorem a1d (h:P (.bor n) ρ):varL ds n ρ P:=.inl h
theorem a48 (h:P (.dat (.list ds)) (ρ.set n (.dat (.list ds)))):varL ds n ρ P:=.inr h
theorem e0h {kvs:List (c9 × c9)} (h:P (.bor n) ρ):varM kvs n ρ P:=.inl h
def b9l (o:Option AV) (n:Nat) (ρ:List AV) (P:PK):Prop:=match o with
 | some (.dat d)=>P (.dat d) ρ
 | some (.ml none ds)=>varL ds n ρ P
 | some (.mdk none es)=>varM es n ρ P
 | some (.ml (some _) _)=>P (.bor n) ρ
 | some (.mdk (some _) _)=>P (.bor n) ρ
 | some (.scr _)=>P (.bor n) ρ
 | some (.opq _)=>P (.bor n) ρ
 | some (.mdt _ _)=>P (.bor n) ρ
 | _=>False
theorem c7h:i4 n ρ PX P = b9l (ρ[n]?) n ρ P:=by
 unfold i4 b9l
 rfl
theorem c1O:b9l (some (.dat d)) n ρ P = P (.dat d) ρ:=rfl
theorem c1P:b9l (some (.ml none ds)) n ρ P = varL ds n ρ P:=rfl
theorem c1Q {kvs:List (c9 × c9)}:b9l (some (.mdk none kvs)) n ρ P = varM kvs n ρ P:=rfl
theorem c1R {m:Nat}:b9l (some (.ml (some m) ds)) n ρ P = P (.bor n) ρ:=rfl
theorem c1S {m:Nat} {kvs:List (c9 × c9)}:b9l (some (.mdk (some m) kvs)) n ρ P = P (.bor n) ρ:=rfl
theorem c1T {ns:List Int}:b9l (some (.scr ns)) n ρ P = P (.bor n) ρ:=rfl
theorem z_c:aC d ρ PX P = P (.dat d) ρ:=rfl
def d1w (P:PK) (ρ:List AV) (o:Out):Prop:=P o.rv ρ
def d6W (g:DOp) (P:PK) (ρ:List AV) (d e:c9):Prop:=g d e (d1w P ρ)
def d6V (g:DOp) (P:PK) (r2:RV) (ρ:List AV) (d:c9):Prop:=a0X (r2.look ρ) (d6W g P ρ d)
def d6U (g:DOp) (P:PK) (r1 r2:RV) (ρ:List AV):Prop:=a0X (r1.look ρ) (d6V g P r2 ρ)
def d6T (g:DOp) (b:AEx) (PX:PXT) (P:PK) (r1:RV) (ρ:List AV):Prop:=b ρ PX (d6U g P r1.hold)
theorem d8F {g:DOp} {x y:AEx}:aOp g x y ρ PX P = x ρ PX (d6T g y PX P):=rfl
def d7b (g:DUn) (P:PK) (ρ:List AV) (d:c9):Prop:=g d (d1w P ρ)
def kUn (g:DUn) (P:PK) (r:RV) (ρ:List AV):Prop:=a0X (r.look ρ) (d7b g P ρ)
theorem d8J {g:DUn} {x:AEx}:aUn g x ρ PX P = x ρ PX (kUn g P):=rfl
def d6J (g':DOp) (P:PK) (ρ:List AV) (e f:c9):Prop:=g' e f (d1w P ρ)
def d6I (g':DOp) (P:PK) (r3:RV) (ρ:List AV) (e:c9):Prop:=a0X (r3.look ρ) (d6J g' P ρ e)
def d6H (g':DOp) (P:PK) (r2 r3:RV) (ρ:List AV):Prop:=a0X (r2.look ρ) (d6I g' P r3 ρ)
def d6K (g':DOp) (c:AEx) (PX:PXT) (P:PK) (r2:RV) (ρ:List AV) (k:Bool):Prop:=if k = true then c ρ PX (d6H g' P r2) else P (.dat (.bool false)) ρ
def d6L (g':DOp) (c:AEx) (PX:PXT) (P:PK) (r2:RV) (ρ:List AV) (o:Out):Prop:=d7D o (d6K g' c PX P r2 ρ)
def d6G (g g':DOp) (c:AEx) (PX:PXT) (P:PK) (r2:RV) (ρ:List AV) (d e:c9):Prop:=g d e (d6L g' c PX P r2 ρ)
def d6F (g g':DOp) (c:AEx) (PX:PXT) (P:PK) (r2:RV) (ρ:List AV) (d:c9):Prop:=a0X (r2.look ρ) (d6G g g' c PX P r2 ρ d)
def d6E (g g':DOp) (c:AEx) (PX:PXT) (P:PK) (r1 r2:RV) (ρ:List AV):Prop:=a0X (r1.look ρ) (d6F g g' c PX P r2.hold ρ)
def d6D (g g':DOp) (b c:AEx) (PX:PXT) (P:PK) (r1:RV) (ρ:List AV):Prop:=b ρ PX (d6E g g' c PX P r1.hold)
theorem b30 {g g':DOp} {x y z:AEx}:c3W g g' x y z ρ PX P = x ρ PX (d6D g g' y z PX P):=rfl
def b6K (P:List RV → List AV → Prop) (r:RV) (rs:List RV) (ρ:List AV):Prop:=P (r :: rs) ρ
def b6J (b:AAx) (PX:PXT) (P:List RV → List AV → Prop) (r:RV) (ρ:List AV):Prop:=b ρ PX (b6K P r.hold)
theorem b75 {x:AEx} {y:AAx} {P:List RV → List AV → Prop}:d3 x y ρ PX P = x ρ PX (b6J y PX P):=rfl
theorem c94 {P:List RV → List AV → Prop}:n9 ρ PX P = P [] ρ:=rfl
def c6v (P:PK) (ρ:List AV) (ds:List c9):Prop:=ds.length ≤ m8 ∧ P (.dat (.tuple ds)) ρ
def kTup (P:PK) (rs:List RV) (ρ:List AV):Prop:=a3t (b7m rs) (c6v P ρ)
theorem d0f {x:AAx}:b8J x ρ PX P = x ρ PX (kTup P):=rfl
def c6j (P:PK) (ρ:List AV) (ds:List c9):Prop:=ds.length ≤ m8 ∧ P (.own (.ml none ds)) ρ
def d6Q (P:PK) (rs:List RV) (ρ:List AV):Prop:=a3t (b7m rs) (c6j P ρ)
theorem c9Z {x:AAx}:a49 x ρ PX P = x ρ PX (d6Q P):=rfl
def d6C (g:DCl) (P:PK) (ρ:List AV) (ds:List c9):Prop:=g ds (d1w P ρ)
def kCB (g:DCl) (P:PK) (rs:List RV) (ρ:List AV):Prop:=a3t (b5e ρ rs) (d6C g P ρ)
theorem d8A {g:DCl} {x:AAx}:aCB g x ρ PX P = x ρ PX (kCB g P):=rfl
def c6g (b:AEx) (PX:PXT) (P:PK) (r:RV) (ρ:List AV) (c:Bool):Prop:=if c = true then b ρ PX P else P r ρ
def c6f (b:AEx) (PX:PXT) (P:PK) (r:RV) (ρ:List AV) (d:c9):Prop:=c5P d (c6g b PX P r ρ)
def c6e (b:AEx) (PX:PXT) (P:PK) (r:RV) (ρ:List AV):Prop:=a0X (r.hold.look ρ) (c6f b PX P r.hold ρ)
theorem c1c {x y:AEx}:a7D x y ρ PX P = x ρ PX (c6e y PX P):=rfl
def d6Z (b:AEx) (PX:PXT) (P:PK) (r:RV) (ρ:List AV) (c:Bool):Prop:=if c = true then P r ρ else b ρ PX P
def d6Y (b:AEx) (PX:PXT) (P:PK) (r:RV) (ρ:List AV) (d:c9):Prop:=c5P d (d6Z b PX P r ρ)
def d6X (b:AEx) (PX:PXT) (P:PK) (r:RV) (ρ:List AV):Prop:=a0X (r.hold.look ρ) (d6Y b PX P r.hold ρ)
theorem c96 {x y:AEx}:aOrT x y ρ PX P = x ρ PX (d6X y PX P):=rfl
def c6m (P:PK) (ρ:List AV) (c:Bool):Prop:=P (.dat (.bool (!c))) ρ
def c6l (P:PK) (ρ:List AV) (d:c9):Prop:=c5P d (c6m P ρ)
def c6k (P:PK) (r:RV) (ρ:List AV):Prop:=a0X (r.look ρ) (c6l P ρ)
theorem c1x {x:AEx}:d3M x ρ PX P = x ρ PX (c6k P):=rfl
def c6i (T:String) (P:PK) (ρ:List AV) (d:c9):Prop:=P (.dat (.bool (isT T d))) ρ
def d6N (T:String) (P:PK) (r:RV) (ρ:List AV):Prop:=a0X (r.hold.look ρ) (c6i T P ρ)
theorem c9W {T:String} {x:AEx}:b9Q T x ρ PX P = x ρ PX (d6N T P):=rfl
def kTst (P:Bool → List AV → Prop) (r:RV) (ρ:List AV):Prop:=match r with
 | .dat (.bool b)=>P b ρ
 | _=>False
theorem d0e {x:AEx} {P:Bool → List AV → Prop}:a3Z x ρ PX P = x ρ PX (kTst P):=rfl
theorem c1N {P:Bool → List AV → Prop}:kTst P (.dat (.bool b)) ρ = P b ρ:=rfl
def c6u (P:Bool → List AV → Prop) (ρ:List AV) (b:Bool):Prop:=P b ρ
def c6t (P:Bool → List AV → Prop) (ρ:List AV) (d:c9):Prop:=c5P d (c6u P ρ)
def d7a (P:Bool → List AV → Prop) (r:RV) (ρ:List AV):Prop:=a0X (r.look ρ) (c6t P ρ)
theorem d0d {x:AEx} {P:Bool → List AV → Prop}:a9I x ρ PX P = x ρ PX (d7a P):=rfl
def d6z (b:ATx) (PX:PXT) (P:Bool → List AV → Prop) (c:Bool) (ρ:List AV):Prop:=if c = true then b ρ PX P else P false ρ
theorem c9S {x y:ATx} {P:Bool → List AV → Prop}:d5p x y ρ PX P = x ρ PX (d6z y PX P):=rfl
def kOr (b:ATx) (PX:PXT) (P:Bool → List AV → Prop) (c:Bool) (ρ:List AV):Prop:=if c = true then P true ρ else b ρ PX P
theorem d8G {x y:ATx} {P:Bool → List AV → Prop}:aOr x y ρ PX P = x ρ PX (kOr y PX P):=rfl
def d6S (P:Bool → List AV → Prop) (c:Bool) (ρ:List AV):Prop:=P (!c) ρ
theorem c95 {x:ATx} {P:Bool → List AV → Prop}:b2M x ρ PX P = x ρ PX (d6S P):=rfl
def d9G (P:Option Int → List AV → Prop) (r:RV) (ρ:List AV):Prop:=match r with
 | .dat (.int i)=>P (some i) ρ
 | _=>False
theorem c1z {x:AEx} {P:Option Int → List AV → Prop}:b6q x ρ PX P = x ρ PX (d9G P):=rfl
theorem b34 {P:Option Int → List AV → Prop}:d9G P (.dat (.int i)) ρ = P (some i) ρ:=rfl
theorem a9B {P:Option Int → List AV → Prop}:b0P ρ PX P = P none ρ:=rfl
def d67 (lo hi:Option Int) (P:PK) (ρ:List AV) (d:c9):Prop:=gSl d lo hi (d1w P ρ)
def d66 (P:PK) (r:RV) (lo hi:Option Int) (ρ:List AV):Prop:=a0X (r.look ρ) (d67 lo hi P ρ)
def d65 (h:AOx) (PX:PXT) (P:PK) (r:RV) (lo:Option Int) (ρ:List AV):Prop:=h ρ PX (d66 P r lo)
def d64 (l h:AOx) (PX:PXT) (P:PK) (r:RV) (ρ:List AV):Prop:=l ρ PX (d65 h PX P r.hold)
theorem d8H {x:AEx} {l h:AOx}:aSl x l h ρ PX P = x ρ PX (d64 l h PX P):=rfl
def d5E (P:PK) (ρ:List AV) (d:c9):Prop:=match d with
 | .list ds=>P (.own (.ml none ds.reverse)) ρ
 | _=>False
def c6n (P:PK) (r:RV) (ρ:List AV):Prop:=a0X (r.look ρ) (d5E P ρ)
theorem c1E {x:AEx}:d6d x ρ PX P = x ρ PX (c6n P):=rfl
theorem b35:d5E P ρ (.list ds) = P (.own (.ml none ds.reverse)) ρ:=rfl
def d5F (P:PK) (ρ:List AV) (d:c9):Prop:=match d with
 | .tuple ds=>P (.dat (.tuple ds.reverse)) ρ
 | _=>False
def c6o (P:PK) (r:RV) (ρ:List AV):Prop:=a0X (r.look ρ) (d5F P ρ)
theorem c1F {x:AEx}:aRevT x ρ PX P = x ρ PX (c6o P):=rfl
theorem b36:d5F P ρ (.tuple ds) = P (.dat (.tuple ds.reverse)) ρ:=rfl
def d3t (P:PK) (i:Nat) (p:Option Nat) (ρ:List AV) (d:c9) (ds:List c9):Prop:=P (.dat d) (ρ.set i (.ml p ds))
def kMt4 (g:DMt) (P:PK) (i:Nat) (ρ:List AV) (es:List c9) (o:Option AV):Prop:=match o with
 | some (.ml p ds)=>g ds es (d3t P i p ρ)
 | _=>False
def d6R (g:DMt) (P:PK) (i:Nat) (ρ:List AV) (es:List c9):Prop:=kMt4 g P i ρ es (ρ[i]?)
def d5C (g:DMt) (P:PK) (i:Nat) (rs:List RV) (ρ:List AV):Prop:=a3t (b7m rs) (d6R g P i ρ)
def kMtA (g:DMt) (a:AAx) (PX:PXT) (P:PK) (i:Nat) (ρ:List AV) (o:Option AV):Prop:=match o with
 | some (.ml _ _)=>a ρ PX (d5C g P i)
 | _=>False
def kMt1 (g:DMt) (a:AAx) (PX:PXT) (P:PK) (rb:RV) (ρ:List AV):Prop:=match rb with
 | .bor i=>kMtA g a PX P i ρ (ρ[i]?)
 | _=>False
theorem d8E {g:DMt} {x:AEx} {y:AAx}:aMt g x y ρ PX P = x ρ PX (kMt1 g y PX P):=by
 unfold aMt
 congr 1
theorem c91 {g:DMt} {y:AAx}:kMt1 g y PX P (.bor n) ρ = kMtA g y PX P n ρ (ρ[n]?):=rfl
theorem c92 {g:DMt} {y:AAx}:kMtA g y PX P n ρ (some (.ml p ds)) = y ρ PX (d5C g P n):=rfl
theorem c93 {g:DMt}:kMt4 g P n ρ es (some (.ml p ds)) = g ds es (d3t P n p ρ):=rfl
def kMz2 (g:DMt) (P:PK) (i:Nat) (ρ:List AV) (o:Option AV):Prop:=match o with
 | some (.ml p ds)=>g ds [] (d3t P i p ρ)
 | _=>False
def kMz1 (g:DMt) (P:PK) (rb:RV) (ρ:List AV):Prop:=match rb with
 | .bor i=>kMz2 g P i ρ (ρ[i]?)
 | _=>False
theorem c90 {g:DMt} {x:AEx}:aMt0 g x ρ PX P = x ρ PX (kMz1 g P):=by
 unfold aMt0
 congr 1
theorem c1v {g:DMt}:kMz1 g P (.bor n) ρ = kMz2 g P n ρ (ρ[n]?):=rfl
theorem c1w {g:DMt}:kMz2 g P n ρ (some (.ml p ds)) = g ds [] (d3t P n p ρ):=rfl
def kJn4 (z:Str) (P:PK) (ρ:List AV) (o:Option (List Str)):Prop:=match o with
 | some ys=>(ys.map (·.length)).sum + ys.length * z.length ≤ 16777216 ∧ P (.dat (.str (c3M z ys))) ρ
 | none=>False
def kJn3 (z:Str) (P:PK) (ρ:List AV) (d:c9):Prop:=match d with
 | .list ds=>kJn4 z P ρ (b9j ds)
 | _=>False
def d3s (z:Str) (P:PK) (r:RV) (ρ:List AV):Prop:=a0X (r.look ρ) (kJn3 z P ρ)
def kJn1 (a:AEx) (PX:PXT) (P:PK) (rb:RV) (ρ:List AV):Prop:=match rb with
 | .dat (.str z)=>a ρ PX (d3s z P)
 | _=>False
theorem c1r {x y:AEx}:d3K x y ρ PX P = x ρ PX (kJn1 y PX P):=rfl
theorem b32 {y:AEx} {z:Str}:kJn1 y PX P (.dat (.str z)) ρ = y ρ PX (d3s z P):=rfl
theorem b1k {z:Str}:kJn3 z P ρ (.list ds) = kJn4 z P ρ (b9j ds):=rfl
theorem b1l {z:Str} {ys:List Str}:kJn4 z P ρ (some ys) = ((ys.map (·.length)).sum + ys.length * z.length ≤ 16777216 ∧ P (.dat (.str (c3M z ys))) ρ):=rfl
def d9D (P:PK) (ρ:List AV) (o:Option AV):Prop:=match o with
 | some (.scr ns)=>P (.dat (.int ns.length)) ρ
 | _=>False
theorem c1u:c53 n ρ PX P = d9D P ρ (ρ[n]?):=rfl
theorem b33 {ns:List Int}:d9D P ρ (some (.scr ns)) = P (.dat (.int ns.length)) ρ:=rfl
def d6P (P:PK) (ρ:List AV) (o:Option Int):Prop:=match o with
 | some z=>P (.dat (.int z)) ρ
 | none=>False
def d6O (ns:List Int) (P:PK) (r:RV) (ρ:List AV):Prop:=match r with
 | .dat (.int k)=>d6P P ρ (atI ns k)
 | _=>False
def d9A (b:AEx) (PX:PXT) (P:PK) (ρ:List AV) (o:Option AV):Prop:=match o with
 | some (.scr ns)=>b ρ PX (d6O ns P)
 | _=>False
theorem c9X {y:AEx}:d88 n y ρ PX P = d9A y PX P ρ (ρ[n]?):=rfl
theorem c1o {y:AEx} {ns:List Int}:d9A y PX P ρ (some (.scr ns)) = y ρ PX (d6O ns P):=rfl
theorem c1p {ns:List Int}:d6O ns P (.dat (.int i)) ρ = d6P P ρ (atI ns i):=rfl
theorem c1q:d6P P ρ (some i) = P (.dat (.int i)) ρ:=rfl
abbrev PD:=List c9 → List AV → Prop
def d31 (P:PD) (ρ:List AV) (r:RV):Prop:=match r with
 | .dat (.list ds)=>P ds ρ
 | .dat (.tuple ds)=>P ds ρ
 | .dat (.str z)=>P (a8o z) ρ
 | _=>False
def d6A (P:PD) (r:RV) (ρ:List AV):Prop:=d31 P ρ r.hold
theorem c9T {x:AEx} {P:PD}:a6i x ρ PX P = x ρ PX (d6A P):=rfl
theorem c1d {P:PD}:d31 P ρ (.dat (.list ds)) = P ds ρ:=rfl
theorem c1e {P:PD}:d31 P ρ (.dat (.tuple ds)) = P ds ρ:=rfl
theorem c1f {P:PD} {z:Str}:d31 P ρ (.dat (.str z)) = P (a8o z) ρ:=rfl
def d9I (P:PD) (ρ:List AV) (ds:List c9):Prop:=match ds with
 | [.int j]=>(-(2 ^ 62) ≤ j ∧ j < 2 ^ 62) ∧ P (rng 0 j.toNat) ρ
 | _=>False
def c6p (P:PD) (rs:List RV) (ρ:List AV):Prop:=a3t (b7m rs) (d9I P ρ)
theorem c1G {x:AAx} {P:PD}:b47 x ρ PX P = x ρ PX (c6p P):=rfl
theorem b37 {P:PD}:d9I P ρ [.int j] = ((-(2 ^ 62) ≤ j ∧ j < 2 ^ 62) ∧ P (rng 0 j.toNat) ρ):=rfl
def d9J (P:PD) (ρ:List AV) (ds:List c9):Prop:=match ds with
 | [.int i,.int j]=>(-(2 ^ 62) ≤ i ∧ i < 2 ^ 62 ∧ -(2 ^ 62) ≤ j ∧ j < 2 ^ 62) ∧ P (rng i (j - i).toNat) ρ
 | _=>False
def c6q (P:PD) (rs:List RV) (ρ:List AV):Prop:=a3t (b7m rs) (d9J P ρ)
theorem c1H {x:AAx} {P:PD}:d6e x ρ PX P = x ρ PX (c6q P):=rfl
theorem b38 {P:PD}:d9J P ρ [.int i,.int j] = ((-(2 ^ 62) ≤ i ∧ i < 2 ^ 62 ∧ -(2 ^ 62) ≤ j ∧ j < 2 ^ 62) ∧ P (rng i (j - i).toNat) ρ):=rfl
def d9x (P:PD) (rs:List RV) (ρ:List AV):Prop:=match rs with
 | [.dat (.list ds)]=>P (c8V ds 0) ρ
 | _=>False
theorem c1m {x:AAx} {P:PD}:aEnum x ρ PX P = x ρ PX (d9x P):=rfl
theorem b31 {P:PD}:d9x P [.dat (.list ds)] ρ = P (c8V ds 0) ρ:=rfl
def kLc (vs:List Nat) (g:ATg) (tt:ATx) (a:AEx) (P:PK) (ds:List c9) (ρ:List AV):Prop:=c6x vs g tt a P ds [] (a3s ρ vs)
theorem d8D {ai:AIt} {vs:List Nat} {g:ATg} {tt:ATx} {x:AEx}:aLc ai vs g tt x ρ PX P = ai ρ PX (kLc vs g tt x P):=rfl
theorem c9Y {vs:List Nat} {g:ATg} {tt:ATx} {x:AEx}:kLc vs g tt x P ds ρ = c6x vs g tt x P ds [] (a3s ρ vs):=rfl
theorem d0g {P:Bool → List AV → Prop}:b9R ρ PX P = P true ρ:=rfl
theorem c1s {vs:List Nat} {acc:List c9} {N:List c9 → List AV → Prop}:d1D vs acc N (.dat d) ρ = (acc.length < m8 ∧ N (acc ++ [d]) (a3s ρ vs)):=rfl
theorem c1t {vs:List Nat} {acc:List c9} {N:List c9 → List AV → Prop}:d1D vs acc N (.own (.ml p ds)) ρ = (acc.length < m8 ∧ N (acc ++ [.list ds]) (a3s ρ vs)):=rfl
theorem c1I {ko:Out → Prop}:d6u [.list ds] ko = (a12 ds ∧ c8O ds ∧ (∀ d ∈ ds,d.depth ≤ 60) ∧ noDics ds = true ∧ ∀ es,es.Perm ds → es.Pairwise AqS.leD → ko (.newL es)):=rfl
def kSS3 (ds:List c9) (P:PK) (ρ:List AV) (o:Option (List Key)):Prop:=match o with
 | some ks=>AqS.FewK ks ∧ a12 ds ∧ ∀ ys:List Key,ys.Nodup → (∀ k,k ∈ ys ↔ k ∈ ks) → (ys.map kD).Pairwise AqS.leD → P (.own (.ml none (ys.map kD))) ρ
 | none=>False
def kSS2 (P:PK) (ρ:List AV) (r:RV):Prop:=match r with
 | .dat (.list ds)=>kSS3 ds P ρ (b8M ds)
 | _=>False
def d61 (P:PK) (r:RV) (ρ:List AV):Prop:=kSS2 P ρ r.hold
theorem d8I {x:AEx}:b51 x ρ PX P = x ρ PX (d61 P):=rfl
theorem d0a:kSS2 P ρ (.dat (.list ds)) = kSS3 ds P ρ (b8M ds):=rfl
theorem d0b {ks:List Key}:kSS3 ds P ρ (some ks) = (AqS.FewK ks ∧ a12 ds ∧ ∀ ys:List Key,ys.Nodup → (∀ k,k ∈ ys ↔ k ∈ ks) → (ys.map kD).Pairwise AqS.leD → P (.own (.ml none (ys.map kD))) ρ):=rfl
def c2k (c:Ct) (P:PK) (rs:List RV) (ρ:List AV):Prop:=d9b c P ρ (a0D ρ rs 0)
theorem b1j {c:Ct} {x:AAx}:m7 c x ρ PX P = x ρ PX (c2k c P):=rfl
def bkX (PX:PXT) (ρ1:List AV) (is:List Nat):PXT:=fun cls p ρ'=>PX cls p (a5B ρ' is 0 ρ1)
def d9c (c:Ct) (PX:PXT) (P:PK) (ρ1:List AV):Option (List AV × List Nat) → Prop
 | some (ρc,is)=>is.Nodup ∧ c ρc (bk P ρ1 is) (bkX PX ρ1 is)
 | none=>False
def b6I (c:Ct) (PX:PXT) (P:PK) (rs:List RV) (ρ:List AV):Prop:=d9c c PX P ρ (a0D ρ rs 0)
theorem b3Z {c:Ct} {x:AAx}:a3G c x ρ PX P = x ρ PX (b6I c PX P):=rfl
theorem a9z {c:Ct} {ρc:List AV} {is:List Nat}:d9c c PX P ρ (some (ρc,is)) = (is.Nodup ∧ c ρc (bk P ρ is) (bkX PX ρ is)):=rfl
def c8U (o:Option AV) (n:Nat) (ρ:List AV) (rs:List RV) (j:Nat):Option (List AV × List Nat):=match o with
 | some (.ml _ ds)=>(a0D ρ rs (j + 1)).map fun p=>(.ml (some j) ds :: p.1,n :: p.2)
 | some (.mdk _ ds)=>(a0D ρ rs (j + 1)).map fun p=>(.mdk (some j) ds :: p.1,n :: p.2)
 | some (.mdt _ ds)=>(a0D ρ rs (j + 1)).map fun p=>(.mdt (some j) ds :: p.1,n :: p.2)
 | some (.scr ns)=>(a0D ρ rs j).map fun p=>(.scr ns :: p.1,p.2)
 | some (.opq v)=>(a0D ρ rs j).map fun p=>(.opq v :: p.1,p.2)
 | _=>none
theorem b74 {j:Nat} {rs:List RV}:a0D ρ (.bor n :: rs) j = c8U (ρ[n]?) n ρ rs j:=by
 rw [a0D]
 rfl
theorem c1g {j:Nat} {rs:List RV}:c8U (some (.ml p ds)) n ρ rs j = (a0D ρ rs (j + 1)).map fun p=>(.ml (some j) ds :: p.1,n :: p.2):=rfl
theorem c1h {j:Nat} {rs:List RV} {kvs:List (c9 × c9)}:c8U (some (.mdk p kvs)) n ρ rs j = (a0D ρ rs (j + 1)).map fun p=>(.mdk (some j) kvs :: p.1,n :: p.2):=rfl
theorem c1i {j:Nat} {rs:List RV} {ns:List Int}:c8U (some (.scr ns)) n ρ rs j = (a0D ρ rs j).map fun p=>(.scr ns :: p.1,p.2):=rfl
theorem a1n:a1m D ρ = D.nx ρ:=rfl
theorem b3Y:d92 D ρ = D.bk ρ:=rfl
theorem c1k:sCont D ρ = D.ct ρ:=rfl
theorem c5d {a b:ASt}:a0t a b D ρ = a { D with nx:=b D } ρ:=rfl
def c6h (D:AEnds) (r:RV) (ρ:List AV):Prop:=D.nx ρ
theorem c1l {x:AEx}:a3m x D ρ = x ρ D.ex (c6h D):=rfl
def kIf (a b:ASt) (D:AEnds) (k:Bool) (ρ:List AV):Prop:=if k = true then a D ρ else b D ρ
theorem d8C {x:ATx} {a b:ASt}:sIf x a b D ρ = x ρ D.ex (kIf a b D):=rfl
def d5D (D:AEnds) (r:RV) (ρ:List AV):Prop:=d8z r ρ D.rt
theorem c98 {x:AEx}:a2r x D ρ = x ρ D.ex (d5D D):=rfl
theorem c1D:sRetN D ρ = D.rt (.dat .none) ρ:=rfl
def d7x (o:Option AV) (n:Nat) (ρ:List AV) (k:PK):Prop:=match o with
 | some (.ml none ds)=>k (.own (.ml none ds)) (ρ.set n .un)
 | some (.mdk none ds)=>k (.own (.mdk none ds)) (ρ.set n .un)
 | _=>False
theorem c1A:d8z (.bor n) ρ P = d7x (ρ[n]?) n ρ P:=rfl
theorem c1B:d7x (some (.ml none ds)) n ρ P = P (.own (.ml none ds)) (ρ.set n .un):=rfl
theorem c1C {kvs:List (c9 × c9)}:d7x (some (.mdk none kvs)) n ρ P = P (.own (.mdk none kvs)) (ρ.set n .un):=rfl
def d63 (i:Nat) (D:AEnds) (r:RV) (ρ:List AV):Prop:=setR i r ρ D.nx
theorem c99 {x:AEx}:a2T n x D ρ = x ρ D.ex (d63 n D):=rfl
def d9u (g:ATg) (D:AEnds) (ρ:List AV) (r:RV):Prop:=match r with
 | .dat d=>g d ρ D.nx
 | _=>False
def d6B (g:ATg) (D:AEnds) (r:RV) (ρ:List AV):Prop:=d9u g D ρ r.hold
theorem c9U {x:AEx} {g:ATg}:sAsg x g D ρ = x ρ D.ex (d6B g D):=rfl
theorem c1j {g:ATg}:d9u g D ρ (.dat d) = g d ρ D.nx:=rfl
def d9F (i j:Nat) (D:AEnds) (ρ:List AV) (ds:List c9):Prop:=match ds with
 | [d,e]=>D.nx ((ρ.set i (.dat d)).set j (.dat e))
 | _=>False
def d60 (i j:Nat) (D:AEnds) (rs:List RV) (ρ:List AV):Prop:=a3t (b7m rs) (d9F i j D ρ)
theorem c97 {m:Nat} {x:AAx}:sPar n m x D ρ = x ρ D.ex (d60 n m D):=rfl
theorem c1y {m:Nat} {e:c9}:d9F n m D ρ [d,e] = D.nx ((ρ.set n (.dat d)).set m (.dat e)):=rfl
def d69 (D:AEnds) (d:c9) (i:Nat) (p:Option Nat) (ds:List c9) (ρ:List AV) (o:Option Nat):Prop:=match o with
 | some j=>D.nx (ρ.set i (.ml p (ds.set j d)))
 | none=>False
def d9N (D:AEnds) (d:c9) (i:Nat) (ρ:List AV) (rc:RV) (o:Option AV):Prop:=match rc,o with
 | .dat (.int k),some (.ml p ds)=>d69 D d i p ds ρ (ixN ds.length k)
 | _,_=>False
def c4f (D:AEnds) (d:c9) (i:Nat) (rc:RV) (ρ:List AV):Prop:=d9N D d i ρ rc (ρ[i]?)
def d68 (D:AEnds) (c:AEx) (d:c9) (rb:RV) (ρ:List AV):Prop:=match rb with
 | .bor i=>c ρ D.ex (c4f D d i)
 | _=>False
def d9M (D:AEnds) (b c:AEx) (ρ:List AV) (r:RV):Prop:=match r with
 | .dat d=>b ρ D.ex (d68 D c d)
 | _=>False
def c6s (D:AEnds) (b c:AEx) (r:RV) (ρ:List AV):Prop:=d9M D b c ρ r.hold
theorem d0c {x y z:AEx}:d4u x y z D ρ = x ρ D.ex (c6s D y z):=rfl
theorem c1J {y z:AEx}:d9M D y z ρ (.dat d) = y ρ D.ex (d68 D z d):=rfl
theorem c1K {z:AEx}:d68 D z d (.bor n) ρ = z ρ D.ex (c4f D d n):=rfl
theorem c1L:d9N D d n ρ (.dat (.int i)) (some (.ml p ds)) = d69 D d n p ds ρ (ixN ds.length i):=rfl
theorem c1M {m:Nat}:d69 D d n p ds ρ (some m) = D.nx (ρ.set n (.ml p (ds.set m d))):=rfl
def d9L (es:List c9) (D:AEnds) (i:Nat) (ρ:List AV) (lo hi:Option Int) (o:Option AV):Prop:=match lo,hi,o with
 | some a,some c,some (.ml p ds)=>(0 ≤ a ∧ a ≤ ds.length ∧ a ≤ c ∧ ds.length + es.length ≤ m8) ∧ D.nx (ρ.set i (.ml p (ds.take a.toNat ++ es ++ ds.drop (min c.toNat ds.length))))
 | _,_,_=>False
def c6r (es:List c9) (D:AEnds) (i:Nat) (lo hi:Option Int) (ρ:List AV):Prop:=d9L es D i ρ lo hi (ρ[i]?)
def c4e (es:List c9) (h:AOx) (D:AEnds) (i:Nat) (lo:Option Int) (ρ:List AV):Prop:=h ρ D.ex (c6r es D i lo)
def d62 (es:List c9) (l h:AOx) (D:AEnds) (rb:RV) (ρ:List AV):Prop:=match rb with
 | .bor i=>l ρ D.ex (c4e es h D i)
 | _=>False
def d9K (b:AEx) (l h:AOx) (D:AEnds) (ρ:List AV) (r:RV):Prop:=match r with
 | .dat (.list es)=>b ρ D.ex (d62 es l h D)
 | _=>False
def b6L (b:AEx) (l h:AOx) (D:AEnds) (r:RV) (ρ:List AV):Prop:=d9K b l h D ρ r.hold
theorem b39 {x y:AEx} {l h:AOx}:d2e x y l h D ρ = x ρ D.ex (b6L y l h D):=rfl
theorem a9C {y:AEx} {l h:AOx}:d9K y l h D ρ (.dat (.list es)) = y ρ D.ex (d62 es l h D):=rfl
theorem a9D {l h:AOx}:d62 es l h D (.bor n) ρ = l ρ D.ex (c4e es h D n):=rfl
theorem a9E:d9L es D n ρ (some i) (some j) (some (.ml p ds)) = ((0 ≤ i ∧ i ≤ ds.length ∧ i ≤ j ∧ ds.length + es.length ≤ m8) ∧ D.nx (ρ.set n (.ml p (ds.take i.toNat ++ es ++ ds.drop (min j.toNat ds.length))))):=rfl
def kFor (g:ATg) (b:ASt) (D:AEnds) (ds:List c9) (ρ:List AV):Prop:=c4a g b D ds ρ
theorem c9V {ai:AIt} {g:ATg} {b:ASt}:d2a ai g b D ρ = ai ρ D.ex (kFor g b D):=rfl
theorem c1n {g:ATg} {b:ASt}:kFor g b D ds ρ = c4a g b D ds ρ:=rfl
theorem d8B {k:List AV → Prop}:gN n d ρ k = k (ρ.set n (.dat d)):=rfl
def kGs (u:d3q) (ds:List c9) (k:List AV → Prop) (ρ:List AV):Prop:=u ds ρ k
theorem a9A {t:ATg} {u:d3q} {k:List AV → Prop}:c4c t u (d :: ds) ρ k = t d ρ (kGs u ds k):=rfl
end
theorem ixo {α:Type} (x:α) (xs:List α):atI (x :: xs) 0 = some x:=by simp [atI,ixN]
theorem d8r {α:Type} (x y:α) (xs:List α):atI (x :: y :: xs) 1 = some y:=by
 have:(1:Int) < (xs.length:Int) + 1 + 1:=by omega
 simp [atI,ixN,this]
theorem d8s {α:Type} (x y z:α) (xs:List α):atI (x :: y :: z :: xs) 2 = some z:=by
 have:(2:Int) < (xs.length:Int) + 1 + 1 + 1:=by omega
 simp [atI,ixN,this]
theorem d8t {α:Type} (x y z u:α) (xs:List α):atI (x :: y :: z :: u :: xs) 3 = some u:=by
 have:(3:Int) < (xs.length:Int) + 1 + 1 + 1 + 1:=by omega
 simp [atI,ixN,this]
theorem d8u {α:Type} (x y z u v:α) (xs:List α):atI (x :: y :: z :: u :: v :: xs) 4 = some v:=by
 have:(4:Int) < (xs.length:Int) + 1 + 1 + 1 + 1 + 1:=by omega
 simp [atI,ixN,this]
theorem d8v {α:Type} (x y z u v w:α) (xs:List α):atI (x :: y :: z :: u :: v :: w :: xs) 5 = some w:=by
 have:(5:Int) < (xs.length:Int) + 1 + 1 + 1 + 1 + 1 + 1:=by omega
 simp [atI,ixN,this]
theorem b0V {α:Type} {xs:List α} {i:Int} (h0:0 ≤ i) (h1:i < xs.length):atI xs i = xs[i.toNat]?:=by
 unfold atI ixN
 rw [if_pos h0,if_pos h1]
 rfl
theorem b29 {lo:Int} {n:Nat} {d:c9} (h:d ∈ rng lo n):∃ i,d = .int i ∧ lo ≤ i ∧ i < lo + n:=by
 unfold rng at h
 obtain ⟨k,hk,rfl⟩:=e9.mp h
 rw [a3u] at hk
 exact ⟨_,rfl,by omega,by omega⟩
theorem a8I {lo:Int} {n:Nat}:(rng lo n).length = n:=by simp [rng]
theorem d14 {α:Type} {lo:Int} {n:Nat} (f:c9 → α):(rng lo n).map f = (a1p n).map fun (i:Nat)=>f (.int (lo + (i:Int))):=by simp [rng]
/-- a comprehension of truths -/
theorem d5G {vs:List Nat} {g:ATg} {a:AEx} {P:RV → List AV → Prop} {ρ:List AV} (st:c9 → List AV) (f:c9 → Bool) (ds:List c9)
  (h1:∀ d ∈ ds,∀ k,k (st d) → g d ρ k) (h2:∀ d ∈ ds,a3s (st d) vs = ρ) (h4:∀ d ∈ ds,∀ k,k (.dat (.bool (f d))) (st d) → a (st d) X0 k) (hz:ds.length ≤ 1000)
  (h:P (.own (.ml none ((ds.map f).map a0M))) ρ):c6x vs g b9R a P ds [] ρ :=
 c2l st (fun d=>.bool (f d)) ds [] h1 h2 h4 (by simp [m8]; omega) (by
  have e:(ds.map fun d=>a0M (f d)) = (ds.map f).map a0M:=by simp
  rw [a0L,e]
  exact h)
theorem b3H (i:Int):a0g (.int i) = true:=rfl
theorem a9w (i:Bool):a0g (.bool i) = true:=rfl
theorem a9x:a0g .none = true:=rfl
section
open PySem.Spec PyProof.Rows
variable {K:b0}
/-- the law itself: its function object as it stands -/
theorem okLaw {P:a2x} {w:i3} {mg:Str → Option f8} {base:b9M} {k:Nat} {x:Str} {st:Stmt} {f:t5} {fd:n6} {N ps:List Str} {c:Ct} {t:TS} {a:ASt} (F:FnP K x st f fd) (S:w6 N ps (e8 st))
  (hl:∀ ρ P PX,c ρ P PX → ρ.length = ps.length) (hs:∀ W,SS K W t a) (hp:∀ ρ P PX,c ρ P PX → a { nx:=fun ρ'=>P (.dat .none) ρ',rt:=P,ex:=PX } (ρ ++ f7 (N.length - ρ.length) .un))
  (hd:∀ (cdv:f8) (A:b9L) (outer:List Env) (s:a0h) (H:Hp) (E:XK),Room k (A.deeper (envOfC x (e8 st) s.heap.objs.size f cdv)) → PSs (cxOf CX0 P w K mg base N x (e8 st) f cdv A outer s H E).nox (v7 st) t):FnOk P w K mg base CX0 (k + 1) f fd ps (spOf K c) :=
 F.ok S (fun vs H Q E h=>b2l hl h) fun cdv A outer s H vs Q E hr h=>⟨t,PSs.nox (hd cdv A outer s H E hr),c2d h (hs _) hp⟩
/-- how a law is called: all is frozen, the script is there -/
theorem law_start {H:Hp} {a:t5} {ns:List Int} {c:Ct} (h:SqL K H a (ns.map V.int)) (hc:∀ (P:RV → List AV → Prop) (PX:PXT),(∀ ρ',P (.dat (.bool true)) ρ') → c [.scr ns] P PX):spOf K c [.ref a] H (fun v _=>v = .bl true) fun _ _ _=>False:=by
 refine ⟨H,[],[.scr ns],fun r _=>r = .dat (.bool true),fun _ _ _=>False,?_,hc _ _ fun _=>rfl,?_,fun _ _ _ _ _ _ _ _ _ h=>h⟩
 ·refine ⟨rfl,.refl _,.refl _,fun b o h _=>h,fun b o h=>⟨o,h⟩,fun b o h1 h2=>?_,fun l hl=>by simp at hl,fun _ _ e=>e,fun i x e=>?_,fun i j l _ h1 _=>?_⟩
  ·have h1':H b = some o:=h1
   have h2':H b = none:=h2
   rw [h1'] at h2'
   cases h2'
  ·match i,e with
   | 0,e =>
    cases e
    exact ⟨_,rfl,a,rfl,h⟩
   | i + 1,e=>simp at e
  ·obtain ⟨x,e,m⟩:=h1
   match i,e with
   | 0,e =>
    cases e
    cases m.mut
   | i + 1,e=>simp at e
 ·intro v F' H' σ' ρ' r _ ho hr
  subst hr
  cases ho
  rfl
end
end Aq
set_option maxHeartbeats 3200000
namespace AqH
open PySem PySem.Spec PyProof.Rows L2
section
variable {X:Cx}
/-- the block's context bears the handled exception -/
theorem d7o {p:t5 × Obj} {pins:List (t5 × Obj)} {σ τ:a2W} {H:Hp} {s t:a0h} {scope:Scope} {ce:Env} {fp:List t5} (J:Inv X pins σ H s) (hp:p ∈ X.pn) (hstk:∀ b,b ∈ frs X.stack → b ∈ X.env.locals :: X.fs) (hce:s.heap.objs.size ≤ ce.locals)
  (I:Inv (X.blk s H scope ce fp) [] τ H t) (hk:∀ b o,s.heap.get? b = some o → t.heap.get? b = some o):Inv (X.blk s H scope ce fp) [p] τ H t:=by
 obtain ⟨g,n,nl,nf,nc⟩:=J.pin p (a0E _ hp)
 refine ⟨I.ok,I.os,I.bare,I.base,I.loc,I.cell,I.free,I.freeC,fun q hq=>?_,I.hok,I.len⟩
 have eq:q = p:=by simpa using (show q ∈ ([]:List (t5 × Obj)) ++ [p] from hq)
 subst eq
 refine ⟨hk _ _ g,n,fun z=>?_,fun z=>?_,nc⟩
 ·have:=a66 g
  rw [z] at this
  exact absurd this (Nat.not_lt.mpr hce)
 ·rcases o9.mp (hstk _ z) with y | y
  ·exact nl y
  ·exact nf y
theorem d9S {pins:List (t5 × Obj)} {s:a0h} {σ:a2W} {H:Hp} {Q:VK} {elt tg iter:Expr} {ifs:List Expr} {scope:Scope} {own:List (Str × Nat)} {pos pos':Pos} {wi:TI} {g:TG} {tt:TT} {te:TE} {use:Option (f8 → Sem Unit)} {Z:f8 → a0h → Prop}
  (hot:L2H.HotC X) (nd:X.N.Nodup) (I:Inv X pins σ H s) (hi:L2H.PIH X tg iter wi) (ok:BlkOk X.N X.env.scope scope own)
  (G:∀ (s:a0h) (H:Hp) (C:t5) (cl:List (Str × t5)) (fp:List t5),PG (X.blk s H scope (b8H scope cl C X.env) fp) tg g)
  (T1:∀ (s:a0h) (H:Hp) (C:t5) (cl:List (Str × t5)) (fp:List t5),PTs (X.blk s H scope (b8H scope cl C X.env) fp) ifs tt)
  (E1:∀ (s:a0h) (H:Hp) (C:t5) (cl:List (Str × t5)) (fp:List t5),PE (X.blk s H scope (b8H scope cl C X.env) fp) elt te)
  (fold:∀ x,foldedSetIterable iter X.env x = pure x) (h:tLc wi g tt te (own.map (·.2)) σ H Q)
  (last:∀ D C s' m H',Inv X pins σ H' s' → Q (.ref D) H' → s'.heap.Ns C m → FpOk X pins H' C → compPost (a6J X.prog X.w) X.A X.xe use Z (.ref D) C (.ok .next) s') :
  a32 (a6J X.prog X.w) X.A (comprehension (.ListComp elt [⟨tg,iter,ifs,0⟩] scope pos) scope X.env pos' (newList []) false (d3p iter X.env) use) Z X.xe s:=by
 obtain ⟨p,hot1,hpn⟩:=hot
 have lent:∀ y ∈ scope.names,y.2 = .free → ∃ c,X.env.cells.lookup y.1 = some c:=fun y hy e=>by
  rcases ok.free y hy e with k | k
  ·exact I.ok.has _ (.inl k)
  ·exact I.ok.has _ (.inr k)
 refine wpAny_comprehension_free (use:=use) rfl fold (closure_ok lent) ok.kind (fun y hy e=>by rw [ok.uniq y hy,e])
  (thn (hi.run pins s σ H _ I h) fun xv s1 hx=>thn hx fun itv s2 h2=>?_)
 obtain ⟨it,fp,tn,J,H2,ei,I2,T,st2,f2,q⟩:=h2
 subst ei
 refine wpAny_newObj_type (newEnv_comp ?_) (by show 0 ≤ m8; decide)
 generalize hD:s2.heap.objs.size = D
 have freshD:H2 D = none:=I2.hok.fresh (c72 hD)
 obtain ⟨W,⟨m0,w0⟩,turn⟩:=q D freshD
 generalize hs3:({ s2 with heap:=s2.heap.push { cls:=.type "list",data:=.seq ([]:List f8).toArray } }:a0h) = s3
 have h3:s3.heap = s2.heap.push { cls:=.type "list",data:=.seq ([]:List f8).toArray }:=by rw [← hs3]
 have I3:Inv X pins σ (upd H2 D (.lst [])) s3:=by
  rw [← hs3]
  refine I2.laid (t':=s2.toks) (fun b o z=>r8 _ z) (c72 hD) ⟨a5b _,[],0,.nil,?_⟩
  rw [← hD]
  exact a1a _ rfl
 have under:∀ b ∈ fp,b < s2.heap.objs.size:=fun b hb=>by
  obtain ⟨o,z,_⟩:=T.obj _ _ st2 b hb
  exact a66 z
 have f3:∀ b ∈ fp,FpOk X pins (upd H2 D (.lst [])) b ∧ b < s3.heap.objs.size:=fun b hb=>by
  refine ⟨⟨?_,(f2 b hb).2⟩,by rw [h3,a63]; exact b1z (under b hb)⟩
  rw [a1P (by rw [← hD]; exact a67 (under b hb))]
  exact (f2 b hb).1
 have st3:tn 0 s3.heap:=T.keep _ _ _ st2 fun b _ o z=>by rw [h3]; exact r8 _ z
 have kc:∀ b o,s3.heap.get? b = some o → (pushCells (s3.heap.push { cls:=.type "dict",data:=.dict #[] }) scope.names).get? b = some o:=fun b o z=>pushCells_keeps _ _ _ _ (r8 _ z)
 have B0:=block_start I3 ok nd f3
 have B4:=d7o I3 hpn (fun b hb=>I3.stkSub b hb) (a1i _) B0 kc
 have pg:=G s3 (upd H2 D (.lst [])) s3.heap.objs.size (c3O (s3.heap.objs.size + 1) scope.names (cloFrom X.env.cells scope.names [])) fp
 have pt:=T1 s3 (upd H2 D (.lst [])) s3.heap.objs.size (c3O (s3.heap.objs.size + 1) scope.names (cloFrom X.env.cells scope.names [])) fp
 have pe:=E1 s3 (upd H2 D (.lst [])) s3.heap.objs.size (c3O (s3.heap.objs.size + 1) scope.names (cloFrom X.env.cells scope.names [])) fp
 show codeAny _ _ (.compStart (.ListComp elt [⟨tg,iter,ifs,0⟩] scope pos) 0 (.ref it) (.ref D) (b8H scope (c3O (s3.heap.objs.size + 1) scope.names (cloFrom X.env.cells scope.names [])) s3.heap.objs.size X.env)) (compPost (a6J X.prog X.w) X.A X.xe use Z (.ref D) s3.heap.objs.size) { s3 with heap:=pushCells (s3.heap.push { cls:=.type "dict",data:=.dict #[] }) scope.names }
 have nofp:∀ b ∈ fp,(upd H2 D (.lst [])) b = none:=fun b hb=>(f3 b hb).1.1
 have apart:∀ b ∈ fp,p.1 ≠ b:=fun b hb=>(f3 b hb).1.2.2.2.2.2 p (a0E _ hpn)
 generalize hce:b8H scope (c3O (s3.heap.objs.size + 1) scope.names (cloFrom X.env.cells scope.names [])) s3.heap.objs.size X.env = ce at B4 pg pt pe ⊢
 have cL:ce.locals = s3.heap.objs.size:=by subst hce; rfl
 generalize hH3:upd H2 D (.lst []) = H3 at I3 B4 pg pt pe w0 nofp f3
 generalize hs4:({ s3 with heap:=pushCells (s3.heap.push { cls:=.type "dict",data:=.dict #[] }) scope.names }:a0h) = s4 at B4 ⊢
 have st4:tn 0 s4.heap:=T.keep _ _ _ st3 fun b _ o z=>by rw [← hs4]; exact kc b o z
 -- the same with the exception among what is borne
 have up:∀ {τ:a2W} {H':Hp} {t:a0h},Inv (X.blk s3 H3 scope ce fp) [p] τ H' t → Inv ((X.blk s3 H3 scope ce fp).tr [p] fun _ _=>False) [] τ H' t:=fun {τ H' t} z=>z.toTry _
 have dn:∀ {τ:a2W} {H':Hp} {t:a0h},Inv ((X.blk s3 H3 scope ce fp).tr [p] fun _ _=>False) [] τ H' t → Inv (X.blk s3 H3 scope ce fp) [p] τ H' t:=fun {τ H' t} z=>⟨B4.ok,z.os,z.bare,z.base,z.loc,z.cell,z.free,z.freeC,fun q hq=>z.pin q (by simpa using hq),z.hok,z.len⟩
 have hc:L2H.HotC ((X.blk s3 H3 scope ce fp).tr [p] fun _ _=>False):=⟨p,hot1,n3 p⟩
 have stat:∀ {τ:a2W} {H':Hp} {t:a0h},Inv ((X.blk s3 H3 scope ce fp).tr [p] fun _ _=>False) [] τ H' t → (∀ b ∈ fp,H' b = none) → ∀ b ∈ fp,FpOk ((X.blk s3 H3 scope ce fp).tr [p] fun _ _=>False) [] H' b:=fun {τ H' t} z hn b hb =>
  ⟨hn b hb,(z.ok.exf b hb).1,z.ok.exfs b hb,.inl hb,fun x c e=>(z.ok.exf b hb).2 x c e,fun q hq=>by
   have eq:q = p:=by simpa using (show q ∈ [p] ++ ([]:List (t5 × Obj)) from hq)
   rw [eq]; exact apart b hb⟩
 have loop:codeAny (a6J X.prog X.w) X.A (.compLoop (.ListComp elt [⟨tg,iter,ifs,0⟩] scope pos) 0 (.ref it) (.ref D) ce) (compPost (a6J X.prog X.w) X.A X.xe use Z (.ref D) s3.heap.objs.size) s4:=by
  refine compLoop_any (fun n t=>∃ i H',Inv (X.blk s3 H3 scope ce fp) [p] (d5o σ (own.map (·.2))) H' t ∧ tn i t.heap ∧ (∀ b ∈ fp,H' b = none) ∧ W i n H') ?_ m0 ⟨0,H3,B4,st4,nofp,w0⟩
  rintro n s5 ⟨i,H5,I5,st5,n5,w5⟩
  rcases turn i n H5 w5 with ⟨stop,qq⟩ | ⟨go,Nx,hNx,step⟩
  ·refine thnF (T.done ((X.blk s3 H3 scope ce fp).tr [p] fun _ _=>False) rfl rfl rfl hc i [] s5 _ H5 (fun _ _=>False) (up I5) (stat (up I5) n5) st5 stop) fun r s6 ⟨hr,I6'⟩=>?_
   have I6:=dn I6'
   subst hr
   have I7:Inv X pins σ H5 s6:=I3.call' (ch:=fp) I6.os I6.base I6.hok I6.bare fun b hb=>⟨(f3 b hb).1.2.2.2.1,(f3 b hb).1.2.1,(f3 b hb).1.2.2.2.2.1,(f3 b hb).1.2.2.2.2.2⟩
   have nC:H5 s3.heap.objs.size = none:=by rw [← cL]; exact I6.free
   obtain ⟨m,hn,_⟩:=I6.loc
   have hn:s6.heap.Ns ce.locals m:=hn
   rw [cL] at hn
   exact last D s3.heap.objs.size s6 m H5 I7 qq hn (I3.fpOk (a1i _) nC)
  ·refine thnF (T.item ((X.blk s3 H3 scope ce fp).tr [p] fun _ _=>False) rfl rfl rfl hc i [] s5 _ H5 (fun _ _=>False) (up I5) (stat (up I5) n5) st5 go) fun r s6 ⟨u,hr,h6⟩=>?_
   subst hr
   refine thnF h6 fun _ s7 ⟨x,H7,I7',r7,y7,st7,n7⟩=>?_
   have I7:=dn I7'
   have sB:∀ b ∈ fp,FpOk (X.blk s3 H3 scope ce fp) [p] H7 b:=fun b hb=>by
    obtain ⟨a1,a2,a3,a4,a5,a6⟩:=stat I7' n7 b hb
    exact ⟨a1,a2,a3,a4,a5,fun q hq=>a6 q (by simpa using hq)⟩
   have P7:=I7.pinned sB (T.obj _ _ st7)
   refine thnF (pg.run _ s7 _ H7 x u _ P7 r7 (step x H7 y7)) fun _ s8 ⟨σ8,H8,I8,hw8,q8⟩=>?_
   refine thnF (pt.run _ s8 σ8 H8 _ I8 q8) fun b s9 ⟨H9,I9,q9⟩=>?_
   have fin:∀ {t:a0h} {H':Hp},Inv (X.blk s3 H3 scope ce fp) ([p] ++ pinsAt fp s7.heap) σ8 H' t → Nx H' → ∃ m,m < n ∧ ∃ i H',Inv (X.blk s3 H3 scope ce fp) [p] (d5o σ (own.map (·.2))) H' t ∧ tn i t.heap ∧ (∀ b ∈ fp,H' b = none) ∧ W i m H':=fun {t H'} I' nx=>by
    obtain ⟨m',hm,w'⟩:=hNx H' nx
    have pin':∀ b ∈ fp,∀ o,s7.heap.get? b = some o → t.heap.get? b = some o ∧ H' b = none:=fun b hb o e =>
     let z:=I'.pin (b,o) (a2K _ (a2K _ (mem_pinsAt hb e)))
     ⟨z.1,z.2.1⟩
    have hl:(d5o σ (own.map (·.2))).length = σ8.length:=by rw [← hw8,a5d]
    refine ⟨m',hm,i + 1,H',(I'.unpinned (pins:=[p])).weak hl (fun j v e=>?_),T.keep _ _ _ st7 fun b hb o e=>(pin' b hb o e).1,fun b hb=>?_,w'⟩
    ·rw [← hw8] at e
     exact (wipe_some e).1
    ·obtain ⟨o,e,_⟩:=T.obj _ _ st7 b hb
     exact (pin' b hb o e).2
   cases b with
   | false=>exact fin I9 (by simpa using q9)
   | true =>
    simp only [if_true] at q9 ⊢
    refine thnF (pe.run _ s9 σ8 H9 _ I9 q9) fun z s10 ⟨yv,H10,I10,r10,acc,hD10,hz10,nx⟩=>?_
    exact app_ok (X:=X.blk s3 H3 scope ce fp) I10 hD10 hz10 r10 fun s11 I11=>fin I11 nx
 exact codeAny_compStart_list loop (T.self X.A 0 _ _ _ st4 loop)
/-- a comprehension over a range, while an exception is handled -/
theorem pe_lcH {elt tg iter:Expr} {ifs:List Expr} {scope:Scope} {own:List (Str × Nat)} {pos:Pos} {wi:TI} {g:TG} {tt:TT} {te:TE} (hot:L2H.HotC X) (nd:X.N.Nodup) (hi:L2H.PIH X tg iter wi) (ok:BlkOk X.N X.env.scope scope own)
  (G:∀ (s:a0h) (H:Hp) (C:t5) (cl:List (Str × t5)) (fp:List t5),PG (X.blk s H scope (b8H scope cl C X.env) fp) tg g)
  (T1:∀ (s:a0h) (H:Hp) (C:t5) (cl:List (Str × t5)) (fp:List t5),PTs (X.blk s H scope (b8H scope cl C X.env) fp) ifs tt)
  (E1:∀ (s:a0h) (H:Hp) (C:t5) (cl:List (Str × t5)) (fp:List t5),PE (X.blk s H scope (b8H scope cl C X.env) fp) elt te) (fold:∀ x,foldedSetIterable iter X.env x = pure x:=by intro _; rfl) :
  PE X (.ListComp elt [⟨tg,iter,ifs,0⟩] scope pos) (tLc wi g tt te (own.map (·.2))):=by
 refine ⟨fun pins s σ H Q I h=>?_⟩
 rw [eval_ListComp]
 refine d9S hot nd I hi ok G T1 E1 fold h fun D C s' m H' I' q hn f=>⟨m,hn,fun h'' sb=>?_⟩
 obtain ⟨f0,f1,f2,f3,f4,f5⟩:=f
 exact ⟨.ref D,H',I'.turned (t':=s'.toks) (fun b o hb e=>(sb.2 b hb).trans e) f0 f1 f3 f4 f5,rfl,q⟩
end
end AqH
namespace Aq
open PySem PySem.Spec PyProof.Rows L2
section
variable {K:b0} {W:WX} {C:C0} {F F' H H':Hp} {σ σ':a2W} {ρ ρ':List AV}
/-- a name is given just this value -/
theorem Rep.setO {i:Nat} {v:V} (R:Rep K C F H σ ρ):Rep K C F H (σ.set i (some v)) (ρ.set i (.opq v)):=by
 refine ⟨by rw [p8,p8]; exact R.len,R.sub,R.gr,R.keep,R.there,R.nw,R.mf,R.tp,fun j b e=>?_,fun j k l' hne h1 h2=>?_⟩
 ·by_cases hj:i = j
  ·subst hj
   by_cases hi:i < ρ.length
   ·rw [m5 hi] at e
    cases e
    exact ⟨some v,by rw [m5 (by rw [R.len]; exact hi)],rfl⟩
   ·rw [t6 (by rw [p8]; omega)] at e; cases e
  ·rw [k8 hj] at e
   obtain ⟨o,eo,hs⟩:=R.slot j b e
   exact ⟨o,by rw [k8 hj]; exact eo,hs⟩
 ·have back:∀ n l',a2o (σ.set i (some v)) (ρ.set i (.opq v)) n l' → a2o σ ρ n l':=fun n l' ⟨b,e,f⟩=>by
   by_cases hn:i = n
   ·subst hn
    by_cases hi:i < ρ.length
    ·rw [m5 hi] at e; cases e; cases f.mut
    ·rw [t6 (by rw [p8]; omega)] at e; cases e
   ·rw [k8 hn] at e f; exact ⟨b,e,f⟩
  exact R.apart j k l' hne (back j l' h1) (back k l' h2)
theorem Slot.F0 {G:Hp} {a:AV} {o:Option V} (h:Slot K C F H a o):Slot K { C with F0:=G } F H a o:=by
 cases a <;> exact h
/-- what is frozen now is taken for what was at the entry -/
theorem Rep.from (R:Rep K C F H σ ρ):Rep K { C with F0:=F } F H σ ρ :=
 ⟨R.len,R.sub,.refl _,R.keep,R.there,fun _ _ _ n=>n,fun l hl=>⟨by obtain ⟨h1,o,h2⟩:=R.mf l hl; exact R.nw l o h2 h1,(R.mf l hl).2⟩,R.tp,fun i a e=>by
  obtain ⟨o,eo,hs⟩:=R.slot i a e
  exact ⟨o,eo,hs.F0⟩,R.apart⟩
theorem Rep.back (R:Rep K C F H σ ρ) (R':Rep K { C with F0:=F } F' H' σ' ρ'):Rep K C F' H' σ' ρ' :=
 ⟨R'.len,R'.sub,R.gr.trans R'.gr,R'.keep,R'.there,fun b o e n=>R'.nw b o e (R.nw b o e n),R.mf,R'.tp,fun i a e=>by
  obtain ⟨o,eo,hs⟩:=R'.slot i a e
  exact ⟨o,eo,by cases a <;> exact hs⟩,R'.apart⟩
theorem a6P.back {v:V} {r:RV} (h:a6P K { C with F0:=F } F' H' σ' ρ' v r):a6P K C F' H' σ' ρ' v r:=by
 cases r with
 | dat d=>exact h
 | bor i=>exact h
 | own a=>obtain ⟨l,e,m,hs,r⟩:=h; exact ⟨l,e,m,by cases a <;> exact hs,r⟩
 | tupO ds d=>exact h
/-- raise of an own class made with a text -/
def d2n (W:WX) (cls:f8):TS:=fun _ σ H=>W cls none σ H
def c8y (cls:f8):ASt:=fun D ρ=>D.ex cls none ρ
theorem c8C {cls:f8}:SS K W (d2n W cls) (c8y cls):=fun C D ρ F H σ D' R h xs _ _ _ _=>xs F H σ ρ cls none none R rfl h
/-- nothing is promised of it -/
def tNo:TS:=fun _ _ _=>False
def sNo:ASt:=fun _ _=>False
theorem a8p:SS K W tNo sNo:=fun C D ρ F H σ D' R h _ _ _ _ _=>h.elim
/-- try: .. except .. as e: all that is raised is caught -/
def sTry (ev:Str → f8) (ns:List Str) (i:Nat) (b:ASt) (su:t5 → Str → ASt):ASt:=fun D ρ=>b { D with ex:=fun cls p ρ'=>∃ x,x ∈ ns ∧ cls = ev x ∧ p = none ∧ ∀ a,su a x { D with nx:=fun ρ2=>D.nx (ρ2.set i .un),bk:=fun ρ2=>D.bk (ρ2.set i .un),ct:=fun ρ2=>D.ct (ρ2.set i .un),ex:=X0 } (ρ'.set i (.opq (.ref a))) } ρ
def tTry (K:b0) (c:f8) (i:Nat) (tb:WX → TS) (ts:t5 → f8 → Option t5 → TS) (Wout:WX):TS:=fun D σ H=>tb (wAs K c i ts Wout D) D σ H
theorem e0a {Wout:WX} {ev:Str → f8} {ns:List Str} {c:f8} {i:Nat} {tb:WX → TS} {ts:t5 → f8 → Option t5 → TS} {b:ASt} {su:t5 → Str → ASt} (hb:∀ W,SS K W (tb W) b) (hm:∀ x ∈ ns,b0I K (ev x) c = some true) (hs:∀ a x,x ∈ ns → SS K W0 (ts a (ev x) none) (su a x)) :
  SS K W (tTry K c i tb ts Wout) (sTry ev ns i b su):=fun C D ρ F H σ D' R h xs n bk ct rt=>by
 refine hb _ { C with F0:=F } _ ρ F H σ D' R.from h (fun F1 H1 σ1 ρ1 cls p d R1 x1 q1=>?_) (fun F1 H1 σ1 ρ1 R1 s1 p1=>n F1 H1 σ1 ρ1 (R.back R1) s1 p1) (fun F1 H1 σ1 ρ1 R1 s1 p1=>bk F1 H1 σ1 ρ1 (R.back R1) s1 p1) (fun F1 H1 σ1 ρ1 R1 s1 p1=>ct F1 H1 σ1 ρ1 (R.back R1) s1 p1)
  fun v F1 H1 σ1 ρ1 r R1 s1 o1 p1=>rt v F1 H1 σ1 ρ1 r (R.back R1) s1 o1.back p1
 obtain ⟨x,hx,e,ep,q⟩:=q1
 subst e
 subst ep
 have ed:d = none:=x1
 subst ed
 refine ⟨true,hm x hx,fun _ a ha=>?_,fun z=>by cases z⟩
 have g:=R1.gr
 have R2:Rep K C F1 H1 (σ1.set i (some (.ref a))) (ρ1.set i (.opq (.ref a))):=(R.back R1).setO
 exact hs a x hx C _ _ F1 H1 _ _ R2 (q a) xs0 (fun F3 H3 σ3 ρ3 R3 s3 p3=>n F3 H3 _ _ R3.forget (g.trans s3) p3) (fun F3 H3 σ3 ρ3 R3 s3 p3=>bk F3 H3 _ _ R3.forget (g.trans s3) p3) (fun F3 H3 σ3 ρ3 R3 s3 p3=>ct F3 H3 _ _ R3.forget (g.trans s3) p3)
  fun v F3 H3 σ3 ρ3 r R3 s3 o3 p3=>rt v F3 H3 σ3 ρ3 r R3 (g.trans s3) o3 p3
/-- isinstance(e, C) of an exception in a slot -/
def c44 (i:Nat) (v:V) (b:Bool):TE:=fun σ H Q=>σ[i]? = some (some v) ∧ Q (.bl b) H
def c3X (i:Nat) (v:V) (b:Bool):AEx:=fun ρ _ P=>ρ[i]? = some (.opq v) ∧ P (.dat (.bool b)) ρ
theorem a5X {i:Nat} {v:V} {b:Bool}:ES K W (c44 i v b) (c3X i v b):=fun C ρ PX P F H σ Q R h _ k=>by
 obtain ⟨o,eo,hs⟩:=R.slot i _ h.1
 have:o = some v:=hs
 subst this
 exact ⟨eo,k (.bl b) F H (.dat (.bool b)) ρ R (.refl _) (.bl b) h.2⟩
end
section
variable {X:Cx}
theorem d7n {e:Expr} {t u:TE} (h:PE X e t) (k:∀ σ H Q,u σ H Q → t σ H Q):PE X e u:=⟨fun pins s σ H Q I q=>h.run pins s σ H Q I (k σ H Q q)⟩
theorem d3Q {a D:t5} {oe:Obj} (hp:(a,oe) ∈ X.pn) (C:ExcC X.K D) (hz:Zc (.ref D) none oe) (hf:∃ vs,oe.data = .fields vs):d8N X (.builtin "isinstance") (rIsE X.K D a):=by
 intro pins s σ H xs us Q I r h
 obtain ⟨c,cv,b,rfl,hcv,e,q⟩:=h
 cases r with
 | cons rx rr =>
  cases rr with
  | cons rt rr =>
   cases rr
   cases rx
   have ec:=hcv _ rt
   subst ec
   have hget:=(I.pin (a,oe) (a0E _ hp)).1
   obtain ⟨vs,hv⟩:=hf
   have J:PySem.W.InstAt s.heap a oe D none:=by
    obtain ⟨oc,od,oda,osl⟩:=oe
    obtain ⟨h1,h2⟩:=hz
    dsimp only at h1 h2 hv
    subst h1 h2 hv
    exact ⟨hget,rfl,rfl,trivial⟩
   exact PySem.W.kia_one (PySem.W.handS_kitx_exc C.hg C.hk C.hs C.hd C.ha C.hn C.ht C.hm) I.kIn J e (fun z=>nomatch z) fun tk=>⟨.bl b,H,I.kept (t':=tk) fun _ _ z=>z,rfl,q⟩
theorem a50 {i:Nat} {a D:t5} {oe:Obj} {e f:Expr} {c:V} {cv:f8} {b:Bool} {p pos:Pos} (hp:(a,oe) ∈ X.pn) (C:ExcC X.K D) (hz:Zc (.ref D) none oe) (hf:∃ vs,oe.data = .fields vs) (hk:a64 X.K (.ref D) cv = some b) (hc:∀ u,RelV c u → u = cv)
  (he:PE X e (g9 i)) (hF:PE X f (tC c)) (hg:Gl X "isinstance") (hm:X.mg "isinstance" = none)
  (he1:z7 [e,f] X.env = (false,d3p e X.env) :: z7 [f] X.env:=by rfl) (he2:z7 [f] X.env = (false,d3p f X.env) :: z7 [] X.env:=by rfl) (hpl:(d03 pos (z7 [f] X.env)).any (·.1) = false:=by rfl) :
  PE X (.Call (.Name "isinstance" p) [e,f] [] pos) (c44 i (.ref a) b) :=
 d7n (a0f (d3Q hp C hz hf) hg hm (by decide +kernel) (c6 he (c6 hF d8 he2) he1) (by decide) (by decide) he1 hpl) fun σ H Q h=>⟨_,h.1,c,cv,b,rfl,hc,hk,h.2⟩
end
end Aq
namespace Aq
open PySem PySem.Spec PyProof.Rows L2
def b4x (v:V) (z:Str):Ct:=fun ρ P _=>ρ = [.opq v] ∧ ∀ ρ',P (.dat (.str z)) ρ'
theorem c8j {v:V} {z:Str} (ρ:List AV) (P:RV → List AV → Prop) (PX:PXT) (h:b4x v z ρ P PX):ρ.length = 1:=by rw [h.1]; rfl
/-- class D of an own exception, told z -/
structure FnE (P:a2x) (w:i3) (K:b0) (mg:Str → Option f8) (base:b9M) (n:Nat) (x:Str) (ps:List Str) (T:t5 → Str → Prop):Prop where
 ex:∃ f fd,mg x = some (.ref f) ∧ a2h K (.ref f) = true ∧ Binds K fd ps [] ∧
  ∀ (A:b9L) (outer:List Env) (s:a0h) (H:Hp) (args:Args) (us:List f8) (vs:List V) (Q:VK) (p:t5 × Obj) (D:t5) (z:Str),L2H.RoomH n A → L2H.Hot1 A p → L2H.PinOk outer H s p → Zc (.ref D) none p.2 → T D z →
   Env0 P w K mg base A outer s H → BindsTo s fd args (ps.zip us) → Vals vs us → spOf K (b4x (.ref p.1) z) vs H Q E0 → codeAny (a6J P w) A (.call (.ref f) args) (CR CX0 outer P w H s Q E0) s
section
variable {P:a2x} {w:i3} {K:b0} {mg:Str → Option f8} {base:b9M}
theorem FnE.mk0 {k:Nat} {x:Str} {st:Stmt} {f:t5} {fd:n6} {N:List Str} {y:Str} {T:t5 → Str → Prop} {B:t5 → Str → Bool} {t:V → (Str → Bool) → TS} {a:V → (Str → Bool) → ASt} (F:FnP K x st f fd) (S:w6 N [y] (e8 st)) (gm:mg x = some (.ref f)) (gb:Binds K fd [y] [])
  (hs:∀ W v bs,SS K W (t v bs) (a v bs)) (hp:∀ D v z,T D z → ∀ ρ P PX,b4x v z ρ P PX → a v (B D) { nx:=fun ρ'=>P (.dat .none) ρ',rt:=P,ex:=PX } (ρ ++ f7 (N.length - ρ.length) .un))
  (hd:∀ (cdv:f8) (A:b9L) (outer:List Env) (s:a0h) (H:Hp) (p:t5 × Obj) (D:t5) (z:Str),T D z → L2H.Hot1 A p → Zc (.ref D) none p.2 → L2H.RoomH k (A.deeper (envOfC x (e8 st) s.heap.objs.size f cdv)) →
   PSs (L2H.cxH CX0 P w K mg base N x (e8 st) f cdv A outer s H E0 p) (v7 st) (t (.ref p.1) (B D))):FnE P w K mg base (k + 1) x [y] T:=by
 obtain ⟨oc,od,dV,kV,doc,pm,an,cdv,ct,osl,rfl,lk,hcd,_,_⟩:=F.ex
 refine ⟨f,_,gm,F.kp,gb,fun A outer s H args us vs Q p D z hr hot hpin hz hT e0 hb r hsp=>?_⟩
 have hl:vs.length = 1:=b2l c8j hsp
 have KX:K.In s.heap:=e0.mod.kin.keeps fun b o e=>(e0.bs b o e).1
 have lim:s.heap.NoLimit:=e0.mod.nolimit.keeps fun b o e=>(e0.bs b o e).1
 have kinds:∀ q ∈ [y].zip us,(e8 st).names.lookup q.1 = some .local ∨ ((e8 st).names.lookup q.1 = some .cell ∧ ((c3O (s.heap.objs.size + 1) (e8 st).names []).lookup q.1).isSome = true):=fun ⟨n,v⟩ hy=>by
  rcases S.par n (List.of_mem_zip hy).1 with q | q
  ·exact .inl q
  ·exact .inr ⟨q,PySem.W.cellsFrom_some _ _ _ (.inl q)⟩
 refine codeAny_call_function hr.depth (KX _ _ lk) rfl S.co S.gen rfl (PySem.W.codeRec_of KX hcd) (hb _ _ _ _ ?_)
 refine wpAny_newFunctionEnv_cells S.kind kinds fun env he s1 x1=>?_
 subst he
 refine ⟨lim.keeps x1.toInCall.keep,codeAny_func ?_⟩
 have D1:=hd cdv A outer s H p D z hT hot hz (hr.deeper _)
 have I:Inv (L2H.cxH CX0 P w K mg base N x (e8 st) f cdv A outer s H E0 p) [] (L2.start N vs) H s1:=L2H.inv_startH S hpin e0 hl r x1
 have B1:=c2d (N:=N) hsp (hs (fun _ _ _ _=>False) (.ref p.1) (B D)) (fun ρ P PX h=>hp D (.ref p.1) z hT ρ P PX h)
 refine wpAny_mono (D1.run [] s1 (L2.start N vs) H _ I B1) (fun fl s' hs=>?_) fun e s' hs=>?_
 ·have fin:∀ {σ':a2W} {H':Hp} {v:V} {u:f8},Inv (L2H.cxH CX0 P w K mg base N x (e8 st) f cdv A outer s H E0 p) [] σ' H' s' → RelV v u → Q v H' → CE outer P w H s Q u s' :=
   fun {σ' H' v u} J rv q=>⟨v,H',J.os,J.bare,J.base,J.hok,rv,q⟩
  cases fl with
  | ret u =>
   obtain ⟨v,σ',H',J,rv,q⟩:=hs
   exact fin J rv q
  | next =>
   obtain ⟨σ',H',J,q⟩:=hs
   exact fin (v:=V.non) (u:=Value.none) J rfl q
  | brk =>
   obtain ⟨_,_,_,q⟩:=hs
   exact q.elim
  | cont =>
   obtain ⟨_,_,_,q⟩:=hs
   exact q.elim
 ·exact hs
/-- its call in the suite -/
theorem d7m {X:Cx} {n k:Nat} {x y:Str} {a D:t5} {oe:Obj} {pn:List (t5 × Obj)} {T:t5 → Str → Prop} {z:Str} {i:Nat} {e:Expr} {q pos:Pos} (G:FnE X.prog X.w X.K X.mg X.base n x [y] T) (hr:Room k X.A) (hnk:n ≤ k) (hz:L2N.Zn (.ref D) none oe) (hf:∃ vs,oe.data = .fields vs) (hT:T D z) (hg:Gl X x)
  (he:PE (X.suite a ((a,oe) :: pn)) e (g9 i)) (hdb:(x == ("__debug__" : Str)) = false:=by decide) (he1:z7 [e] X.env = (false,d3p e X.env) :: z7 [] X.env:=by rfl) (hpl:(d03 pos (z7 [] X.env)).any (·.1) = false:=by rfl) :
  PE (X.suite a ((a,oe) :: pn)) (.Call (.Name x q) [e] [] pos) (r6 (spOf X.K (b4x (.ref a) z)) [] E0 (d4 (g9 i) p7)):=by
 obtain ⟨f,fd,gm,kp,gb,run⟩:=G.ex
 refine ⟨fun pins s σ H Q I h=>?_⟩
 refine wpAny_Call_Name_kw (ld_glob I hg gm ?_ hdb)
 have pa:PA (X.suite a ((a,oe) :: pn)) [e] (d4 (g9 i) p7):=c6 he d8 he1
 refine PySem.W.callWith_K (h₀:=X.base) I.ok.mod.kin kp (thn (pa.run pos pins s σ H _ I h) fun us s1 ⟨vs,H1,I1,r,q⟩=>⟨I1.kIn,?_⟩) he1 hpl
 have q:spOf X.K (b4x (.ref a) z) (vs ++ []) H1 Q E0:=q
 rw [a01] at q
 have hl:us.length = [y].length:=by rw [← r.length]; exact b2l c8j q
 have b:=gb s1 us I1.kIn (by rw [a01]; exact hl)
 rw [a01] at b
 have P1:=I1.pin (a,oe) (a0E _ f9)
 have hpin:L2H.PinOk X.stack H1 s1 (a,oe):=⟨P1.1,P1.2.1,fun hm=>(o9.mp (I1.stkSub a hm)).elim P1.2.2.1 P1.2.2.2.1,P1.2.2.2.2⟩
 have hot:L2H.Hot1 (X.suite a ((a,oe) :: pn)).A (a,oe):=by
  obtain ⟨vs,hv⟩:=hf
  exact ⟨rfl,vs,hv,hz.2.2 vs hv⟩
 have rm:L2H.RoomH n (X.suite a ((a,oe) :: pn)).A:=⟨(hr.mono hnk).dp,(hr.mono hnk).un⟩
 refine wpAny_call (d8Y (run _ X.stack s1 H1 ⟨us,[]⟩ us vs Q (a,oe) D z rm hot hpin hz.zc hT I1.env0 b r q) fun r s' hq=>?_)
 cases r with
 | error e=>exact hq.elim
 | ok fl =>
  cases fl with
  | ret u=>exact I1.after hq
  | next=>exact False.elim hq
  | brk=>exact False.elim hq
  | cont=>exact False.elim hq
end
end Aq
namespace Aq
open PySem PySem.Spec PyProof.Rows L2
def dK:c9 → Option Key
 | .int i=>some (.inl i)
 | .str s=>some (.inr s)
 | _=>none
theorem d9e (k:Key):dK (kD k) = some k:=by cases k <;> rfl
theorem kD_dK {d:c9} {k:Key} (h:dK d = some k):d = kD k:=by
 cases d with
 | int i=>cases h; rfl
 | str s=>cases h; rfl
 | _=>cases h
section
variable {κ α:Type} [DecidableEq κ]
def c3F (es:List (κ × α)) (k:κ):Option α:=(es.find? fun e=>decide (e.1 = k)).map (·.2)
def d4o (es:List (κ × α)) (k:κ) (d:α):List (κ × α):=if (es.any fun e=>decide (e.1 = k)) = true then es.map (fun e=>if e.1 = k then (e.1,d) else e) else es ++ [(k,d)]
end
/-- the pairs with the keys as keys -/
def ukD:List (c9 × c9) → List (Key × c9)
 | []=>[]
 | (d,v) :: es=>(match dK d with
  | some k=>(k,v) :: ukD es
  | none=>ukD es)
def kdK (es:List (Key × c9)):List (c9 × c9):=es.map fun e=>(kD e.1,e.2)
section
variable {K:b0} {F H:Hp}
abbrev DrK (K:b0) (F:Hp):List (Key × V) → List (Key × c9) → Prop:=a3n fun p q=>p.1 = q.1 ∧ Dr K F p.2 q.2
theorem DrKV.uk:∀ {kvs:List (Key × V)} {es:List (c9 × c9)},DrKV K F kvs es → DrK K F kvs (ukD es) ∧ es = kdK (ukD es)
 | _,_,.nil=>⟨.nil,rfl⟩
 | _,_,.cons (k:=k) (d:=d) (ds:=ds) h t=>by
  obtain ⟨a,b⟩:=DrKV.uk t
  have e:ukD ((kD k,d) :: ds) = (k,d) :: ukD ds:=by
   show (match dK (kD k) with
    | some k=>(k,d) :: ukD ds
    | none=>ukD ds) = _
   rw [d9e]
  rw [e]
  exact ⟨.cons ⟨rfl,h⟩ a,by rw [kdK,j8,← kdK,← b]⟩
theorem DrKV.of:∀ {kvs:List (Key × V)} {es:List (Key × c9)},DrK K F kvs es → DrKV K F kvs (kdK es)
 | _,_,.nil=>.nil
 | _,_,.cons (a:=p) (b:=q) h t=>by
  obtain ⟨k,v⟩:=p
  obtain ⟨k',d⟩:=q
  obtain ⟨e,h⟩:=h
  cases e
  exact .cons h (DrKV.of t)
variable {κ:Type} [DecidableEq κ]
theorem c8F {kvs:List (κ × V)} {es:List (κ × c9)} {k:κ} (h:a3n (fun (p:κ × V) (q:κ × c9)=>p.1 = q.1 ∧ Dr K F p.2 q.2) kvs es):(valV kvs k = none ∧ c3F es k = none) ∨ ∃ v d,valV kvs k = some v ∧ c3F es k = some d ∧ Dr K F v d:=by
 induction h with
 | nil=>exact .inl ⟨rfl,rfl⟩
 | @cons p q kvs es r t ih =>
  by_cases e:p.1 = k
  ·refine .inr ⟨p.2,q.2,?_,?_,r.2⟩
   ·simp [valV,a30,e]
   ·have:q.1 = k:=r.1.symm.trans e
    simp [c3F,a30,this]
  ·have e2:¬ q.1 = k:=fun z=>e (r.1.trans z)
   have a1:valV (p :: kvs) k = valV kvs k:=by simp [valV,a30,e]
   have a2:c3F (q :: es) k = c3F es k:=by simp [c3F,a30,e2]
   rw [a1,a2]
   exact ih
theorem Lk.dict {v:V} {es:List (c9 × c9)} (s:a6j F H) (h:Lk K F H v (.dict es)):∃ l kvs,v = .ref l ∧ H l = some (.dK kvs) ∧ DrK K F kvs (ukD es):=by
 rcases h with h | ⟨l,xs,ds',e1,e2,h1,h2⟩ | ⟨l,kvs,es',e1,e2,h1,h2⟩
 ·cases h with
  | dic h1 h2=>exact ⟨_,_,rfl,s _ _ h1,h2.uk.1⟩
 ·cases e2
 ·cases e2
  exact ⟨l,kvs,e1,h1,h2.uk.1⟩
theorem Lk.key {v:V} {d:c9} {k:Key} (h:Lk K F H v d) (e:dK d = some k):v = kV k:=by
 cases d with
 | int i=>cases e; exact h.int
 | str i=>cases e; exact h.str
 | _=>cases e
end
section
variable {K:b0} {W:WX}
def aDNew:AEx:=fun ρ _ P=>P (.own (.mdk none [])) ρ
def kDG (P:RV → List AV → Prop) (ρ:List AV) (d k:c9):Prop:=match d,dK k with
 | .dict es,some k=>(match c3F (ukD es) k with
  | some v=>P (.dat v) ρ
  | none=>False)
 | _,_=>False
theorem d32 {P:RV → List AV → Prop} {ρ:List AV} {d k:c9} (h:kDG P ρ d k):∃ es kk v,d = .dict es ∧ dK k = some kk ∧ c3F (ukD es) kk = some v ∧ P (.dat v) ρ:=by
 unfold kDG at h
 split at h
 ·rename_i es kk ek
  split at h
  ·rename_i v ev
   exact ⟨es,kk,v,rfl,ek,ev,h⟩
  ·exact h.elim
 ·exact h.elim
def d6b (a b:AEx):AEx:=fun ρ PX P=>a ρ PX fun r1 ρ1=>b ρ1 PX fun r2 ρ2=>a0X (r1.hold.look ρ2) fun d=>a0X (r2.look ρ2) fun k=>kDG P ρ2 d k
theorem d6l {ta tb:TE} {a b:AEx} (ha:ES K W ta a) (hb:ES K W tb b):ES K W (tDGet ta tb) (d6b a b):=fun C ρ PX P F H σ Q R h xs k =>
 ha C ρ PX _ F H σ _ R h xs fun v F1 H1 r1 ρ1 R1 s1 o1 p1=>by
  obtain ⟨F2,R2,s2,o2,n2⟩:=a2R R1 o1
  refine hb C ρ1 PX _ F2 H1 σ _ R2 p1 xs fun u F3 H3 r2 ρ3 R3 s3 o3 p3=>?_
  obtain ⟨d,ed,p3⟩:=a0q p3
  obtain ⟨e,ee,p3⟩:=a0q p3
  have l1:=(o2.stay s3 R3 n2).lk R3 ed
  have l2:=o3.lk R3 ee
  obtain ⟨es,kk,v',rfl,ek,ev',p3⟩:=d32 p3
  obtain ⟨l,kvs,rfl,hl,dr⟩:=l1.dict R3.sub
  rw [l2.key ek]
  rcases c8F (k:=kk) dr with ⟨_,z⟩ | ⟨w,dd,z1,z2,hd⟩
  ·rw [z] at ev'; cases ev'
  ·rw [z2] at ev'
   cases ev'
   exact ⟨l,w,rfl,.inl ⟨kvs,kk,.inl hl,rfl,z1.symm⟩,k w F3 H3 (.dat _) ρ3 R3 ((s1.trans s2).trans s3) hd p3⟩
def kDI (neg:Bool) (P:RV → List AV → Prop) (ρ:List AV) (k d:c9):Prop:=match d,dK k with
 | .dict es,some k=>P (.dat (.bool (neg != (c3F (ukD es) k).isSome))) ρ
 | _,_=>False
def aDIn (neg:Bool) (a b:AEx):AEx:=fun ρ PX P=>a ρ PX fun r1 ρ1=>b ρ1 PX fun r2 ρ2=>a0X (r1.hold.look ρ2) fun k=>a0X (r2.look ρ2) fun d=>kDI neg P ρ2 k d
theorem d3S {neg:Bool} {ta tb:TE} {a b:AEx} (ha:ES K W ta a) (hb:ES K W tb b):ES K W (fun σ H Q=>ta σ H fun y H1=>tb σ H1 fun x H2=>∃ a o,x = .ref a ∧ DGet H2 a y o ∧ Q (.bl (neg != o.isSome)) H2) (aDIn neg a b):=fun C ρ PX P F H σ Q R h xs k =>
 ha C ρ PX _ F H σ _ R h xs fun v F1 H1 r1 ρ1 R1 s1 o1 p1=>by
  obtain ⟨F2,R2,s2,o2,n2⟩:=a2R R1 o1
  refine hb C ρ1 PX _ F2 H1 σ _ R2 p1 xs fun u F3 H3 r2 ρ3 R3 s3 o3 p3=>?_
  obtain ⟨d,ed,p3⟩:=a0q p3
  obtain ⟨e,ee,p3⟩:=a0q p3
  have l1:=(o2.stay s3 R3 n2).lk R3 ed
  have l2:=o3.lk R3 ee
  unfold kDI at p3
  split at p3
  ·rename_i es kk ek
   obtain ⟨l,kvs,rfl,hl,dr⟩:=l2.dict R3.sub
   rw [l1.key ek]
   rcases c8F (k:=kk) dr with ⟨z1,z⟩ | ⟨w,dd,z1,z2,hd⟩
   ·rw [z] at p3
    exact ⟨l,none,rfl,.inl ⟨kvs,kk,.inl hl,rfl,z1.symm⟩,k _ F3 H3 (.dat (.bool _)) ρ3 R3 ((s1.trans s2).trans s3) (.bl _) p3⟩
   ·rw [z2] at p3
    exact ⟨l,some w,rfl,.inl ⟨kvs,kk,.inl hl,rfl,z1.symm⟩,k _ F3 H3 (.dat (.bool _)) ρ3 R3 ((s1.trans s2).trans s3) (.bl _) p3⟩
  ·exact p3.elim
theorem d1k {ta tb:TE} {a b:AEx} (ha:ES K W ta a) (hb:ES K W tb b):ES K W (tDNotIn ta tb) (aDIn true a b):=fun C ρ PX P F H σ Q R h xs k=>by
 have:=d3S (neg:=true) ha hb C ρ PX P F H σ Q R h xs k
 simpa [tDNotIn] using this
def kDG2 (P:RV → List AV → Prop) (ρ:List AV) (d k x:c9):Prop:=match d,dK k with
 | .dict es,some k=>P (.dat ((c3F (ukD es) k).getD x)) ρ
 | _,_=>False
def d1s:c9 → Prop
 | .dict _=>True
 | _=>False
def d6M (P:RV → List AV → Prop) (ρ:List AV) (d k:c9) (r:RV):Prop:=match r with
 | .dat x=>kDG2 P ρ d k x
 | _=>False
def d86 (a b c:AEx):AEx:=fun ρ PX P=>a ρ PX fun r1 ρ1=>a0X (r1.hold.look ρ1) fun d0=>d1s d0 ∧ b ρ1 PX fun r2 ρ2=>c ρ2 PX fun r3 ρ3=>a0X (r1.hold.look ρ3) fun d=>a0X (r2.hold.look ρ3) fun k=>d6M P ρ3 d k r3.hold
def d35 (D:AEnds) (d:c9) (i:Nat) (ρ:List AV) (k:c9) (o:Option AV):Prop:=match dK k,o with
 | some k,some (.mdk p es)=>es.length < m8 ∧ D.nx (ρ.set i (.mdk p (kdK (d4o (ukD es) k d))))
 | _,_=>False
def d93 (a b c:AEx):ASt:=fun D ρ=>a ρ D.ex fun r ρ1=>match r.hold with
 | .dat d=>b ρ1 D.ex fun rb ρ2=>(match rb with
  | .bor i=>c ρ2 D.ex fun rc ρ3=>a0X (rc.look ρ3) fun k=>d35 D d i ρ3 k (ρ3[i]?)
  | _=>False)
 | _=>False
theorem DrKV.len {F:Hp}:∀ {kvs:List (Key × V)} {es:List (c9 × c9)},DrKV K F kvs es → kvs.length = es.length
 | _,_,.nil=>rfl
 | _,_,.cons _ t=>by rw [t4,t4,DrKV.len t]
def sNewT (i:Nat):ASt:=fun D ρ=>D.nx (ρ.set i (.mdt none []))
def b1V:List c9 → Option (List Key)
 | []=>some []
 | d :: ds=>match dK d,b1V ds with
  | some k,some ks=>some (k :: ks)
  | _,_=>none
theorem c8h {F:Hp}:∀ {vs:List V} {ds:List c9} {ks:List Key},DrAll K F vs ds → b1V ds = some ks → vs = ks.map kV
 | _,_,ks,.nil,e=>by cases e; rfl
 | _,_,ks,.cons (d:=d) (ds:=ds) h t,e=>by
  unfold b1V at e
  cases q1:dK d with
  | none=>simp [q1] at e
  | some k =>
   cases q2:b1V ds with
   | none=>simp [q1,q2] at e
   | some l =>
    simp only [q1,q2,a0l] at e
    subst e
    rw [c8h t q2,j8]
    congr 1
    exact Lk.key (F:=F) (H:=F) (.inl h) q1
def d1x (D:AEnds) (d:c9) (i:Nat) (ρ:List AV) (ks:Option (List Key)) (o:Option AV):Prop:=match ks,o with
 | some ks,some (.mdt p es)=>es.length < m8 ∧ D.nx (ρ.set i (.mdt p (d4o es ks d)))
 | _,_=>False
/-- d[(k, ..)] = v -/
def d94 (a b:AEx) (c:AAx):ASt:=fun D ρ=>a ρ D.ex fun r ρ1=>match r.hold with
 | .dat d=>b ρ1 D.ex fun rb ρ2=>(match rb with
  | .bor i=>c ρ2 D.ex fun rs ρ3=>a3t (b7m rs) fun ds=>ds.length ≤ m8 ∧ d1x D d i ρ3 (b1V ds) (ρ3[i]?)
  | _=>False)
 | _=>False
theorem d58.len {F:Hp} {kvs:List (List Key × V)} {es:List (List Key × c9)} (h:d58 K F kvs es):kvs.length = es.length:=c3J h
end
end Aq
namespace Aq
open PySem PySem.Spec PyProof.Rows L2
section
variable {K:b0} {W:WX}
def aIfE (c:ATx) (a b:AEx):AEx:=fun ρ PX P=>c ρ PX fun k ρ1=>if k = true then a ρ1 PX P else b ρ1 PX P
theorem d9i {c:TT} {ta tb:TE} {cc:ATx} {a b:AEx} (hc:TSd K W c cc) (ha:ES K W ta a) (hb:ES K W tb b):ES K W (tIf c ta tb) (aIfE cc a b):=fun C ρ PX P F H σ Q R h xs k =>
 hc C ρ PX _ F H σ _ R h xs fun b F1 H1 ρ1 R1 s1 p1=>by
  cases b with
  | true=>exact ha C ρ1 PX P F1 H1 σ Q R1 p1 xs fun v F2 H2 r ρ2 R2 s2 o2 p2=>k v F2 H2 r ρ2 R2 (s1.trans s2) o2 p2
  | false=>exact hb C ρ1 PX P F1 H1 σ Q R1 p1 xs fun v F2 H2 r ρ2 R2 s2 o2 p2=>k v F2 H2 r ρ2 R2 (s1.trans s2) o2 p2
end
section
variable {d:c9} {ds es:List c9} {i j:Int} {b c:Bool} {p:Option Nat} {ρ:List AV} {n:Nat} {PX:PXT} {D:AEnds} {P:PK} {kvs:List (c9 × c9)} {v:V}
theorem c8H:b9l (some (.opq v)) n ρ P = P (.bor n) ρ:=rfl
theorem d2Z {ts:List (List Key × c9)}:b9l (some (.mdt p ts)) n ρ P = P (.bor n) ρ:=rfl
theorem d2H {m:Nat} {rs:List RV} {ts:List (List Key × c9)}:c8U (some (.mdt p ts)) n ρ rs m = (a0D ρ rs (m + 1)).map fun p=>(.mdt (some m) ts :: p.1,n :: p.2):=rfl
theorem c8G {m:Nat} {rs:List RV}:c8U (some (.opq v)) n ρ rs m = (a0D ρ rs m).map fun p=>(.opq v :: p.1,p.2):=rfl
theorem c2H {q:Option Nat}:(AV.mdk p kvs).retag q = .mdk q kvs:=rfl
theorem d1Z:(AV.mdk p kvs).tag = p:=rfl
theorem c2I {q:Option Nat} {ts:List (List Key × c9)}:(AV.mdt p ts).retag q = .mdt q ts:=rfl
theorem d10 {ts:List (List Key × c9)}:(AV.mdt p ts).tag = p:=rfl
def kIfE (a b:AEx) (PX:PXT) (P:PK) (k:Bool) (ρ:List AV):Prop:=if k = true then a ρ PX P else b ρ PX P
theorem d7U {x:ATx} {a b:AEx}:aIfE x a b ρ PX P = x ρ PX (kIfE a b PX P):=rfl
theorem c7f {cls:f8}:c8y cls D ρ = D.ex cls none ρ:=rfl
def exT (ev:Str → f8) (ns:List Str) (i:Nat) (su:t5 → Str → ASt) (D:AEnds):PXT:=fun cls q ρ'=>∃ x,x ∈ ns ∧ cls = ev x ∧ q = none ∧ ∀ a,su a x { D with nx:=fun ρ2=>D.nx (ρ2.set i .un),bk:=fun ρ2=>D.bk (ρ2.set i .un),ct:=fun ρ2=>D.ct (ρ2.set i .un),ex:=X0 } (ρ'.set i (.opq (.ref a)))
theorem d8c {ev:Str → f8} {ns:List Str} {x:ASt} {su:t5 → Str → ASt}:sTry ev ns n x su D ρ = x { D with ex:=exT ev ns n su D } ρ:=rfl
theorem d5y {ev:Str → f8} {ns:List Str} {i:Nat} {su:t5 → Str → ASt} {D:AEnds} (x:Str) (hx:x ∈ ns) (h:∀ a,su a x { D with nx:=fun ρ2=>D.nx (ρ2.set i .un),bk:=fun ρ2=>D.bk (ρ2.set i .un),ct:=fun ρ2=>D.ct (ρ2.set i .un),ex:=X0 } (ρ.set i (.opq (.ref a)))):exT ev ns i su D (ev x) none ρ:=⟨x,hx,rfl,rfl,h⟩
theorem c5c {ρ1 ρ':List AV} {is:List Nat} {cls:f8} {q:Option (Str × c9)}:bkX PX ρ1 is cls q ρ' = PX cls q (a5B ρ' is 0 ρ1):=rfl
theorem d7V {i:Nat}:c3X i v b ρ PX P = (ρ[i]? = some (.opq v) ∧ P (.dat (.bool b)) ρ):=rfl
theorem d2N:aDNew ρ PX P = P (.own (.mdk none [])) ρ:=rfl
def kDGb (P:PK) (r2:RV) (ρ:List AV) (d:c9):Prop:=a0X (r2.look ρ) (kDG P ρ d)
def kDGa (P:PK) (r1 r2:RV) (ρ:List AV):Prop:=a0X (r1.look ρ) (kDGb P r2 ρ)
def kDG1 (b:AEx) (PX:PXT) (P:PK) (r1:RV) (ρ:List AV):Prop:=b ρ PX (kDGa P r1.hold)
theorem d2L {x y:AEx}:d6b x y ρ PX P = x ρ PX (kDG1 y PX P):=rfl
def kDGo (P:PK) (ρ:List AV) (o:Option c9):Prop:=match o with
 | some v=>P (.dat v) ρ
 | none=>False
theorem d7O {d:c9}:kDGo P ρ (some d) = P (.dat d) ρ:=rfl
def kDGk (P:PK) (ρ:List AV) (es:List (c9 × c9)) (k:Option Key):Prop:=match k with
 | some k=>kDGo P ρ (c3F (ukD es) k)
 | none=>False
theorem z_dg {k:c9}:kDG P ρ (.dict kvs) k = kDGk P ρ kvs (dK k):=by
 unfold kDG kDGk
 cases dK k with
 | none=>rfl
 | some k=>rfl
theorem d7N {k:Key}:kDGk P ρ kvs (some k) = kDGo P ρ (c3F (ukD kvs) k):=rfl
theorem d7R:dK (.int i) = some (.inl i):=rfl
theorem d7S {z:Str}:dK (.str z) = some (.inr z):=rfl
def kDIb (neg:Bool) (P:PK) (r2:RV) (ρ:List AV) (k:c9):Prop:=a0X (r2.look ρ) (kDI neg P ρ k)
def kDIa (neg:Bool) (P:PK) (r1 r2:RV) (ρ:List AV):Prop:=a0X (r1.look ρ) (kDIb neg P r2 ρ)
def kDI1 (neg:Bool) (b:AEx) (PX:PXT) (P:PK) (r1:RV) (ρ:List AV):Prop:=b ρ PX (kDIa neg P r1.hold)
theorem d7Q {x y:AEx}:aDIn b x y ρ PX P = x ρ PX (kDI1 b y PX P):=rfl
def kDIk (neg:Bool) (P:PK) (ρ:List AV) (es:List (c9 × c9)) (k:Option Key):Prop:=match k with
 | some k=>P (.dat (.bool (neg != (c3F (ukD es) k).isSome))) ρ
 | none=>False
theorem z_di {k:c9}:kDI b P ρ k (.dict kvs) = kDIk b P ρ kvs (dK k):=by
 unfold kDI kDIk
 cases dK k with
 | none=>rfl
 | some k=>rfl
theorem d7P {k:Key}:kDIk b P ρ kvs (some k) = P (.dat (.bool (b != (c3F (ukD kvs) k).isSome))) ρ:=rfl
def kD2d (P:PK) (r3:RV) (ρ:List AV) (d k:c9):Prop:=d6M P ρ d k r3
def kD2c (P:PK) (r2 r3:RV) (ρ:List AV) (d:c9):Prop:=a0X (r2.look ρ) (kD2d P r3 ρ d)
def kD2b (P:PK) (r1 r2 r3:RV) (ρ:List AV):Prop:=a0X (r1.look ρ) (kD2c P r2 r3.hold ρ)
def kD2a (c:AEx) (PX:PXT) (P:PK) (r1 r2:RV) (ρ:List AV):Prop:=c ρ PX (kD2b P r1 r2.hold)
def kD20 (b c:AEx) (PX:PXT) (P:PK) (r1:RV) (ρ:List AV) (d0:c9):Prop:=d1s d0 ∧ b ρ PX (kD2a c PX P r1)
def kD2 (b c:AEx) (PX:PXT) (P:PK) (r1:RV) (ρ:List AV):Prop:=a0X (r1.hold.look ρ) (kD20 b c PX P r1.hold ρ)
theorem c6Z {x y z:AEx}:d86 x y z ρ PX P = x ρ PX (kD2 y z PX P):=rfl
theorem d2J {d k x:c9}:d6M P ρ d k (.dat x) = kDG2 P ρ d k x:=rfl
def kD2k (P:PK) (ρ:List AV) (es:List (c9 × c9)) (x:c9) (k:Option Key):Prop:=match k with
 | some k=>P (.dat ((c3F (ukD es) k).getD x)) ρ
 | none=>False
theorem d7M {k x:c9}:kDG2 P ρ (.dict kvs) k x = kD2k P ρ kvs x (dK k):=by
 unfold kDG2 kD2k
 cases dK k with
 | none=>rfl
 | some k=>rfl
theorem d2K {k:Key} {x:c9}:kD2k P ρ kvs x (some k) = P (.dat ((c3F (ukD kvs) k).getD x)) ρ:=rfl
theorem c7b:d1s (.dict kvs) = True:=rfl
def kPt3 (D:AEnds) (d:c9) (i:Nat) (ρ:List AV) (k:c9):Prop:=d35 D d i ρ k (ρ[i]?)
def d9H (D:AEnds) (d:c9) (i:Nat) (rc:RV) (ρ:List AV):Prop:=a0X (rc.look ρ) (kPt3 D d i ρ)
def kPt1 (c:AEx) (D:AEnds) (d:c9) (rb:RV) (ρ:List AV):Prop:=match rb with
 | .bor i=>c ρ D.ex (d9H D d i)
 | _=>False
def kPt0 (b c:AEx) (D:AEnds) (ρ:List AV) (r:RV):Prop:=match r with
 | .dat d=>b ρ D.ex (kPt1 c D d)
 | _=>False
def kPt (b c:AEx) (D:AEnds) (r:RV) (ρ:List AV):Prop:=kPt0 b c D ρ r.hold
theorem d2O {x y z:AEx}:d93 x y z D ρ = x ρ D.ex (kPt y z D):=rfl
theorem c60 {y z:AEx}:kPt0 y z D ρ (.dat d) = y ρ D.ex (kPt1 z D d):=rfl
theorem c61 {z:AEx}:kPt1 z D d (.bor n) ρ = z ρ D.ex (d9H D d n):=rfl
def kPt4 (D:AEnds) (d:c9) (i:Nat) (ρ:List AV) (p:Option Nat) (es:List (c9 × c9)) (k:Option Key):Prop:=match k with
 | some k=>es.length < m8 ∧ D.nx (ρ.set i (.mdk p (kdK (d4o (ukD es) k d))))
 | none=>False
theorem c62 {k:c9}:d35 D d n ρ k (some (.mdk p kvs)) = kPt4 D d n ρ p kvs (dK k):=by
 unfold d35 kPt4
 cases dK k with
 | none=>rfl
 | some k=>rfl
theorem c63 {k:Key}:kPt4 D d n ρ p kvs (some k) = (kvs.length < m8 ∧ D.nx (ρ.set n (.mdk p (kdK (d4o (ukD kvs) k d))))):=rfl
theorem d2T:sNewT n D ρ = D.nx (ρ.set n (.mdt none [])):=rfl
def kPT3 (D:AEnds) (d:c9) (i:Nat) (ρ:List AV) (ds:List c9):Prop:=ds.length ≤ m8 ∧ d1x D d i ρ (b1V ds) (ρ[i]?)
def d9E (D:AEnds) (d:c9) (i:Nat) (rs:List RV) (ρ:List AV):Prop:=a3t (b7m rs) (kPT3 D d i ρ)
def kPT1 (c:AAx) (D:AEnds) (d:c9) (rb:RV) (ρ:List AV):Prop:=match rb with
 | .bor i=>c ρ D.ex (d9E D d i)
 | _=>False
def kPT0 (b:AEx) (c:AAx) (D:AEnds) (ρ:List AV) (r:RV):Prop:=match r with
 | .dat d=>b ρ D.ex (kPT1 c D d)
 | _=>False
def kPT (b:AEx) (c:AAx) (D:AEnds) (r:RV) (ρ:List AV):Prop:=kPT0 b c D ρ r.hold
theorem c64 {x y:AEx} {z:AAx}:d94 x y z D ρ = x ρ D.ex (kPT y z D):=rfl
theorem c23 {y:AEx} {z:AAx}:kPT0 y z D ρ (.dat d) = y ρ D.ex (kPT1 z D d):=rfl
theorem c24 {z:AAx}:kPT1 z D d (.bor n) ρ = z ρ D.ex (d9E D d n):=rfl
theorem c25 {ks:List Key} {ts:List (List Key × c9)}:d1x D d n ρ (some ks) (some (.mdt p ts)) = (ts.length < m8 ∧ D.nx (ρ.set n (.mdt p (d4o ts ks d)))):=rfl
end
end Aq
namespace Aq
open PySem PySem.Spec PyProof.Rows L2
section
variable {P:a2x} {w:i3} {K:b0} {mg:Str → Option f8} {base:b9M}
/-- a def that may raise -/
theorem Fn.mkN {k:Nat} {x:Str} {st:Stmt} {f:t5} {fd:n6} {N ps:List Str} {c:Ct} {t:WX → TS} {a:ASt} {dvs:List V} (F:FunD K x x (y6 st) (v7 st) (e8 st) dvs [] f fd) (S:w6 N ps (e8 st)) (gm:mg x = some (.ref f)) (gb:Binds K fd ps [])
  (hl:∀ ρ P PX,c ρ P PX → ρ.length = ps.length) (hs:∀ W,SS K W (t W) a) (hp:∀ ρ P PX,c ρ P PX → a { nx:=fun ρ'=>P (.dat .none) ρ',rt:=P,ex:=PX } (ρ ++ f7 (N.length - ρ.length) .un))
  (hd:∀ (cdv:f8) (A:b9L) (outer:List Env) (s:a0h) (H:Hp) (E:XK),Room k (A.deeper (envOfC x (e8 st) s.heap.objs.size f cdv)) → PSs (cxOf (y3 P w) P w K mg base N x (e8 st) f cdv A outer s H E) (v7 st) (t fun cls d _ H'=>E cls d H')):Fn P w K mg base (y3 P w) (k + 1) x ps c :=
 ⟨f,fd,F.ok S (fun vs H Q E h=>b2l hl h) fun cdv A outer s H vs Q E hr h=>⟨_,hd cdv A outer s H E hr,c2d h (hs _) hp⟩,gm,F.kp,gb⟩
end
theorem passN {X:Cx}:Passes (y3 X.prog X.w) X E0:=fun _ _ _ _ _ _ _ h=>by
 obtain ⟨_,_,_,_,_,_,_,_,_,_,_,_,z⟩:=h
 exact z.elim
theorem d7C {X:Cx}:d8P X (fun _ _ _ _=>False):=fun _ _ x=>by
 obtain ⟨_,_,_,_,_,_,_,_,_,_,_,_,_,_,_,_,z⟩:=x
 exact z.elim
section
variable {X:Cx}
/-- a def that may raise, called where it does not -/
theorem b14 {n k:Nat} {f:t5} {fd:n6} {ps:List Str} {c:Ct} {x:Str} {p pos:Pos} {e:Expr} {es:List Expr} {t:TA} (G:FnOk X.prog X.w X.K X.mg X.base (y3 X.prog X.w) n f fd ps (spOf X.K c)) (hr:Room k X.A) (hnk:n ≤ k) (hg:Gl X x) (hm:X.mg x = some (.ref f)) (hk:a2h X.K (.ref f) = true) (hb:Binds X.K fd ps [])
  (ha:PA X (e :: es) t) (hdb:(x == ("__debug__" : Str)) = false:=by decide) (he:z7 (e :: es) X.env = (false,d3p e X.env) :: z7 es X.env:=by rfl) (hpl:(d03 pos (z7 es X.env)).any (·.1) = false:=by rfl) :
  PE X (.Call (.Name x p) (e :: es) [] pos) (r6 (spOf X.K c) [] E0 t):=pe_call G (hr.mono hnk) hg hm hk hb .nil passN ha hdb he hpl
/-- .. where it may -/
theorem a0r {W:WX} {n k:Nat} {f:t5} {fd:n6} {ps:List Str} {c:Ct} {x:Str} {p pos:Pos} {e:Expr} {es:List Expr} {t:TA} (G:FnOk X.prog X.w X.K X.mg X.base (y3 X.prog X.w) n f fd ps (spOf X.K c)) (hr:Room k X.A) (hnk:n ≤ k) (hg:Gl X x) (hm:X.mg x = some (.ref f)) (hk:a2h X.K (.ref f) = true) (hb:Binds X.K fd ps []) (tk:d8P X W)
  (ha:PA X (e :: es) t) (hdb:(x == ("__debug__" : Str)) = false:=by decide) (he:z7 (e :: es) X.env = (false,d3p e X.env) :: z7 es X.env:=by rfl) (hpl:(d03 pos (z7 es X.env)).any (·.1) = false:=by rfl) :
  PE X (.Call (.Name x p) (e :: es) [] pos) (a3h (spOf X.K c) (WE W) t):=pe_callS G (hr.mono hnk) hg hm hk hb (fun σ=>L2N.passAt tk σ) ha hdb he hpl
end
section
variable {K:b0} {W:WX}
def aApp (a:AAx) (es:List c9):AAx:=fun ρ PX P=>a ρ PX fun rs ρ1=>P (rs ++ es.map RV.dat) ρ1
def kApp (P:List RV → List AV → Prop) (es:List c9) (rs:List RV) (ρ:List AV):Prop:=P (rs ++ es.map RV.dat) ρ
theorem d7H {a:AAx} {es:List c9} {ρ:List AV} {PX:PXT} {P:List RV → List AV → Prop}:aApp a es ρ PX P = a ρ PX (kApp P es):=rfl
/-- the kind of the exception that is handled -/
def d2m (K:b0) (ev:Str → f8) (ns:List Str) (i:Nat) (a:t5) (cls:f8) (d:Option t5):TE:=fun σ H Q=>d = none ∧ ∃ x,x ∈ ns ∧ cls = ev x ∧ r6 (spOf K (b4x (.ref a) (x ++ "+"))) [] E0 (d4 (g9 i) p7) σ H Q
def d3L (i:Nat) (a:t5) (x:Str):AEx:=m7 (b4x (.ref a) (x ++ "+")) (d3 (i4 i) n9)
theorem d6n {ev:Str → f8} {ns:List Str} {i:Nat} {a:t5} {x:Str} (hx:x ∈ ns):ES K W (d2m K ev ns i a (ev x) none) (d3L i a x):=fun C ρ PX P F H σ Q R h xs k=>⟨rfl,x,hx,rfl,j4 (c7 c8 d9) C ρ PX P F H σ Q R h xs k⟩
theorem d5W {i:Nat} {a:t5} {x:Str} {ρ:List AV} {PX:PXT} {P:PK} (h:ρ[i]? = some (.opq (.ref a))) (hP:P (.dat (.str (x ++ "+"))) ρ):d3L i a x ρ PX P:=by
 unfold d3L
 rw [b1j,b75,c7h,h,c8H]
 show c2k _ P [RV.bor i] ρ
 unfold c2k
 rw [b74,h,c8G]
 exact ⟨by simp,rfl,fun ρ'=>hP⟩
structure KindT (K:b0) (ns:List Str) (D:t5) (z:Str):Prop where
 ex:∃ x,x ∈ ns ∧ D = a0J K x ∧ z = x ++ "+"
end
theorem d4l {X:Cx} {n k:Nat} {x y:Str} {a:t5} {cls:f8} {d:Option t5} {oe:Obj} {pn:List (t5 × Obj)} {ns:List Str} {i:Nat} {e:Expr} {q pos:Pos} (G:FnE X.prog X.w X.K X.mg X.base n x [y] (KindT X.K ns)) (hr:Room k X.A) (hnk:n ≤ k) (hz:L2N.Zn cls d oe) (hf:∃ vs,oe.data = .fields vs) (hg:Gl X x)
  (he:PE (X.suite a ((a,oe) :: pn)) e (g9 i)) (hdb:(x == ("__debug__" : Str)) = false:=by decide) (he1:z7 [e] X.env = (false,d3p e X.env) :: z7 [] X.env:=by rfl) (hpl:(d03 pos (z7 [] X.env)).any (·.1) = false:=by rfl) :
  PE (X.suite a ((a,oe) :: pn)) (.Call (.Name x q) [e] [] pos) (d2m X.K (evK X.K) ns i a cls d):=by
 refine ⟨fun pins s σ H Q I h=>?_⟩
 obtain ⟨rfl,x',hx,rfl,h⟩:=h
 exact (d7m (D:=a0J X.K x') (z:=x' ++ "+") G hr hnk hz hf ⟨x',hx,rfl,rfl⟩ hg he hdb he1 hpl).run pins s σ H Q I h
theorem d7p {X:Cx} {x n:Str} {c:f8} {i:Nat} {body suite:List Stmt} {b₀:Stmt} {np pos pos':Pos} {tb:WX → TS} {ts:t5 → f8 → Option t5 → TS} (hs:X.stack = X.env :: X.outer) (hf:X.env.frame = some X.env.locals) (hN:X.N.Nodup) (hi:X.N[i]? = some n) (hln:X.env.kindOf n = some .local) (hc:Names X x c)
  (hb:∀ (W:WX) (pn:List (t5 × Obj)) (xe:f8 → a0h → Prop),d8P (X.tr pn xe) W → PassesOwn (a6J X.prog X.w) X.A X.env xe → PSs (X.tr pn xe) body (tb W))
  (hsu:∀ (a:t5) (oe:Obj) (cls:f8) (d:Option t5) (pn:List (t5 × Obj)),L2N.Zn cls d oe → (∃ vs,oe.data = .fields vs) → PSs (X.suite a ((a,oe) :: pn)) (b₀ :: suite) (ts a cls d)) :
  PS X (.Try body [.ExceptHandler (some (.Name x np)) (some n) (b₀ :: suite) pos'] [] [] pos) (tTry X.K c i tb ts W0):=L2N.ps_try_as hs hf hN hi hln hc d7C hb hsu
section
open He
theorem d6r {K:b0} {x:Str} (h:excB K x = true):ExcC K (ga K x):=by
 unfold excB at h
 obtain ⟨h1,h⟩:=ba h
 obtain ⟨h2,h⟩:=ba h
 obtain ⟨h3,h⟩:=ba h
 obtain ⟨h4,h⟩:=ba h
 obtain ⟨h5,h⟩:=ba h
 obtain ⟨h6,h⟩:=ba h
 obtain ⟨h7,h8⟩:=ba h
 exact ⟨eqO_ok h1,eqO_ok h2,of_decide_eq_true h3,h4,eqO_ok h5,eqO_ok h6,of_decide_eq_true h7,of_decide_eq_true h8⟩
theorem a4h {K:b0} {y:Str} (h:y ≠ "ValueError"):cvK K y = .ref (ga K y):=if_neg h
theorem d9d {K:b0}:cvK K "ValueError" = .type "ValueError" := if_pos rfl
theorem a2B {K:b0} {ns ys:List Str} (h:d38 K ns ys = true) {x:Str} (hx:x ∈ ns):ExcC K (ga K x):=d6r (ba (t0.mp h x hx)).1
theorem d39 {K:b0} {ns ys:List Str} (h:d38 K ns ys = true) {x:Str} (hx:x ∈ ns):b0I K (evK K x) (.ref (ga K "WageError")) = some true:=of_decide_eq_true (ba (ba (t0.mp h x hx)).2).1
theorem c8i {K:b0} {ns ys:List Str} (h:d38 K ns ys = true) {x:Str} (hx:x ∈ ns) {y:Str} (hy:y ∈ ys):a64 K (.ref (ga K x)) (cvK K y) = some (x == y || y == "ValueError"):=of_decide_eq_true (t0.mp (ba (ba (t0.mp h x hx)).2).2 y hy)
def kBs (K:b0) (D:t5) (y:Str):Bool:=a64 K (.ref D) (cvK K y) == some true
theorem d5B {K:b0} {ns ys:List Str} (h:d38 K ns ys = true) {x:Str} (hx:x ∈ ns) {y:Str} (hy:y ∈ ys):kBs K (ga K x) y = (x == y || y == "ValueError"):=by
 unfold kBs
 rw [c8i h hx hy]
 cases (x == y || y == "ValueError") <;> rfl
theorem a3L {K:b0} {ns ys:List Str} (h:d38 K ns ys = true) {x:Str} (hx:x ∈ ns) {y:Str} (hy:y ∈ ys):a64 K (.ref (ga K x)) (cvK K y) = some (kBs K (ga K x) y):=by
 rw [d5B h hx hy]
 exact c8i h hx hy
end
end Aq
namespace Aq
open PySem
theorem b10:∀ {a b:List Char},a.map d5d = b.map d5d → a = b
 | [],[],_=>rfl
 | [],_ :: _,h=>by cases h
 | _ :: _,[],h=>by cases h
 | x :: a,y :: b,h=>by
  rw [j8,j8] at h
  injection h with h1 h2
  rw [b10 h2]
  congr 1
  exact Char.ext (UInt32.toNat_inj.mp h1)
theorem p9 (a b:String):(s0 a = s0 b) = (a = b):=by
 apply propext
 constructor
 ·intro h
  rw [a6k,a6k] at h
  injection h with h
  have h2:=congrArg Array.toList h
  exact String.toList_inj.mp (b10 (by simpa using h2))
 ·exact congrArg _
theorem a46 (a b:String):(s0 a == s0 b) = (a == b):=by
 by_cases h:a = b
 ·subst h; simp
 ·have:¬ s0 a = s0 b:=by rw [p9]; exact h
  rw [beq_eq_false_iff_ne.mpr this,beq_eq_false_iff_ne.mpr h]
theorem b7N (a:String):a1c (s0 a) = true:=by
 rw [a6k]
 unfold a1c
 rw [c3G]
 intro c hc
 have hc:c ∈ (a.toList.map d5d):=by simpa using hc
 obtain ⟨x,_,rfl⟩:=e9.mp hc
 have:=x.valid
 simp only [decide_eq_true_eq]
 rcases this with h | h
 ·have:x.val.toNat < 0xD800:=h
  show x.val.toNat < _
  omega
 ·have:x.val.toNat < 0x110000:=h.2
  exact this
theorem c6S {z:Str} (h:a1c z = true):a0g (.str z) = true:=by
 unfold a0g
 simp [a2f,a1M,h]
theorem c6R (a:String):a0g (.str (s0 a)) = true:=c6S (b7N a)
theorem c2O:a0g (.list []) = true:=by decide +kernel
theorem c2P:a0g (.tuple []) = true:=by decide +kernel
theorem d1G (a:String):(s0 a).length = a.toList.length:=by
 rw [a6k]
 show ((a.toList.map d5d).toArray).size = _
 simp
end Aq
namespace AqT
open PySem PySem.Spec PyProof.Rows L2
/-- the masks that come, up to three hundred entries -/
def Mk (m:Nat):Prop:=MaskOk m ∨ m = 511
theorem Mk.odd {m:Nat} (h:Mk m):m % 2 = 1:=by
 rcases h with h | rfl
 ·exact mask_odd h
 ·rfl
theorem Mk.few {m:Nat} (h:Mk m):m ≤ 511:=by
 rcases h with (h | h | h) | h <;> omega
/-- the way round from a place -/
def orb (m:Nat):Nat → Nat → List Nat
 | 0,_=>[]
 | f + 1,x=>x :: orb m f ((x * 5 + 1) % (m + 1))
theorem d5L {m j:Nat}:∀ (f c:Nat),j ∈ orb m f (lcgN m c) → ∃ b,b < c + f ∧ lcgN m b = j
 | 0,_,h=>by cases h
 | f + 1,c,h=>by
  rcases o9.mp h with rfl | h
  ·exact ⟨c,by omega,rfl⟩
  ·obtain ⟨b,hb,e⟩:=d5L f (c + 1) h
   exact ⟨b,by omega,e⟩
theorem d9Y:(a1p 512).all (fun j=>(orb 511 512 0).elem j) = true:=by decide +kernel
theorem d6h:lcgN 511 512 = 0:=by decide +kernel
theorem d5H {j:Nat} (hj:j ≤ 511):∃ b,b ≤ 511 ∧ lcgN 511 b = j:=by
 have h:=t0.mp d9Y j (a3u.mpr (by omega))
 obtain ⟨b,hb,e⟩:=d5L (m:=511) 512 0 (List.elem_iff.mp h)
 exact ⟨b,by omega,e⟩
theorem d2B:∀ k,lcgN 511 (512 + k) = lcgN 511 k
 | 0=>d6h
 | k + 1=>congrArg (fun x=>(x * 5 + 1) % 512) (d2B k)
theorem Mk.all {m i j:Nat} (h:Mk m) (hi:i ≤ m) (hj:j ≤ m):∃ k,k ≤ m ∧ lcgI m i k = j:=by
 rcases h with h | rfl
 ·exact lcgI_all h hi hj
 ·obtain ⟨a,ha,rfl⟩:=d5H hi
  obtain ⟨b,hb,rfl⟩:=d5H hj
  by_cases c:a ≤ b
  ·exact ⟨b - a,by omega,by rw [lcgN_add,show a + (b - a) = b by omega]⟩
  ·exact ⟨512 + b - a,by omega,by rw [lcgN_add,show a + (512 + b - a) = 512 + b by omega,d2B]⟩
theorem Mk.runs {m j:Nat} (h:Mk m) (z:Int) (hj:j ≤ m):∃ n,n ≤ m + 12 ∧ runI m (z9 z) n = j:=by
 obtain ⟨k,hk,e⟩:=h.all (runI_le m (z9 z) 12) hj
 refine ⟨12 + k,by omega,?_⟩
 rw [runI_tail (bits_lt z),e]
theorem Mk.meet {m j:Nat} (h:Mk m) (z:Int) (hj:j ≤ m):∃ k,k < 10 * a1H m ∧ way m z k = j:=by
 obtain ⟨n,hn,e⟩:=h.runs z hj
 obtain ⟨k,hk,e2⟩:=run_nth m (z9 z) n
 have lim:k < 10 * a1H m:=by
  unfold a1H
  omega
 refine ⟨k,lim,?_⟩
 show (nth m _ k).j = j
 rw [e2]
 exact e
theorem d2E (m:Nat) (z:Int) (k:Nat):way m z k ≤ m:=by
 have h0:z9 z % (m + 1) ≤ m:=d01.mp (Nat.mod_lt _ (Nat.succ_pos m))
 have h1:=(runEnd_bd h0).1
 have h2:=(runEnd_bd h0).2.1
 have h3:=nth_in (m:=m) k (runAt m (z9 z % (m + 1)) (z9 z)) (show z9 z % (m + 1) + (SetTable.runEnd m (z9 z % (m + 1)) - z9 z % (m + 1)) ≤ m by omega)
 exact a0y (c8N _ _) h3
/-- a table in which each entry is found on its hash's way -/
structure TabN (t:a5J) (hs:List Int):Prop where
 ris:Ris t.place.toList
 dm:t.dummies = #[]
 sz:t.place.size = hs.length
 mok:Mk t.mask
 bd:∀ x ∈ t.place.toList,x ≤ t.mask
 reach:∀ (i:Nat) (z:Int) (j:Nat),hs[i]? = some z → t.place.toList[i]? = some j → ∃ k,way t.mask z k = j ∧ ∀ c,c < k → way t.mask z c ∈ t.place.toList
theorem TabN.of {t:a5J} {hs:List Int} (T:TabOk t hs):TabN t hs:=⟨T.ris,T.dm,T.sz,.inl T.mok,T.bd,T.reach⟩
theorem TabN.first {t:a5J} {hs:List Int} (T:TabN t hs) (hl:hs.length ≤ t.mask) (z:Int):∃ K,K < 10 * a1H t.mask ∧ way t.mask z K ∉ t.place.toList ∧ ∀ k,k < K → way t.mask z k ∈ t.place.toList:=by
 have short:t.place.toList.length < t.mask + 1:=by
  rw [t9,T.sz]
  omega
 obtain ⟨j,hj,out⟩:=st_missing _ _ short
 obtain ⟨k,hk,ek⟩:=T.mok.meet z (d01.mp hj)
 obtain ⟨K,hK,h1,h2⟩:=st_least (p:=fun c=>way t.mask z c ∉ t.place.toList) k (by
  show way t.mask z k ∉ t.place.toList
  rw [ek]
  exact out)
 exact ⟨K,by omega,h1,fun c hc=>Classical.not_not.mp (h2 c hc)⟩
theorem TabN.before {t:a5J} {hs:List Int} (T:TabN t hs) {z:Int} {K i j:Nat} (out:way t.mask z K ∉ t.place.toList) (hi:hs[i]? = some z) (hj:t.place.toList[i]? = some j):∃ k,k < K ∧ way t.mask z k = j:=by
 obtain ⟨k,e,inn⟩:=T.reach i z j hi hj
 refine ⟨k,Nat.lt_of_not_le fun c=>?_,e⟩
 rcases Nat.lt_or_eq_of_le c with c | c
 ·exact out (inn K c)
 ·rw [c,e] at out
  exact out (w8 hj)
theorem TabN.put {t:a5J} {hs:List Int} (T:TabN t hs) {z:Int} {K:Nat} (out:way t.mask z K ∉ t.place.toList) (inn:∀ k,k < K → way t.mask z k ∈ t.place.toList) :
  (t.put (way t.mask z K)).2 = a1G t.place (way t.mask z K) ∧ a1G t.place (way t.mask z K) ≤ hs.length ∧
  TabN (t.put (way t.mask z K)).1 (hs.take (a1G t.place (way t.mask z K)) ++ z :: hs.drop (a1G t.place (way t.mask z K))) ∧
  (t.put (way t.mask z K)).1.mask = t.mask ∧ (t.put (way t.mask z K)).1.led = t.led ∧ (t.put (way t.mask z K)).1.plain = t.plain ∧ (t.put (way t.mask z K)).1.moves = t.moves ∧ (t.put (way t.mask z K)).1.finger = t.finger ∧
  (t.put (way t.mask z K)).1.fill = hs.length + 1:=by
 have jm:=d2E t.mask z K
 have jk:∃ k,way t.mask z k = way t.mask z K ∧ ∀ c,c < k → way t.mask z c ∈ t.place.toList:=⟨K,rfl,inn⟩
 generalize way t.mask z K = j at out jm jk ⊢
 have cut:=(below_cut T.ris j).1
 generalize hp:a1G t.place j = p at cut ⊢
 have lp:p ≤ t.place.toList.length:=by
  rw [t9]
  exact cut
 have lh:p ≤ hs.length:=by rw [← T.sz]; exact cut
 have new:(t.put j).1.place.toList = t.place.toList.take p ++ j :: t.place.toList.drop p:=by
  rw [put_place,hp]
 have sz:(t.put j).1.place.size = hs.length + 1:=by
  rw [← t9,new,len_ins _ lp,t9,T.sz]
 have old:∀ {x},x ∈ t.place.toList → x ∈ (t.put j).1.place.toList:=fun hx=>by
  rw [new]
  exact mem_ins.mpr (.inr hx)
 have nj:t.place[a1G t.place j]? ≠ some j:=fun e=>out (w8 (i:=a1G t.place j) (by rw [a65]; exact e))
 have fill:(t.put j).1.fill = hs.length + 1:=by
  unfold d56
  rw [sz,put_dm T.dm]
  rfl
 refine ⟨hp,lh,⟨ris_insert T.ris nj,put_dm T.dm j,by rw [sz,len_ins _ lh],T.mok,fun x hx=>?_,fun i z' j' hi hj=>?_⟩,rfl,rfl,rfl,rfl,rfl,fill⟩
 ·rw [new] at hx
  rcases mem_ins.mp hx with rfl | hx
  ·exact jm
  ·exact T.bd x hx
 ·have lift:(∃ k,way t.mask z' k = j' ∧ ∀ c,c < k → way t.mask z' c ∈ t.place.toList) → ∃ k,way t.mask z' k = j' ∧ ∀ c,c < k → way t.mask z' c ∈ (t.put j).1.place.toList:=fun ⟨k,e,f⟩=>⟨k,e,fun c hc=>old (f c hc)⟩
  refine lift ?_
  rw [new,tins_get _ lp] at hj
  rw [tins_get _ lh] at hi
  rcases Nat.lt_trichotomy i p with c | c | c
  ·rw [if_pos c] at hi hj
   exact T.reach i z' j' hi hj
  ·rw [if_neg (by omega),if_pos c] at hi hj
   cases hi
   cases hj
   exact jk
  ·rw [if_neg (by omega),if_neg (by omega)] at hi hj
   exact T.reach _ z' j' hi hj
theorem c9a {m:Nat} (hm:Mk m) (owner:Array (Option Nat)) (z:Int) {j:Nat} (hj:j ≤ m) (hf:oAt owner j = none):∃ K,d8o m owner (a1H m) (z9 z % (m + 1)) (z9 z) = some (way m z K) ∧ oAt owner (way m z K) = none ∧ ∀ c,c < K → oAt owner (way m z c) ≠ none:=by
 obtain ⟨n,hn,en⟩:=hm.runs z hj
 have at_:way m z (off m (z9 z % (m + 1)) (z9 z) n) = j:=by
  have e:=congrArg SetTable.Probe.j (nth_off m n (z9 z % (m + 1)) (z9 z))
  rw [itL_run] at e
  exact e.trans en
 obtain ⟨K,hK,h1,h2⟩:=st_least (p:=fun c=>oAt owner (way m z c) = none) _ (show oAt owner (way m z (off m (z9 z % (m + 1)) (z9 z) n)) = none by rw [at_]; exact hf)
 refine ⟨K,free_spec m owner _ n _ _ K (by unfold a1H; omega) hK (fun c hc=>?_) ?_,h1,h2⟩
 ·have:=h2 c hc
  exact Option.isNone_eq_false_iff.mpr (Option.isSome_iff_ne_none.mpr this)
 ·exact Option.isNone_iff_eq_none.mpr h1
theorem d4j {m:Nat} (hm:Mk m) {done:List Int} {owner:Array (Option Nat)} (W:Own m done owner) (hl:done.length ≤ m) (z:Int):∃ j,d8o m owner (a1H m) (z9 z % (m + 1)) (z9 z) = some j ∧ Own m (done ++ [z]) (owner.setIfInBounds j (some done.length)):=by
 obtain ⟨ps,pl,pin⟩:=W.ps
 obtain ⟨j0,hj0,nj0⟩:=st_missing ps (m + 1) (by omega)
 have free0:oAt owner j0 = none:=Classical.not_not.mp fun c=>nj0 (pin j0 (by omega) c)
 obtain ⟨K,e,h1,h2⟩:=c9a hm owner z (by omega) free0
 have jm:=d2E m z K
 refine ⟨way m z K,e,?_⟩
 have kj:∃ k,way m z k = way m z K ∧ ∀ c,c < k → oAt owner (way m z c) ≠ none:=⟨K,rfl,h2⟩
 clear e h2
 generalize way m z K = j at h1 jm kj ⊢
 have js:j < owner.size:=by rw [W.sz]; omega
 have here:=oAt_set_self (some done.length) js
 have keep:∀ {i},oAt owner i ≠ none → oAt (owner.setIfInBounds j (some done.length)) i ≠ none:=fun {i} hi=>by
  by_cases c:i = j
  ·rw [c,here]
   exact Option.some_ne_none _
  ·rw [d5l _ c]
   exact hi
 refine ⟨by rw [Array.size_setIfInBounds,W.sz],fun i k hi ek=>?_,fun k hk=>?_,j :: ps,by simp [pl],fun i hi ne=>?_⟩
 ·by_cases c:i = j
  ·subst c
   rw [here] at ek
   cases ek
   obtain ⟨k,e,f⟩:=kj
   exact ⟨z,k,by simp,e,fun c hc=>keep (f c hc)⟩
  ·rw [d5l _ c] at ek
   obtain ⟨z',k',g1,g2,g3⟩:=W.at_ i k hi ek
   have lk:k < done.length:=(j7.mp g1).1
   exact ⟨z',k',by rw [a2Q lk]; exact g1,g2,fun c hc=>keep (g3 c hc)⟩
 ·rw [a1h,b6h] at hk
  by_cases c:k = done.length
  ·subst c
   exact ⟨j,jm,here⟩
  ·obtain ⟨i,hi,ei⟩:=W.all k (by omega)
   refine ⟨i,hi,?_⟩
   rw [d5l _ (fun z=>by rw [z,h1] at ei; cases ei)]
   exact ei
 ·by_cases c:i = j
  ·rw [c]
   exact f9
  ·rw [d5l _ c] at ne
   exact e7 _ (pin i hi ne)
theorem c8s {m:Nat} (hm:Mk m):∀ (a9X done:List Int) (owner:Array (Option Nat)),Own m done owner → done.length + a9X.length ≤ m → ∃ o2,a9X.foldl (stepF m) (some (owner,done.length)) = some (o2,(done ++ a9X).length) ∧ Own m (done ++ a9X) o2
 | [],done,owner,W,_=>⟨owner,by rw [a01]; rfl,by rw [a01]; exact W⟩
 | z :: a9X,done,owner,W,hl=>by
  rw [t4] at hl
  obtain ⟨j,e,W2⟩:=d4j hm W (by omega) z
  obtain ⟨o2,f,W3⟩:=c8s hm a9X (done ++ [z]) _ W2 (by rw [a1h,b6h]; omega)
  rw [a1h,b6h,List.append_assoc] at f
  rw [List.append_assoc] at W3
  refine ⟨o2,?_,W3⟩
  rw [List.foldl_cons,stepF_some e]
  exact f
theorem d7w {t:a5J} {hs:Array Int} {wanted M:Nat} (hw:a3N wanted - 1 = M) (hM:Mk M) (hn:hs.size ≤ M):∃ t' order,t.relaid hs wanted = some (t',order) ∧ order.toList.Perm (a1p hs.size) ∧ TabN t' (order.toList.map fun i=>hs.getD i 0) ∧ t'.mask = M ∧ t'.led = t.led ∧ t'.plain = t.plain ∧ t'.dummies = #[]:=by
 obtain ⟨owner,f,W⟩:=c8s hM hs.toList [] _ (Own.init M) (by simpa using hn)
 rw [a0L] at f W
 have clean:SetTable.layClean M hs = some owner:=by
  rw [layClean_eq]
  show (hs.toList.foldl (stepF M) (some (Array.replicate (M + 1) none,([]:List Int).length))).map (·.1) = _
  rw [f]
  rfl
 have eq1:t.relaid hs wanted = some (tabOf t M owner,((b9O M owner).map (·.2)).toArray):=by
  rw [relaid_eq,hw,clean]
  rfl
 have lv:∀ {j k},(j,k) ∈ b9O M owner ↔ j ≤ M ∧ oAt owner j = some k:=mem_live W.sz
 obtain ⟨r1,r2⟩:=ris_live (fun j=>owner.getD j none) (a1p (M + 1)) List.pairwise_lt_range
 have r1:Ris ((b9O M owner).map (·.1)):=r1
 have nd:((b9O M owner).map (·.1)).Nodup:=r1.imp fun h=>a67 h
 have inn:∀ k,k < hs.size → k ∈ (b9O M owner).map (·.2):=fun k hk=>by
  obtain ⟨j,hj,e⟩:=W.all k (by simpa using hk)
  exact e9.mpr ⟨(j,k),lv.mpr ⟨hj,e⟩,rfl⟩
 have len:(b9O M owner).length = hs.size:=by
  obtain ⟨ps,pl,pin⟩:=W.ps
  have pl2:ps.length = hs.size:=pl
  have up:=nat_nodup_len _ ps nd fun j hj=>by
   obtain ⟨⟨j',k⟩,hq,rfl⟩:=e9.mp hj
   obtain ⟨g1,g2⟩:=lv.mp hq
   exact pin _ g1 (by rw [g2]; exact Option.some_ne_none _)
  have dn:=nat_nodup_len (a1p hs.size) ((b9O M owner).map (·.2)) List.nodup_range fun k hk=>inn k (a3u.mp hk)
  rw [g8] at up dn
  rw [List.length_range] at dn
  omega
 refine ⟨_,_,eq1,perm_range _ _ (by simpa using len) inn,⟨r1,rfl,?_,hM,fun x hx=>?_,fun i z j hi hj=>?_⟩,rfl,rfl,rfl,rfl⟩
 ·show ((b9O M owner).map (·.1)).toArray.size = (((b9O M owner).map (·.2)).map _).length
  simp
 ·exact d01.mp (a3u.mp (r2 x hx))
 ·have hi:(((b9O M owner).map (·.2)).map fun i=>hs.getD i 0)[i]? = some z:=hi
  have hj:((b9O M owner).map (·.1))[i]? = some j:=hj
  rw [a0b] at hj
  rw [a0b,a0b] at hi
  obtain ⟨⟨j',k⟩,eq,rfl⟩:=Option.map_eq_some_iff.mp hj
  rw [eq] at hi
  have hz:hs.getD k 0 = z:=r9 hi
  obtain ⟨g1,g2⟩:=lv.mp (w8 eq)
  obtain ⟨z',K,f1,f2,f3⟩:=W.at_ _ k g1 g2
  have ez:z' = z:=by
   rw [← hz,d0W,← a65,f1]
   rfl
  subst ez
  refine ⟨K,f2,fun c hc=>?_⟩
  show way M z' c ∈ (b9O M owner).map (·.1)
  obtain ⟨k2,e2⟩:=Option.ne_none_iff_exists'.mp (f3 c hc)
  exact e9.mpr ⟨(way M z' c,k2),lv.mpr ⟨d2E M z' c,e2⟩,rfl⟩
theorem c8A:a3N (a0O 77) = 512:=by decide +kernel
end AqT
namespace AqT
open PySem PySem.Calls PySem.Spec PyProof.Rows L2
abbrev a4x (P:a2x) (w:i3) (ks:List Key):Int:=tupleKeyHash (b2S P w) ks
/-- at b stands the tuple of these keys -/
abbrev a8n (P:a2x) (w:i3) (h:b9M) (ks:List Key) (b:t5):Prop:=IsTupleKey (b2S P w) h ks b
section
variable {P:a2x} {w:i3} {A:b9L} {E:f8 → a0h → Prop} {s:a0h}
/-- a number or a text -/
def Flat (v:f8):Prop:=(∃ i t,v = .int i t) ∨ ∃ x t,v = .str x t
theorem b95 {ks:List Key} {vs:List f8} (h:ItemsAre (b2S P w) ks vs):∀ v ∈ vs,Flat v:=by
 induction h with
 | nil=>intro v hv; cases hv
 | @cons k v' ks vs hk _ ih =>
  intro v hv
  rcases o9.mp hv with rfl | hv
  ·rcases a8s (show c3Q k v = true from hk) with ⟨i,t,_,e⟩ | ⟨x,t,_,e⟩
   ·exact .inl ⟨i,t,e⟩
   ·exact .inr ⟨x,t,e⟩
  ·exact ih v hv
theorem c0d (n:Nat) {v:f8} (h:Flat v):c5Z n v = pure false ∧ ∃ b,hashByValue n v = pure b:=by
 rcases h with ⟨i,t,rfl⟩ | ⟨x,t,rfl⟩ <;> cases n <;> exact ⟨rfl,_,rfl⟩
theorem d1Q {ks:List Key} {b:t5} {Q:Bool → a0h → Prop} (hb:a8n P w s.heap ks b) (q:Q false s):a32 (a6J P w) A (c5Z 8 (.ref b)) Q E s:=by
 have ty:=hb.typeIs
 obtain ⟨o,items,n,ho,_,hd,hi⟩:=hb
 unfold c5Z
 refine g4 (d84 ty ?_)
 dsimp only
 have tt:(("tuple" : String) == "tuple") = true:=by decide
 simp only [tt,if_true,a5I,a0n,if_false]
 try refine g4 (m4 ?_)
 try simp only [a5I,a0n,if_false]
 show a32 _ _ (seqItems? (.ref b) >>= _) _ _ s
 refine g4 (b9P ho hd ?_)
 dsimp only
 refine g4 ?_
 show a32 _ _ (forIn items _ _) _ _ s
 rw [← Array.forIn_toList]
 refine c8P _ (fun left acc s1=>acc.1 = none ∧ s1 = s ∧ ∀ v ∈ left,Flat v) _ ?_ ?_ _ _ ⟨rfl,rfl,b95 hi⟩
 ·rintro v left acc s1 ⟨ha,rfl,fl⟩
  rw [(c0d _ (fl v f9)).1]
  refine g4 (m4 ?_)
  simp only [a0n,if_false]
  exact m4 ⟨rfl,rfl,fun u hu=>fl u (e7 _ hu)⟩
 ·rintro ⟨a1,a2⟩ s1 ⟨ha,rfl,_⟩
  simp only at ha
  subst ha
  exact m4 q
theorem d6i {ks:List Key} {b:t5} {Q:Bool → a0h → Prop} (hb:a8n P w s.heap ks b) (q:∀ z,Q z s):a32 (a6J P w) A (hashByValue 8 (.ref b)) Q E s:=by
 have ty:=hb.typeIs
 obtain ⟨o,items,n,ho,_,hd,hi⟩:=hb
 unfold hashByValue
 refine g4 (wpAny_specialOf ty F.slot_tuple_hash.lookup ?_)
 show a32 _ _ (seqItems? (.ref b) >>= _) _ _ s
 refine g4 (b9P ho hd ?_)
 refine g4 ?_
 show a32 _ _ (forIn items _ _) _ _ s
 rw [← Array.forIn_toList]
 refine c8P _ (fun left acc s1=>acc.1 = none ∧ s1 = s ∧ ∀ v ∈ left,Flat v) _ ?_ ?_ _ _ ⟨rfl,rfl,b95 hi⟩
 ·rintro v left acc s1 ⟨ha,rfl,fl⟩
  obtain ⟨z,ez⟩:=(c0d 7 (fl v f9)).2
  rw [ez]
  refine g4 (m4 ?_)
  cases z with
  | true =>
   simp only [a5I,a0n,if_false]
   exact m4 ⟨rfl,rfl,fun u hu=>fl u (e7 _ hu)⟩
  | false =>
   simp only [d3y,if_true]
   exact m4 (m4 (q _))
 ·rintro ⟨a1,a2⟩ s1 ⟨ha,rfl,_⟩
  simp only at ha
  subst ha
  exact m4 (q _)
/-- looking among tuples shows nothing of the table -/
theorem e0g {ks:List Key} {b:t5} {Q:Bool → a0h → Prop} (hb:a8n P w s.heap ks b) {ys:List f8} (hy:∀ y ∈ ys,∃ k c,y = a1O c ∧ a8n P w s.heap k c) (q:Q false s):a32 (a6J P w) A (searchCouldBeSeen (.ref b) ys) Q E s:=by
 unfold searchCouldBeSeen
 refine g4 ?_
 refine c8P _ (fun left acc s1=>acc.1 = none ∧ s1 = s ∧ ∀ y ∈ left,∃ k c,y = a1O c ∧ a8n P w s.heap k c) _ ?_ ?_ _ _ ⟨rfl,rfl,hy⟩
 ·rintro v left acc s1 ⟨ha,rfl,all⟩
  obtain ⟨k,c,rfl,hc⟩:=all v f9
  have more:∀ y ∈ left,∃ k c,y = a1O c ∧ a8n P w s1.heap k c:=fun u hu=>all u (e7 _ hu)
  dsimp only
  by_cases bv:(b == c || (carriedByValue (.ref b) && carriedByValue (.ref c))) = true
  ·exact c3V bv (m4 ⟨rfl,rfl,more⟩)
  ·refine a41 bv ?_
   refine g4 (d83 hb ?_)
   simp only [a5I,a0n,if_false]
   refine g4 (d83 hc ?_)
   simp only [a5I,a0n,if_false]
   refine g4 (d1Q hb ?_)
   simp only [a0n,if_false]
   refine g4 (d1Q hc ?_)
   simp only [a0n,if_false]
   exact m4 ⟨rfl,rfl,more⟩
 ·rintro ⟨a1,a2⟩ s1 ⟨ha,rfl,_⟩
  simp only at ha
  subst ha
  exact m4 q
abbrev TL:=List (t5 × List Key)
def b3G (P:a2x) (w:i3) (L:TL):List (Int × f8):=L.map fun p=>(a4x P w p.2,a1O p.1)
theorem b2d {L:TL}:(b3G P w L).length = L.length:=by unfold b3G; rw [g8]
/-- the set at a, by its table -/
structure TSet (P:a2x) (w:i3) (h:b9M) (a:t5) (L:TL) (o:Obj) (es:Array (Int × f8)) (ep:Nat) (t:a5J):Prop where
 at_:h.get? a = some o
 exact_:o.ExactSet
 data:o.data = .set es ep t
 rows:es.toList = b3G P w L
 tab:TabN t (L.map fun p=>a4x P w p.2)
 nd:(L.map (·.2)).Nodup
 led:w.params.followText "set-order" = true ∨ t.led = true
 room:L.length * 5 < t.mask * 3
variable {a:t5} {L:TL} {o:Obj} {es:Array (Int × f8)} {ep:Nat} {t:a5J}
theorem TSet.sz (R:TSet P w s.heap a L o es ep t):es.size = L.length:=by
 have:=congrArg b2Q R.rows
 rw [t9,b2d] at this
 exact this
theorem TSet.psz (R:TSet P w s.heap a L o es ep t):t.place.size = L.length:=by
 have:=R.tab.sz
 rw [g8] at this
 exact this
theorem TSet.fits (R:TSet P w s.heap a L o es ep t):t.fits es.size = true:=by
 have h1:=R.psz
 have h2:=R.sz
 have h3:=R.room
 unfold SetTable.fits d56
 rw [R.tab.dm,j5,beq_iff_eq,decide_eq_true_eq]
 show t.place.size = es.size ∧ t.place.size + 0 ≤ t.mask
 omega
theorem c8x {L:TL} {es:Array (Int × f8)} (hr:es.toList = b3G P w L) {i:Nat} {p:t5 × List Key} (hp:L[i]? = some p):es[i]? = some (a4x P w p.2,a1O p.1):=by
 rw [← a65,hr]
 unfold b3G
 rw [a0b,hp] <;> rfl
theorem TSet.noWay (R:TSet P w s.heap a L o es ep t):¬ t.gaveWay = true:=by
 unfold SetTable.gaveWay
 rw [R.tab.mok.odd]
 decide
/-- the start of the way of a hash -/
abbrev ini (m:Nat) (z:Int):d3E:=runAt m (z9 z % (m + 1)) (z9 z)
theorem c4q (m:Nat):∀ (n:Nat) (p:d3E),p.dummy = none → (nth m p n).dummy = none
 | 0,_,e=>e
 | n + 1,p,e=>c4q m n (adv m p) (by unfold adv; split <;> exact e)
theorem d1o (R:TSet P w s.heap a L o es ep t) (TL:∀ p ∈ L,a8n P w s.heap p.2 p.1) {x:t5} {k:List Key} (hx:a8n P w s.heap k x) (hu:A.units < a9H) {N:Nat} (hN:N < 10 * a1H t.mask)
  (out:way t.mask (a4x P w k) N ∉ t.place.toList) (inn:∀ c,c < N → way t.mask (a4x P w k) c ∈ t.place.toList) {Q:SetFound → a0h → Prop}
  (yes:k ∈ L.map (·.2) → Q (.there none) s) (no:k ∉ L.map (·.2) → Q (.free (way t.mask (a4x P w k) N) false) s) :
  ∀ (fuel c:Nat) (st:Option d3E),st.getD (t.probeStart (a4x P w k)) = nth t.mask (ini t.mask (a4x P w k)) c → c ≤ N → N - c < fuel →
   (∀ (i:Nat) p,L[i]? = some p → p.2 = k → ∃ c',c ≤ c' ∧ c' < N ∧ t.place.toList[i]? = some (way t.mask (a4x P w k) c')) →
   a32 (a6J P w) A (setSearchFrom a (.ref x) (a4x P w k) true fuel st) Q E s:=by
 intro fuel
 induction fuel with
 | zero=>intro c st _ _ hf _; exact absurd hf (Nat.not_lt_zero _)
 | succ fuel ih =>
  intro c st hst hc hf later
  rw [setSearchFrom_succ]
  refine g4 (a4q R.at_ R.data R.fits ?_)
  dsimp only
  refine a41 R.noWay ?_
  try refine g4 (m4 ?_)
  have shift:∀ q,nth t.mask (nth t.mask (ini t.mask (a4x P w k)) c) q = nth t.mask (ini t.mask (a4x P w k)) (c + q):=fun q=>(nth_add t.mask c _ q).symm
  have slotAt:∀ q,(nth t.mask (nth t.mask (ini t.mask (a4x P w k)) c) q).j = way t.mask (a4x P w k) (c + q):=fun q=>congrArg SetTable.Probe.j (shift q)
  have hashOf:∀ (i:Nat) p,L[i]? = some p → (fun i=>(es[i]?.map (·.1)).getD 0) i = a4x P w p.2:=fun i p hp=>by
   show (es[i]?.map (·.1)).getD 0 = _
   rw [c8x R.rows hp] <;> rfl
  rcases go_spec t R.tab.ris R.tab.dm (fun i=>(es[i]?.map (·.1)).getD 0) (a4x P w k) (10 * a1H t.mask) (N - c) _ (c4q t.mask c (ini t.mask (a4x P w k)) rfl) (by omega)
   (fun q hq=>by rw [slotAt]; exact inn (c + q) (by omega)) (by rw [slotAt,show c + (N - c) = N by omega]; exact out) with ⟨q,i,hq,hi,hh,hno,hpr⟩ | ⟨hno,hpr⟩
  ·have met:t.probe (fun i=>(es[i]?.map (·.1)).getD 0) (a4x P w k) (st.getD (t.probeStart (a4x P w k))) = some (.candidate (way t.mask (a4x P w k) (c + q)) i (nth t.mask (ini t.mask (a4x P w k)) (c + (q + 1)))):=by
    rw [hst,← slotAt,← shift]
    exact hpr
   rw [met]
   dsimp only
   rw [slotAt] at hi
   have hil:i < L.length:=by
    have z1:i < t.place.toList.length:=(j7.mp hi).1
    rw [t9,R.psz] at z1
    exact z1
   have hp:L[i]? = some L[i]:=j6 hil
   generalize L[i] = p at hp
   have pm:p ∈ L:=w8 hp
   have a9X:a32 (a6J P w) A (searchRest a (.ref x) (a4x P w k) true fuel es t (way t.mask (a4x P w k) (c + q)) i (nth t.mask (ini t.mask (a4x P w k)) (c + (q + 1)))) Q E s:=by
    unfold searchRest
    rw [c8x R.rows hp]
    dsimp only
    refine g4 (a1I (wpAny_eqBool_tuple hu (TL p pm) hx ?_))
    refine g4 (a4q R.at_ R.data R.fits ?_)
    dsimp only
    by_cases same:p.2 = k
    ·exact c3V (by simp [same]) (m4 (yes (e9.mpr ⟨p,pm,same⟩)))
    ·refine a41 (by simp [same]) ?_
     try refine g4 (m4 ?_)
     rw [sameMem]
     dsimp only
     have lives:t.slot (way t.mask (a4x P w k) (c + q)) = .live i:=slot_live R.tab.ris hi
     simp only [if_true,lives,c8x R.rows hp]
     refine g4 (wpAny_isSame_ref_self (g4 (m4 ?_)))
     simp only [if_true]
     refine a41 (by simp [same]) ?_
     refine ih (c + (q + 1)) _ rfl (by omega) (by omega) fun i0 p0 h0 e0=>?_
     obtain ⟨c',b1,b2,b3⟩:=later i0 p0 h0 e0
     refine ⟨c',?_,b2,b3⟩
     rcases Nat.lt_trichotomy c' (c + q) with z | z | z
     ·exact absurd ((hashOf i0 p0 h0).trans (congrArg (a4x P w) e0)) (hno (c' - c) i0 (by omega) (by rw [slotAt,show c + (c' - c) = c' by omega]; exact b3))
     ·rw [z] at b3
      have l0:=slot_live R.tab.ris b3
      rw [lives] at l0
      injection l0 with l0
      rw [← l0,hp] at h0
      exact absurd ((congrArg a3l (r9 h0)).trans e0) same
     ·omega
   by_cases hl:t.led = true
   ·refine a41 (by simp [hl]) ?_
    try refine g4 (m4 ?_)
    exact a9X
   ·refine c3V (by simp [hl]) ?_
    refine g4 (e0g hx (fun y hy=>?_) ?_)
    ·obtain ⟨e,he,rfl⟩:=e9.mp hy
     have he1:e ∈ es.toList:=by
      have:e ∈ es ∧ e.1 = a4x P w k:=by simpa using he
      simpa using this.1
     rw [R.rows] at he1
     obtain ⟨p2,hp2,rfl⟩:=e9.mp he1
     exact ⟨p2.2,p2.1,rfl,TL p2 hp2⟩
    ·refine a41 (by decide) ?_
     try refine g4 (m4 ?_)
     exact a9X
  ·have met:t.probe (fun i=>(es[i]?.map (·.1)).getD 0) (a4x P w k) (st.getD (t.probeStart (a4x P w k))) = some (.empty (way t.mask (a4x P w k) N) none):=by
    have e2:way t.mask (a4x P w k) N = (nth t.mask (nth t.mask (ini t.mask (a4x P w k)) c) (N - c)).j:=by rw [slotAt,show c + (N - c) = N by omega]
    rw [hst,e2]
    exact hpr
   rw [met]
   dsimp only
   refine m4 (no fun hm=>?_)
   obtain ⟨p0,h0,e0⟩:=e9.mp hm
   obtain ⟨i0,l0,q0⟩:=a5a h0
   have g0:L[i0]? = some p0:=by rw [j6 l0,q0]
   obtain ⟨c',b1,b2,b3⟩:=later i0 p0 g0 e0
   exact hno (c' - c) i0 (by omega) (by rw [slotAt,show c + (c' - c) = c' by omega]; exact b3) ((hashOf i0 p0 g0).trans (congrArg (a4x P w) e0))
theorem d4L {m:Nat} (h:Mk m):10 * a1H m ≤ 5260:=by
 have:=h.few
 unfold a1H
 omega
theorem d6s (R:TSet P w s.heap a L o es ep t) (TL:∀ p ∈ L,a8n P w s.heap p.2 p.1) {x:t5} {k:List Key} (hx:a8n P w s.heap k x) (hu:A.units < a9H) {Q:SetFound → a0h → Prop}
  (yes:k ∈ L.map (·.2) → Q (.there none) s)
  (no:∀ N,k ∉ L.map (·.2) → way t.mask (a4x P w k) N ∉ t.place.toList → (∀ c,c < N → way t.mask (a4x P w k) c ∈ t.place.toList) → Q (.free (way t.mask (a4x P w k) N) false) s) :
  a32 (a6J P w) A (setSearch a (.ref x) (a4x P w k) true) Q E s:=by
 have hroom:=R.room
 obtain ⟨N,lim,out,inn⟩:=R.tab.first (by rw [g8]; omega) (a4x P w k)
 have big:=d4L R.tab.mok
 unfold setSearch
 refine d1o R TL hx hu lim out inn yes (fun hn=>no N hn out inn) 100000 0 none rfl (a5b _) (by omega) fun i p hp e=>?_
 have hi:(L.map fun p=>a4x P w p.2)[i]? = some (a4x P w k):=by rw [a0b,hp,← e] <;> rfl
 have hil:i < t.place.toList.length:=by
  rw [t9,R.psz]
  exact (j7.mp hp).1
 have hj:=j6 hil
 obtain ⟨c,lc,ec⟩:=R.tab.before out hi hj
 exact ⟨c,a5b _,lc,by rw [hj,ec]⟩
theorem d5N {L:TL} {es:Array (Int × f8)} (hr:es.toList = b3G P w L):∀ l:List Nat,(∀ i ∈ l,i < L.length) → l.filterMap (fun i=>es[i]?) = b3G P w (l.filterMap fun i=>L[i]?) ∧ ((l.filterMap fun i=>L[i]?).map fun p=>a4x P w p.2) = l.map fun i=>(es.map (·.1)).getD i 0
 | [],_=>⟨rfl,rfl⟩
 | i :: l,hl=>by
  have hi:=hl i f9
  have hp:=j6 hi
  have he:=c8x hr hp
  obtain ⟨e1,e2⟩:=d5N hr l fun j hj=>hl j (e7 _ hj)
  rw [b1y he,b1y hp,e1,j8,j8,e2]
  refine ⟨rfl,?_⟩
  congr 1
  have e5:(es.map (·.1))[i]? = some (a4x P w (L[i]).2):=by rw [Array.getElem?_map,he] <;> rfl
  simp [d0W,e5]
theorem all_at {α:Type} (L:List α):(a1p L.length).filterMap (fun i=>L[i]?) = L:=by
 have go:∀ n,n ≤ L.length → (a1p n).filterMap (fun i=>L[i]?) = L.take n:=fun n=>by
  induction n with
  | zero=>intro _; rfl
  | succ n ih =>
   intro hn
   rw [List.range_succ,List.filterMap_append,ih (Nat.le_of_lt hn),List.take_succ,j6 hn]
   rw [b1y (j6 hn)] <;> rfl
 rw [go L.length (a1i _),c8M]
theorem relaid {o:Obj} (ho:s.heap.get? a = some o) (hex:o.ExactSet) (hd:o.data = .set es ep t) (hr:es.toList = b3G P w L) (hf:t.fits es.size = true) (nd:(L.map (·.2)).Nodup) (ld:w.params.followText "set-order" = true ∨ t.led = true) {wanted M:Nat}
  (hw:a3N wanted - 1 = M) (hM:Mk M) (hw2:a3N wanted ≤ 512) (hn:L.length * 5 < M * 3) {Q:Unit → a0h → Prop}
  (hQ:∀ h' L' o' es' ep' t',a9V a s.heap h' → TSet P w h' a L' o' es' ep' t' → L'.Perm L → Q () { s with heap:=h' }):a32 (a6J P w) A (setRelay a wanted) Q E s:=by
 have hsl:es.size = L.length:=by
  have:=congrArg b2Q hr
  rw [t9,b2d] at this
  exact this
 have hMl:M ≤ 511:=hM.few
 obtain ⟨t',order,e,hp,T,em,el,epl,ed⟩:=d7w (t:=t) (hs:=es.map (·.1)) (wanted:=wanted) hw hM (by rw [Array.size_map,hsl]; omega)
 rw [Array.size_map,hsl] at hp
 obtain ⟨r1,r3⟩:=d5N hr order.toList fun i hi=>a3u.mp (hp.mem_iff.mp hi)
 have pm:(order.toList.filterMap fun i=>L[i]?).Perm L:=by
  have:=hp.filterMap fun i=>L[i]?
  rw [all_at] at this
  exact this
 generalize order.toList.filterMap (fun i=>L[i]?) = L2 at r1 r3 pm
 rw [← r3] at T
 have rows2:(order.filterMap (es[·]?)).toList = b3G P w L2:=by
  first | (rw [Array.toList_filterMap]; exact r1) | simpa using r1
 have hs2:(order.filterMap (es[·]?)).size = es.size:=by
  have:=congrArg b2Q rows2
  rw [t9,b2d,pm.length_eq] at this
  rw [this,hsl]
 rw [setRelay_eq]
 refine g4 (a4q ho hd hf ?_)
 dsimp only
 refine a41 (by rw [a0V]; omega) ?_
 try refine g4 (m4 ?_)
 rw [e]
 dsimp only
 refine g4 ?_
 refine a41 (by rw [hs2]; simp) ?_
 try refine g4 (m4 ?_)
 refine m4 ?_
 dsimp only
 refine b1D ho hd ?_ (by rw [hs2,hsl,a0V]; omega)
 refine hQ _ L2 _ _ (ep + 1) t' (a8r ..) ⟨store_at ho hd,⟨hex.1,hex.2.1,hex.2.2⟩,rfl,rows2,T,(pm.map (·.2)).nodup_iff.mpr nd,by rw [el]; exact ld,by rw [pm.length_eq,em]; exact hn⟩ pm
theorem adds (R:TSet P w s.heap a L o es ep t) (TL:∀ p ∈ L,a8n P w s.heap p.2 p.1) {x:t5} {k:List Key} (hx:a8n P w s.heap k x) (hu:A.units < a9H) (few:L.length + 1 ≤ 306) {Q:Bool → a0h → Prop}
  (hQ:∀ b h' L' o' es' ep' t',a9V a s.heap h' → TSet P w h' a L' o' es' ep' t' → (k ∈ L.map (·.2) → L' = L) → (k ∉ L.map (·.2) → L'.Perm ((x,k) :: L)) → Q b { s with heap:=h' }) :
  a32 (a6J P w) A (c76 a (.ref x) (a4x P w k)) Q E s:=by
 have hsl:=R.sz
 have hroom:=R.room
 have hex:=R.exact_
 unfold c76
 refine a1I ?_
 rw [show (100000:Nat) = 99999 + 1 from rfl,setAddHashedIn_succ]
 refine g4 (a4q R.at_ R.data R.fits ?_)
 dsimp only
 refine a41 (by simp [byScan,Value.scannable]) ?_
 try refine g4 (m4 ?_)
 refine g4 (d6s R TL hx hu (fun hm=>?_) fun N hm out inn=>?_)
 ·dsimp only
  exact m4 (hQ false s.heap L o es ep t (Heap.SameBut.refl a s.heap) R (fun _=>rfl) fun z=>absurd hm z)
 dsimp only
 refine g4 (a4q R.at_ R.data R.fits ?_)
 dsimp only
 obtain ⟨q1,q2,q3,q4,q5,q6,q7,q8,q9⟩:=R.tab.put out inn
 generalize t.put (way t.mask (a4x P w k) N) = pt at q1 q3 q4 q5 q6 q7 q8 q9 ⊢
 obtain ⟨t1,p⟩:=pt
 dsimp only at q1 q3 q4 q5 q6 q7 q8 q9 ⊢
 subst q1
 have hin:(c5W es (a1G t.place (way t.mask (a4x P w k) N)) (a4x P w k,a1O x)).toList = b3G P w (L.take (a1G t.place (way t.mask (a4x P w k) N)) ++ (x,k) :: L.drop (a1G t.place (way t.mask (a4x P w k) N))):=by
  rw [SetTable.toList_insertAt,R.rows]
  unfold b3G
  rw [d0Y,j8,List.map_take,List.map_drop]
 generalize a1G t.place (way t.mask (a4x P w k) N) = p at q2 q3 hin ⊢
 have pm:(L.take p ++ (x,k) :: L.drop p).Perm ((x,k) :: L):=put_perm L p (x,k)
 have hhs:(L.take p ++ (x,k) :: L.drop p).map (fun p=>a4x P w p.2) = (L.map fun p=>a4x P w p.2).take p ++ a4x P w k :: (L.map fun p=>a4x P w p.2).drop p:=by
  rw [d0Y,j8,List.map_take,List.map_drop]
 rw [← hhs] at q3
 generalize L.take p ++ (x,k) :: L.drop p = L1 at pm q3 hin
 have hlen:L1.length = L.length + 1:=pm.length_eq
 have nd1:(L1.map (·.2)).Nodup:=by
  refine (pm.map (·.2)).nodup_iff.mpr ?_
  rw [j8]
  exact a02.mpr ⟨hm,R.nd⟩
 have hes:(c5W es p (a4x P w k,a1O x)).size = L.length + 1:=by
  have:=congrArg b2Q hin
  rw [t9,b2d,hlen] at this
  exact this
 generalize c5W es p (a4x P w k,a1O x) = es1 at hin hes ⊢
 -- whether the table knows its order by values
 have a9X:∀ t2:a5J,TabN t2 (L1.map fun p=>a4x P w p.2) → t2.mask = t.mask → (w.params.followText "set-order" = true ∨ t2.led = true) → t2.fill = L1.length → 
   a32 (a6J P w) A (do
    storeSet a es1 t2
    if (!false && t2.tooFull) = true then setRelay a (a0O (es.size + 1))
    return true) Q E s:=fun t2 T2 m2 l2 f2=>by
  refine g4 (b1D R.at_ R.data ?_ (by rw [hes,a0V]; omega))
  have sb:a9V a s.heap (s.heap.update a (c5U es1 t2)):=a8r ..
  have ho1:=store_at (es':=es1) (t':=t2) R.at_ R.data
  generalize s.heap.update a (c5U es1 t2) = h1 at sb ho1 ⊢
  have fit2:t2.fits es1.size = true:=by
   have z:=T2.sz
   rw [g8] at z
   unfold SetTable.fits d56
   rw [T2.dm,j5,beq_iff_eq,decide_eq_true_eq,m2]
   show t2.place.size = es1.size ∧ t2.place.size + 0 ≤ t.mask
   rw [z,hes,hlen]
   refine ⟨rfl,?_⟩
   have:=R.tab.mok
   unfold Mk MaskOk at this
   omega
  by_cases full:t2.tooFull = true
  ·have hfull:(L.length + 1) * 5 ≥ t.mask * 3:=by
    have z:=full
    unfold SetTable.tooFull at z
    rw [decide_eq_true_eq,f2,hlen,m2] at z
    exact z
   have two:(t.mask = 7 ∧ L.length = 4) ∨ (t.mask = 31 ∧ L.length = 18) ∨ (t.mask = 127 ∧ L.length = 76):=by
    have:=R.tab.mok
    unfold Mk MaskOk at this
    omega
   have go:∀ M,a3N (a0O (L.length + 1)) - 1 = M → Mk M → a3N (a0O (L.length + 1)) ≤ 512 → (L.length + 1) * 5 < M * 3 →
     a32 (a6J P w) A (setRelay a (a0O (es.size + 1))) (fun _ s'=>a32 (a6J P w) A (pure true) Q E s') E { s with heap:=h1 }:=fun M k1 k2 k3 k4=>by
    rw [hsl]
    refine relaid (s:={ s with heap:=h1 }) ho1 ⟨hex.1,hex.2.1,hex.2.2⟩ rfl hin fit2 nd1 l2 k1 k2 k3 (by rw [hlen]; exact k4) ?_
    intro h2 L2 o2 es2 ep2 t3 sb2 R2 pm2
    exact m4 (hQ true h2 L2 o2 es2 ep2 t3 (sb.trans sb2) R2 (fun z=>absurd z hm) fun _=>pm2.trans pm)
   have fin:a32 (a6J P w) A (setRelay a (a0O (es.size + 1))) (fun _ s'=>a32 (a6J P w) A (pure true) Q E s') E { s with heap:=h1 }:=by
    rcases two with ⟨_,e2⟩ | ⟨_,e2⟩ | ⟨_,e2⟩
    ·exact go 31 (by rw [e2,size_20]) (.inl (.inr (.inl rfl))) (by rw [e2,size_20]; decide) (by omega)
    ·exact go 127 (by rw [e2,size_76]) (.inl (.inr (.inr rfl))) (by rw [e2,size_76]; decide) (by omega)
    ·exact go 511 (by rw [e2,c8A]) (.inr rfl) (by rw [e2,c8A]; decide) (by omega)
   first
    | (refine g4 ?_; exact c3V (by simp [full]) fin)
    | exact c3V (by simp [full]) (g4 fin)
  ·have fin:Q true { s with heap:=h1 }:=by
    refine hQ true h1 L1 _ es1 (ep + 1) t2 sb ⟨ho1,⟨hex.1,hex.2.1,hex.2.2⟩,rfl,hin,T2,nd1,l2,?_⟩ (fun z=>absurd z hm) fun _=>pm
    have z:=full
    unfold SetTable.tooFull at z
    rw [decide_eq_true_eq,f2,m2] at z
    rw [m2]
    omega
   first
    | exact a41 (by simp [full]) (m4 fin)
    | (refine g4 ?_; exact a41 (by simp [full]) (m4 (m4 fin)))
 have led1:w.params.followText "set-order" = true ∨ t1.led = true:=by rw [q5]; exact R.led
 have fill1:t1.fill = L1.length:=by rw [q9,g8,hlen]
 by_cases pl:t1.plain = true
 ·refine c3V pl (g4 (d6i hx fun z=>?_))
  cases z with
  | true=>exact a9X t1 q3 q4 led1 fill1
  | false=>exact a9X { t1 with plain:=false } ⟨q3.ris,q3.dm,q3.sz,q3.mok,q3.bd,q3.reach⟩ q4 led1 fill1
 ·refine a41 pl (g4 (m4 ?_))
  exact a9X t1 q3 q4 led1 fill1
end
end AqT
namespace AqU
open PySem PySem.W PySem.SeqAt PySem.Calls PyProof.Rows
/-- compared place by place, up to the first that differs -/
def cmpAll:List c9 → List c9 → Bool
 | x :: xs,y :: ys=>alike x y && (!j3 x y || cmpAll xs ys)
 | _,_=>true
theorem d3R {x y:c9} {xs ys:List c9} (h:cmpAll (x :: xs) (y :: ys) = true):alike x y = true ∧ (j3 x y = true → cmpAll xs ys = true):=by
 rw [cmpAll,j5,Bool.or_eq_true] at h
 refine ⟨h.1,fun e=>?_⟩
 rcases h.2 with z | z
 ·rw [e] at z; cases z
 ·exact z
theorem cmp_alike:∀ {xs ys:List c9},alikeAll xs ys = true → cmpAll xs ys = true
 | [],_,_=>by simp [cmpAll]
 | _ :: _,[],_=>by simp [cmpAll]
 | x :: xs,y :: ys,h=>by
  obtain ⟨h1,h2⟩:=alike_all_cons h
  rw [cmpAll,h1,cmp_alike h2]
  simp
mutual
theorem b66 {h:b9M}:∀ (d d':c9) (v:f8) (as as':List t5),Aq.noDic d = true → d02 h v d as → d02 h v d' as' → d = d'
 | .none,_,_,_,_,_,r,r'=>by cases r; cases r'; rfl
 | .bool _,_,_,_,_,_,r,r'=>by cases r; cases r'; rfl
 | .int _,_,_,_,_,_,r,r'=>by cases r; cases r'; rfl
 | .str _,_,_,_,_,_,r,r'=>by cases r; cases r'; rfl
 | .list xs,d',_,_,_,n,r,r'=>by
  have n':Aq.noDics xs = true:=by rw [Aq.noDic] at n; exact n
  cases r with
  | list h1 h2 h3 h4 =>
   cases r' with
   | list k1 k2 k3 k4 =>
    rw [h1] at k1; cases k1
    rw [h3] at k3; cases k3
    rw [b0U xs _ _ _ _ n' h4 k4]
   | tuple k1 k2 k3 k4=>rw [h1] at k1; cases k1; rw [h2] at k2; injection k2 with k2; exact absurd k2 (by decide)
   | dict k1 k2 k3 k4 k5=>rw [h1] at k1; cases k1; rw [h2] at k2; injection k2 with k2; exact absurd k2 (by decide)
 | .tuple xs,d',_,_,_,n,r,r'=>by
  have n':Aq.noDics xs = true:=by rw [Aq.noDic] at n; exact n
  cases r with
  | tuple h1 h2 h3 h4 =>
   cases r' with
   | tuple k1 k2 k3 k4 =>
    rw [h1] at k1; cases k1
    rw [h3] at k3; cases k3
    rw [b0U xs _ _ _ _ n' h4 k4]
   | list k1 k2 k3 k4=>rw [h1] at k1; cases k1; rw [h2] at k2; injection k2 with k2; exact absurd k2 (by decide)
   | dict k1 k2 k3 k4 k5=>rw [h1] at k1; cases k1; rw [h2] at k2; injection k2 with k2; exact absurd k2 (by decide)
 | .dict _,d',_,_,_,n,_,_=>by rw [Aq.noDic] at n; cases n
theorem b0U {h:b9M}:∀ (xs ys:List c9) (vs:List f8) (as as':List t5),Aq.noDics xs = true → d55 h vs xs as → d55 h vs ys as' → xs = ys
 | [],_,_,_,_,_,r,r'=>by cases r; cases r'; rfl
 | x :: xs,ys,_,_,_,n,r,r'=>by
  rw [Aq.noDics,j5] at n
  cases r with
  | cons h1 h2 =>
   cases r' with
   | cons k1 k2=>rw [b66 x _ _ _ _ n.1 h1 k1,b0U xs _ _ _ _ n.2 h2 k2]
end
theorem d9Q {h:b9M} {ds:List c9} {v:f8} {d:c9} {as:List t5} (nd:∀ d ∈ ds,Aq.noDic d = true) (hd:d ∈ ds) (r:d02 h v d as):(d0Q h ds).keyOf v = some (keyToks d):=by
 have q:∃ d,d ∈ ds ∧ ∃ as,d02 h v d as:=⟨d,hd,as,r⟩
 have e:(d0Q h ds).keyOf v = some (keyToks q.choose):=by
  show (open Classical in if q:∃ d,d ∈ ds ∧ ∃ as,d02 h v d as then some (keyToks q.choose) else none) = _
  rw [dif_pos q]
 obtain ⟨z1,as2,z2⟩:=q.choose_spec
 rw [e,b66 _ _ _ _ _ (nd _ z1) z2 r]
section
variable {prog:a2x} {w:i3} {A:b9L} {E:f8 → a0h → Prop} {s:a0h}
theorem d1g {b fin:Bool} {Q:Bool → a0h → Prop}:∀ (xs ys:List c9) (i:Nat) (vs us:List f8) (as bs:List t5),d55 s.heap vs xs as → d55 s.heap us ys bs → cmpAll xs ys = true →
  A.units + min (a1N xs) (a1N ys) < a9H → (b = true → i = 0 → ∀ x r t,xs = x :: r → x ≠ .tuple t) → fin = decide (xs.length < ys.length) → Q (lexLt itemOrd (d5k xs) (d5k ys)) s → KatLex prog w A b fin Q (vs.zip us) i s
 | [],[],i,_,_,_,_,ra,rb,_,_,_,hf,hq=>by
  cases ra
  cases rb
  obtain rfl:fin = false:=by rw [hf]; rfl
  rw [lex_irrefl] at hq
  exact kat_nil hq
 | [],y :: ys,i,_,_,_,_,ra,rb,_,_,_,hf,hq=>by
  cases ra
  obtain rfl:fin = true:=by rw [hf]; exact decide_eq_true (Nat.succ_pos _)
  rw [toks_all_cons] at hq
  simp only [d5k] at hq
  rw [lex_diff (O:=itemOrd) (by simp)] at hq
  rw [List.zip_nil_left]
  exact kat_nil (by simpa [itemLt] using hq)
 | x :: xs,[],i,_,_,_,_,ra,rb,_,_,_,hf,hq=>by
  cases rb
  obtain rfl:fin = false:=by rw [hf]; exact decide_eq_false (Nat.not_lt_zero _)
  rw [toks_all_cons] at hq
  simp only [d5k] at hq
  rw [lex_diff (O:=itemOrd) (by simp)] at hq
  rw [List.zip_nil_right]
  exact kat_nil (by simpa [itemLt] using hq)
 | x :: xs,y :: ys,i,_,_,_,_,ra,rb,h,hu,hb,hf,hq=>by
  obtain ⟨h1,h2⟩:=d3R h
  have hf2:fin = decide (xs.length < ys.length):=by
   rw [hf]
   simp only [t4,Nat.add_lt_add_iff_right]
  cases ra with
  | cons r rs =>
   cases rb with
   | cons r' rs' =>
    rw [List.zip_cons_cons]
    refine kat_cons (eqAt_alike x y A s _ _ _ _ r r' h1 (room_head hu) prog w _ _ ?_)
    cases hx:j3 x y with
    | true =>
     rw [dataLt_all_yes h1 hx] at hq
     exact kat_yes (d1g xs ys (i + 1) _ _ _ _ rs rs' (h2 hx) (room_tail hu) (fun _ hi=>absurd hi (Nat.succ_ne_zero i)) hf2 hq)
    | false =>
     rw [dataLt_all_no h1 hx] at hq
     refine kat_no (oneLt_alike (fun hbi t=>?_) r r' h1 (ne_none_of h1 hx) (room_head hu) hq)
     rw [j5] at hbi
     exact hb hbi.1 (by simpa using hbi.2) x xs t rfl
/-- rows, none empty, their first places alike, each two compared -/
structure Rows (ds:List c9):Prop where
 tup:∀ d ∈ ds,∃ x r,d = .tuple (x :: r)
 fst:∀ x r,a3f (x :: r) ∈ ds → ∀ y q,a3f (y :: q) ∈ ds → alike x y = true
 cmp:∀ xs,a3f xs ∈ ds → ∀ ys,a3f ys ∈ ds → cmpAll xs ys = true
 nd:∀ d ∈ ds,Aq.noDic d = true
theorem Rows.perm {ds es:List c9} (R:Rows ds) (h:∀ d ∈ es,d ∈ ds):Rows es :=
 ⟨fun d hd=>R.tup d (h d hd),fun x r h1 y q h2=>R.fst x r (h _ h1) y q (h _ h2),fun xs h1 ys h2=>R.cmp xs (h _ h1) ys (h _ h2),fun d hd=>R.nd d (h d hd)⟩
theorem sorts {vs:List f8} {ds:List c9} (e:EachIs (fun v d=>∃ as,d02 s.heap v d as) vs ds) (R:Rows ds) (hu:∀ d,d ∈ ds → A.units + d.depth < a9H):SortsAt prog w A s (d0Q s.heap ds) vs:=by
 refine ⟨fun v hv=>?_,?_⟩
 ·obtain ⟨d,hd,as,r⟩:=e.left v hv
  exact ⟨_,d9Q R.nd hd r⟩
 cases ds with
 | nil =>
  cases e
  refine ⟨general',fun E x y a b Q ha _ _=>?_,fun h2=>absurd h2 (by simp)⟩
  obtain ⟨d,_,hd,_⟩:=d8Z ha
  exact absurd hd (by simp)
 | cons d₀ ds₀ =>
  obtain ⟨x₀,r₀,e₀⟩:=R.tup d₀ f9
  have m₀:a3f (x₀ :: r₀) ∈ d₀ :: ds₀:=by rw [← e₀]; exact f9
  have first:∀ x r,a3f (x :: r) ∈ d₀ :: ds₀ → dataType x = dataType x₀:=fun x r hm=>dataType_alike (R.fst x r hm x₀ r₀ m₀)
  refine ⟨tuples' (dataType x₀ != d5j "tuple"),?_,fun h2 E Q hq=>?_⟩
  ·intro E x y a b Q ha hb hq
   obtain ⟨d,as,hd,ra,rfl⟩:=d8Z ha
   obtain ⟨d',as',hd',rb,rfl⟩:=d8Z hb
   have room:A.units + min d.depth d'.depth < a9H:=Nat.lt_of_le_of_lt (Nat.add_le_add_left (Nat.min_le_left _ _) _) (hu d hd)
   obtain ⟨x1,r1,rfl⟩:=R.tup d hd
   obtain ⟨x2,r2,rfl⟩:=R.tup d' hd'
   have hq':Q (dataLt (.tuple (x1 :: r1)) (.tuple (x2 :: r2))) s:=hq
   rw [dataLt_tuple] at hq'
   cases ra with
   | @tuple l o xs n _ _ h1 h2 h3 h4 =>
    cases rb with
    | @tuple l' o' xs' n' _ _ k1 k2 k3 k4 =>
     have n1:xs.size = (x1 :: r1).length:=by simpa using d8W _ _ _ h4
     have n2:xs'.size = (x2 :: r2).length:=by simpa using d8W _ _ _ k4
     refine kat_lt h1 h3 k1 k3 (d1g (x1 :: r1) (x2 :: r2) 0 _ _ _ _ h4 k4 (R.cmp _ hd _ hd') (by have q:=SeqAt.room_in room; omega) (fun hb _ x r t ex=>?_) (by rw [n1,n2]) hq')
     obtain ⟨rfl,rfl⟩:=List.cons.inj ex
     rw [← first _ _ hd] at hb
     exact dataType_tuple hb t
  ·obtain ⟨fs,t1,t2,t3⟩:=each_katTups e R.tup
   refine kat_kind (T:=dataType x₀) t1 (by omega) (fun f hf=>?_) (beq_self_eq_true _) hq
   obtain ⟨x,r,as,m1,m2⟩:=t3 f hf
   rw [← first x r m1]
   exact looks_reads m2
variable {β:Type} {vs:List f8} {bs:List β} {enc:β → c9} {R:f8 → β → Prop}
theorem d3T {h:b9M} {ds:List c9} (nd:∀ d ∈ ds,Aq.noDic d = true) {vs:List f8} (e:EachIs (fun v d=>∃ as,d02 h v d as) vs ds):EachIs (fun v d=>(d0Q h ds).keyOf v = some (keyToks d)) vs ds :=
 (each_mem e).mono fun _ _ ⟨⟨_,r⟩,hd⟩=>d9Q nd hd r
/-- xs.sort() of a list that holds no list -/
theorem sort_rows {a:t5} {n:Nat} {Q:f8 → a0h → Prop} (ho:s.heap.get? a = some (a7a "list" vs.toArray n)) (e:EachIs R vs bs) (er:EachIs (fun v b=>∃ as,d02 (d07 s.heap a vs) v (enc b) as) vs bs) (hr:Rows (bs.map enc)) (hL:bs.length ≤ m8)
  (hu:∀ b,b ∈ bs → A.units + 1 + (enc b).depth < a9H) (h:∀ out,out.length = bs.length → EachIs R out (bs.mergeSort (dataLe false enc)) → Q .none { s with heap:=a4p s.heap a vs (List.toArray out) }) :
  a32 (a6J prog w) A (call (.builtin "list.sort") [.ref a]) Q E s:=by
 have em:=each_map (R:=fun v d=>∃ as,d02 (d07 s.heap a vs) v d as) enc er
 refine wpAny_call_entry slot_list_sort ⟨_,ho,rfl⟩ entry_list_sort (list_sort_vals (κ:=d0Q (d07 s.heap a vs) (bs.map enc)) ho (sorts (s:={ s with heap:=d07 s.heap a vs }) em hr (bound_map hu)) (by rw [e.length]; exact hL) ⟨.none,rfl,?_⟩) (args_list_sort _)
 exact h _ (by rw [sortVals_length false rfl]; exact e.length) (sortVals_each (κ:=d0Q _ (bs.map enc)) (fun b=>keyToks (enc b)) e (each_of_map enc (d3T hr.nd em)))
end
end AqU
namespace AqB
open PySem PySem.Calls PySem.Spec PyProof.Rows L2 AqT
theorem TSet.any {P P':a2x} {w:i3} {h:b9M} {a:t5} {L:TL} {o:Obj} {es:Array (Int × f8)} {ep:Nat} {t:a5J} (R:TSet P w h a L o es ep t):TSet P' w h a L o es ep t:=⟨R.at_,R.exact_,R.data,R.rows,R.tab,R.nd,R.led,R.room⟩
def TSetO (w:i3) (a:t5) (L:TL):HO:=.ext fun h=>∃ P o es ep t,TSet P w h a L o es ep t
theorem d2z {P:a2x} {w:i3} {H:Hp} {h:b9M} {a:t5} {L:TL} (R:∃ o es ep t,TSet P w h a L o es ep t):ObjOk P w H h a (TSetO w a L):=by
 obtain ⟨o,es,ep,t,r⟩:=R
 exact ⟨⟨P,o,es,ep,t,r⟩,⟨o,r.at_⟩,fun h1 h2 ⟨P,o,es,ep,t,r⟩ k=>⟨P,o,es,ep,t,k o r.at_,r.exact_,r.data,r.rows,r.tab,r.nd,r.led,r.room⟩⟩
/-- what a set has of a list -/
structure Of (L M:TL):Prop where
 sub:∀ p ∈ M,p ∈ L
 all:∀ p ∈ L,p.2 ∈ M.map (·.2)
 nd:(M.map (·.2)).Nodup
def rSetT (w:i3) (K:b0):List V → Hp → VK → Prop:=fun xs H Q=>∃ (l:t5) (L:TL),xs = [b6k l] ∧ H l = some (.lst (L.map fun p=>b6k p.1)) ∧ (∀ p ∈ L,SqT K H p.1 (p.2.map kV)) ∧ L.length ≤ 300 ∧ ∀ a M,H a = none → Of L M → Q (.ref a) (upd H a (TSetO w a M))
section
variable {X:Cx}
theorem Inv.tupAt {pins:List (t5 × Obj)} {σ:a2W} {H:Hp} {s:a0h} {b:t5} {ks:List Key} (I:Inv X pins σ H s) (h:SqT X.K H b (ks.map kV)):a8n X.prog X.w s.heap ks b:=by
 obtain ⟨its,r,⟨o,e,c,n,d⟩,_⟩:=I.tuple h
 exact ⟨o,_,n,e,c,d,by simpa using items_are r⟩
theorem c4J:∀ {L:TL} {us:List f8},Vals (L.map fun p=>b6k p.1) us → us = L.map fun p=>a1O p.1
 | [],_,r=>by cases r; rfl
 | p :: L,_,r=>by
  rw [j8] at r
  cases r with
  | cons h t =>
   have h':_ = a1O p.1:=h
   rw [h',c4J t]
   rfl
theorem b59 {P:a2x} {w:i3} {h h':b9M} {k:List Key} {b:t5} (x:a8n P w h k b) (hk:∀ c o,h.get? c = some o → h'.get? c = some o):a8n P w h' k b:=by
 obtain ⟨o,items,n,e,r⟩:=x
 exact ⟨o,items,n,hk _ _ e,r⟩
theorem cr_setT (hc:X.calm = true) (hu:X.A.units + 64 < a9H):d8N X (.type "set") (rSetT X.w X.K):=by
 intro pins s σ H xs us Q I r h
 obtain ⟨l,L,rfl,hl,ht,hb,q⟩:=h
 rw [c3N r]
 obtain ⟨its,rv,pl,hz⟩:=I.list (.of hl)
 have ei:=c4J rv
 have hn:H s.heap.objs.size = none:=I.hok.fresh (a1i _)
 have tu:∀ p ∈ L,a8n X.prog X.w s.heap p.2 p.1:=fun p hp=>Inv.tupAt I (ht p hp)
 have ad:AqS.Adds X.prog X.w a9H s.heap s.heap.objs.size its (fun i h=>∃ M o es ep t,TSet X.prog X.w h s.heap.objs.size M o es ep t ∧ Of (L.take i) M ∧ M.length ≤ i):=by
  refine ⟨fun i h h' ⟨M,o,es,ep,t,R,f,z⟩ k _=>⟨M,o,es,ep,t,⟨k o R.at_,R.exact_,R.data,R.rows,R.tab,R.nd,R.led,R.room⟩,f,z⟩,fun A' E' i s' v Q' hA hv ⟨M,o,es,ep,t,R,f,z⟩ k0 hQ=>?_⟩
  rw [ei,a0b] at hv
  cases hp:L[i]? with
  | none=>rw [hp] at hv; cases hv
  | some p =>
   rw [hp] at hv
   obtain rfl:a1O p.1 = v:=r9 hv
   have hpL:p ∈ L:=w8 hp
   have hi:i < L.length:=(j7.mp hp).1
   have nx:L.take (i + 1) = L.take i ++ [p]:=by rw [List.take_add_one,hp]; rfl
   unfold setAdd
   refine a1I ?_
   refine g4 (wpAny_pyHash_tuple hA (b59 (tu p hpL) k0) ?_)
   refine adds (s:={ s' with toks:=s'.toks + (p.2.length + 1) }) R (fun q hq=>b59 (tu q (a4y (f.sub q hq))) k0) (b59 (tu p hpL) k0) hA (by omega) fun b h' M' o' es' ep' t' sb R' yes no=>?_
   refine hQ b h' _ (c8N _ _) sb ⟨M',o',es',ep',t',R',?_⟩
   by_cases hm:p.2 ∈ M.map (·.2)
   ·rw [yes hm]
    refine ⟨⟨fun x hx=>?_,fun x hx=>?_,f.nd⟩,by omega⟩
    ·rw [nx]; exact a0E _ (f.sub x hx)
    ·rw [nx] at hx
     rcases v0.mp hx with hx | hx
     ·exact f.all x hx
     ·rw [a1Z.mp hx]; exact hm
   ·have pm:=no hm
    refine ⟨⟨fun x hx=>?_,fun x hx=>?_,R'.nd⟩,by rw [pm.length_eq,t4]; omega⟩
    ·rw [nx]
     rcases o9.mp (pm.mem_iff.mp hx) with rfl | hx
     ·exact a2K _ (n3 _)
     ·exact a0E _ (f.sub x hx)
    ·have pm2:=pm.map (·.2)
     rw [pm2.mem_iff]
     rw [nx] at hx
     rcases v0.mp hx with hx | hx
     ·exact e7 _ (f.all x hx)
     ·rw [a1Z.mp hx]; exact f9
 refine AqS.call_set (P:=X.prog) (w:=X.w) (u:=a9H) (I.ok.hd hc) pl.isList ad (by omega) (fun h ho _=>?_) fun h' tk J k=>?_
 ·refine ⟨[],_,#[],0,_,⟨ho,⟨rfl,rfl,rfl⟩,rfl,rfl,⟨c5R,rfl,rfl,.inl (.inl rfl),fun x hx=>absurd (show x ∈ ([]:List Nat) from hx) (by simp),fun i h j e=>by simp at e⟩,b0H,?_,by show 0 < 7 * 3; decide⟩,⟨fun p hp=>by simp at hp,fun p hp=>by simp at hp,b0H⟩,a1i _⟩
  show _ ∨ (!X.w.params.followText "set-order") = true
  cases X.w.params.followText "set-order"
  ·exact .inr rfl
  ·exact .inl rfl
 ·obtain ⟨M,o,es,ep,t,R,f,_⟩:=J
  have el:its.length = L.length:=by rw [ei,g8]
  rw [el,c8M] at f
  exact ⟨.ref s.heap.objs.size,upd H s.heap.objs.size (TSetO X.w s.heap.objs.size M),I.laid (t':=tk) k (a1i _) (d2z ⟨o,es,ep,t,R⟩),rfl,q _ M hn f⟩
/-- a tuple of keys as data -/
def tupD (ks:List Key):c9:=.tuple (ks.map Aq.kD)
def rSortT (w:i3) (K:b0):List V → Hp → VK → Prop:=fun vs H Q=>∃ (a:t5) (M:TL),vs = [b6k a] ∧ H a = some (TSetO w a M) ∧ (∀ p ∈ M,SqT K H p.1 (p.2.map kV)) ∧ M.length ≤ 4000 ∧ AqU.Rows (M.map fun p=>tupD p.2) ∧
 ∀ (p:t5) (N:TL),N.Perm M → (N.map fun p=>tupD p.2).Pairwise AqS.leD → H p = none → Q (.ref p) (upd H p (.lst (N.map fun p=>b6k p.1)))
theorem b3F {h:b9M}:∀ {ks:List Key} {us:List f8},ItemsAre (b2S X.prog X.w) ks us → d55 h us (ks.map Aq.kD) []
 | _,_,.nil=>.nil
 | _,_,.cons hk t=>by
  rename_i k v ks vs
  rcases a8s (show c3Q k v = true from hk) with ⟨i,t',rfl,rfl⟩ | ⟨x,t',rfl,rfl⟩
  ·exact ReadsAll.cons (as:=[]) (Reads.int i t') (b3F t)
  ·exact ReadsAll.cons (as:=[]) (Reads.str x t') (b3F t)
theorem d12 {h:b9M} {ks:List Key} {b:t5} (x:a8n X.prog X.w h ks b):d02 h (.ref b) (tupD ks) []:=by
 obtain ⟨o,items,n,e,c,d,hi⟩:=x
 exact .tuple e c d (b3F (X:=X) hi)
theorem b92:∀ ks:List Key,a1N (ks.map Aq.kD) = 0
 | []=>by simp [a1N]
 | k :: ks=>by
  rw [j8,a1N,b92 ks]
  cases k <;> simp [Aq.kD,a1M]
theorem d1i (ks:List Key):(tupD ks).depth = 1:=by
 unfold tupD
 rw [a1M,b92]
theorem b6F {R:f8 → (t5 × List Key) → Prop}:∀ {vs:List f8} {N:TL},vs = N.map (fun p=>a1O p.1) → (∀ p ∈ N,R (.ref p.1) p) → a2g R vs N
 | _,[],e,_=>by subst e; exact .nil
 | _,p :: N,e,h=>by
  subst e
  exact .cons (h p f9) (b6F rfl fun q hq=>h q (e7 _ hq))
theorem c5b:∀ {vs:List f8} {N:TL},a2g (fun v p=>v = a1O p.1) vs N → Vals (N.map fun p=>b6k p.1) vs
 | _,_,.nil=>.nil
 | _,_,.cons h t=>.cons (by rw [h]; rfl) (c5b t)
theorem cr_sortT (hc:X.calm = true) (hu:X.A.units + 64 < a9H):d8N X (.builtin "sorted") (rSortT X.w X.K):=by
 intro pins s σ H vs us Q I r h
 obtain ⟨a,M,rfl,ha,ht,hb,hrw,q⟩:=h
 rw [c3N r]
 obtain ⟨P0,o,es,ep,t,R0⟩:∃ P o es ep t,TSet P X.w s.heap a M o es ep t:=(I.hok a _ ha).1
 have R:TSet X.prog X.w s.heap a M o es ep t:=TSet.any R0
 have hsz:es.size = M.length:=R.sz
 refine d3A kind_sorted plain_sorted entry_sorted (args_sorted1 _) ?_
 unfold Builtin.«sorted»
 refine g4 (m:=checkCount "sorted" 1 1 _) (m4 ?_)
 refine g4 (collect_set (A:=X.A.in1) (I.ok.hd hc) ⟨o,R.at_,R.exact_.1,R.data⟩ R.fits (by rw [hsz]; show M.length < 4096; omega) R.tab.ris R.led fun s1 vs k1 hz g1 o1 pm=>?_)
 obtain ⟨N,hN,pmN⟩:∃ N:TL,vs = N.map (fun p=>a1O p.1) ∧ N.Perm M:=by
  rw [R.rows] at pm
  have e:(b3G X.prog X.w M).map (·.2) = M.map fun p=>a1O p.1:=by
   unfold b3G
   rw [y5]
   rfl
  rw [e] at pm
  have inv:∀ {xs ys:List f8},xs.Perm ys → ∀ M:TL,ys = M.map (fun p=>a1O p.1) → ∃ N:TL,xs = N.map (fun p=>a1O p.1) ∧ N.Perm M:=fun {xs ys} hp=>by
   induction hp with
   | nil=>intro M e; cases M with
    | nil=>exact ⟨[],rfl,.refl _⟩
    | cons _ _=>cases e
   | cons x hp ih=>intro M e; cases M with
    | nil=>cases e
    | cons m M =>
     rw [j8] at e
     injection e with e1 e2
     obtain ⟨N,f1,f2⟩:=ih M e2
     exact ⟨m :: N,by rw [j8,f1,e1],f2.cons m⟩
   | swap x y l=>intro M e; cases M with
    | nil=>cases e
    | cons m M=>cases M with
     | nil=>cases e
     | cons n M =>
      rw [j8,j8] at e
      injection e with e1 e2
      injection e2 with e2 e3
      exact ⟨n :: m :: M,by rw [j8,j8,e1,e2,e3],.swap _ _ _⟩
   | trans h1 h2 i1 i2=>intro M e; obtain ⟨N,f1,f2⟩:=i2 M e; obtain ⟨N',g1,g2⟩:=i1 N f1; exact ⟨N',g1,g2.trans f2⟩
  exact inv pm M rfl
 have hvl:vs.length = M.length:=by rw [hN,g8,pmN.length_eq]
 have small:M.length ≤ m8:=by rw [a0V]; omega
 refine g4 (wpAny_newList ?_ (by rw [hvl]; exact small))
 have hoL:(s1.heap.push (a7a "list" vs.toArray 0)).get? s1.heap.objs.size = some (a7a "list" vs.toArray 0):=a1a _ rfl
 have tu:∀ p ∈ N,a8n X.prog X.w s.heap p.2 p.1:=fun p hp=>Inv.tupAt I (ht p (pmN.mem_iff.mp hp))
 have e1:a2g (fun v (p:t5 × List Key)=>v = a1O p.1) vs N:=b6F hN fun p hp=>rfl
 have e2:a2g (fun v (p:t5 × List Key)=>∃ as,d02 (PySem.W.sortingHeap (s1.heap.push (a7a "list" vs.toArray 0)) s1.heap.objs.size vs) v (tupD p.2) as) vs N:=b6F hN fun p hp=>by
  refine ⟨[],d12 (X:=X) (b59 (tu p hp) fun c u e=>?_)⟩
  have q1:=k1 c u e
  exact PySem.W.sortingHeap_old (a67 (a66 q1)) (r8 _ q1)
 have hrN:AqU.Rows (N.map fun p=>tupD p.2):=hrw.perm fun d hd=>by
  obtain ⟨p,hp,rfl⟩:=e9.mp hd
  exact e9.mpr ⟨p,pmN.mem_iff.mp hp,rfl⟩
 refine g4 (a1I (AqU.sort_rows (s:={ s1 with heap:=s1.heap.push (a7a "list" vs.toArray 0) }) (enc:=fun p=>tupD p.2) (bs:=N) hoL e1 e2 hrN (by rw [pmN.length_eq]; exact small) (fun b _=>by rw [d1i]; show X.A.units + 1 + 1 + 1 < a9H; omega) fun out hol eo=>?_))
 obtain ⟨c,hc2⟩:=sortedHeap_at (vs:=vs) (out:=out.toArray) hoL
 have pms:=c13 N (a1F false fun p=>tupD p.2)
 have hv:=c5b eo
 have hlen:((N.mergeSort (a1F false fun p=>tupD p.2)).map fun p=>b6k p.1).length ≤ m8:=by
  rw [g8,pms.length_eq,pmN.length_eq]; exact small
 have hn:H s1.heap.objs.size = none:=I.hok.fresh hz
 have kk:∀ b u,s.heap.get? b = some u → (a4p (s1.heap.push (a7a "list" vs.toArray 0)) s1.heap.objs.size vs out.toArray).get? b = some u:=fun b u e=>by
  have q1:=k1 b u e
  have hlt:=a66 q1
  rw [sortedHeap_old (a67 hlt) (by rw [a63]; exact b1z hlt)]
  exact r8 _ q1
 have J:Inv X pins σ (upd H s1.heap.objs.size (.lst ((N.mergeSort (a1F false fun p=>tupD p.2)).map fun p=>b6k p.1))) { s with heap:=a4p (s1.heap.push (a7a "list" vs.toArray 0)) s1.heap.objs.size vs out.toArray,gens:=s1.gens,drawn:=s1.drawn,toks:=s1.toks } :=
  I.call (ch:=[]) (Un.laid kk hz hn) (I.hok.laid kk hz ⟨hlen,out,c,hv,hc2⟩) (by rw [g1]; exact I.bare) (fun _ z=>nomatch z)
 refine m4 ⟨_,rfl,?_⟩
 have e:(⟨a4p (s1.heap.push (a7a "list" vs.toArray 0)) s1.heap.objs.size vs out.toArray,s1.gens,s1.drawn,s1.toks,s1.os⟩:a0h) = { s with heap:=a4p (s1.heap.push (a7a "list" vs.toArray 0)) s1.heap.objs.size vs out.toArray,gens:=s1.gens,drawn:=s1.drawn,toks:=s1.toks }:=by
  rw [o1]
 show EP X pins σ Q (.ref s1.heap.objs.size) ⟨a4p (s1.heap.push (a7a "list" vs.toArray 0)) s1.heap.objs.size vs out.toArray,s1.gens,s1.drawn,s1.toks,s1.os⟩
 rw [e]
 exact ⟨.ref s1.heap.objs.size,_,J,rfl,q _ _ (pms.trans pmN) (a2X.mpr (AqS.pw_sort (fun p:t5 × List Key=>tupD p.2) _)) hn⟩
/-- len(s) -/
def rLenT (w:i3):List V → Hp → VK → Prop:=fun vs H Q=>∃ (a:t5) (M:TL),vs = [b6k a] ∧ H a = some (TSetO w a M) ∧ M.length ≤ 4000 ∧ Q (.int M.length) H
theorem cr_lenT:d8N X (.builtin "len") (rLenT X.w):=by
 intro pins s σ H vs us Q I r h
 obtain ⟨a,M,rfl,ha,hb,q⟩:=h
 rw [c3N r]
 obtain ⟨P0,o,es,ep,t,R0⟩:∃ P o es ep t,TSet P X.w s.heap a M o es ep t:=(I.hok a _ ha).1
 have R:TSet X.prog X.w s.heap a M o es ep t:=TSet.any R0
 exact call_len_set R.at_ R.exact_ R.data R.fits (by rw [R.sz]; omega) ⟨.int M.length,H,I.tok _,⟨_,by rw [R.sz]⟩,q⟩
end
end AqB
namespace AqB
open PySem PySem.Calls PySem.Spec PyProof.Rows L2 AqT
end AqB
namespace Aq
open PySem PySem.Spec PyProof.Rows L2
section
variable {K:b0} {W:WX}
open AqB (tupD)
theorem a4l {α:Type} [DecidableEq α]:∀ {l m:List α},l.Nodup → (∀ x ∈ l,x ∈ m) → l.length ≤ m.length
 | [],m,_,_=>a5b _
 | x :: l,m,h,hs=>by
  have hx:=hs x f9
  have nd:=a02.mp h
  have hl:l.length ≤ (m.erase x).length:=a4l nd.2 fun y hy=>by
   have ne:y ≠ x:=fun e=>nd.1 (e ▸ hy)
   exact (e0m ne).mpr (hs y (e7 _ hy))
  rw [d5e hx] at hl
  have:0 < m.length:=d8m hx
  rw [t4]; omega
def d9n:DCl:=gC1 fun d P=>match d with
 | .list ds=>AqU.Rows ds ∧ (∀ d ∈ ds,d.depth ≤ 60) ∧ ∀ es,es.Perm ds → es.Pairwise AqS.leD → P (.newL es)
 | _=>False
def e0d:c9 → Option (List Key)
 | .tuple ds=>b1V ds
 | _=>none
def a7p:List c9 → Option (List (List Key))
 | []=>some []
 | d :: ds=>match e0d d,a7p ds with
  | some k,some ks=>some (k :: ks)
  | _,_=>none
theorem d1y (ks:List Key):b1V (ks.map kD) = some ks:=by
 induction ks with
 | nil=>rfl
 | cons k ks ih=>rw [j8,b1V,d9e,ih]
theorem b3X (kss:List (List Key)):a7p (kss.map tupD) = some kss:=by
 induction kss with
 | nil=>rfl
 | cons k ks ih=>rw [j8,a7p,ih]; show (match b1V (k.map kD),some ks with | some k,some ks=>some (k :: ks) | _,_=>none) = _; rw [d1y]
theorem c8g:∀ {ds:List c9} {ks:List Key},b1V ds = some ks → ds = ks.map kD
 | [],ks,e=>by cases e; rfl
 | d :: ds,ks,e=>by
  unfold b1V at e
  cases q1:dK d with
  | none=>simp [q1] at e
  | some k =>
   cases q2:b1V ds with
   | none=>simp [q1,q2] at e
   | some l =>
    simp only [q1,q2,a0l] at e
    subst e
    rw [j8,← c8g q2,← kD_dK q1]
theorem b73 {F:Hp}:∀ {xs:List V} {ds:List c9} {kss:List (List Key)},DrAll K F xs ds → a7p ds = some kss → ∃ L:AqT.TL,xs = L.map (fun p=>b6k p.1) ∧ L.map (·.2) = kss ∧ (∀ p ∈ L,SqT K F p.1 (p.2.map kV)) ∧ ds = kss.map tupD
 | _,_,kss,.nil,e=>by cases e; exact ⟨[],rfl,rfl,fun p hp=>by simp at hp,rfl⟩
 | _,_,kss,.cons (v:=v) (d:=d) (ds:=ds) h t,e=>by
  unfold a7p at e
  cases q1:e0d d with
  | none=>simp [q1] at e
  | some k =>
   cases q2:a7p ds with
   | none=>simp [q1,q2] at e
   | some l =>
    simp only [q1,q2,a0l] at e
    subst e
    obtain ⟨L,e1,e2,e3,e4⟩:=b73 t q2
    cases d with
    | tuple es =>
     have q1:b1V es = some k:=q1
     cases h with
     | @tup a xs _ h1 h2 =>
      have ev:=c8h h2 q1
      rw [ev] at h1
      refine ⟨(a,k) :: L,by rw [j8,e1],by rw [j8,e2],fun p hp=>?_,by rw [j8,← e4,tupD,← c8g q1]⟩
      rcases o9.mp hp with rfl | hp
      ·exact h1
      ·exact e3 p hp
    | _=>cases q1
theorem d5u {F:Hp}:∀ (N:AqT.TL),(∀ p ∈ N,SqT K F p.1 (p.2.map kV)) → DrAll K F (N.map fun p=>b6k p.1) (N.map fun p=>tupD p.2)
 | [],_=>.nil
 | p :: N,h=>.cons (.tup (h p f9) (c8d p.2)) (d5u N fun q hq=>h q (e7 _ hq))
def b7O (w:i3) (K:b0) (ta:TE):TE:=tCB (AqB.rSortT w K) (d4 (tCB (AqB.rSetT w K) (d4 ta p7)) p7)
def b56 (w:i3) (K:b0) (ta:TE):TE:=tCB (AqB.rLenT w) (d4 (tCB (AqB.rSetT w K) (d4 ta p7)) p7)
def kST3 (ds:List c9) (P:PK) (ρ:List AV) (o:Option (List (List Key))):Prop:=match o with
 | some kss=>kss.length ≤ 300 ∧ AqU.Rows ds ∧ ∀ es:List (List Key),es.Nodup → (∀ k,k ∈ es ↔ k ∈ kss) → (es.map tupD).Pairwise AqS.leD → P (.own (.ml none (es.map tupD))) ρ
 | none=>False
def kST2 (P:PK) (ρ:List AV) (r:RV):Prop:=match r with
 | .dat (.list ds)=>kST3 ds P ρ (a7p ds)
 | _=>False
def d8x (P:PK) (r:RV) (ρ:List AV):Prop:=kST2 P ρ r.hold
def b6r (a:AEx):AEx:=fun ρ PX P=>a ρ PX (d8x P)
def kLT3 (P:PK) (ρ:List AV) (o:Option (List (List Key))):Prop:=match o with
 | some kss=>kss.length ≤ 300 ∧ ∀ es:List (List Key),es.Nodup → (∀ k,k ∈ es ↔ k ∈ kss) → P (.dat (.int es.length)) ρ
 | none=>False
def kLT2 (P:PK) (ρ:List AV) (r:RV):Prop:=match r with
 | .dat (.list ds)=>kLT3 P ρ (a7p ds)
 | _=>False
def d8w (P:PK) (r:RV) (ρ:List AV):Prop:=kLT2 P ρ r.hold
def b50 (a:AEx):AEx:=fun ρ PX P=>a ρ PX (d8w P)
theorem c58 {w:i3} {ta:TE} {a:AEx} (ha:ES K W ta a):ES K W (b7O w K ta) (b6r a):=fun C ρ PX P F H σ Q R h xs k =>
 ha C ρ PX _ F H σ _ R h xs fun v F1 H1 r ρ1 R1 s1 o1 p1=>by
  obtain ⟨F2,R2,s2,o2,n2⟩:=a2R R1 o1
  unfold d8x kST2 at p1
  split at p1
  ·rename_i ds e
   rw [e] at o2
   cases o2 with
   | lst q1 q2 =>
    unfold kST3 at p1
    split at p1
    ·rename_i kss ek
     obtain ⟨hb,hrw,hp⟩:=p1
     obtain ⟨L,e1,e2,e3,e4⟩:=b73 q2 ek
     subst e1
     have e3H:∀ p ∈ L,SqT K H1 p.1 (p.2.map kV):=fun p hp=>b89 R2.sub (e3 p hp)
     refine ⟨_,L,rfl,R2.sub _ _ q1,e3H,by rw [← g8 (f:=(·.2)),e2]; exact hb,fun b M hb2 of=>?_⟩
     have R3:=(R2.laidM (u:=AqB.TSetO w b M) hb2).1
     have sH:a6j H1 (upd H1 b (AqB.TSetO w b M)):=fun c u z=>by rw [a1P (a3v z hb2)]; exact z
     have ml:M.length ≤ L.length:=by
      have nd:=of.nd
      have sub:∀ x ∈ M.map (·.2),x ∈ L.map (·.2):=fun x hx=>by
       obtain ⟨p,hp,rfl⟩:=e9.mp hx
       exact a1x (of.sub p hp)
      have:=a4l nd sub
      rw [g8,g8] at this
      exact this
     have l74:L.length ≤ 300:=by rw [← g8 (f:=(·.2)),e2]; exact hb
     refine ⟨b,M,rfl,a0I,fun p hp=>b89 sH (e3H p (of.sub p hp)),by omega,hrw.perm fun d hd=>?_,fun p N pm pw hn=>?_⟩
     ·obtain ⟨x,hx,rfl⟩:=e9.mp hd
      rw [e4,← e2,y5]
      exact e9.mpr ⟨x,of.sub x hx,rfl⟩
     ·have inL:∀ x ∈ N,x ∈ L:=fun x hx=>of.sub x (pm.mem_iff.mp hx)
      have q:=hp (N.map (·.2)) ((pm.map (·.2)).nodup_iff.mpr of.nd) (fun k=>by
       rw [(pm.map (·.2)).mem_iff,← e2]
       constructor
       ·intro hk
        obtain ⟨x,hx,rfl⟩:=e9.mp hk
        exact a1x (of.sub x hx)
       ·intro hk
        obtain ⟨x,hx,rfl⟩:=e9.mp hk
        exact of.all x hx) (by rw [y5]; exact pw)
      rw [y5] at q
      exact (d4i R3 (P:=P) (Q:=Q) fun v' F' H' r' R' s' o' p'=>k v' F' H' r' ρ1 R' ((s1.trans s2).trans s') o' p').newL p _ _ hn (d5u N fun x hx=>e3 x (inL x hx)) q
    ·exact p1.elim
  ·exact p1.elim
theorem b93 {w:i3} {ta:TE} {a:AEx} (ha:ES K W ta a):ES K W (b56 w K ta) (b50 a):=fun C ρ PX P F H σ Q R h xs k =>
 ha C ρ PX _ F H σ _ R h xs fun v F1 H1 r ρ1 R1 s1 o1 p1=>by
  obtain ⟨F2,R2,s2,o2,n2⟩:=a2R R1 o1
  unfold d8w kLT2 at p1
  split at p1
  ·rename_i ds e
   rw [e] at o2
   cases o2 with
   | lst q1 q2 =>
    unfold kLT3 at p1
    split at p1
    ·rename_i kss ek
     obtain ⟨hb,hp⟩:=p1
     obtain ⟨L,e1,e2,e3,e4⟩:=b73 q2 ek
     subst e1
     have e3H:∀ p ∈ L,SqT K H1 p.1 (p.2.map kV):=fun p hp=>b89 R2.sub (e3 p hp)
     have l74:L.length ≤ 300:=by rw [← g8 (f:=(·.2)),e2]; exact hb
     refine ⟨_,L,rfl,R2.sub _ _ q1,e3H,l74,fun b M hb2 of=>?_⟩
     have R3:=(R2.laidM (u:=AqB.TSetO w b M) hb2).1
     have ml:M.length ≤ L.length:=by
      have sub:∀ x ∈ M.map (·.2),x ∈ L.map (·.2):=fun x hx=>by
       obtain ⟨p,hp,rfl⟩:=e9.mp hx
       exact a1x (of.sub p hp)
      have:=a4l of.nd sub
      rw [g8,g8] at this
      exact this
     have q:=hp (M.map (·.2)) of.nd (fun k=>by
       rw [← e2]
       constructor
       ·intro hk
        obtain ⟨x,hx,rfl⟩:=e9.mp hk
        exact a1x (of.sub x hx)
       ·intro hk
        obtain ⟨x,hx,rfl⟩:=e9.mp hk
        exact of.all x hx)
     rw [g8] at q
     exact ⟨b,M,rfl,a0I,by omega,k _ F2 _ (.dat (.int M.length)) ρ1 R3 (s1.trans s2) (.int _) q⟩
    ·exact p1.elim
  ·exact p1.elim
def kSD2 (P:PK) (ρ:List AV) (o:Option AV):Prop:=match o with
 | some (.mdt _ es)=>es.length ≤ 4000 ∧ AqU.Rows (es.map fun p=>tupD p.1) ∧ ∀ ks:List (List Key),ks.Perm (es.map (·.1)) → (ks.map tupD).Pairwise AqS.leD → P (.own (.ml none (ks.map tupD))) ρ
 | _=>False
def kSD1 (P:PK) (r:RV) (ρ:List AV):Prop:=match r with
 | .bor i=>kSD2 P ρ (ρ[i]?)
 | _=>False
def d6g (a:AEx):AEx:=fun ρ PX P=>a ρ PX (kSD1 P)
end
section
variable {ρ:List AV} {PX:PXT} {P:PK} {ds:List c9} {n:Nat}
open AqB (tupD)
theorem d75 {x:AEx}:b6r x ρ PX P = x ρ PX (d8x P):=rfl
theorem d2W:kST2 P ρ (.dat (.list ds)) = kST3 ds P ρ (a7p ds):=rfl
theorem d2X {kss:List (List Key)}:kST3 ds P ρ (some kss) = (kss.length ≤ 300 ∧ AqU.Rows ds ∧ ∀ es:List (List Key),es.Nodup → (∀ k,k ∈ es ↔ k ∈ kss) → (es.map tupD).Pairwise AqS.leD → P (.own (.ml none (es.map tupD))) ρ):=rfl
theorem d2S {x:AEx}:b50 x ρ PX P = x ρ PX (d8w P):=rfl
theorem d2Q:kLT2 P ρ (.dat (.list ds)) = kLT3 P ρ (a7p ds):=rfl
theorem d2R {kss:List (List Key)}:kLT3 P ρ (some kss) = (kss.length ≤ 300 ∧ ∀ es:List (List Key),es.Nodup → (∀ k,k ∈ es ↔ k ∈ kss) → P (.dat (.int es.length)) ρ):=rfl
theorem d74 {x:AEx}:d6g x ρ PX P = x ρ PX (kSD1 P):=rfl
theorem d2U:kSD1 P (.bor n) ρ = kSD2 P ρ (ρ[n]?):=rfl
theorem d2V {p:Option Nat} {es:List (List Key × c9)}:kSD2 P ρ (some (.mdt p es)) = (es.length ≤ 4000 ∧ AqU.Rows (es.map fun p=>tupD p.1) ∧ ∀ ks:List (List Key),ks.Perm (es.map (·.1)) → (ks.map tupD).Pairwise AqS.leD → P (.own (.ml none (ks.map tupD))) ρ):=rfl
theorem c7g {ko:Out → Prop}:d9n [.list ds] ko = (AqU.Rows ds ∧ (∀ d ∈ ds,d.depth ≤ 60) ∧ ∀ es,es.Perm ds → es.Pairwise AqS.leD → ko (.newL es)):=rfl
end
section
variable {X:Cx}
theorem c6N {e:Expr} {te:TE} {p q p2 pos:Pos} (hc:X.calm = true) (hu:X.A.units + 64 < a9H) (he:PE X e te) (hg:Gl X "sorted") (hm:X.mg "sorted" = none) (hg2:Gl X "set") (hm2:X.mg "set" = none)
  (h1:z7 [.Call (.Name "set" q) [e] [] p2] X.env = (false,d3p (.Call (.Name "set" q) [e] [] p2) X.env) :: z7 [] X.env:=by rfl) (h2:z7 [e] X.env = (false,d3p e X.env) :: z7 [] X.env:=by rfl) :
  PE X (.Call (.Name "sorted" p) [.Call (.Name "set" q) [e] [] p2] [] pos) (b7O X.w X.K te) :=
 a0f (AqB.cr_sortT hc hu) hg hm (by decide +kernel) (c6 (a3o (AqB.cr_setT hc hu) hg2 hm2 (by decide +kernel) (c6 he d8 h2) (by decide) (by decide) h2 rfl) d8 h1) (by decide) (by decide) h1 rfl
theorem c0b {e:Expr} {te:TE} {p q p2 pos:Pos} (hc:X.calm = true) (hu:X.A.units + 64 < a9H) (he:PE X e te) (hg:Gl X "len") (hm:X.mg "len" = none) (hg2:Gl X "set") (hm2:X.mg "set" = none)
  (h1:z7 [.Call (.Name "set" q) [e] [] p2] X.env = (false,d3p (.Call (.Name "set" q) [e] [] p2) X.env) :: z7 [] X.env:=by rfl) (h2:z7 [e] X.env = (false,d3p e X.env) :: z7 [] X.env:=by rfl) :
  PE X (.Call (.Name "len" p) [.Call (.Name "set" q) [e] [] p2] [] pos) (b56 X.w X.K te) :=
 a0f AqB.cr_lenT hg hm (by decide +kernel) (c6 (a3o (AqB.cr_setT hc hu) hg2 hm2 (by decide +kernel) (c6 he d8 h2) (by decide) (by decide) h2 rfl) d8 h1) (by decide) (by decide) h1 rfl
end
end Aq
namespace Aq
open PySem PySem.Spec PyProof.Rows L2 Da
/-- at a: a dict of the module, its keys and numbers -/
structure KTab (K:b0) (w:i3) (a:t5) (tab:List (Str × Int)):Prop where
 ex:∃ es n,KDict K w a es n ∧ ∀ z,∃ r,c73 K a z = some r ∧ (match b72 tab z,r with
  | some i,some u=>RelV (.int i) u
  | none,none=>True
  | _,_=>False)
def d2l (tab:List (Str × Int)) (d:Int) (ty:TE):TE:=fun σ H Q=>ty σ H fun y H2=>∃ z,y = .str z ∧ Q (.int ((b72 tab z).getD d)) H2
section
variable {X:Cx} {o e f:Expr} {apos cpos:Pos} {ty:TE}
theorem d4k {a:t5} {tab:List (Str × Int)} {d:Int} (D:KTab X.K X.w a tab) (ho:PE X o (tC (.ref a))) (he:PE X e ty) (hf:PE X f (tC (.int d))) (m:M2 X o "get" apos e f cpos):PE X (.Call (.Attribute o "get" apos) [e,f] [] cpos) (d2l tab d ty):=by
 refine ⟨fun pins s σ H Q I h=>?_⟩
 obtain ⟨es,n,kd,look⟩:=D.ex
 refine wpAny_Call_method m.base m.few m.line PySem.F.plainAttrs_dict d8T PySem.F.type_dict_get (thn (ho.run pins s σ H (fun x H1=>x = .ref a ∧ H1 = H) I ⟨rfl,rfl⟩) fun u s1 ⟨x,H1,I1,rx,ex,eH⟩=>?_)
 subst ex eH
 obtain rfl:u = a1O a:=rx
 have mp:=PySem.W.mapOf_K (prog:=X.prog) (w:=X.w) I1.kIn kd.at_ kd.lit
 refine ⟨mp.typeIs,fun b q=>by cases q; exact ⟨_,I1.kIn _ _ kd.at_,rfl⟩,?_⟩
 rw [m.trees]
 refine Calls.callWith_builtin rfl (Calls.evalArgs_plain (Calls.spliced_cons (thn (he.run pins s1 σ H1 _ I1 h) fun iv s2 ⟨y,H2,I2,ry,z,ez,q2⟩ =>
  Calls.spliced_cons (thn (hf.run pins s2 σ H2 (fun x H3=>x = .int d ∧ H3 = H2) I2 ⟨rfl,rfl⟩) fun fv s3 ⟨x,H3,I3,rf,ex,eH⟩=>Calls.spliced_nil ?_))))
 subst ez ex eH
 obtain ⟨t,rfl⟩:=ry
 obtain ⟨r,er,rr⟩:=look z
 have mp3:=PySem.W.mapOf_K (prog:=X.prog) (w:=X.w) I3.kIn kd.at_ kd.lit
 refine call_meetsIn d8T mp3.typeIs PySem.F.entry_dict_get (PySem.F.args_dict_get_3 _ _ _) (meets_dict_get_default (strKind X.prog X.w) a (strKind_is X.prog X.w z t) kd.low fv) ⟨_,mp3,?_⟩
 rw [PySem.W.find_K kd.at_ er]
 refine ⟨.int ((b72 tab z).getD d),H3,I3.tok _,?_,q2⟩
 cases e1:b72 tab z with
 | none =>
  rw [e1] at rr
  cases r with
  | none=>exact rf
  | some u=>exact rr.elim
 | some i =>
  rw [e1] at rr
  cases r with
  | none=>exact rr.elim
  | some u=>exact rr
end
section
variable {K:b0} {W:WX}
def kKG2 (tab:List (Str × Int)) (d:Int) (P:PK) (ρ:List AV) (x:c9):Prop:=match x with
 | .str z=>P (.dat (.int ((b72 tab z).getD d))) ρ
 | _=>False
def d9B (tab:List (Str × Int)) (d:Int) (P:PK) (r:RV) (ρ:List AV):Prop:=a0X (r.look ρ) fun x=>kKG2 tab d P ρ x
def d1a (tab:List (Str × Int)) (d:Int) (a:AEx):AEx:=fun ρ PX P=>a ρ PX (d9B tab d P)
theorem d3U {tab:List (Str × Int)} {d:Int} {ta:TE} {a:AEx} (ha:ES K W ta a):ES K W (d2l tab d ta) (d1a tab d a):=fun C ρ PX P F H σ Q R h xs k =>
 ha C ρ PX _ F H σ _ R h xs fun v F1 H1 r ρ1 R1 s1 o1 p1=>by
  obtain ⟨e,ee,p1⟩:=a0q p1
  have l:=o1.lk R1 ee
  unfold kKG2 at p1
  split at p1
  ·rename_i z
   rw [l.str]
   exact ⟨z,rfl,k _ F1 H1 (.dat (.int _)) ρ1 R1 s1 (.int _) p1⟩
  ·exact p1.elim
def litP (kvs:List (Str × Int)):List (TE × TE):=kvs.map fun p=>(tC (.str p.1),tC (.int p.2))
def d5I (kvs:List (Str × Int)):List (Key × V):=kvs.map fun p=>(.inr p.1,.int p.2)
def d7g (kvs:List (Str × Int)):List (c9 × c9):=kvs.map fun p=>(.str p.1,.int p.2)
theorem d1K {σ:a2W}:∀ {kvs:List (Str × Int)} {H:Hp} {Q:List (V × V) → Hp → Prop},Q ((d5I kvs).map fun kv=>(kV kv.1,kv.2)) H → tPairs (litP kvs) σ H Q
 | [],H,Q,h=>h
 | p :: kvs,H,Q,h=>by
  show tPairs (litP kvs) σ H fun ps H3=>Q ((V.str p.1,V.int p.2) :: ps) H3
  exact d1K h
theorem d1J {F:Hp}:∀ (kvs:List (Str × Int)),DrKV K F (d5I kvs) (d7g kvs)
 | []=>.nil
 | p :: kvs=>.cons (k:=.inr p.1) (.int _) (d1J kvs)
def d6c (kvs:List (Str × Int)):AEx:=fun ρ _ P=>P (.own (.mdk none (d7g kvs))) ρ
theorem d6m {kvs:List (Str × Int)} (hm:mergeK [] (d5I kvs) = d5I kvs) (hl:kvs.length ≤ 15):ES K W (tDisp (litP kvs)) (d6c kvs):=fun C ρ PX P F H σ Q R h xs k=>fun p hp=>by
 refine d1K (kvs:=kvs) (H:=upd H p (.dK [])) (Q:=fun ps H2=>H2 p = some (.dK []) ∧ ∃ kvs:List (Key × V),ps = kvs.map (fun kv=>(kV kv.1,kv.2)) ∧ kvs.length ≤ 15 ∧ Q (.ref p) (upd H2 p (.dK (mergeK [] kvs)))) ⟨a0I,d5I kvs,rfl,by unfold d5I; rw [g8]; exact hl,?_⟩
 rw [hm,upd_upd]
 obtain ⟨R',hF,h0,hm2⟩:=R.laidM (u:=.dK (d5I kvs)) hp
 exact k (.ref p) F _ (.own (.mdk none (d7g kvs))) ρ R' (.refl _) ⟨p,rfl,rfl,⟨p,d5I kvs,rfl,hF,a0I,d1J kvs,h0⟩,h0,hm2⟩ h
def gRep:DOp:=fun d e P=>match d,e with
 | .list a,.int k=>-(2 ^ 63) ≤ k ∧ k < 2 ^ 63 ∧ a.length * k.toNat ≤ m8 ∧ P (.newL (f7 k.toNat a).flatten)
 | _,_=>False
def c8S (K:b0) (a:t5) (xs:List Str):Prop:=∃ (o:Obj) (its:Array f8) (n:Nat),K.lookup a = some o ∧ o.cls = .type "tuple" ∧ o.data = .seq its n ∧ its.size ≤ m8 ∧ Vals (xs.map V.str) its.toList
theorem d5t {F:Hp}:∀ (xs:List Str),DrAll K F (xs.map V.str) (xs.map y4)
 | []=>.nil
 | x :: xs=>.cons (.str x) (d5t xs)
theorem c8S.dr {a:t5} {xs:List Str} (h:c8S K a xs) (F:Hp):Dr K F (.ref a) (.tuple (xs.map .str)):=.tup (.inr h) (d5t xs)
theorem d6o {a:t5} {xs:List Str} (h:c8S K a xs):ES K W (tC (.ref a)) (aC (.tuple (xs.map .str))):=fun C ρ PX P F H σ Q R hp _ k=>k _ F H (.dat _) ρ R (.refl _) (h.dr F) hp
end
section
variable {ρ:List AV} {PX:PXT} {P:PK}
theorem c7c {tab:List (Str × Int)} {d:Int} {x:AEx}:d1a tab d x ρ PX P = x ρ PX (d9B tab d P):=rfl
theorem d7Z {tab:List (Str × Int)} {d:Int} {z:Str}:kKG2 tab d P ρ (.str z) = P (.dat (.int ((b72 tab z).getD d))) ρ:=rfl
theorem d2M {kvs:List (Str × Int)}:d6c kvs ρ PX P = P (.own (.mdk none (d7g kvs))) ρ:=rfl
theorem d7r {ds:List c9} {k:Int} {ko:Out → Prop}:gRep (.list ds) (.int k) ko = (-(2 ^ 63) ≤ k ∧ k < 2 ^ 63 ∧ ds.length * k.toNat ≤ m8 ∧ ko (.newL (f7 k.toNat ds).flatten)):=rfl
end
section
open He
theorem c38 {P:Params}:∀ {l:List DictEntry} {ks:List Str},l.map He.keyOf = keysIn P ks → ∀ z,z ∉ ks → l.find? (·.key.isStr z) = none ∧ l.any (·.refKey) = false
 | [],_,_,z,_=>⟨rfl,rfl⟩
 | e :: r,[],h,_,_=>by cases h
 | e :: r,k :: ks,h,z,hz=>by
  have h1:He.keyOf e :: r.map He.keyOf = some (k,PyData.keyHash P k) :: keysIn P ks:=h
  injection h1 with h2 h3
  obtain ⟨q1,q2⟩:=c38 h3 z fun m=>hz (e7 _ m)
  unfold He.keyOf at h2
  split at h2
  ·rename_i x t q
   have h4:=r9 h2
   obtain ⟨h5,h6⟩:=Prod.mk.inj h4
   subst h5
   have ne:¬ z = x:=fun e=>hz (e ▸ f9)
   have n1:e.key.isStr z = false:=by rw [q]; simp [Value.isStr]; exact fun e=>ne e.symm
   have n2:e.refKey = false:=by unfold DictEntry.refKey; rw [q]
   refine ⟨?_,?_⟩
   ·rw [a30,n1]; exact q1
   ·rw [c3H,n2,q2]; rfl
  ·cases h2
theorem d1j {K:b0} {w:i3} {a:t5} {ks:List Str} (h:dicW K a = some (keysIn w.params ks)) {es:Array DictEntry} {n:Nat} (D:KDict K w a es n) {z:Str} (hz:z ∉ ks):c73 K a z = some none:=by
 unfold dicW at h
 rw [D.at_] at h
 dsimp only at h
 split at h
 ·obtain ⟨q1,q2⟩:=c38 (r9 h) z hz
  unfold c73
  rw [D.at_]
  dsimp only
  rw [q1,q2]
  rfl
 ·cases h
theorem d7c {K:b0} {w:i3} {a:t5} {tab:List (Str × Int)} (h:dicW K a = some (keysIn w.params (tab.map (·.1)))) (hb:tabB K a tab = true):KTab K w a tab:=by
 obtain ⟨es,n,D⟩:=dicW_ok h
 refine ⟨es,n,D,fun z=>?_⟩
 by_cases hz:z ∈ tab.map (·.1)
 ·obtain ⟨p,hp,rfl⟩:=e9.mp hz
  have h2:=t0.mp hb p hp
  split at h2
  ·rename_i u t i e1 e2
   refine ⟨_,e1,?_⟩
   rw [e2]
   exact ⟨t,by rw [of_decide_eq_true h2]⟩
  ·cases h2
 ·refine ⟨none,d1j h D hz,?_⟩
  have:b72 tab z = none:=by
   unfold b72
   rw [d8n,List.find?_eq_none]
   intro p hp
   simp only [decide_eq_true_eq]
   exact fun e=>hz (e9.mpr ⟨p,hp,e⟩)
  rw [this]
  trivial
theorem c8D:∀ {xs:List Str} {vs:List f8},d4I xs vs = true → Vals (xs.map V.str) vs
 | [],[],_=>.nil
 | x :: xs,.str y t :: vs,h=>by
  obtain ⟨h1,h2⟩:=ba (show (decide (y = x) && d4I xs vs) = true from h)
  exact .cons ⟨t,by rw [of_decide_eq_true h1]⟩ (c8D h2)
 | [],_ :: _,h=>by cases h
 | x :: xs,[],h=>by cases h
 | x :: xs,.none :: vs,h=>by cases h
 | x :: xs,.bool _ :: vs,h=>by cases h
 | x :: xs,.int _ _ :: vs,h=>by cases h
 | x :: xs,.float _ _ :: vs,h=>by cases h
 | x :: xs,.bytes _ _ :: vs,h=>by cases h
 | x :: xs,.ref _ :: vs,h=>by cases h
 | x :: xs,.type _ :: vs,h=>by cases h
 | x :: xs,.builtin _ :: vs,h=>by cases h
theorem d4a {K:b0} {a:t5} {xs:List Str} (h:d7d K a xs = true):c8S K a xs:=by
 unfold d7d at h
 split at h
 ·rename_i c d its n sl e
  obtain ⟨h1,h2⟩:=ba h
  obtain ⟨h3,h4⟩:=ba h2
  refine ⟨_,its,n,e,congrArg d5j (of_decide_eq_true h1),rfl,?_,c8D h3⟩
  have:=of_decide_eq_true h4
  rw [a0V]; omega
 ·cases h
theorem SaysT.tab {fa:List Fa} {fn:List DefD} {ts:List Tab} {w:i3} {K:b0} (c:SaysT fa fn ts w K) {i:Nat} {t:Tab} (h:ts[i]? = some t):dicW K (t.1 K) = some (keysIn w.params t.2):=by
 have e:ts.map (fun t=>dicW K (t.1 K)) = ts.map fun t=>some (keysIn w.params t.2):=congrArg a3l c
 have e2:=congrArg (fun l:List (Option (List (Option (Str × Int))))=>l[i]?) e
 simp only [a0b,h,a0A,a0l] at e2
 exact e2
end
end Aq
namespace Aq
open PySem PySem.Spec PyProof.Rows L2 Da
variable {K:b0} {W:WX}
def kCn5 (P:PK) (ρ:List AV) (k:Int) (o:Option (List Int)):Prop:=match o with
 | some ns=>P (.dat (.int (ns.count k:Nat))) ρ
 | none=>False
def kCn4 (P:PK) (ρ:List AV) (o:Option c9) (es:List c9):Prop:=match o,es with
 | some (.list ds),[.int k]=>kCn5 P ρ k (a9J ds)
 | _,_=>False
def d9w (P:PK) (r1:RV) (rs:List RV) (ρ:List AV):Prop:=a3t (b7m rs) (kCn4 P ρ (r1.look ρ))
def kCn2 (a:AAx) (PX:PXT) (P:PK) (r1:RV) (ρ:List AV) (o:Option c9):Prop:=match o with
 | some (.list _)=>a ρ PX (d9w P r1)
 | _=>False
def d9v (a:AAx) (PX:PXT) (P:PK) (r1:RV) (ρ:List AV):Prop:=kCn2 a PX P r1.hold ρ (r1.hold.look ρ)
def aCnt (b:AEx) (a:AAx):AEx:=fun ρ PX P=>b ρ PX (d9v a PX P)
def c2b:c9 → Bool
 | .none=>true
 | .bool _=>true
 | .int _=>true
 | .str _=>true
 | _=>false
def kLnP (P:PK) (ρ:List AV) (r:RV):Prop:=match r with
 | .dat d=>c2b d = true ∧ P (.dat d) ρ
 | _=>False
def kLn2 (c:Ct) (P:PK) (ρ:List AV) (o:Option (List c9)):Prop:=match o with
 | some ds=>c (ds.map .dat) (fun r _=>kLnP P ρ r) X0
 | none=>False
def kLn (c:Ct) (P:PK) (rs:List RV) (ρ:List AV):Prop:=kLn2 c P ρ (b5e ρ rs)
def aLend (c:Ct) (a:AAx):AEx:=fun ρ PX P=>a ρ PX (kLn c P)
section
variable {ρ:List AV} {PX:PXT} {P:PK} {ds:List c9} {k:Int} {ns:List Int} {a:AAx} {r:RV}
theorem d2P {c:Ct}:aLend c a ρ PX P = a ρ PX (kLn c P):=rfl
theorem d72 {c:Ct}:kLn2 c P ρ (some ds) = c (ds.map .dat) (fun r _=>kLnP P ρ r) X0:=rfl
theorem d73 {d:c9}:kLnP P ρ (.dat d) = (c2b d = true ∧ P (.dat d) ρ):=rfl
theorem d7L {x:AEx}:aCnt x a ρ PX P = x ρ PX (d9v a PX P):=rfl
theorem d7I:kCn2 a PX P r ρ (some (.list ds)) = a ρ PX (d9w P r):=rfl
theorem d7J:kCn4 P ρ (some (.list ds)) [.int k] = kCn5 P ρ k (a9J ds):=rfl
theorem d7K:kCn5 P ρ k (some ns) = P (.dat (.int (ns.count k:Nat))) ρ:=rfl
end
end Aq
namespace Aq
open PySem PySem.Spec PyProof.Rows L2 Da
variable {K:b0} {W:WX}
def c81:AV → AV
 | .ml _ _=>.un
 | .mdk _ _=>.un
 | .mdt _ _=>.un
 | .tr _ _=>.un
 | a=>a
def d1I:Option AV → AV
 | some (.ml _ ds)=>.dat (.list ds)
 | _=>.un
def lentA (i:Nat) (ρ:List AV):List AV:=(ρ.map c81).set i (d1I ρ[i]?)
def kLE (P:PK) (ρ:List AV) (r:RV):Prop:=match r with
 | .dat d=>c2b d = true ∧ P (.dat d) ρ
 | .own (.ml none es)=>es.all c2b = true ∧ P (.own (.ml none es)) ρ
 | _=>False
def d89 (i:Nat) (e:AEx):AEx:=fun ρ PX P=>e (lentA i ρ) X0 (fun r _=>kLE P ρ r)
def kLR (P:PK) (ρ:List AV) (d:c9):Prop:=match d with
 | .int n=>(0 ≤ n ∧ n ≤ 1000000) ∧ P (.own (.ml none (rng 0 n.toNat))) ρ
 | _=>False
def d9C (P:PK) (r:RV) (ρ:List AV):Prop:=a0X (r.look ρ) (kLR P ρ)
def d9a (a:AEx):AEx:=fun ρ PX P=>a ρ PX (d9C P)
section
variable {ρ:List AV} {PX:PXT} {P:PK} {n:Int} {es:List c9} {d:c9} {p:Option Nat}
theorem c7d {i:Nat} {x:AEx}:d89 i x ρ PX P = x ((ρ.map c81).set i (d1I ρ[i]?)) X0 (fun r _=>kLE P ρ r):=rfl
theorem c66:c81 (.ml p es) = .un:=rfl
theorem c67:c81 (.dat d) = .dat d:=rfl
theorem c68 {ns:List Int}:c81 (.scr ns) = .scr ns:=rfl
theorem c69:c81 .un = .un:=rfl
theorem c27:d1I (some (.ml p es)) = .dat (.list es):=rfl
theorem d70:kLE P ρ (.dat d) = (c2b d = true ∧ P (.dat d) ρ):=rfl
theorem d71:kLE P ρ (.own (.ml none es)) = (es.all c2b = true ∧ P (.own (.ml none es)) ρ):=rfl
theorem c7e {x:AEx}:d9a x ρ PX P = x ρ PX (d9C P):=rfl
theorem z_lr:kLR P ρ (.int n) = ((0 ≤ n ∧ n ≤ 1000000) ∧ P (.own (.ml none (rng 0 n.toNat))) ρ):=rfl
end
end Aq
namespace Aq
open PySem PySem.Spec PyProof.Rows L2 Da
variable {K:b0} {W:WX}
def kTO3 (i:Nat) (P:PK) (ρ:List AV) (ds:List c9) (r:RV):Prop:=match r with
 | .dat d=>P (.tupO ds d) (ρ.set i .un)
 | _=>False
def kTO2 (i:Nat) (P:PK) (r:RV) (ρ:List AV) (o:Option AV):Prop:=match o with
 | some (.ml none ds)=>kTO3 i P ρ ds r.hold
 | _=>False
def kTO (i:Nat) (P:PK) (r:RV) (ρ:List AV):Prop:=kTO2 i P r ρ (ρ[i]?)
def kTD3 (P:PK) (ρ:List AV) (d0:c9) (r:RV):Prop:=match r with
 | .dat d=>P (.dat (.tuple [d0,d])) ρ
 | _=>False
def kTD2 (P:PK) (r:RV) (ρ:List AV) (o:Option AV):Prop:=match o with
 | some (.dat d0)=>kTD3 P ρ d0 r.hold
 | _=>False
def kTD (i:Nat) (P:PK) (r:RV) (ρ:List AV):Prop:=kTD2 P r ρ (ρ[i]?)
def kTO1 (i:Nat) (b:AEx) (ρ:List AV) (PX:PXT) (P:PK) (o:Option AV):Prop:=match o with
 | some (.ml none _)=>b ρ PX (kTO i P)
 | some (.dat _)=>b ρ PX (kTD i P)
 | _=>False
def aTupO (i:Nat) (b:AEx):AEx:=fun ρ PX P=>kTO1 i b ρ PX P (ρ[i]?)
def kAO (i j:Nat) (N:List AV → Prop) (r:RV) (ρ:List AV):Prop:=match r with
 | .tupO ds d=>N ((ρ.set i (.ml none ds)).set j (.dat d))
 | .dat (.tuple [a,b])=>N ((ρ.set i (.dat a)).set j (.dat b))
 | _=>False
def sAsgO (i j:Nat) (a:AEx):ASt:=fun D ρ=>a ρ D.ex (kAO i j D.nx)
def kIx5 (P:PK) (ρ:List AV) (k:Int) (o:Option (List Int)):Prop:=match o with
 | some ns=>k ∈ ns ∧ ∀ j:Nat,ns[j]? = some k → (∀ i:Nat,i < j → ns[i]? ≠ some k) → P (.dat (.int (j:Int))) ρ
 | none=>False
def kIx4 (P:PK) (ρ:List AV) (o:Option c9) (es:List c9):Prop:=match o,es with
 | some (.list ds),[.int k]=>kIx5 P ρ k (a9J ds)
 | _,_=>False
def d9z (P:PK) (r1:RV) (rs:List RV) (ρ:List AV):Prop:=a3t (b7m rs) (kIx4 P ρ (r1.look ρ))
def kIx2 (a:AAx) (PX:PXT) (P:PK) (r1:RV) (ρ:List AV) (o:Option c9):Prop:=match o with
 | some (.list _)=>a ρ PX (d9z P r1)
 | _=>False
def d9y (a:AAx) (PX:PXT) (P:PK) (r1:RV) (ρ:List AV):Prop:=kIx2 a PX P r1.hold ρ (r1.hold.look ρ)
def aIdx (b:AEx) (a:AAx):AEx:=fun ρ PX P=>b ρ PX (d9y a PX P)
section
variable {ρ:List AV} {PX:PXT} {P:PK} {ds:List c9} {k:Int} {ns:List Int} {a:AAx} {r:RV} {n i j:Nat} {d e:c9} {D:AEnds} {N:List AV → Prop}
theorem d2Y {x:AEx}:aTupO i x ρ PX P = kTO1 i x ρ PX P (ρ[i]?):=rfl
theorem d79 {x:AEx}:kTO1 i x ρ PX P (some (.ml none ds)) = x ρ PX (kTO i P):=rfl
theorem d76 {x:AEx}:kTO1 i x ρ PX P (some (.dat d)) = x ρ PX (kTD i P):=rfl
theorem d77:kTD2 P r ρ (some (.dat d)) = kTD3 P ρ d r.hold:=rfl
theorem d78:kTD3 P ρ d (.dat e) = P (.dat (.tuple [d,e])) ρ:=rfl
theorem d8a:kTO2 i P r ρ (some (.ml none ds)) = kTO3 i P ρ ds r.hold:=rfl
theorem d8b:kTO3 i P ρ ds (.dat d) = P (.tupO ds d) (ρ.set i .un):=rfl
theorem d2I {x:AEx}:sAsgO i j x D ρ = x ρ D.ex (kAO i j D.nx):=rfl
theorem d7F:kAO i j N (.tupO ds d) ρ = N ((ρ.set i (.ml none ds)).set j (.dat d)):=rfl
theorem d7G:kAO i j N (.dat (.tuple [d,e])) ρ = N ((ρ.set i (.dat d)).set j (.dat e)):=rfl
theorem c7a:RV.hold (.tupO ds d) = .dat (.tuple [.list ds,d]):=rfl
theorem d7q {ρ':List AV} {is:List Nat}:bk P ρ is (.tupO ds d) ρ' = P (.tupO ds d) (a5B ρ' is 0 ρ):=rfl
theorem d7T {x:AEx}:aIdx x a ρ PX P = x ρ PX (d9y a PX P):=rfl
theorem d7W:kIx2 a PX P r ρ (some (.list ds)) = a ρ PX (d9z P r):=rfl
theorem d7X:kIx4 P ρ (some (.list ds)) [.int k] = kIx5 P ρ k (a9J ds):=rfl
theorem d7Y:kIx5 P ρ k (some ns) = (k ∈ ns ∧ ∀ j:Nat,ns[j]? = some k → (∀ i:Nat,i < j → ns[i]? ≠ some k) → P (.dat (.int (j:Int))) ρ):=rfl
end
end Aq
namespace PySem
open Spec
end PySem
namespace L2
open PySem PySem.Spec PyProof.Rows
end L2
namespace Aq
open PySem PySem.Spec PyProof.Rows L2 Da
variable {K:b0} {W:WX}
def d1v (P:PD) (rs:List RV) (ρ:List AV):Prop:=match rs with
 | [.dat (.tuple ds)]=>P (c8V ds 0) ρ
 | _=>False
def d87 (a:AAx):AIt:=fun ρ PX P=>a ρ PX (d1v P)
theorem c65 {x:AAx} {P:PD} {ρ:List AV} {PX:PXT}:d87 x ρ PX P = x ρ PX (d1v P):=rfl
theorem c26 {P:PD} {ρ:List AV} {ds:List c9}:d1v P [.dat (.tuple ds)] ρ = P (c8V ds 0) ρ:=rfl
end Aq
namespace Aq
open PySem PySem.Spec PyProof.Rows L2
theorem c8p {P:a2x} {w:i3} {H H':Hp} {h:b9M} {a:t5} (hp:∀ b xs,H b = some (.tup xs) → H' b = some (.tup xs)) (ho:∀ b x,H b = some (.own x) → H' b = some (.own x)):∀ {u:HO},ObjOk P w H h a u → ObjOk P w H' h a u
 | .lst _,x=>x
 | .tup _,x=>x
 | .dK _,x=>x
 | .dT _,⟨a,b,xs,c,d⟩=>⟨a,b,xs,L2.Paired.mapP c fun p q ⟨e,f,g⟩=>⟨e,hp _ _ f,g⟩,d⟩
 | .set _ _,x=>x
 | .ins _ _ _,⟨a,b⟩=>⟨ho _ _ a,b⟩
 | .own _,x=>x
 | .xd _,x=>x
 | .rng _ _,x=>x
 | .frz o u,⟨a,b⟩=>⟨a,c8p hp ho b⟩
 | .tbl _,x=>x
 | .met _ _,x=>x
 | .ext _,x=>x
/-- a list that nobody names is forgotten -/
theorem c82 {X:Cx} {pins:List (t5 × Obj)} {σ:a2W} {H:Hp} {s:a0h} {p:t5} {xs:List V} (I:Inv X pins σ (upd H p (.lst xs)) s):Inv X pins σ (fun b=>if b = p then none else H b) s:=by
 have up:∀ b u,(fun b=>if b = p then none else H b) b = some u → (upd H p (.lst xs)) b = some u:=fun b u e=>by
  by_cases hb:b = p
  ·subst hb; simp at e
  ·simp only [if_neg hb] at e
   rw [a1P hb]; exact e
 have dn:∀ b,(upd H p (.lst xs)) b = none → (fun b=>if b = p then none else H b) b = none:=fun b e=>by
  by_cases hb:b = p
  ·subst hb; simp
  ·rw [a1P hb] at e
   simp only [if_neg hb]; exact e
 have sm:∀ b u,(∀ ys,u ≠ .lst ys) → (upd H p (.lst xs)) b = some u → (fun b=>if b = p then none else H b) b = some u:=fun b u n e=>by
  by_cases hb:b = p
  ·subst hb; rw [a0I] at e; cases e; exact absurd rfl (n xs)
  ·rw [a1P hb] at e
   simp only [if_neg hb]; exact e
 refine ⟨I.ok,I.os,I.bare,⟨I.base.keep,I.base.slot,fun b o a b' c=>dn _ (I.base.free b o a b' c),I.base.there,fun b ys e=>sm _ _ (fun _ z=>nomatch z) (I.base.tups b ys e),fun b o u e=>sm _ _ (fun _ z=>nomatch z) (I.base.frzs b o u e),fun b ps e=>?_⟩,I.loc,I.cell,dn _ I.free,fun x c e=>dn _ (I.freeC x c e),fun q hq=>?_,fun a u e=>c8p (fun b ys e=>sm _ _ (fun _ z=>nomatch z) e) (fun b y e=>sm _ _ (fun _ z=>nomatch z) e) (I.hok a u (up a u e)),I.len⟩
 ·obtain ⟨more,e⟩:=I.base.tbls b ps e
  exact ⟨more,sm _ _ (fun _ z=>nomatch z) e⟩
 ·obtain ⟨a,b,c⟩:=I.pin q hq
  exact ⟨a,dn _ b,c⟩
theorem d3X {X:Cx} {pins:List (t5 × Obj)} {σ:a2W} {H:Hp} {s:a0h} {p:t5} {xs:List V} (I:Inv X pins σ (upd H p (.lst xs)) s) (hp:H p = none):Inv X pins σ H s:=by
 have e:(fun b=>if b = p then none else H b) = H:=by
  funext b
  by_cases hb:b = p
  ·subst hb; simp [hp]
  ·simp [hb]
 have:=c82 I
 rwa [e] at this
theorem a4v {X:Cx} {sts:List Stmt}:PSs X sts tNo:=⟨fun _ _ _ _ _ _ h=>h.elim⟩
def d7B (j:Nat) (n:Int) (cs:List Sp) (E:a2W → XK) (t:TA):TE:=fun σ H Q=>∃ (i:Nat) (sp:Sp),σ[j]? = some (some (.int ((i:Int) + n))) ∧ cs[i]? = some sp ∧ t σ H fun vs H1=>sp vs H1 Q (E σ)
/-- the defs that the list names -/
inductive Sels (X:Cx) (k:Nat):List V → List Sp → Prop
 | nil:Sels X k [] []
 | cons {f:t5} {fd:n6} {ps:List Str} {sp:Sp} {n:Nat} {fs:List V} {sps:List Sp} (G:FnOk X.prog X.w X.K X.mg X.base (y3 X.prog X.w) n f fd ps sp) (hnk:n ≤ k) (hk:a2h X.K (.ref f) = true) (hb:Binds X.K fd ps []) (T:Sels X k fs sps):Sels X k (.ref f :: fs) (sp :: sps)
theorem Sels.at {X:Cx} {k:Nat} {fs:List V} {sps:List Sp} (S:Sels X k fs sps):∀ {i:Nat} {sp:Sp},sps[i]? = some sp → i < fs.length ∧ ∃ f fd ps,fs[i]? = some (.ref f) ∧ FnOk X.prog X.w X.K X.mg X.base (y3 X.prog X.w) k f fd ps sp ∧ a2h X.K (.ref f) = true ∧ Binds X.K fd ps []:=by
 induction S with
 | nil=>intro i sp e; simp at e
 | cons G hnk hk hb T ih =>
  intro i sp e
  cases i with
  | zero =>
   simp only [b2O,a0l] at e
   subst e
   exact ⟨by simp,_,_,_,rfl,G.mono hnk,hk,hb⟩
  | succ i =>
   obtain ⟨l,f,fd,ps,q⟩:=ih (i:=i) (by simpa using e)
   exact ⟨by simpa using l,f,fd,ps,by simpa using q⟩
theorem c4C {X:Cx} {W:WX} {k:Nat} {ls:List Expr} {tl:TA} {fs:List V} {sps:List Sp} {ie e:Expr} {ti:TE} {j:Nat} {n:Int} {lp p2 pos:Pos} {es:List Expr} {t:TA} (S:Sels X k fs sps) (hr:Room k X.A) (hL:PA X ls tl) (hl:∀ σ H (Q:List V → Hp → Prop),Q fs H → tl σ H Q) (hfs:fs.length ≤ 20)
  (hi:PE X ie ti) (hti:∀ (σ:a2W) H (Q:VK) (i:Int),σ[j]? = some (some (.int (i + n))) → Q (.int i) H → ti σ H Q) (hs:PlainIx ie) (tk:d8P X W) (ha:PA X (e :: es) t)
  (harm:d3p (.Call (.Subscript (.List ls lp) ie p2) (e :: es) [] pos) X.env = (do callWith pos (← d3p (.Subscript (.List ls lp) ie p2) X.env) [] (d03 pos (z7 (e :: es) X.env)) (backToKw pos (keywordEach [] X.env))):=by rfl)
  (he:z7 (e :: es) X.env = (false,d3p e X.env) :: z7 es X.env:=by rfl) (hpl:(d03 pos (z7 es X.env)).any (·.1) = false:=by rfl) :
  PE X (.Call (.Subscript (.List ls lp) ie p2) (e :: es) [] pos) (d7B j n sps (WE W) t):=by
 refine ⟨fun pins s σ H Q I h=>?_⟩
 obtain ⟨i,sp,ej,ei,ht⟩:=h
 obtain ⟨il,f,fd,ps,ef,G,hk,hb⟩:=S.at ei
 rw [harm]
 have P1:PE X (.Subscript (.List ls lp) ie p2) (tOp (rIx X.K) (b1C tl) ti):=z6 n8 (a1f hL) hi hs
 refine g4 (thn (P1.run pins s σ H (fun v H1=>v = .ref f ∧ ∃ p,H p = none ∧ H1 = upd H p (.lst fs)) I ?_) fun u s1 ⟨v,H1,I1,r1,q1⟩=>?_)
 ·refine hl _ _ _ ⟨by rw [a0V]; omega,fun p hp=>?_⟩
  refine hti _ _ _ (i:Int) ej ?_
  refine .inl ⟨p,fs,i,.ref f,rfl,rfl,.inl (.inl a0I),?_,rfl,p,hp,rfl⟩
  unfold atI ixN
  rw [if_pos (by omega),if_pos (by omega)]
  simpa using ef
 ·obtain ⟨rfl,p,hp,rfl⟩:=q1
  cases r1
  have I2:=d3X I1 hp
  refine PySem.W.callWith_K (h₀:=X.base) I.ok.mod.kin hk (thn (ha.run pos pins s1 σ H _ I2 ht) fun us s2 ⟨vs,H2,I3,r,q⟩=>⟨I3.kIn,?_⟩) he hpl
  exact run_fnS G hr hb (L2N.passAt tk σ) I3 r q
def kSel (cs:List Ct) (a:AAx) (ρ:List AV) (PX:PXT) (P:PK) (i:Nat):Prop:=∃ c,cs[i]? = some c ∧ a3G c a ρ PX P
def d6f (cs:List Ct) (j:Nat) (n:Int) (a:AAx):AEx:=fun ρ PX P=>∃ i:Nat,ρ[j]? = some (.dat (.int ((i:Int) + n))) ∧ kSel cs a ρ PX P i
theorem c36 {K:b0} {W:WX} {cs:List Ct} {j:Nat} {n:Int} {t:TA} {a:AAx} (ha:AS0 K W t a):ES K W (d7B j n (cs.map (spOf K)) (WE W) t) (d6f cs j n a):=fun C ρ PX P F H σ Q R h xs k=>by
 obtain ⟨i,ej,c,ec,h⟩:=h
 have q:=a0G (c:=c) ha C ρ PX P F H σ Q R h xs k
 obtain ⟨o,eo,hs⟩:=R.slot j _ ej
 obtain ⟨v,rfl,hv⟩:=hs
 cases hv
 exact ⟨i,spOf K c,eo,by rw [a0b,ec]; rfl,q⟩
end Aq
section
open PySem L2 Aq
local macro_rules | `(tactic| simp? [$xs,*])=>`(tactic| try simp -implicitDefEqProofs [$xs,*,c65,c26,d76,d77,d78,kTD,d2Y,d79,d8a,d8b,kTO,d2I,d7F,d7G,c7a,d7q,d7T,d7W,d7X,d7Y,d9y,d9z,c7d,c66,c67,c68,c69,c27,d70,d71,c7e,z_lr,d9C,d2P,d72,d73,kLn,c2b,d7L,d7I,d7J,d7K,d9v,d9w,b1U,d75,d2W,d2X,d2S,d2Q,d2R,d74,d2U,d2V,c7g,d8x,d8w,c7c,d7Z,d9B,d2M,d7r,c8H,d2Z,d2H,c8G,c2H,d1Z,c2I,d10,kIfE,d7U,c7f,d8c,c5c,d2N,kDGb,kDGa,kDG1,d2L,d7O,z_dg,d7N,d7R,d7S,kDIb,kDIa,kDI1,d7Q,z_di,d7P,kD2d,kD2c,kD2b,kD2a,kD20,kD2,c6Z,d2J,d7M,d2K,c7b,kPt3,d9H,kPt,d2O,c60,c61,c62,c63,d2T,kPT3,d9E,kPT,c64,c23,c24,c25,kApp,d7H,d7V,p9,a46,c6R,c2O,c2P,c1I,c1s,c1t,c7h,c1O,c1P,c1Q,c1R,c1S,c1T,z_c,d8F,d8J,b30,b75,c94,d0f,c9Z,d8A,c1c,c96,c1x,c9W,d0e,c1N,d0d,c9S,d8G,c95,c1z,b34,a9B,d8H,c1E,b35,c1F,b36,d8E,c91,c92,c93,c90,c1v,c1w,c1r,b32,b1k,b1l,c1u,b33,c9X,c1o,c1p,c1q,c9T,c1d,c1e,c1f,c1G,b37,c1H,b38,c1m,b31,d8D,c9Y,d0g,d8I,d0a,d0b,b1j,b3Z,a9z,b74,c1g,c1h,c1i,a1n,b3Y,c1k,c5d,c1l,d8C,c98,c1D,c1A,c1B,c1C,c99,c9U,c1j,c97,c1y,d0c,c1J,c1K,c1L,c1M,b39,a9C,a9D,a9E,c9V,c1n,d8B,a9A,d1w,d6W,d6V,d6U,d6T,d7b,kUn,d6J,d6I,d6H,d6K,d6L,d6G,d6F,d6E,d6D,b6K,b6J,c6v,Aq.kTup,c6j,d6Q,d6C,kCB,c6g,c6f,c6e,d6Z,d6Y,d6X,c6m,c6l,c6k,c6i,d6N,c6u,c6t,d7a,d6z,kOr,d6S,d67,d66,d65,d64,c6n,c6o,d3t,d6R,d5C,d3s,d6A,c6p,c6q,d61,c2k,b6I,c6h,kIf,d5D,d63,d6B,d60,c4f,c6s,c6r,c4e,b6L,kGs,b3p,b3q,b3r,b3s,b3v,b3w,b07,a9r,a7R,a9s,b08,a9v,b3C,b3y,b3z,a9t,a9u,c0N,c0O,c0P,c0Q,c0R,c0S,c0T,c0I,c0J,c0K,c0L,c9z,c9A,c9B,q_I,c0e,c0f,c0g,c0h,c9d,c9e,c9p,c9q,c9l,c9m,c9n,c9r,c9s,c9t,c9C,c9D,c9E,c0D,c0E,c0F,c9g,c9h,c9G,c0G,c0H,c9f,c0s,c0t,b3t,b3u,b3A,b3B,c9w,c9i,c9k,c9x,b3x,c9o,b3o,d8y,a5l,a5D,c0M,c0i,c0j,a60,b2b,b3n,c0k,c0l,c0m,c0n,c0o,c0p,c0q,c0r,c0u,c0v,c0w,c0x,c0y,c0z,c0A,c9v,c9j,c9u,c9y,c9F,c0B,c0C,gEq,gNe,gLt,gLe,gGt,gGe,a3s,ixo,d8r,d8s,d8t,d8u,d8v,shp,b3H,a9w,a9x,a0V])
local macro_rules | `(tactic| simp?! [$xs,*])=>`(tactic| try simp -implicitDefEqProofs [$xs,*,c1I,c1s,c1t,c7h,c1O,c1P,c1Q,c1R,c1S,c1T,z_c,d8F,d8J,b30,b75,c94,d0f,c9Z,d8A,c1c,c96,c1x,c9W,d0e,c1N,d0d,c9S,d8G,c95,c1z,b34,a9B,d8H,c1E,b35,c1F,b36,d8E,c91,c92,c93,c90,c1v,c1w,c1r,b32,b1k,b1l,c1u,b33,c9X,c1o,c1p,c1q,c9T,c1d,c1e,c1f,c1G,b37,c1H,b38,c1m,b31,d8D,c9Y,d0g,d8I,d0a,d0b,b1j,b3Z,a9z,b74,c1g,c1h,c1i,a1n,b3Y,c1k,c5d,c1l,d8C,c98,c1D,c1A,c1B,c1C,c99,c9U,c1j,c97,c1y,d0c,c1J,c1K,c1L,c1M,b39,a9C,a9D,a9E,c9V,c1n,d8B,a9A,d1w,d6W,d6V,d6U,d6T,d7b,kUn,d6J,d6I,d6H,d6K,d6L,d6G,d6F,d6E,d6D,b6K,b6J,c6v,Aq.kTup,c6j,d6Q,d6C,kCB,c6g,c6f,c6e,d6Z,d6Y,d6X,c6m,c6l,c6k,c6i,d6N,c6u,c6t,d7a,d6z,kOr,d6S,d67,d66,d65,d64,c6n,c6o,d3t,d6R,d5C,d3s,d6A,c6p,c6q,d61,c2k,b6I,c6h,kIf,d5D,d63,d6B,d60,c4f,c6s,c6r,c4e,b6L,kGs,b3p,b3q,b3r,b3s,b3v,b3w,b07,a9r,a7R,a9s,b08,a9v,b3C,b3y,b3z,a9t,a9u,c0N,c0O,c0P,c0Q,c0R,c0S,c0T,c0I,c0J,c0K,c0L,c9z,c9A,c9B,q_I,c0e,c0f,c0g,c0h,c9d,c9e,c9p,c9q,c9l,c9m,c9n,c9r,c9s,c9t,c9C,c9D,c9E,c0D,c0E,c0F,c9g,c9h,c9G,c0G,c0H,c9f,c0s,c0t,b3t,b3u,b3A,b3B,c9w,c9i,c9k,c9x,b3x,c9o,b3o,d8y,a5l,a5D,c0M,c0i,c0j,a60,b2b,b3n,c0k,c0l,c0m,c0n,c0o,c0p,c0q,c0r,c0u,c0v,c0w,c0x,c0y,c0z,c0A,c9v,c9j,c9u,c9y,c9F,c0B,c0C,gEq,gNe,gLt,gLe,gGt,gGe,a3s,ixo,d8r,d8s,d8t,d8u,d8v,shp,b3H,a9w,a9x,a0V])
local macro_rules | `(tactic| dsimp? [$xs,*])=>`(tactic| simp -implicitDefEqProofs [$xs,*,c65,c26,d76,d77,d78,kTD,d2Y,d79,d8a,d8b,kTO,d2I,d7F,d7G,c7a,d7q,d7T,d7W,d7X,d7Y,d9y,d9z,c7d,c66,c67,c68,c69,c27,d70,d71,c7e,z_lr,d9C,d2P,d72,d73,kLn,c2b,d7L,d7I,d7J,d7K,d9v,d9w,b1U,d75,d2W,d2X,d2S,d2Q,d2R,d74,d2U,d2V,c7g,d8x,d8w,c7c,d7Z,d9B,d2M,d7r,c8H,d2Z,d2H,c8G,c2H,d1Z,c2I,d10,kIfE,d7U,c7f,d8c,c5c,d2N,kDGb,kDGa,kDG1,d2L,d7O,z_dg,d7N,d7R,d7S,kDIb,kDIa,kDI1,d7Q,z_di,d7P,kD2d,kD2c,kD2b,kD2a,kD20,kD2,c6Z,d2J,d7M,d2K,c7b,kPt3,d9H,kPt,d2O,c60,c61,c62,c63,d2T,kPT3,d9E,kPT,c64,c23,c24,c25,kApp,d7H,d7V,p9,a46,c6R,c2O,c2P,c1I,c1s,c1t,c7h,c1O,c1P,c1Q,c1R,c1S,c1T,z_c,d8F,d8J,b30,b75,c94,d0f,c9Z,d8A,c1c,c96,c1x,c9W,d0e,c1N,d0d,c9S,d8G,c95,c1z,b34,a9B,d8H,c1E,b35,c1F,b36,d8E,c91,c92,c93,c90,c1v,c1w,c1r,b32,b1k,b1l,c1u,b33,c9X,c1o,c1p,c1q,c9T,c1d,c1e,c1f,c1G,b37,c1H,b38,c1m,b31,d8D,c9Y,d0g,d8I,d0a,d0b,b1j,b3Z,a9z,b74,c1g,c1h,c1i,a1n,b3Y,c1k,c5d,c1l,d8C,c98,c1D,c1A,c1B,c1C,c99,c9U,c1j,c97,c1y,d0c,c1J,c1K,c1L,c1M,b39,a9C,a9D,a9E,c9V,c1n,d8B,a9A,d1w,d6W,d6V,d6U,d6T,d7b,kUn,d6J,d6I,d6H,d6K,d6L,d6G,d6F,d6E,d6D,b6K,b6J,c6v,Aq.kTup,c6j,d6Q,d6C,kCB,c6g,c6f,c6e,d6Z,d6Y,d6X,c6m,c6l,c6k,c6i,d6N,c6u,c6t,d7a,d6z,kOr,d6S,d67,d66,d65,d64,c6n,c6o,d3t,d6R,d5C,d3s,d6A,c6p,c6q,d61,c2k,b6I,c6h,kIf,d5D,d63,d6B,d60,c4f,c6s,c6r,c4e,b6L,kGs,b3p,b3q,b3r,b3s,b3v,b3w,b07,a9r,a7R,a9s,b08,a9v,b3C,b3y,b3z,a9t,a9u,c0N,c0O,c0P,c0Q,c0R,c0S,c0T,c0I,c0J,c0K,c0L,c9z,c9A,c9B,q_I,c0e,c0f,c0g,c0h,c9d,c9e,c9p,c9q,c9l,c9m,c9n,c9r,c9s,c9t,c9C,c9D,c9E,c0D,c0E,c0F,c9g,c9h,c9G,c0G,c0H,c9f,c0s,c0t,b3t,b3u,b3A,b3B,c9w,c9i,c9k,c9x,b3x,c9o,b3o,d8y,a5l,a5D,c0M,c0i,c0j,a60,b2b,b3n,c0k,c0l,c0m,c0n,c0o,c0p,c0q,c0r,c0u,c0v,c0w,c0x,c0y,c0z,c0A,c9v,c9j,c9u,c9y,c9F,c0B,c0C,gEq,gNe,gLt,gLe,gGt,gGe,a3s,ixo,d8r,d8s,d8t,d8u,d8v,shp,b3H,a9w,a9x])
local macro_rules | `(tactic| dsimp?! [$xs,*])=>`(tactic| simp -implicitDefEqProofs [$xs,*,c1I,c1s,c1t,c7h,c1O,c1P,c1Q,c1R,c1S,c1T,z_c,d8F,d8J,b30,b75,c94,d0f,c9Z,d8A,c1c,c96,c1x,c9W,d0e,c1N,d0d,c9S,d8G,c95,c1z,b34,a9B,d8H,c1E,b35,c1F,b36,d8E,c91,c92,c93,c90,c1v,c1w,c1r,b32,b1k,b1l,c1u,b33,c9X,c1o,c1p,c1q,c9T,c1d,c1e,c1f,c1G,b37,c1H,b38,c1m,b31,d8D,c9Y,d0g,d8I,d0a,d0b,b1j,b3Z,a9z,b74,c1g,c1h,c1i,a1n,b3Y,c1k,c5d,c1l,d8C,c98,c1D,c1A,c1B,c1C,c99,c9U,c1j,c97,c1y,d0c,c1J,c1K,c1L,c1M,b39,a9C,a9D,a9E,c9V,c1n,d8B,a9A,d1w,d6W,d6V,d6U,d6T,d7b,kUn,d6J,d6I,d6H,d6K,d6L,d6G,d6F,d6E,d6D,b6K,b6J,c6v,Aq.kTup,c6j,d6Q,d6C,kCB,c6g,c6f,c6e,d6Z,d6Y,d6X,c6m,c6l,c6k,c6i,d6N,c6u,c6t,d7a,d6z,kOr,d6S,d67,d66,d65,d64,c6n,c6o,d3t,d6R,d5C,d3s,d6A,c6p,c6q,d61,c2k,b6I,c6h,kIf,d5D,d63,d6B,d60,c4f,c6s,c6r,c4e,b6L,kGs,b3p,b3q,b3r,b3s,b3v,b3w,b07,a9r,a7R,a9s,b08,a9v,b3C,b3y,b3z,a9t,a9u,c0N,c0O,c0P,c0Q,c0R,c0S,c0T,c0I,c0J,c0K,c0L,c9z,c9A,c9B,q_I,c0e,c0f,c0g,c0h,c9d,c9e,c9p,c9q,c9l,c9m,c9n,c9r,c9s,c9t,c9C,c9D,c9E,c0D,c0E,c0F,c9g,c9h,c9G,c0G,c0H,c9f,c0s,c0t,b3t,b3u,b3A,b3B,c9w,c9i,c9k,c9x,b3x,c9o,b3o,d8y,a5l,a5D,c0M,c0i,c0j,a60,b2b,b3n,c0k,c0l,c0m,c0n,c0o,c0p,c0q,c0r,c0u,c0v,c0w,c0x,c0y,c0z,c0A,c9v,c9j,c9u,c9y,c9F,c0B,c0C,gEq,gNe,gLt,gLe,gGt,gGe,a3s,ixo,d8r,d8s,d8t,d8u,d8v,shp,b3H,a9w,a9x])
local macro_rules | `(tactic| simp_all? [$xs,*])=>`(tactic| simp -implicitDefEqProofs only [$xs,*,c65,c26,d76,d77,d78,kTD,d2Y,d79,d8a,d8b,kTO,d2I,d7F,d7G,c7a,d7q,d7T,d7W,d7X,d7Y,d9y,d9z,c7d,c66,c67,c68,c69,c27,d70,d71,c7e,z_lr,d9C,d2P,d72,d73,kLn,c2b,d7L,d7I,d7J,d7K,d9v,d9w,b1U,d75,d2W,d2X,d2S,d2Q,d2R,d74,d2U,d2V,c7g,d8x,d8w,c7c,d7Z,d9B,d2M,d7r,c8H,d2Z,d2H,c8G,c2H,d1Z,c2I,d10,kIfE,d7U,c7f,d8c,c5c,d2N,kDGb,kDGa,kDG1,d2L,d7O,z_dg,d7N,d7R,d7S,kDIb,kDIa,kDI1,d7Q,z_di,d7P,kD2d,kD2c,kD2b,kD2a,kD20,kD2,c6Z,d2J,d7M,d2K,c7b,kPt3,d9H,kPt,d2O,c60,c61,c62,c63,d2T,kPT3,d9E,kPT,c64,c23,c24,c25,kApp,d7H,d7V,p9,a46,c6R,c2O,c2P,c1I,c1s,c1t,c7h,c1O,c1P,c1Q,c1R,c1S,c1T,z_c,d8F,d8J,b30,b75,c94,d0f,c9Z,d8A,c1c,c96,c1x,c9W,d0e,c1N,d0d,c9S,d8G,c95,c1z,b34,a9B,d8H,c1E,b35,c1F,b36,d8E,c91,c92,c93,c90,c1v,c1w,c1r,b32,b1k,b1l,c1u,b33,c9X,c1o,c1p,c1q,c9T,c1d,c1e,c1f,c1G,b37,c1H,b38,c1m,b31,d8D,c9Y,d0g,d8I,d0a,d0b,b1j,b3Z,a9z,b74,c1g,c1h,c1i,a1n,b3Y,c1k,c5d,c1l,d8C,c98,c1D,c1A,c1B,c1C,c99,c9U,c1j,c97,c1y,d0c,c1J,c1K,c1L,c1M,b39,a9C,a9D,a9E,c9V,c1n,d8B,a9A,d1w,d6W,d6V,d6U,d6T,d7b,kUn,d6J,d6I,d6H,d6K,d6L,d6G,d6F,d6E,d6D,b6K,b6J,c6v,Aq.kTup,c6j,d6Q,d6C,kCB,c6g,c6f,c6e,d6Z,d6Y,d6X,c6m,c6l,c6k,c6i,d6N,c6u,c6t,d7a,d6z,kOr,d6S,d67,d66,d65,d64,c6n,c6o,d3t,d6R,d5C,d3s,d6A,c6p,c6q,d61,c2k,b6I,c6h,kIf,d5D,d63,d6B,d60,c4f,c6s,c6r,c4e,b6L,kGs,b3p,b3q,b3r,b3s,b3v,b3w,b07,a9r,a7R,a9s,b08,a9v,b3C,b3y,b3z,a9t,a9u,c0N,c0O,c0P,c0Q,c0R,c0S,c0T,c0I,c0J,c0K,c0L,c9z,c9A,c9B,q_I,c0e,c0f,c0g,c0h,c9d,c9e,c9p,c9q,c9l,c9m,c9n,c9r,c9s,c9t,c9C,c9D,c9E,c0D,c0E,c0F,c9g,c9h,c9G,c0G,c0H,c9f,c0s,c0t,b3t,b3u,b3A,b3B,c9w,c9i,c9k,c9x,b3x,c9o,b3o,d8y,a5l,a5D,c0M,c0i,c0j,a60,b2b,b3n,c0k,c0l,c0m,c0n,c0o,c0p,c0q,c0r,c0u,c0v,c0w,c0x,c0y,c0z,c0A,c9v,c9j,c9u,c9y,c9F,c0B,c0C,gEq,gNe,gLt,gLe,gGt,gGe,a3s,ixo,d8r,d8s,d8t,d8u,d8v,shp,b3H,a9w,a9x,a0L,d8R,a0A,Option.bind_some,b2O,d51,List.set_cons_zero,List.set_cons_succ,if_true,if_false,a5I,d3y,a0n,reduceCtorEq])
local macro_rules | `(tactic| simp_all?! [$xs,*])=>`(tactic| simp -implicitDefEqProofs only [$xs,*,c1I,c1s,c1t,c7h,c1O,c1P,c1Q,c1R,c1S,c1T,z_c,d8F,d8J,b30,b75,c94,d0f,c9Z,d8A,c1c,c96,c1x,c9W,d0e,c1N,d0d,c9S,d8G,c95,c1z,b34,a9B,d8H,c1E,b35,c1F,b36,d8E,c91,c92,c93,c90,c1v,c1w,c1r,b32,b1k,b1l,c1u,b33,c9X,c1o,c1p,c1q,c9T,c1d,c1e,c1f,c1G,b37,c1H,b38,c1m,b31,d8D,c9Y,d0g,d8I,d0a,d0b,b1j,b3Z,a9z,b74,c1g,c1h,c1i,a1n,b3Y,c1k,c5d,c1l,d8C,c98,c1D,c1A,c1B,c1C,c99,c9U,c1j,c97,c1y,d0c,c1J,c1K,c1L,c1M,b39,a9C,a9D,a9E,c9V,c1n,d8B,a9A,d1w,d6W,d6V,d6U,d6T,d7b,kUn,d6J,d6I,d6H,d6K,d6L,d6G,d6F,d6E,d6D,b6K,b6J,c6v,Aq.kTup,c6j,d6Q,d6C,kCB,c6g,c6f,c6e,d6Z,d6Y,d6X,c6m,c6l,c6k,c6i,d6N,c6u,c6t,d7a,d6z,kOr,d6S,d67,d66,d65,d64,c6n,c6o,d3t,d6R,d5C,d3s,d6A,c6p,c6q,d61,c2k,b6I,c6h,kIf,d5D,d63,d6B,d60,c4f,c6s,c6r,c4e,b6L,kGs,b3p,b3q,b3r,b3s,b3v,b3w,b07,a9r,a7R,a9s,b08,a9v,b3C,b3y,b3z,a9t,a9u,c0N,c0O,c0P,c0Q,c0R,c0S,c0T,c0I,c0J,c0K,c0L,c9z,c9A,c9B,q_I,c0e,c0f,c0g,c0h,c9d,c9e,c9p,c9q,c9l,c9m,c9n,c9r,c9s,c9t,c9C,c9D,c9E,c0D,c0E,c0F,c9g,c9h,c9G,c0G,c0H,c9f,c0s,c0t,b3t,b3u,b3A,b3B,c9w,c9i,c9k,c9x,b3x,c9o,b3o,d8y,a5l,a5D,c0M,c0i,c0j,a60,b2b,b3n,c0k,c0l,c0m,c0n,c0o,c0p,c0q,c0r,c0u,c0v,c0w,c0x,c0y,c0z,c0A,c9v,c9j,c9u,c9y,c9F,c0B,c0C,gEq,gNe,gLt,gLe,gGt,gGe,a3s,ixo,d8r,d8s,d8t,d8u,d8v,shp,b3H,a9w,a9x,a0L,d8R,a0A,Option.bind_some,b2O,d51,List.set_cons_zero,List.set_cons_succ,if_true,if_false,a5I,d3y,a0n,reduceCtorEq])
local macro_rules | `(term| nofun)=>`((by first | exact Or.inl rfl | exact Or.inr rfl))
set_option maxHeartbeats 2000000
namespace Cw
open PySem L2 Aq
local macro_rules | `(tactic| walk_at "aq")=>`(tactic| dsimp?! [a1n])
def b0K:List Str:=["draws", "many", "found", "wide"]
def b2t (w:i3) (K:b0):TS :=
 (a0P (a3w (tOp b7k (tOp b3E (tOp (rIx K) (g9 0) (tC (.int 1))) (tC (.int 69621))) (tC (.int 2147483647))) (gSub (g9 0) (tC (.int 1)) rSetL))
 (a0P (a3w (tOp (a0U K) (tOp b3E (g9 2) (tC (.int 268435456))) (tOp c2J (tOp b7k (tOp b3E (tOp (rIx K) (g9 0) (tC (.int 1))) (tOp (a0U K) (tOp c2J (tOp (rIx K) (g9 0) (tC (.int 1))) (tC (.int 128))) (tC (.int 3)))) (tC (.int 2147483629))) (tC (.int 8)))) (v4 2))
 (a3w (tOp b3E (g9 3) (tC (.int 268435456))) (v4 3))))
def a7H:ASt :=
 (a0t (d4u (aOp d1r (aOp c80 (aOp gIx (i4 0) (aC (.int 1))) (aC (.int 69621))) (aC (.int 2147483647))) (i4 0) (aC (.int 1)))
 (a0t (a2T 2 (aOp a3i (aOp c80 (i4 2) (aC (.int 268435456))) (aOp d3r (aOp d1r (aOp c80 (aOp gIx (i4 0) (aC (.int 1))) (aOp a3i (aOp d3r (aOp gIx (i4 0) (aC (.int 1))) (aC (.int 128))) (aC (.int 3)))) (aC (.int 2147483629))) (aC (.int 8)))))
 (a2T 3 (aOp c80 (i4 3) (aC (.int 268435456))))))
theorem b9b {w:i3} {K:b0} (W:WX):SS K W (b2t w K) a7H :=
 (j9 (b7K (g6 b2c (g6 a8H (g6 y8 c8 d6) d6) d6) c8 d6)
 (j9 (y9 (g6 a0k (g6 a8H c8 d6) (g6 b4G (g6 b2c (g6 a8H (g6 y8 c8 d6) (g6 a0k (g6 b4G (g6 y8 c8 d6) d6) d6)) d6) d6)))
 (y9 (g6 a8H c8 d6))))
def b2u (w:i3) (K:b0):TS :=
 (a3p (tOp b7k (g9 2) (g9 1)))
def a7I:ASt :=
 (a2r (aOp d1r (i4 2) (i4 1)))
theorem b9c {w:i3} {K:b0} (W:WX):SS K W (b2u w K) a7I :=
 (t7 (g6 b2c c8 c8))
def b2v (w:i3) (K:b0):TS :=
 (a0P (a3w (tC (.int 0)) (v4 2))
 (a0P (a3w (tC (.int 1)) (v4 3))
 (a0P (tWhile (a1e (tOp c8w (g9 3) (g9 1))) (b2t w K))
 (b2u w K))))
def a7J:ASt :=
 (a0t (a2T 2 (aC (.int 0)))
 (a0t (a2T 3 (aC (.int 1)))
 (a0t (d5Q (a3Z (aOp gLt (i4 3) (i4 1))) a7H)
 a7I)))
theorem b9d {w:i3} {K:b0} (W:WX):SS K W (b2v w K) a7J :=
 (j9 (y9 d6)
 (j9 (y9 d6)
 (j9 (d4H (t8 (g6 a3X c8 c8)) (b9b  W))
 (b9c  W))))
def b7Q (w:i3) (K:b0):TS :=
 (a0P (a6h (a1e (tOp d5O (tOp (rIx K) (g9 0) (tC (.int 0))) (tC (.int 0)))) (a0P (a3w (tOp b7k (tOp (rIx K) (g9 0) (tC (.int 0))) (g9 1)) (v4 2))
 (a0P (a3w (tOp c2J (tOp (rIx K) (g9 0) (tC (.int 0))) (g9 1)) (gSub (g9 0) (tC (.int 0)) rSetL))
 (a3p (g9 2)))) a15)
 (b2v w K))
def a7G:ASt :=
 (a0t (sIf (a3Z (aOp gGt (aOp gIx (i4 0) (aC (.int 0))) (aC (.int 0)))) (a0t (a2T 2 (aOp d1r (aOp gIx (i4 0) (aC (.int 0))) (i4 1)))
 (a0t (d4u (aOp d3r (aOp gIx (i4 0) (aC (.int 0))) (i4 1)) (i4 0) (aC (.int 0)))
 (a2r (i4 2)))) a1m)
 a7J)
theorem c4R {w:i3} {K:b0} (W:WX):SS K W (b7Q w K) a7G :=
 (j9 (a05 (t8 (g6 a3X (g6 y8 c8 d6) d6)) (j9 (y9 (g6 b2c (g6 y8 c8 d6) c8))
 (j9 (b7K (g6 b4G (g6 y8 c8 d6) c8) c8 d6)
 (t7 c8))) y0)
 (b9d  W))
/-- what a pair of draws is -/
def Dw (a b:Int):Prop:=0 ≤ a ∧ a < 10 ^ 120 ∧ 0 ≤ b ∧ b < 2147483648
def d5:Ct:=fun ρ P _=>∃ a b n,ρ = [.ml (some 0) [.int a,.int b],.dat (.int n)] ∧ Dw a b ∧ 1 ≤ n ∧ n ≤ 10 ^ 40 ∧ ∀ k a' b' ρ',0 ≤ k → k < n → Dw a' b' → a9L ρ' 0 = some (.ml (some 0) [.int a',.int b']) → P (.dat (.int k)) ρ'
theorem c2n (ρ:List AV) (P:RV → List AV → Prop) (PX:PXT) (h:d5 ρ P PX):ρ.length = 2:=by
 obtain ⟨a,b,n,rfl,_⟩:=h
 rfl
theorem b84 (ρ:List AV) (P:RV → List AV → Prop) (PX:PXT) (h:d5 ρ P PX):a7G { nx:=fun ρ'=>P (.dat .none) ρ',rt:=P,ex:=PX } (ρ ++ f7 (b0K.length - ρ.length) .un):=by
 have eN:b0K.length = 4:=rfl
 obtain ⟨a,b,n,rfl,⟨ha,ha2,hb,hb2⟩,hn,hn2,h⟩:=h
 unfold a7G
 simp only [eN]
 walk_at "aq"
 split
 ·rename_i h0
  refine ⟨by omega,c33 (by omega) (a3Y (by omega) (by omega)),?_⟩
  refine h _ (a / n) b _ (a1L _ (by omega)) (a0Y _ (by omega)) ⟨Int.ediv_nonneg ha (by omega),?_,hb,hb2⟩ rfl
  exact Int.lt_of_le_of_lt (Int.ediv_le_self _ ha) ha2
 ·unfold a7J
  walk_at "aq"
  refine ⟨fun m ρ=>∃ b' f w,ρ = [.ml (some 0) [.int a,.int b'],.dat (.int n),.dat (.int f),.dat (.int w)] ∧ 0 ≤ b' ∧ b' < 2147483648 ∧ 0 ≤ f ∧ f < w ∧ 1 ≤ w ∧ w ≤ n * 268435456 ∧ m = (n - w).toNat,⟨_,b,0,1,rfl,hb,hb2,by omega,by omega,by omega,by omega,rfl⟩,?_⟩
  rintro m ρ ⟨b',f,w,rfl,k1,k2,k3,k4,k5,k6,k7⟩
  walk_at "aq"
  split
  ·rename_i hw
   unfold a7H
   walk_at "aq"
   have x1:0 ≤ b' * 69621 % 2147483647:=a1L _ (by decide)
   have x2:b' * 69621 % 2147483647 < 2147483647:=a0Y _ (by decide)
   generalize b' * 69621 % 2147483647 = x at x1 x2 ⊢
   have y1:0 ≤ x * (x / 128 + 3) % 2147483629:=a1L _ (by decide)
   have y2:x * (x / 128 + 3) % 2147483629 < 2147483629:=a0Y _ (by decide)
   refine ⟨b6W (a3Y (by omega) (by omega)) (a3Y (by decide) (by decide)),b6W (a3Y (by omega) (by omega)) (a3Y (by decide) (by decide)),c33 (by decide) (a3Y (by decide) (by decide)),b6W (a3Y (by omega) (by omega)) (a3Y (by omega) (by omega)),
    c33 (by decide) (a3Y (by decide) (by decide)),b6W (a3Y (by omega) (by omega)) (a3Y (by decide) (by decide)),(n - w * 268435456).toNat,by omega,x,_,_,⟨rfl,rfl,rfl⟩,x1,by omega,?_⟩
   generalize x * (x / 128 + 3) % 2147483629 = y at y1 y2 ⊢
   exact ⟨by omega,by omega,by omega,by omega,rfl⟩
  ·unfold a7I
   walk_at "aq"
   refine ⟨by omega,h _ a b' _ (a1L _ (by omega)) (a0Y _ (by omega)) ⟨ha,ha2,k1,k2⟩ rfl⟩
end Cw
namespace Cw
open PySem L2 Aq
def a0B:c9 → Int → Int → Bool
 | .int i,lo,hi=>decide (lo ≤ i) && decide (i ≤ hi)
 | _,_,_=>false
def b0Z (n:Int):c9 → Bool
 | .tuple ds=>(ds.length:Int) == n
 | _=>false
def a9K (c:Nat):Bool:=decide (97 ≤ c) && decide (c ≤ 122)
def w7 (s:Str):Bool:=decide (1 ≤ s.length) && (decide (s.length ≤ 8) && s.cps.toList.all a9K)
def w4:c9 → Bool
 | .str s=>w7 s
 | _=>false
/-- a text that is not too long -/
def okS:c9 → Prop
 | .str s=>s.length ≤ m8
 | _=>True
local macro_rules | `(tactic| walk_at "aq")=>`(tactic| dsimp?! [b0Z,w4])
local macro_rules | `(tactic| walk_at "ao")=>`(tactic| simp_all?! [b0Z,w4])
def b0L:List Str:=["thing", "low", "high"]
def b7Y (w:i3) (K:b0):TS :=
 (a3p (b45 K (c04 K "int" (g9 0)) (b45 K (tNotT K (c04 K "bool" (g9 0))) (tChain d11 d11 (g9 1) (g9 0) (g9 2)))))
def a7L:ASt :=
 (a2r (a7D (b9Q "int" (i4 0)) (a7D (d3M (b9Q "bool" (i4 0))) (c3W gLe gLe (i4 1) (i4 0) (i4 2)))))
theorem c4Z {w:i3} {K:b0} (a1Y:IsiOk K "bool") (b9E:IsiOk K "int") (W:WX):SS K W (b7Y w K) a7L :=
 (t7 (a23 (a4t b9E c8) (a23 (d1n (a4t a1Y c8)) (c2f a3X a3X c8 c8 c8))))
def b2V:List Str:=["thing", "many"]
def c07 (w:i3) (K:b0):TS :=
 (a3p (b45 K (c04 K "tuple" (g9 0)) (tOp (c5O K) (tCB (a5E K) (d4 (g9 0) p7)) (g9 1))))
def a9n:ASt :=
 (a2r (a7D (b9Q "tuple" (i4 0)) (aOp gEq (aCB b6H (d3 (i4 0) n9)) (i4 1))))
theorem c6V {w:i3} {K:b0} (r0:IsiOk K "tuple") (W:WX):SS K W (c07 w K) a9n :=
 (t7 (a23 (a4t r0 c8) (g6 a4s (a2l a4w (c7 c8 d9)) c8)))
def b1F:List Str:=["thing", "sign"]
def c47 (w:i3) (K:b0):TS :=
 (a3p (b45 K (c04 K "str" (g9 0)) (b45 K (tChain d11 d11 (tC (.int 1)) (tCB (a5E K) (d4 (g9 0) p7)) (tC (.int 8))) (tCB (rAll K) (d4 (tLc (c2j K (g9 0)) (v4 1) c3U (tOp (d4q K) (g9 1) (tC (.str "abcdefghijklmnopqrstuvwxyz"))) [1]) p7)))))
def b1J:ASt :=
 (a2r (a7D (b9Q "str" (i4 0)) (a7D (c3W gLe gLe (aC (.int 1)) (aCB b6H (d3 (i4 0) n9)) (aC (.int 8))) (aCB d5z (d3 (aLc (a6i (i4 0)) [1] (gN 1) b9R (aOp (gIn false) (i4 1) (aC (.str "abcdefghijklmnopqrstuvwxyz")))) n9)))))
theorem c9P {w:i3} {K:b0} (a0S:IsiOk K "str") (W:WX):SS K W (c47 w K) b1J :=
 (t7 (a23 (a4t a0S c8) (a23 (c2f a3X a3X d6 (a2l a4w (c7 c8 d9)) d6) (a2l c0U (c7 (a6Z (a45 c8) a0W a57 (g6 c9I c8 w3) (by decide)) d9)))))
def z8:Ct:=fun ρ P _=>∃ d lo hi,ρ = [.dat d,.dat (.int lo),.dat (.int hi)] ∧ ∀ ρ',P (.dat (.bool (a0B d lo hi))) ρ'
theorem c2o (ρ:List AV) (P:RV → List AV → Prop) (PX:PXT) (h:z8 ρ P PX):ρ.length = 3:=by
 obtain ⟨_,_,_,rfl,_⟩:=h
 rfl
theorem b85 (ρ:List AV) (P:RV → List AV → Prop) (PX:PXT) (h:z8 ρ P PX):a7L { nx:=fun ρ'=>P (.dat .none) ρ',rt:=P,ex:=PX } (ρ ++ f7 (b0L.length - ρ.length) .un):=by
 have eN:b0L.length = 3:=rfl
 obtain ⟨d,lo,hi,rfl,h⟩:=h
 unfold a7L
 simp only [eN]
 cases d with
 | int i =>
  walk_at "aq"
  split
  ·rename_i c
   have e:a0B (.int i) lo hi = decide (i ≤ hi):=by simp [a0B,c]
   rw [← e]
   exact h _
  ·rename_i c
   have e:a0B (.int i) lo hi = false:=by simp [a0B,c]
   rw [← e]
   exact h _
 | _ =>
  walk_at "aq"
  exact h _
def a2M:Ct:=fun ρ P _=>∃ d n,ρ = [.dat d,.dat (.int n)] ∧ ∀ ρ',P (.dat (.bool (b0Z n d))) ρ'
theorem c4i (ρ:List AV) (P:RV → List AV → Prop) (PX:PXT) (h:a2M ρ P PX):ρ.length = 2:=by
 obtain ⟨_,_,rfl,_⟩:=h
 rfl
theorem c2E (ρ:List AV) (P:RV → List AV → Prop) (PX:PXT) (h:a2M ρ P PX):a9n { nx:=fun ρ'=>P (.dat .none) ρ',rt:=P,ex:=PX } (ρ ++ f7 (b2V.length - ρ.length) .un):=by
 have eN:b2V.length = 2:=rfl
 obtain ⟨d,n,rfl,h⟩:=h
 unfold a9n
 simp only [eN]
 cases d with
 | tuple ds =>
  walk_at "aq"
  exact h _
 | _ =>
  walk_at "aq"
  exact h _
theorem b6T (c:Nat):decide (c ∈ (a0H "abcdefghijklmnopqrstuvwxyz").cps.toList) = a9K c:=by
 have e:(a0H "abcdefghijklmnopqrstuvwxyz").cps.toList = List.range' 97 26:=by decide +kernel
 rw [e]
 unfold a9K
 rw [← Bool.decide_and]
 congr 1
 rw [List.mem_range'_1]
 exact propext ⟨fun h=>by omega,fun h=>by omega⟩
def a1S:Ct:=fun ρ P _=>∃ d,ρ = [.dat d] ∧ okS d ∧ ∀ ρ',P (.dat (.bool (w4 d))) ρ'
theorem c6A (ρ:List AV) (P:RV → List AV → Prop) (PX:PXT) (h:a1S ρ P PX):ρ.length = 1:=by
 obtain ⟨_,rfl,_⟩:=h
 rfl
theorem c4F (ρ:List AV) (P:RV → List AV → Prop) (PX:PXT) (h:a1S ρ P PX):b1J { nx:=fun ρ'=>P (.dat .none) ρ',rt:=P,ex:=PX } (ρ ++ f7 (b1F.length - ρ.length) .un):=by
 have eN:b1F.length = 2:=rfl
 obtain ⟨d,rfl,ok,h⟩:=h
 unfold b1J
 simp only [eN]
 cases d with
 | str s =>
  have ok':s.length ≤ m8:=ok
  walk_at "aq"
  refine ⟨ok',?_⟩
  split
  ·rename_i c1
   split
   ·rename_i c2
    refine c2l (fun d=>[.dat (.str s),.dat d]) (fun d=>.bool (match d with
     | .str z=>b5z (a0H "abcdefghijklmnopqrstuvwxyz") z
     | _=>false)) _ _ (fun d _ k hk=>hk) (fun d _=>rfl) (fun d hd k hk=>?_) ?_ ?_
    ·obtain ⟨c,_,rfl⟩:=e9.mp hd
     exact hk
    ·simp [a8o]
     exact ok'
    ·have e:((a8o s).map fun d=>a0M (match d with
       | .str z=>b5z (a0H "abcdefghijklmnopqrstuvwxyz") z
       | _=>false)) = (s.cps.toList.map a9K).map a0M:=by
      simp [a8o,c02]
      intro a _
      have:=b6T a
      simpa using this
     rw [e]
     walk_at "ao"
     have e2:w4 (.str s) = (s.cps.toList.map a9K).all id:=by
      have c1':1 ≤ s.length:=by omega
      have c2':s.length ≤ 8:=by omega
      simp [w4,w7,c1',c2',a9W]
     rw [← e2]
     exact h _
   ·rename_i c2
    have e2:w4 (.str s) = false:=by
     have c2':¬ s.length ≤ 8:=by omega
     simp [w4,w7,c2']
    have e3:decide ((s.length:Int) ≤ 8) = false:=decide_eq_false c2
    rw [e3,← e2]
    exact h _
  ·rename_i c1
   have e2:w4 (.str s) = false:=by
    have c1':¬ 1 ≤ s.length:=by omega
    simp [w4,w7,c1']
   rw [← e2]
   exact h _
 | _ =>
  walk_at "aq"
  exact h _
end Cw
namespace Cw
open PySem L2 Aq
mutual
def okB (b:Nat):c9 → Bool
 | .str s=>decide (s.length ≤ b) && a1c s
 | .list ds=>decide (ds.length ≤ b) && c8r b ds
 | .tuple ds=>decide (ds.length ≤ b) && c8r b ds
 | .dict _=>false
 | _=>true
def c8r (b:Nat):List c9 → Bool
 | []=>true
 | d :: ds=>okB b d && c8r b ds
end
abbrev okD (d:c9):Bool:=okB 10000 d
theorem c2u {b:Nat}:∀ {ds:List c9} {d:c9},c8r b ds = true → d ∈ ds → okB b d = true
 | [],_,_,h=>by simp at h
 | e :: ds,d,o,h=>by
  rw [c8r,j5] at o
  rcases o9.mp h with rfl | h
  ·exact o.1
  ·exact c2u o.2 h
theorem c6E {b:Nat}:∀ {ds:List c9},(∀ d ∈ ds,okB b d = true) → c8r b ds = true
 | [],_=>by rw [c8r]
 | e :: ds,h=>by
  rw [c8r,j5]
  exact ⟨h e f9,c6E fun d hd=>h d (e7 _ hd)⟩
mutual
theorem c3Z {b:Nat}:∀ d:c9,okB b d = true → d.canLay0 = true
 | .none,_=>by simp [a2f]
 | .bool _,_=>by simp [a2f]
 | .int _,_=>by simp [a2f]
 | .str s,h=>by
  rw [okB,j5] at h
  rw [a2f]
  exact h.2
 | .list ds,h=>by
  rw [okB,j5] at h
  rw [a2f]
  exact b2Y ds h.2
 | .tuple ds,h=>by
  rw [okB,j5] at h
  rw [a2f]
  exact b2Y ds h.2
 | .dict _,h=>by rw [okB] at h; cases h
theorem b2Y {b:Nat}:∀ ds:List c9,c8r b ds = true → a6I ds = true
 | [],_=>by simp [a6I]
 | d :: ds,h=>by
  rw [c8r,j5] at h
  rw [a6I,c3Z d h.1,b2Y ds h.2]
  rfl
end
mutual
theorem c8q {b c:Nat} (hb:b ≤ c):∀ d:c9,okB b d = true → okB c d = true
 | .none,_=>by simp [okB]
 | .bool _,_=>by simp [okB]
 | .int _,_=>by simp [okB]
 | .str s,h=>by
  rw [okB,j5,decide_eq_true_eq] at h ⊢
  exact ⟨a0y h.1 hb,h.2⟩
 | .list ds,h=>by
  rw [okB,j5,decide_eq_true_eq] at h ⊢
  exact ⟨a0y h.1 hb,b6Z hb ds h.2⟩
 | .tuple ds,h=>by
  rw [okB,j5,decide_eq_true_eq] at h ⊢
  exact ⟨a0y h.1 hb,b6Z hb ds h.2⟩
 | .dict _,h=>by rw [okB] at h; cases h
theorem b6Z {b c:Nat} (hb:b ≤ c):∀ ds:List c9,c8r b ds = true → c8r c ds = true
 | [],_=>by rw [c8r]
 | d :: ds,h=>by
  rw [c8r,j5] at h ⊢
  exact ⟨c8q hb d h.1,b6Z hb ds h.2⟩
end
theorem d95 {b:Nat} {d:c9} (h:okB b d = true) (hd:d.depth ≤ 64):a0g d = true:=by
 unfold a0g
 rw [c3Z d h,decide_eq_true hd]
 rfl
theorem d5K {d:c9} (h:okD d = true):okS d:=by
 cases d with
 | str s =>
  rw [okD,okB,j5,decide_eq_true_eq] at h
  exact a0y h.1 (by decide)
 | _=>trivial
theorem okT {b:Nat} {ds:List c9} (h:okB b (.tuple ds) = true):ds.length ≤ b ∧ ∀ d ∈ ds,okB b d = true:=by
 rw [okB,j5,decide_eq_true_eq] at h
 exact ⟨h.1,fun d hd=>c2u h.2 hd⟩
theorem okL {b:Nat} {ds:List c9} (h:okB b (.list ds) = true):ds.length ≤ b ∧ ∀ d ∈ ds,okB b d = true:=by
 rw [okB,j5,decide_eq_true_eq] at h
 exact ⟨h.1,fun d hd=>c2u h.2 hd⟩
def a5Z:c9 → List c9
 | .tuple ds=>ds
 | _=>[]
def b8K (d:c9):c9:=(a5Z d).getD 0 .none
def e0:Str:=⟨#[]⟩
def nmS (d:c9):Str:=match b8K d with
 | .str s=>s
 | _=>e0
def b7l (ns:List Str):Bool:=(a1p (ns.length - 1)).all fun i=>b1h (ns.getD i e0) (ns.getD (i + 1) e0)
def a7e (many:Int) (r:c9):Bool:=b0Z many r && w4 (b8K r)
def a2z (many most:Int):c9 → Bool
 | .tuple ds=>decide (1 ≤ (ds.length:Int)) && (decide ((ds.length:Int) ≤ most) && (ds.all (a7e many) && b7l (ds.map nmS)))
 | _=>false
theorem b09 {many:Int} {r:c9} (hm:1 ≤ many) (h:a7e many r = true):∃ s ds,r = .tuple (.str s :: ds) ∧ w7 s = true ∧ ((ds.length:Int) + 1 = many):=by
 unfold a7e at h
 rw [j5] at h
 obtain ⟨h1,h2⟩:=h
 cases r with
 | tuple es =>
  have e:(es.length:Int) = many:=by simpa [b0Z] using h1
  cases es with
  | nil=>simp at e; omega
  | cons x ds =>
   have h2':w4 x = true:=h2
   cases x with
   | str s=>exact ⟨s,ds,rfl,h2',by simpa using e⟩
   | _=>cases h2'
 | _=>cases h1
theorem d9T {s:Str} (h:w7 s = true):s.length ≤ 8:=by
 unfold w7 at h
 simp at h
 exact h.2.1
theorem c6d {many:Int} {r:c9} (hm:1 ≤ many) (h:b0Z many r = true):∃ x ds,r = .tuple (x :: ds):=by
 cases r with
 | tuple es =>
  have e:(es.length:Int) = many:=by simpa [b0Z] using h
  cases es with
  | nil=>simp at e; omega
  | cons x ds=>exact ⟨x,ds,rfl⟩
 | _=>cases h
end Cw
namespace Cw
open PySem L2 Aq
local macro_rules | `(tactic| walk_at "aq")=>`(tactic| dsimp?! [a1n])
local macro_rules | `(tactic| walk_at "ao")=>`(tactic| simp_all?! [a1n])
def a7b:List Str:=["thing", "many", "most", "row", "k"]
def b4V (w:i3) (K:b0):TS :=
 (a3p (tCB (rAll K) (d4 (tLc (iRng2 (d4 (tC (.int 1)) (d4 (tCB (a5E K) (d4 (g9 0) p7)) p7))) (v4 4) c3U (tOp c8w (tOp (rIx K) (tOp (rIx K) (g9 0) (tOp c2M (g9 4) (tC (.int 1)))) (tC (.int 0))) (tOp (rIx K) (tOp (rIx K) (g9 0) (g9 4)) (tC (.int 0)))) [4]) p7)))
def a8z:ASt :=
 (a2r (aCB d5z (d3 (aLc (d6e (d3 (aC (.int 1)) (d3 (aCB b6H (d3 (i4 0) n9)) n9))) [4] (gN 4) b9R (aOp gLt (aOp gIx (aOp gIx (i4 0) (aOp c4b (i4 4) (aC (.int 1)))) (aC (.int 0))) (aOp gIx (aOp gIx (i4 0) (i4 4)) (aC (.int 0))))) n9)))
theorem c2W {w:i3} {K:b0} (r0:IsiOk K "tuple") (W:WX):SS K W (b4V w K) a8z :=
 (t7 (a2l c0U (c7 (a6Z (d6w (c7 d6 (c7 (a2l a4w (c7 c8 d9)) d9))) a0W a57 (g6 a3X (g6 y8 (g6 y8 c8 (g6 c0V c8 d6)) d6) (g6 y8 (g6 y8 c8 c8) d6)) (by decide)) d9)))
def b4W (w:i3) (K:b0):TS :=
 (a0P (a6h (c77 (a8Q K (tCB (rAll K) (d4 (tLc (c2j K (g9 0)) (v4 3) c3U (b45 K (r6 (spOf K a2M) [] E0 (d4 (g9 3) (d4 (g9 1) p7))) (r6 (spOf K a1S) [] E0 (d4 (tOp (rIx K) (g9 3) (tC (.int 0))) p7))) [3]) p7)))) (a3p (tC (.bl false))) a15)
 (b4V w K))
def a8A:ASt :=
 (a0t (sIf (b2M (a9I (aCB d5z (d3 (aLc (a6i (i4 0)) [3] (gN 3) b9R (a7D (m7 a2M (d3 (i4 3) (d3 (i4 1) n9))) (m7 a1S (d3 (aOp gIx (i4 3) (aC (.int 0))) n9)))) n9)))) (a2r (aC (.bool false))) a1m)
 a8z)
theorem c2X {w:i3} {K:b0} (r0:IsiOk K "tuple") (W:WX):SS K W (b4W w K) a8A :=
 (j9 (a05 (a2s (a1V (a2l c0U (c7 (a6Z (a45 c8) a0W a57 (a23 (j4 (c7 c8 (c7 c8 d9))) (j4 (c7 (g6 y8 c8 d6) d9))) (by decide)) d9)))) (t7 a4i) y0)
 (c2W  r0 W))
def c06 (w:i3) (K:b0):TS :=
 (a0P (a6h (tOr (c77 (a8Q K (c04 K "tuple" (g9 0)))) (c77 (a1e (tChain d11 d11 (tC (.int 1)) (tCB (a5E K) (d4 (g9 0) p7)) (g9 2))))) (a3p (tC (.bl false))) a15)
 (b4W w K))
def a9m:ASt :=
 (a0t (sIf (aOr (b2M (a9I (b9Q "tuple" (i4 0)))) (b2M (a3Z (c3W gLe gLe (aC (.int 1)) (aCB b6H (d3 (i4 0) n9)) (i4 2))))) (a2r (aC (.bool false))) a1m)
 a8A)
theorem c6U {w:i3} {K:b0} (r0:IsiOk K "tuple") (W:WX):SS K W (c06 w K) a9m :=
 (j9 (a05 (a9R (a2s (a1V (a4t r0 c8))) (a2s (t8 (c2f a3X a3X d6 (a2l a4w (c7 c8 d9)) c8)))) (t7 a4i) y0)
 (c2X  r0 W))
def a3T:Ct:=fun ρ P _=>∃ d many most,ρ = [.dat d,.dat (.int many),.dat (.int most)] ∧ okD d = true ∧ 1 ≤ many ∧ ∀ ρ',P (.dat (.bool (a2z many most d))) ρ'
theorem c4h (ρ:List AV) (P:RV → List AV → Prop) (PX:PXT) (h:a3T ρ P PX):ρ.length = 3:=by
 obtain ⟨_,_,_,rfl,_⟩:=h
 rfl
theorem c2D (ρ:List AV) (P:RV → List AV → Prop) (PX:PXT) (h:a3T ρ P PX):a9m { nx:=fun ρ'=>P (.dat .none) ρ',rt:=P,ex:=PX } (ρ ++ f7 (a7b.length - ρ.length) .un):=by
 have eN:a7b.length = 5:=rfl
 obtain ⟨d,many,most,rfl,ok,hm,h⟩:=h
 unfold a9m
 simp only [eN]
 cases d with
 | tuple ds =>
  obtain ⟨hl,ok2⟩:=okT ok
  walk_at "aq"
  by_cases c1:1 ≤ (ds.length:Int)
  ·by_cases c2:(ds.length:Int) ≤ most
   ·rw [if_pos c1,if_neg (by omega)]
    unfold a8A
    walk_at "aq"
    refine c2l (fun d=>[.dat (.tuple ds),.dat (.int many),.dat (.int most),.dat d,.un]) (fun d=>.bool (a7e many d)) _ _ (fun d _ k hk=>hk) (fun d _=>rfl) (fun d hd k hk=>?_) ?_ ?_
    ·walk_at "aq"
     refine ⟨d,many,rfl,fun ρ'=>?_⟩
     walk_at "aq"
     cases c3:b0Z many d with
     | true =>
      obtain ⟨x,es,rfl⟩:=c6d hm c3
      walk_at "aq"
      refine ⟨x,rfl,d5K ((okT (ok2 _ hd)).2 x f9),fun ρ'=>?_⟩
      have e:a7e many (.tuple (x :: es)) = w4 x:=by simp [a7e,c3,b8K,a5Z]
      rw [← e]
      exact hk
     | false =>
      have e:a7e many d = false:=by simp [a7e,c3]
      rw [if_neg (by simp),← e]
      exact hk
    ·simp [m8]
     omega
    ·have e:(ds.map fun d=>a0M (a7e many d)) = (ds.map (a7e many)).map a0M:=by simp
     rw [e]
     walk_at "ao"
     cases c3:(ds.map (a7e many)).all id with
     | false =>
      walk_at "ao"
      have e:a2z many most (.tuple ds) = false:=by
       have c3':ds.all (a7e many) = false:=by simpa [a9W] using c3
       simp only [a2z,c3',a2e,d3x]
      rw [← e]
      exact h _
     | true =>
      walk_at "ao"
      have c3':ds.all (a7e many) = true:=by
       rw [a9W] at c3
       exact c3
      unfold a8z
      walk_at "aq"
      refine ⟨by omega,?_⟩
      have sh:∀ j,j < ds.length → ∃ s es,ds[j]? = some (.tuple (.str s :: es)) ∧ (ds.map nmS).getD j e0 = s:=by
       intro j hj
       obtain ⟨s,es,e1,_⟩:=b09 hm (t0.mp c3' _ (b4t hj))
       refine ⟨s,es,by rw [j6 hj,e1],?_⟩
       rw [a9F,a0b,j6 hj,e1]
       rfl
      refine c2l (fun d=>[.dat (.tuple ds),.dat (.int many),.dat (.int most),.un,.dat d]) (fun d=>.bool (match d with
       | .int k=>b1h ((ds.map nmS).getD (k - 1).toNat e0) ((ds.map nmS).getD k.toNat e0)
       | _=>false)) _ _ (fun d _ k hk=>hk) (fun d _=>rfl) (fun d hd k hk=>?_) ?_ ?_
      ·obtain ⟨i,rfl,h1,h2⟩:=b29 hd
       obtain ⟨s,es,e1,e2⟩:=sh (i - 1).toNat (by omega)
       obtain ⟨s',es',e1',e2'⟩:=sh i.toNat (by omega)
       walk_at "aq"
       rw [b0V (by omega) (by omega),e1]
       walk_at "aq"
       rw [b0V (by omega) (by omega),e1']
       walk_at "aq"
       simp only [e2,e2'] at hk
       exact hk
      ·rw [a8I]
       simp [m8]
       omega
      ·rw [d14]
       have e:a2z many most (.tuple ds) = ((a1p (ds.length - 1)).map fun i=>b1h ((ds.map nmS).getD i e0) ((ds.map nmS).getD (i + 1) e0)).all id:=by
        simp only [a2z,c1,c2,c3',decide_true,a0s,b7l,a9W,g8]
        rfl
       have e':((a1p (ds.length - 1)).map fun (i:Nat)=>a0M (b1h ((ds.map nmS).getD ((1:Int) + (i:Int) - 1).toNat e0) ((ds.map nmS).getD ((1:Int) + (i:Int)).toNat e0))) = ((a1p (ds.length - 1)).map fun i=>b1h ((ds.map nmS).getD i e0) ((ds.map nmS).getD (i + 1) e0)).map a0M:=by
        rw [y5]
        refine a3j fun i _=>?_
        have q1:((1:Int) + (i:Int) - 1).toNat = i:=by omega
        have q2:((1:Int) + (i:Int)).toNat = i + 1:=by omega
        rw [q1,q2]
        rfl
       rw [e']
       walk_at "ao"
       rw [← e]
       exact h _
   ·have e:a2z many most (.tuple ds) = false:=by simp [a2z,c2]
    rw [← e,if_pos c1,if_pos (by omega)]
    exact h _
  ·have e:a2z many most (.tuple ds) = false:=by simp [a2z,c1]
   rw [← e]
   simp only [c1,if_false]
   exact h _
 | _ =>
  walk_at "aq"
  exact h _
end Cw
namespace Cw
open PySem L2 Aq
theorem uniq {α:Type} {r:α → α → Prop} (asym:∀ a b,r a b → ¬ r b a):∀ {xs ys:List α},xs.Pairwise r → ys.Pairwise r → (∀ k,k ∈ xs ↔ k ∈ ys) → xs = ys
 | [],[],_,_,_=>rfl
 | [],y :: ys,_,_,h=>by simpa using (h y).mpr f9
 | x :: xs,[],_,_,h=>by simpa using (h x).mp f9
 | x :: xs,y :: ys,hx,hy,h=>by
  rw [c3I] at hx hy
  have e:x = y:=by
   rcases o9.mp ((h x).mp f9) with e | h1
   ·exact e
   ·rcases o9.mp ((h y).mpr f9) with e | h2
    ·exact e.symm
    ·exact absurd (hy.1 x h1) (asym _ _ (hx.1 y h2))
  subst e
  have irr:∀ k,r x k → k ≠ x:=fun k hk e=>by subst e; exact asym _ _ hk hk
  rw [uniq asym hx.2 hy.2 fun k=>?_]
  constructor
  ·intro hk
   rcases o9.mp ((h k).mp (e7 _ hk)) with e | h1
   ·exact absurd e (irr k (hx.1 k hk))
   ·exact h1
  ·intro hk
   rcases o9.mp ((h k).mpr (e7 _ hk)) with e | h1
   ·exact absurd e (irr k (hy.1 k hk))
   ·exact h1
theorem c2i {α:Type} {xs:List α} {i:Nat} {x:α} (h:i < xs.length):xs.getD i x = xs[i]:=by
 rw [a9F,j6 h]
 rfl
def sLt (a b:Str):Prop:=b1h a b = true
theorem c2N {a b:Str}:sLt a b ↔ a.cps.toList < b.cps.toList:=by
 unfold sLt b1h
 rw [decide_eq_true_eq]
theorem b55 (a b:Str) (h:sLt a b):¬ sLt b a:=by
 rw [c2N] at *
 exact fun h'=>List.lt_irrefl _ (List.lt_trans h h')
theorem d2d {a b c:Str} (h:sLt a b) (h':sLt b c):sLt a c:=by
 rw [c2N] at *
 exact List.lt_trans h h'
theorem d2c {a b:Str} (h:¬ sLt a b) (hne:a ≠ b):sLt b a:=by
 rw [c2N] at *
 rcases List.le_iff_lt_or_eq.mp (List.not_lt.mp h) with q | q
 ·exact q
 ·exact absurd (PySem.W.str_of_cps q.symm) hne
theorem c4H {α:Type} {r:α → α → Prop} (tr:∀ a b c,r a b → r b c → r a c):∀ {xs:List α},(∀ i (h:i + 1 < xs.length),r xs[i] xs[i + 1]) → xs.Pairwise r
 | [],_=>.nil
 | [x],_=>List.pairwise_singleton _ _
 | x :: y :: xs,h=>by
  have ih:=c4H (xs:=y :: xs) tr fun i hi=>by
   have q:=h (i + 1) (by simpa using hi)
   exact q
  refine c3I.mpr ⟨fun z hz=>?_,ih⟩
  have h0:r x y:=h 0 (by simp)
  rcases o9.mp hz with rfl | hz
  ·exact h0
  ·exact tr _ _ _ h0 ((c3I.mp ih).1 z hz)
theorem c0X {ns:List Str}:b7l ns = true ↔ ns.Pairwise sLt:=by
 unfold b7l
 rw [t0]
 constructor
 ·intro h
  refine c4H (r:=sLt) (fun _ _ _=>d2d) fun i hi=>?_
  have q:=h i (a3u.mpr (by omega))
  rw [c2i (by omega),c2i hi] at q
  exact q
 ·intro h i hi
  rw [a3u] at hi
  rw [c2i (by omega),c2i (by omega)]
  exact List.pairwise_iff_getElem.mp h i (i + 1) (by omega) (by omega) (by omega)
theorem d1E {a b:Str} (h:AqS.leD (.str a) (.str b)) (hne:a ≠ b):sLt a b:=by
 unfold AqS.leD at h
 rw [PySem.W.dataLt_str] at h
 refine d2c (fun q=>?_) (Ne.symm hne)
 rw [c2N] at q
 rw [decide_eq_false_iff_not] at h
 exact h q
theorem b21:∀ ns:List Str,b8M (ns.map .str) = some (ns.map .inr)
 | []=>rfl
 | n :: ns=>by
  rw [j8,b8M,b21 ns]
  rfl
theorem strs_of:∀ {ys:List Key} {ns:List Str},(∀ k,k ∈ ys → k ∈ ns.map Sum.inr) → ∃ zs:List Str,ys = zs.map .inr
 | [],_,_=>⟨[],rfl⟩
 | y :: ys,ns,h=>by
  obtain ⟨zs,rfl⟩:=strs_of (ys:=ys) (ns:=ns) fun k hk=>h k (e7 _ hk)
  obtain ⟨z,_,rfl⟩:=e9.mp (h y f9)
  exact ⟨z :: zs,rfl⟩
theorem b7u {ys:List Key} {ns:List Str} (nd:ys.Nodup) (hm:∀ k,k ∈ ys ↔ k ∈ ns.map Sum.inr) (pw:(ys.map kD).Pairwise AqS.leD):∃ zs:List Str,ys = zs.map .inr ∧ zs.Pairwise sLt ∧ ∀ z,z ∈ zs ↔ z ∈ ns:=by
 obtain ⟨zs,rfl⟩:=strs_of fun k hk=>(hm k).mp hk
 refine ⟨zs,rfl,?_,fun z=>?_⟩
 ·rw [y5,a2X] at pw
  have nd':zs.Pairwise (· ≠ ·):=(a2X.mp nd).imp fun h e=>h (by rw [e])
  exact (pw.and nd').imp fun h=>d1E h.1 h.2
 ·have:=hm (.inr z)
  simpa using this
end Cw
namespace Cw
open PySem L2 Aq
local macro_rules | `(tactic| walk_at "aq")=>`(tactic| dsimp?! [a1n])
local macro_rules | `(tactic| walk_at "ao")=>`(tactic| simp_all?! [a1n])
def a95 (d:c9):Bool:=a0B ((a5Z d).getD 1 .none) 0 1000000000 && a0B ((a5Z d).getD 2 .none) 1 1000
def b2Z (d:c9):Bool:=a0B ((a5Z d).getD 1 .none) 1 1000
def a3r:c9 → Bool
 | .tuple [r,c,m]=>a2z 3 12 r && (a2z 2 6 c && ((a5Z r).all a95 && ((a5Z c).all b2Z && a0B m 1 1000)))
 | _=>false
theorem b1L {many most:Int} {d:c9} (h:a2z many most d = true):∃ ds,d = .tuple ds ∧ 1 ≤ ds.length ∧ (ds.length:Int) ≤ most ∧ (∀ r ∈ ds,a7e many r = true) ∧ b7l (ds.map nmS) = true:=by
 cases d with
 | tuple ds =>
  simp only [a2z,j5,decide_eq_true_eq,t0] at h
  exact ⟨ds,rfl,by omega,h.2.1,h.2.2.1,h.2.2.2⟩
 | _=>cases h
theorem row3 {r:c9} (h:a7e 3 r = true):∃ s x y,r = .tuple [.str s,x,y] ∧ w7 s = true:=by
 obtain ⟨s,ds,rfl,hs,hl⟩:=b09 (by decide) h
 match ds,hl with
 | [x,y],_=>exact ⟨s,x,y,rfl,hs⟩
 | [],hl=>simp at hl
 | [_],hl=>simp at hl
 | _ :: _ :: _ :: _,hl=>simp at hl; omega
theorem row2 {r:c9} (h:a7e 2 r = true):∃ s x,r = .tuple [.str s,x] ∧ w7 s = true:=by
 obtain ⟨s,ds,rfl,hs,hl⟩:=b09 (by decide) h
 match ds,hl with
 | [x],_=>exact ⟨s,x,rfl,hs⟩
 | [],hl=>simp at hl
 | _ :: _ :: _,hl=>simp at hl; omega
theorem d9t {d:c9} (h:b0Z 3 d = true):∃ x y z,d = .tuple [x,y,z]:=by
 cases d with
 | tuple ds =>
  have e:(ds.length:Int) = 3:=by simpa [b0Z] using h
  match ds,e with
  | [x,y,z],_=>exact ⟨x,y,z,rfl⟩
  | [],e=>simp at e
  | [_],e=>simp at e
  | [_,_],e=>simp at e
  | _ :: _ :: _ :: _ :: _,e=>simp at e; omega
 | _=>cases h
theorem d3Y {d:c9} (h:b0Z 3 d = false):a3r d = false:=by
 unfold a3r
 split
 ·simp [b0Z] at h
 ·rfl
theorem okT3 {x y z:c9} (h:okD (.tuple [x,y,z]) = true):okD x = true ∧ okD y = true ∧ okD z = true :=
 ⟨(okT h).2 _ (by simp),(okT h).2 _ (by simp),(okT h).2 _ (by simp)⟩
def a35:List Str:=["thing", "row"]
def a8V (w:i3) (K:b0):TS :=
 (a3p (b45 K (tCB (rAll K) (d4 (tLc (c2j K (tOp (rIx K) (g9 0) (tC (.int 1)))) (v4 1) c3U (r6 (spOf K z8) [] E0 (d4 (tOp (rIx K) (g9 1) (tC (.int 1))) (d4 (tC (.int 1)) (d4 (tC (.int 1000)) p7)))) [1]) p7)) (r6 (spOf K z8) [] E0 (d4 (tOp (rIx K) (g9 0) (tC (.int 2))) (d4 (tC (.int 1)) (d4 (tC (.int 1000)) p7))))))
def a5Q:ASt :=
 (a2r (a7D (aCB d5z (d3 (aLc (a6i (aOp gIx (i4 0) (aC (.int 1)))) [1] (gN 1) b9R (m7 z8 (d3 (aOp gIx (i4 1) (aC (.int 1))) (d3 (aC (.int 1)) (d3 (aC (.int 1000)) n9))))) n9)) (m7 z8 (d3 (aOp gIx (i4 0) (aC (.int 2))) (d3 (aC (.int 1)) (d3 (aC (.int 1000)) n9))))))
theorem b5s {w:i3} {K:b0} (W:WX):SS K W (a8V w K) a5Q :=
 (t7 (a23 (a2l c0U (c7 (a6Z (a45 (g6 y8 c8 d6)) a0W a57 (j4 (c7 (g6 y8 c8 d6) (c7 d6 (c7 d6 d9)))) (by decide)) d9)) (j4 (c7 (g6 y8 c8 d6) (c7 d6 (c7 d6 d9))))))
def a8W (w:i3) (K:b0):TS :=
 (a0P (a6h (c77 (a8Q K (tCB (rAll K) (d4 (tLc (c2j K (tOp (rIx K) (g9 0) (tC (.int 0)))) (v4 1) c3U (b45 K (r6 (spOf K z8) [] E0 (d4 (tOp (rIx K) (g9 1) (tC (.int 1))) (d4 (tC (.int 0)) (d4 (tC (.int 1000000000)) p7)))) (r6 (spOf K z8) [] E0 (d4 (tOp (rIx K) (g9 1) (tC (.int 2))) (d4 (tC (.int 1)) (d4 (tC (.int 1000)) p7))))) [1]) p7)))) (a3p (tC (.bl false))) a15)
 (a8V w K))
def a5R:ASt :=
 (a0t (sIf (b2M (a9I (aCB d5z (d3 (aLc (a6i (aOp gIx (i4 0) (aC (.int 0)))) [1] (gN 1) b9R (a7D (m7 z8 (d3 (aOp gIx (i4 1) (aC (.int 1))) (d3 (aC (.int 0)) (d3 (aC (.int 1000000000)) n9)))) (m7 z8 (d3 (aOp gIx (i4 1) (aC (.int 2))) (d3 (aC (.int 1)) (d3 (aC (.int 1000)) n9)))))) n9)))) (a2r (aC (.bool false))) a1m)
 a5Q)
theorem b5t {w:i3} {K:b0} (W:WX):SS K W (a8W w K) a5R :=
 (j9 (a05 (a2s (a1V (a2l c0U (c7 (a6Z (a45 (g6 y8 c8 d6)) a0W a57 (a23 (j4 (c7 (g6 y8 c8 d6) (c7 d6 (c7 d6 d9)))) (j4 (c7 (g6 y8 c8 d6) (c7 d6 (c7 d6 d9))))) (by decide)) d9)))) (t7 a4i) y0)
 (b5s  W))
def a8X (w:i3) (K:b0):TS :=
 (a0P (a6h (tOr (c77 (a8Q K (r6 (spOf K a3T) [] E0 (d4 (tOp (rIx K) (g9 0) (tC (.int 0))) (d4 (tC (.int 3)) (d4 (tC (.int 12)) p7)))))) (c77 (a8Q K (r6 (spOf K a3T) [] E0 (d4 (tOp (rIx K) (g9 0) (tC (.int 1))) (d4 (tC (.int 2)) (d4 (tC (.int 6)) p7))))))) (a3p (tC (.bl false))) a15)
 (a8W w K))
def a5S:ASt :=
 (a0t (sIf (aOr (b2M (a9I (m7 a3T (d3 (aOp gIx (i4 0) (aC (.int 0))) (d3 (aC (.int 3)) (d3 (aC (.int 12)) n9)))))) (b2M (a9I (m7 a3T (d3 (aOp gIx (i4 0) (aC (.int 1))) (d3 (aC (.int 2)) (d3 (aC (.int 6)) n9))))))) (a2r (aC (.bool false))) a1m)
 a5R)
theorem b5u {w:i3} {K:b0} (W:WX):SS K W (a8X w K) a5S :=
 (j9 (a05 (a9R (a2s (a1V (j4 (c7 (g6 y8 c8 d6) (c7 d6 (c7 d6 d9)))))) (a2s (a1V (j4 (c7 (g6 y8 c8 d6) (c7 d6 (c7 d6 d9))))))) (t7 a4i) y0)
 (b5t  W))
def b2y (w:i3) (K:b0):TS :=
 (a0P (a6h (c77 (a8Q K (r6 (spOf K a2M) [] E0 (d4 (g9 0) (d4 (tC (.int 3)) p7))))) (a3p (tC (.bl false))) a15)
 (a8X w K))
def a5y:ASt :=
 (a0t (sIf (b2M (a9I (m7 a2M (d3 (i4 0) (d3 (aC (.int 3)) n9))))) (a2r (aC (.bool false))) a1m)
 a5S)
theorem b9g {w:i3} {K:b0} (W:WX):SS K W (b2y w K) a5y :=
 (j9 (a05 (a2s (a1V (j4 (c7 c8 (c7 d6 d9))))) (t7 a4i) y0)
 (b5u  W))
def a29:Ct:=fun ρ P _=>∃ d,ρ = [.dat d] ∧ okD d = true ∧ ∀ ρ',P (.dat (.bool (a3r d))) ρ'
theorem b6P (ρ:List AV) (P:RV → List AV → Prop) (PX:PXT) (h:a29 ρ P PX):ρ.length = 1:=by
 obtain ⟨_,rfl,_⟩:=h
 rfl
theorem b5l (ρ:List AV) (P:RV → List AV → Prop) (PX:PXT) (h:a29 ρ P PX):a5y { nx:=fun ρ'=>P (.dat .none) ρ',rt:=P,ex:=PX } (ρ ++ f7 (a35.length - ρ.length) .un):=by
 have eN:a35.length = 2:=rfl
 obtain ⟨d,rfl,ok,h⟩:=h
 unfold a5y
 simp only [eN]
 walk_at "aq"
 refine ⟨d,3,rfl,fun ρ'=>?_⟩
 walk_at "aq"
 cases c1:b0Z 3 d with
 | false =>
  rw [if_neg (by simp),← d3Y c1]
  exact h _
 | true =>
  rw [if_pos rfl]
  obtain ⟨x,y,z,rfl⟩:=d9t c1
  obtain ⟨okx,oky,okz⟩:=okT3 ok
  unfold a5S
  walk_at "aq"
  refine ⟨x,3,12,rfl,okx,by decide,fun ρ'=>?_⟩
  walk_at "aq"
  cases c2:a2z 3 12 x with
  | false =>
   have e:a3r (.tuple [x,y,z]) = false:=by simp [a3r,c2]
   rw [if_neg (by simp),← e]
   exact h _
  | true =>
   rw [if_pos rfl]
   refine ⟨y,2,6,rfl,oky,by decide,fun ρ'=>?_⟩
   walk_at "aq"
   cases c3:a2z 2 6 y with
   | false =>
    have e:a3r (.tuple [x,y,z]) = false:=by simp [a3r,c3]
    rw [if_neg (by simp),← e]
    exact h _
   | true =>
    rw [if_pos rfl]
    obtain ⟨rs,rfl,_,lr,hr,_⟩:=b1L c2
    obtain ⟨cs,rfl,_,lc,hc,_⟩:=b1L c3
    unfold a5R
    walk_at "aq"
    refine d5G (fun d=>[.dat (.tuple [.tuple rs,.tuple cs,z]),.dat d]) a95 _ (fun d _ k hk=>hk) (fun d _=>rfl) (fun d hd k hk=>?_) (by omega) ?_
    ·obtain ⟨s,u,v,rfl,_⟩:=row3 (hr d hd)
     walk_at "aq"
     refine ⟨u,0,1000000000,rfl,fun ρ'=>?_⟩
     walk_at "aq"
     cases c4:a0B u 0 1000000000 with
     | false =>
      have e:a95 (.tuple [.str s,u,v]) = false:=by simp [a95,a5Z,c4]
      rw [if_neg (by simp),← e]
      exact hk
     | true =>
      rw [if_pos rfl]
      refine ⟨v,1,1000,rfl,fun ρ'=>?_⟩
      have e:a95 (.tuple [.str s,u,v]) = a0B v 1 1000:=by simp [a95,a5Z,c4]
      walk_at "aq"
      rw [← e]
      exact hk
    ·walk_at "ao"
     rw [a9W]
     cases c4:rs.all (id ∘ a95) with
     | false =>
      have e:a3r (.tuple [.tuple rs,.tuple cs,z]) = false:=by
       have c4':rs.all a95 = false:=c4
       simp only [a3r,a5Z,c4',a2e,d3x]
      walk_at "ao"
      rw [← e]
      exact h _
     | true =>
      have c4':rs.all a95 = true:=c4
      walk_at "ao"
      unfold a5Q
      walk_at "aq"
      refine d5G (fun d=>[.dat (.tuple [.tuple rs,.tuple cs,z]),.dat d]) b2Z _ (fun d _ k hk=>hk) (fun d _=>rfl) (fun d hd k hk=>?_) (by omega) ?_
      ·obtain ⟨s,u,rfl,_⟩:=row2 (hc d hd)
       walk_at "aq"
       refine ⟨u,1,1000,rfl,fun ρ'=>?_⟩
       exact hk
      ·walk_at "ao"
       rw [a9W]
       cases c5:cs.all (id ∘ b2Z) with
       | false =>
        have e:a3r (.tuple [.tuple rs,.tuple cs,z]) = false:=by
         have c5':cs.all b2Z = false:=c5
         simp only [a3r,a5Z,c5',a2e,d3x]
        walk_at "ao"
        rw [← e]
        exact h _
       | true =>
        have c5':cs.all b2Z = true:=c5
        walk_at "aq"
        refine ⟨z,1,1000,rfl,fun ρ'=>?_⟩
        have e:a3r (.tuple [.tuple rs,.tuple cs,z]) = a0B z 1 1000:=by
         simp only [a3r,a5Z,c2,c3,c4',c5',a0s]
        rw [← e]
        exact h _
end Cw
namespace Cw
open PySem L2 Aq
local macro_rules | `(tactic| walk_at "aq")=>`(tactic| dsimp?! [a1n])
theorem b0Y {n:Nat}:∀ {ds:List c9},(∀ d ∈ ds,d.depth ≤ n) → a1N ds ≤ n
 | [],_=>by simp [a1N]
 | d :: ds,h=>by
  rw [a1N]
  exact Nat.max_le.mpr ⟨h d f9,b0Y fun e he=>h e (e7 _ he)⟩
theorem a8G {n:Nat}:∀ {ds:List c9} {d:c9},a1N ds ≤ n → d ∈ ds → d.depth ≤ n
 | [],_,_,h=>by simp at h
 | e :: ds,d,h,hd=>by
  rw [a1N] at h
  rcases o9.mp hd with rfl | hd
  ·exact a0y (Nat.le_max_left _ _) h
  ·exact a8G (a0y (Nat.le_max_right _ _) h) hd
def a0F (b n:Nat) (d:c9):Prop:=okB b d = true ∧ d.depth ≤ n
abbrev Fine (n:Nat) (d:c9):Prop:=a0F 10000 n d
theorem a0F.mono {b n m:Nat} {d:c9} (h:a0F b n d) (l:n ≤ m):a0F b m d:=⟨h.1,a0y h.2 l⟩
theorem a0F.wid {b c n:Nat} {d:c9} (h:a0F b n d) (l:b ≤ c):a0F c n d:=⟨c8q l d h.1,h.2⟩
theorem a0F.shp {b n:Nat} {d:c9} (h:a0F b n d) (l:n ≤ 64):a0g d = true:=d95 h.1 (a0y h.2 l)
theorem a1w {b n:Nat} {ds:List c9} (hl:ds.length ≤ b) (h:∀ d ∈ ds,a0F b n d):a0F b (n + 1) (.list ds):=by
 refine ⟨?_,?_⟩
 ·rw [okB,decide_eq_true hl,c6E fun d hd=>(h d hd).1]
  rfl
 ·rw [a1M]
  exact e0n (b0Y fun d hd=>(h d hd).2) 1
theorem a4k {b n:Nat} {ds:List c9} (hl:ds.length ≤ b) (h:∀ d ∈ ds,a0F b n d):a0F b (n + 1) (.tuple ds):=by
 refine ⟨?_,?_⟩
 ·rw [okB,decide_eq_true hl,c6E fun d hd=>(h d hd).1]
  rfl
 ·rw [a1M]
  exact e0n (b0Y fun d hd=>(h d hd).2) 1
theorem a1y {b n:Nat} {i:Int}:a0F b n (.int i):=⟨by simp [okB],by rw [a1M]; exact a5b _⟩
theorem b1S {b n:Nat} {s:Str} (h1:s.length ≤ b) (h2:a1c s = true):a0F b n (.str s):=⟨by rw [okB,decide_eq_true h1,h2]; rfl,by rw [a1M]; exact a5b _⟩
theorem a0F.tup {b n:Nat} {ds:List c9} (h:a0F b (n + 1) (.tuple ds)):ds.length ≤ b ∧ ∀ d ∈ ds,a0F b n d:=by
 have q:=okT h.1
 have q2:=h.2
 rw [a1M] at q2
 exact ⟨q.1,fun d hd=>⟨q.2 d hd,a8G (by omega) hd⟩⟩
theorem a0F.lst {b n:Nat} {ds:List c9} (h:a0F b (n + 1) (.list ds)):ds.length ≤ b ∧ ∀ d ∈ ds,a0F b n d:=by
 have q:=okL h.1
 have q2:=h.2
 rw [a1M] at q2
 exact ⟨q.1,fun d hd=>⟨q.2 d hd,a8G (by omega) hd⟩⟩
theorem a0F.str {b n:Nat} {s:Str} (h:a0F b n (.str s)):s.length ≤ b ∧ a1c s = true:=by
 have q:=h.1
 rw [okB,j5,decide_eq_true_eq] at q
 exact q
theorem c8Y {s:Str} (h:a1c s = true) {d:c9} (hd:d ∈ a8o s):Fine 0 d:=by
 unfold a8o at hd
 obtain ⟨c,hc,rfl⟩:=e9.mp hd
 refine b1S (by simp [c5X]) ?_
 unfold a1c at *
 rw [c3G] at h
 simpa using h c (by simpa using hc)
def a4M:List Str:=["thing", "sign"]
def a79 (w:i3) (K:b0):TS :=
 (a3p (tOp (c5O K) (tLc (c2j K (g9 0)) (v4 1) (a1e (tOp (c2L K) (g9 1) (tC (.str "abcdefghijklmnopqrstuvwxyz")))) (g9 1) [1]) (b1C p7)))
def a5h:ASt :=
 (a2r (aOp gEq (aLc (a6i (i4 0)) [1] (gN 1) (a3Z (aOp (gIn true) (i4 1) (aC (.str "abcdefghijklmnopqrstuvwxyz")))) (i4 1)) (a49 n9)))
theorem b3K {w:i3} {K:b0} (a0S:IsiOk K "str") (W:WX):SS K W (a79 w K) a5h :=
 (t7 (g6 a4s (a6Z (a45 c8) a0W (t8 (g6 d4p c8 w3)) c8 (by decide)) (a0T d9)))
def b0h (w:i3) (K:b0):TS :=
 (a0P (a6h (tOr (c77 (a8Q K (c04 K "str" (g9 0)))) (tOr (a1e (tOp c8w (tCB (a5E K) (d4 (g9 0) p7)) (tC (.int 1)))) (a1e (tOp d5O (tCB (a5E K) (d4 (g9 0) p7)) (tC (.int 8)))))) (a3p (tC (.bl false))) a15)
 (a79 w K))
def a4P:ASt :=
 (a0t (sIf (aOr (b2M (a9I (b9Q "str" (i4 0)))) (aOr (a3Z (aOp gLt (aCB b6H (d3 (i4 0) n9)) (aC (.int 1)))) (a3Z (aOp gGt (aCB b6H (d3 (i4 0) n9)) (aC (.int 8)))))) (a2r (aC (.bool false))) a1m)
 a5h)
theorem b7B {w:i3} {K:b0} (a0S:IsiOk K "str") (W:WX):SS K W (b0h w K) a4P :=
 (j9 (a05 (a9R (a2s (a1V (a4t a0S c8))) (a9R (t8 (g6 a3X (a2l a4w (c7 c8 d9)) d6)) (t8 (g6 a3X (a2l a4w (c7 c8 d9)) d6)))) (t7 a4i) y0)
 (b3K  a0S W))
def a1z:Ct:=fun ρ P _=>∃ d,ρ = [.dat d] ∧ okD d = true ∧ ∀ ρ',P (.dat (.bool (w4 d))) ρ'
theorem b49 (ρ:List AV) (P:RV → List AV → Prop) (PX:PXT) (h:a1z ρ P PX):ρ.length = 1:=by
 obtain ⟨_,rfl,_⟩:=h
 rfl
theorem b3h (ρ:List AV) (P:RV → List AV → Prop) (PX:PXT) (h:a1z ρ P PX):a4P { nx:=fun ρ'=>P (.dat .none) ρ',rt:=P,ex:=PX } (ρ ++ f7 (a4M.length - ρ.length) .un):=by
 have eN:a4M.length = 2:=rfl
 obtain ⟨d,rfl,ok,h⟩:=h
 unfold a4P
 simp only [eN]
 cases d with
 | str s =>
  obtain ⟨ok',ok2⟩:=a0F.str (b:=10000) (n:=0) ⟨ok,by simp [a1M]⟩
  have ok3:s.length ≤ m8:=a0y ok' (by decide)
  walk_at "aq"
  refine ⟨ok3,?_⟩
  split
  ·rename_i c
   have e:w4 (.str s) = false:=by simp [w4,w7]; omega
   rw [← e]
   exact h _
  ·rename_i c
   refine ⟨ok3,?_⟩
   split
   ·rename_i c
    have e:w4 (.str s) = false:=by simp [w4,w7]; omega
    rw [← e]
    exact h _
   ·rename_i c1
    unfold a5h
    walk_at "aq"
    refine b6M (fun d=>[.dat (.str s),.dat d]) (fun d=>match d with
     | .str z=>!b5z (a0H "abcdefghijklmnopqrstuvwxyz") z
     | _=>false) (fun d=>d) _ _ (fun d _ k hk=>hk) (fun d _=>rfl) (fun d hd k hk=>?_) (fun d hd _ k hk=>hk) ?_ ?_
    ·obtain ⟨c,_,rfl⟩:=e9.mp hd
     walk_at "aq"
     exact hk
    ·simp [a8o]
     exact ok3
    ·walk_at "aq"
     refine ⟨?_,by decide +kernel,?_⟩
     ·refine a0F.shp (b:=10000) (n:=1) (a1w ?_ fun d hd=>c8Y ok2 (b6i.mp hd).1) (by decide)
      refine a0y (b6g _ _) ?_
      simp [a8o]
      exact ok'
     ·have e:w4 (.str s) = a1j ((a8o s).filter fun d=>match d with
       | .str z=>!b5z (a0H "abcdefghijklmnopqrstuvwxyz") z
       | _=>false) []:=by
       have e1:w4 (.str s) = s.cps.toList.all a9K:=by
        have c1':1 ≤ s.length:=by omega
        have c2':s.length ≤ 8:=by omega
        simp [w4,w7,c1',c2']
       have e2:((a8o s).filter fun d=>match d with
        | .str z=>!b5z (a0H "abcdefghijklmnopqrstuvwxyz") z
        | _=>false) = a8o ⟨(s.cps.toList.filter fun c=>!a9K c).toArray⟩:=by
        unfold a8o
        rw [List.filter_map]
        congr 1
        refine List.filter_congr fun c _=>?_
        show (!b5z _ _) = _
        rw [c02,b6T]
       rw [e1,e2]
       cases q:s.cps.toList.filter fun c=>!a9K c with
       | nil =>
        have q':=d8l.mp q
        have:s.cps.toList.all a9K = true:=t0.mpr fun c hc=>by simpa using q' c hc
        rw [this]
        rfl
       | cons c cs =>
        have hc:c ∈ s.cps.toList.filter fun c=>!a9K c:=by rw [q]; exact f9
        have hc':=b6i.mp hc
        have:s.cps.toList.all a9K = false:=by
         rw [← Bool.not_eq_true,t0]
         intro h
         rw [h c hc'.1] at hc'
         simp at hc'
        rw [this]
        rfl
      rw [← e]
      exact h _
 | _ =>
  walk_at "aq"
  exact h _
def a7z:List Str:=["thing", "low", "high"]
def b2w (w:i3) (K:b0):TS :=
 (a3p (b45 K (c04 K "int" (g9 0)) (b45 K (tNotT K (c04 K "bool" (g9 0))) (b45 K (tOp d11 (g9 1) (g9 0)) (tOp d11 (g9 0) (g9 2))))))
def a5w:ASt :=
 (a2r (a7D (b9Q "int" (i4 0)) (a7D (d3M (b9Q "bool" (i4 0))) (a7D (aOp gLe (i4 1) (i4 0)) (aOp gLe (i4 0) (i4 2))))))
theorem b9e {w:i3} {K:b0} (a1Y:IsiOk K "bool") (b9E:IsiOk K "int") (W:WX):SS K W (b2w w K) a5w :=
 (t7 (a23 (a4t b9E c8) (a23 (d1n (a4t a1Y c8)) (a23 (g6 a3X c8 c8) (g6 a3X c8 c8)))))
def a0m:Ct:=fun ρ P _=>∃ d lo hi,ρ = [.dat d,.dat (.int lo),.dat (.int hi)] ∧ ∀ ρ',P (.dat (.bool (a0B d lo hi))) ρ'
theorem b6N (ρ:List AV) (P:RV → List AV → Prop) (PX:PXT) (h:a0m ρ P PX):ρ.length = 3:=by
 obtain ⟨_,_,_,rfl,_⟩:=h
 rfl
theorem b5j (ρ:List AV) (P:RV → List AV → Prop) (PX:PXT) (h:a0m ρ P PX):a5w { nx:=fun ρ'=>P (.dat .none) ρ',rt:=P,ex:=PX } (ρ ++ f7 (a7z.length - ρ.length) .un):=by
 have eN:a7z.length = 3:=rfl
 obtain ⟨d,lo,hi,rfl,h⟩:=h
 unfold a5w
 simp only [eN]
 cases d with
 | int i =>
  walk_at "aq"
  split
  ·rename_i c
   have e:a0B (.int i) lo hi = decide (i ≤ hi):=by simp [a0B,c]
   rw [← e]
   exact h _
  ·rename_i c
   have e:a0B (.int i) lo hi = decide (lo ≤ i):=by simp [a0B,c]
   rw [← e]
   exact h _
 | _ =>
  walk_at "aq"
  exact h _
end Cw
namespace Cw
open PySem L2 Aq
local macro_rules | `(tactic| walk_at "aq")=>`(tactic| dsimp?! [a1n])
theorem b3W {s:Str} (h:w7 s = true):a1c s = true:=by
 unfold w7 at h
 simp only [j5,t0] at h
 unfold a1c
 rw [c3G]
 intro c hc
 have q:=h.2.2 c (by simpa using hc)
 unfold a9K at q
 simp at q ⊢
 omega
theorem a2m {b n:Nat} {s:Str} (h:w7 s = true) (hb:8 ≤ b:=by decide):a0F b n (.str s):=b1S (a0y (d9T h) hb) (b3W h)
end Cw
namespace Cw
open PySem L2 Aq
local macro_rules | `(tactic| walk_at "aq")=>`(tactic| dsimp?! [a1n])
end Cw
namespace Cw
open PySem L2 Aq
local macro_rules | `(tactic| walk_at "aq")=>`(tactic| dsimp?! [a1n])
def a8u:List Str:=["script", "k", "cell"]
def b0g (w:i3) (K:b0):TS :=
 (a3p (b1C (d4 (tOp b3E (g9 2) (tCB d7t (d4 (tOp rGeA (g9 2) (tOp a4J (tC (.int 10)) (tC (.int 18)))) p7))) (d4 (tOp (a0U K) (tC (.int 1)) (tOp b7k (tOp (a0U K) (tOp b3E (g9 2) (tC (.int 69621))) (tOp b3E (tC (.int 86028121)) (tOp (a0U K) (g9 1) (tC (.int 1))))) (tC (.int 2147483646)))) p7))))
def a4O:ASt :=
 (a2r (a49 (d3 (aOp c80 (i4 2) (aCB gInt (d3 (aOp gGe (i4 2) (aOp b2N (aC (.int 10)) (aC (.int 18)))) n9))) (d3 (aOp a3i (aC (.int 1)) (aOp d1r (aOp a3i (aOp c80 (i4 2) (aC (.int 69621))) (aOp c80 (aC (.int 86028121)) (aOp a3i (i4 1) (aC (.int 1))))) (aC (.int 2147483646)))) n9))))
theorem b7A {w:i3} {K:b0} (W:WX):SS K W (b0g w K) a4O :=
 (t7 (a0T (c7 (g6 a8H c8 (a2l d9Z (c7 (g6 a3X c8 (g6 a2q d6 d6)) d9))) (c7 (g6 a0k d6 (g6 b2c (g6 a0k (g6 a8H c8 d6) (g6 a8H d6 (g6 a0k c8 d6))) d6)) d9))))
def b4Q (w:i3) (K:b0):TS :=
 (a0P (a3w (tOp b3E (tC (.int 15485863)) (g9 1)) (v4 2))
 (a0P (a6h (a1e (tOp c8w (g9 1) (tCB (a5E K) (d4 (g9 0) p7)))) (a3w (tOp b7k (tOp (rIx K) (g9 0) (g9 1)) (tOp b3E (tOp a4J (tC (.int 10)) (tC (.int 60))) (tOp a4J (tC (.int 10)) (tC (.int 60))))) (v4 2)) (a6h (a1e (tOp d5O (tCB (a5E K) (d4 (g9 0) p7)) (tC (.int 0)))) (a3w (tOp (a0U K) (tOp b7k (tOp (rIx K) (g9 0) (tOp b7k (g9 1) (tCB (a5E K) (d4 (g9 0) p7)))) (tOp a4J (tC (.int 10)) (tC (.int 15)))) (tOp b3E (tC (.int 15485863)) (g9 1))) (v4 2)) a15))
 (b0g w K)))
def a6o:ASt :=
 (a0t (a2T 2 (aOp c80 (aC (.int 15485863)) (i4 1)))
 (a0t (sIf (a3Z (aOp gLt (i4 1) (c53 0))) (a2T 2 (aOp d1r (d88 0 (i4 1)) (aOp c80 (aOp b2N (aC (.int 10)) (aC (.int 60))) (aOp b2N (aC (.int 10)) (aC (.int 60)))))) (sIf (a3Z (aOp gGt (c53 0) (aC (.int 0)))) (a2T 2 (aOp a3i (aOp d1r (d88 0 (aOp d1r (i4 1) (c53 0))) (aOp b2N (aC (.int 10)) (aC (.int 15)))) (aOp c80 (aC (.int 15485863)) (i4 1)))) a1m))
 a4O))
theorem c2R {w:i3} {K:b0} (W:WX):SS K W (b4Q w K) a6o :=
 (j9 (y9 (g6 a8H d6 c8))
 (j9 (a05 (t8 (g6 a3X c8 c2g)) (y9 (g6 b2c (d5w c8) (g6 a8H (g6 a2q d6 d6) (g6 a2q d6 d6)))) (a05 (t8 (g6 a3X c2g d6)) (y9 (g6 a0k (g6 b2c (d5w (g6 b2c c8 c2g)) (g6 a2q d6 d6)) (g6 a8H d6 c8))) y0))
 (b7A  W)))
def a3R:Ct:=fun ρ P _=>∃ ns k,ρ = [.scr ns,.dat (.int k)] ∧ 0 ≤ k ∧ k ≤ 1000 ∧ ∀ a b ρ',Dw a b → P (.own (.ml none [.int a,.int b])) ρ'
theorem b8P (ρ:List AV) (P:RV → List AV → Prop) (PX:PXT) (h:a3R ρ P PX):ρ.length = 2:=by
 obtain ⟨_,_,rfl,_⟩:=h
 rfl
theorem b69 (ρ:List AV) (P:RV → List AV → Prop) (PX:PXT) (h:a3R ρ P PX):a6o { nx:=fun ρ'=>P (.dat .none) ρ',rt:=P,ex:=PX } (ρ ++ f7 (a8u.length - ρ.length) .un):=by
 have eN:a8u.length = 3:=rfl
 obtain ⟨ns,k,rfl,h0,h1,h⟩:=h
 unfold a6o
 simp only [eN]
 walk_at "aq"
 have fin:∀ c:Int,0 ≤ c → c < 10 ^ 120 → a4O { nx:=fun ρ'=>P (.dat .none) ρ',rt:=P,ex:=PX } [.scr ns,.dat (.int k),.dat (.int c)]:=by
  intro c hc0 hc1
  unfold a4O
  walk_at "aq"
  have x1:0 ≤ (c * 69621 + 86028121 * (k + 1)) % 2147483646:=a1L _ (by decide)
  have x2:(c * 69621 + 86028121 * (k + 1)) % 2147483646 < 2147483646:=a0Y _ (by decide)
  refine ⟨a51 (by decide) (by decide) (by decide),b6W (a3Y (by omega) (by omega)) (a3Y (by split <;> decide) (by split <;> decide)),b6W (a3Y (by omega) (by omega)) (a3Y (by decide) (by decide)),b6W (a3Y (by decide) (by decide)) (a3Y (by omega) (by omega)),by decide,h _ _ _ ⟨?_,?_,by omega,by omega⟩⟩
  ·split <;> omega
  ·split <;> omega
 refine ⟨b6W (a3Y (by decide) (by decide)) (a3Y (by omega) (by omega)),?_⟩
 have at_:∀ i:Int,0 ≤ i → i < ns.length → ∃ z,atI ns i = some z:=by
  intro i hi0 hi1
  rw [b0V hi0 hi1,j6 (by omega)]
  exact ⟨_,rfl⟩
 split
 ·rename_i c
  obtain ⟨z,ez⟩:=at_ k h0 c
  rw [ez]
  walk_at "aq"
  exact ⟨a51 (by decide) (by decide) (by decide),b6W (a3Y (by decide) (by decide)) (a3Y (by decide) (by decide)),fin _ (a1L _ (by decide)) (a0Y _ (by decide))⟩
 ·split
  ·rename_i c
   obtain ⟨z,ez⟩:=at_ (k % ns.length) (a1L _ (by omega)) (a0Y _ (by omega))
   have x1:0 ≤ z % 1000000000000000:=a1L _ (by decide)
   have x2:z % 1000000000000000 < 1000000000000000:=a0Y _ (by decide)
   refine ⟨by omega,?_⟩
   rw [ez]
   walk_at "aq"
   exact ⟨a51 (by decide) (by decide) (by decide),b6W (a3Y (by decide) (by decide)) (a3Y (by omega) (by omega)),fin _ (by omega) (by omega)⟩
  ·exact fin _ (by omega) (by omega)
end Cw
namespace Cw
open PySem L2 Aq
local macro_rules | `(tactic| walk_at "aq")=>`(tactic| dsimp?! [a1n])
local macro_rules | `(tactic| walk_at "ao")=>`(tactic| simp_all?! [a1n])
theorem a1b {a b n:Int} {i:Nat} {p:Option Nat} {ρ1:List AV} {P:RV → List AV → Prop} (hd:Dw a b) (h1:1 ≤ n) (h2:n ≤ 10 ^ 40) (ht:(ρ1[i]?).bind AV.tag = p) (h:∀ k a' b',0 ≤ k → k < n → Dw a' b' → P (.dat (.int k)) (ρ1.set i (.ml p [.int a',.int b']))):d5 [.ml (some 0) [.int a,.int b],.dat (.int n)] (bk P ρ1 [i]) X0:=by
 refine ⟨a,b,n,rfl,hd,h1,h2,fun k a' b' ρ' hk hk' hd' ho=>?_⟩
 rw [a60,a1U ho,a5l,a5D,ht]
 exact h k a' b' hk hk' hd'
theorem a2L {α:Type} {xs:List α} {i:Int} (h0:0 ≤ i) (h1:i < xs.length):∃ x ∈ xs,atI xs i = some x:=by
 rw [b0V h0 h1,j6 (by omega)]
 exact ⟨_,b4t _,rfl⟩
theorem c83:∀ cs:List Nat,c3M (a0H "") (cs.map fun c=>(⟨#[c]⟩:Str)) = ⟨cs.toArray⟩:=by
 intro cs
 have e:(cs.map fun c=>(⟨#[c]⟩:Str)) = (cs.map fun c=>[c]).map SX.S:=by rw [y5]; rfl
 have e0:a0H "" = SX.S []:=rfl
 rw [e,e0,SX.join_S]
 congr 2
 induction cs with
 | nil=>rfl
 | cons c cs ih =>
  cases cs with
  | nil=>rfl
  | cons d cs =>
   have ih':=ih (by simp)
   rw [j8] at ih'
   rw [j8,j8,TL.joinL,ih']
   rfl
def d2D:c9 → Str
 | .str s=>s
 | _=>e0
theorem d1V {es:List c9} {xs:List Str} (h:es.Perm (xs.map .str)):∃ ns:List Str,ns.Perm xs ∧ es = ns.map .str:=by
 refine ⟨es.map d2D,?_,?_⟩
 ·have q:=h.map d2D
  rw [y5] at q
  have e:xs.map (d2D ∘ y4) = xs:=by
   have:(d2D ∘ y4) = id:=rfl
   rw [this,d0Z]
  rw [e] at q
  exact q
 ·rw [y5]
  have:∀ d ∈ es,(y4 ∘ d2D) d = d:=by
   intro d hd
   obtain ⟨x,_,rfl⟩:=e9.mp (h.mem_iff.mp hd)
   rfl
  rw [a3j this]
  simp
theorem c4P {es:List c9} {xs:List Str} (h:es.Perm (xs.map .str)) (nd:xs.Nodup) (pw:es.Pairwise AqS.leD):∃ ns:List Str,ns.Perm xs ∧ es = ns.map .str ∧ ns.Pairwise sLt:=by
 obtain ⟨ns,hp,rfl⟩:=d1V h
 refine ⟨ns,hp,rfl,?_⟩
 rw [a2X] at pw
 have nd':ns.Pairwise (· ≠ ·):=hp.nodup_iff.mpr nd
 exact (pw.and nd').imp fun h=>d1E h.1 h.2
theorem b6Y:∀ xs:List Str,noDics (xs.map .str) = true
 | []=>by rw [d8Q,noDics]
 | x :: xs=>by rw [j8,noDics,b6Y xs]; rfl
def d1O (cs:List Nat) (f t:Int) (k:Int):Str:=⟨(cs ++ [97 + ((f + t * k) % 26).toNat]).toArray⟩
theorem d7i {cs:List Nat} {f t k:Int} (hcs:∀ c ∈ cs,a9K c = true) (hl:cs.length ≤ 7):w7 (d1O cs f t k) = true:=by
 unfold w7 d1O
 have h1:0 ≤ (f + t * k) % 26:=a1L _ (by decide)
 have h2:(f + t * k) % 26 < 26:=a0Y _ (by decide)
 simp only [j5,decide_eq_true_eq,t0,c5X]
 refine ⟨by simp,by simp; omega,fun c hc=>?_⟩
 rcases v0.mp hc with hc | hc
 ·exact hcs c hc
 ·simp at hc
  subst hc
  simp [a9K]
  omega
theorem d4h {cs:List Nat} {f t k k':Int} (ht:t = 1 ∨ t = 3 ∨ t = 5 ∨ t = 7) (h0:0 ≤ k) (h1:k < 26) (h0':0 ≤ k') (h1':k' < 26) (h:d1O cs f t k = d1O cs f t k'):k = k':=by
 unfold d1O at h
 simp at h
 rcases ht with rfl | rfl | rfl | rfl <;> omega
def a42:List Str:=["draws", "many", "letters", "stem", "first", "step", "k"]
def b4R (w:i3) (K:b0):TS :=
 (a0P (a3w (tC (.str "abcdefghijklmnopqrstuvwxyz")) (v4 2))
 (a0P (a3w (tM1 (d4r K) (tC (.str "")) (tLc (d80 (d4 (tOp (rIx K) (b1C (d4 (tC (.int 0)) (d4 (tC (.int 1)) (d4 (tC (.int 2)) (d4 (tC (.int 7)) p7))))) (r6 (spOf K d5) [] E0 (d4 (g9 0) (d4 (tC (.int 4)) p7)))) p7)) (v4 6) c3U (tOp (rIx K) (g9 2) (r6 (spOf K d5) [] E0 (d4 (g9 0) (d4 (tC (.int 26)) p7)))) [6])) (v4 3))
 (a0P (a3w (r6 (spOf K d5) [] E0 (d4 (g9 0) (d4 (tC (.int 26)) p7))) (v4 4))
 (a0P (a3w (tOp (rIx K) (b1C (d4 (tC (.int 1)) (d4 (tC (.int 3)) (d4 (tC (.int 5)) (d4 (tC (.int 7)) p7))))) (r6 (spOf K d5) [] E0 (d4 (g9 0) (d4 (tC (.int 4)) p7)))) (v4 5))
 (a3p (tCB (AqS.rSortD K) (d4 (tLc (d80 (d4 (g9 1) p7)) (v4 6) c3U (tOp (a0U K) (g9 3) (tOp (rIx K) (g9 2) (tOp b7k (tOp (a0U K) (g9 4) (tOp b3E (g9 5) (g9 6))) (tC (.int 26))))) [6]) p7)))))))
def a6p:ASt :=
 (a0t (a2T 2 (aC (.str "abcdefghijklmnopqrstuvwxyz")))
 (a0t (a2T 3 (d3K (aC (.str "")) (aLc (b47 (d3 (aOp gIx (a49 (d3 (aC (.int 0)) (d3 (aC (.int 1)) (d3 (aC (.int 2)) (d3 (aC (.int 7)) n9))))) (m7 d5 (d3 (i4 0) (d3 (aC (.int 4)) n9)))) n9)) [6] (gN 6) b9R (aOp gIx (i4 2) (m7 d5 (d3 (i4 0) (d3 (aC (.int 26)) n9)))))))
 (a0t (a2T 4 (m7 d5 (d3 (i4 0) (d3 (aC (.int 26)) n9))))
 (a0t (a2T 5 (aOp gIx (a49 (d3 (aC (.int 1)) (d3 (aC (.int 3)) (d3 (aC (.int 5)) (d3 (aC (.int 7)) n9))))) (m7 d5 (d3 (i4 0) (d3 (aC (.int 4)) n9)))))
 (a2r (aCB d6u (d3 (aLc (b47 (d3 (i4 1) n9)) [6] (gN 6) b9R (aOp a3i (i4 3) (aOp gIx (i4 2) (aOp d1r (aOp a3i (i4 4) (aOp c80 (i4 5) (i4 6))) (aC (.int 26)))))) n9)))))))
theorem c2S {w:i3} {K:b0} (W:WX):SS K W (b4R w K) a6p :=
 (j9 (y9 w3)
 (j9 (y9 (d1l w3 (a6Z (a7Q (c7 (g6 y8 (a0T (c7 d6 (c7 d6 (c7 d6 (c7 d6 d9))))) (j4 (c7 c8 (c7 d6 d9)))) d9)) a0W a57 (g6 y8 c8 (j4 (c7 c8 (c7 d6 d9)))) (by decide))))
 (j9 (y9 (j4 (c7 c8 (c7 d6 d9))))
 (j9 (y9 (g6 y8 (a0T (c7 d6 (c7 d6 (c7 d6 (c7 d6 d9))))) (j4 (c7 c8 (c7 d6 d9)))))
 (t7 (a2l d7s (c7 (a6Z (a7Q (c7 c8 d9)) a0W a57 (g6 a0k c8 (g6 y8 c8 (g6 b2c (g6 a0k c8 (g6 a8H c8 c8)) d6))) (by decide)) d9)))))))
def LET:Str:=a0H "abcdefghijklmnopqrstuvwxyz"
theorem c4m:LET.cps.toList = List.range' 97 26:=by decide +kernel
theorem b98 {i:Int} (h0:0 ≤ i) (h1:i < 26):atI LET.cps.toList i = some (97 + i.toNat):=by
 rw [c4m,b0V h0 (by simpa using h1),List.getElem?_range' (by omega)]
 simp
theorem b6S:LET.length ≤ m8:=by decide +kernel
def a0e:Ct:=fun ρ P _=>∃ a b n,ρ = [.ml (some 0) [.int a,.int b],.dat (.int n)] ∧ Dw a b ∧ 0 ≤ n ∧ n ≤ 26 ∧ ∀ (ns:List Str) a' b' ρ',(ns.length:Int) = n → (∀ s ∈ ns,w7 s = true) → ns.Pairwise sLt → (∀ s ∈ ns,s.length ≠ 4) → Dw a' b' → a9L ρ' 0 = some (.ml (some 0) [.int a',.int b']) → P (.own (.ml none (ns.map .str))) ρ'
theorem b8Q (ρ:List AV) (P:RV → List AV → Prop) (PX:PXT) (h:a0e ρ P PX):ρ.length = 2:=by
 obtain ⟨_,_,_,rfl,_⟩:=h
 rfl
theorem b7a (ρ:List AV) (P:RV → List AV → Prop) (PX:PXT) (h:a0e ρ P PX):a6p { nx:=fun ρ'=>P (.dat .none) ρ',rt:=P,ex:=PX } (ρ ++ f7 (a42.length - ρ.length) .un):=by
 have eN:a42.length = 7:=rfl
 obtain ⟨a,b,n,rfl,hd,hn,hn2,h⟩:=h
 unfold a6p
 simp only [eN]
 walk_at "aq"
 refine ⟨by decide,a1b hd (by decide) (by decide) rfl fun k1 a1 b1 l1 u1 hd1=>?_⟩
 obtain ⟨x,hx,ex⟩:=a2L (xs:=[m9 0,m9 1,m9 2,m9 7]) l1 (by simpa using u1)
 walk_at "ao"
 rw [ex]
 obtain ⟨m,rfl,hm⟩:∃ m:Int,x = .int m ∧ 0 ≤ m ∧ m ≤ 7 ∧ m ≠ 3:=by
  simp at hx
  rcases hx with rfl | rfl | rfl | rfl <;> exact ⟨_,rfl,by decide,by decide,by decide⟩
 walk_at "ao"
 refine ⟨by omega,?_⟩
 refine c84 (fun ds acc ρ=>∃ (cs:List Nat) (a b:Int),acc = cs.map (fun c=>y4 ⟨#[c]⟩) ∧ (∀ c ∈ cs,a9K c = true) ∧ cs.length + ds.length = m.toNat ∧ Dw a b ∧ ρ = [.ml (some 0) [.int a,.int b],.dat (.int n),.dat (.str LET),.un,.un,.un,.un]) ?_ ?_ _ _ _ ?_
 ·rintro d ds acc ρ ⟨cs,a,b,rfl,hcs,hl,hd,rfl⟩ N hN
  walk_at "aq"
  refine a1b hd (by decide) (by decide) rfl fun k a' b' l u hd'=>?_
  walk_at "aq"
  refine ⟨b6S,?_⟩
  rw [b98 l u]
  walk_at "aq"
  refine ⟨?_,hN _ _ ⟨cs ++ [97 + k.toNat],a',b',by simp,?_,?_,hd',rfl⟩⟩
  ·simp at hl
   simp [m8]
   omega
  ·intro c hc
   rcases v0.mp hc with hc | hc
   ·exact hcs c hc
   ·simp at hc
    subst hc
    simp [a9K]
    omega
  ·simp at hl ⊢
   omega
 ·rintro acc ρ ⟨cs,a,b,rfl,hcs,hl,hd,rfl⟩
  have e1:(cs.map fun c=>y4 ⟨#[c]⟩) = (cs.map fun c=>(⟨#[c]⟩:Str)).map y4:=by rw [y5]; rfl
  rw [e1]
  walk_at "ao"
  rw [c43]
  walk_at "ao"
  rw [c83]
  refine ⟨?_,?_⟩
  ·have:((cs.map fun c=>(⟨#[c]⟩:Str)).map (·.length)).sum = cs.length:=by
    rw [y5]
    clear hcs hl e1
    induction cs with
    | nil=>rfl
    | cons c cs ih=>simp_all [c5X]; omega
   rw [this]
   simp at hl ⊢
   have:(a0H "").length = 0:=rfl
   rw [this]
   omega
  walk_at "aq"
  refine a1b hd (by decide) (by decide) rfl fun f a2 b2 l2 u2 hd2=>?_
  walk_at "aq"
  refine ⟨by decide,a1b hd2 (by decide) (by decide) rfl fun k3 a3 b3 l3 u3 hd3=>?_⟩
  obtain ⟨y,hy,ey⟩:=a2L (xs:=[m9 1,m9 3,m9 5,m9 7]) l3 (by simpa using u3)
  walk_at "ao"
  rw [ey]
  obtain ⟨t,rfl,ht⟩:∃ t:Int,y = .int t ∧ (t = 1 ∨ t = 3 ∨ t = 5 ∨ t = 7):=by
   simp at hy
   rcases hy with rfl | rfl | rfl | rfl <;> exact ⟨_,rfl,by decide⟩
  walk_at "ao"
  refine ⟨by omega,?_⟩
  have hl3:cs.length = m.toNat:=by simpa using hl
  have hl':cs.length ≤ 7:=by omega
  refine c2l (fun d=>[.ml (some 0) [.int a3,.int b3],.dat (.int n),.dat (.str LET),.dat (.str ⟨cs.toArray⟩),.dat (.int f),.dat (.int t),.dat d]) (fun d=>match d with
   | .int k=>.str (d1O cs f t k)
   | _=>.none) _ _ (fun d _ k hk=>hk) (fun d _=>rfl) (fun d hd k hk=>?_) ?_ ?_
  ·obtain ⟨i,rfl,i0,i1⟩:=b29 hd
   have q1:0 ≤ (f + t * i) % 26:=a1L _ (by decide)
   have q2:(f + t * i) % 26 < 26:=a0Y _ (by decide)
   walk_at "aq"
   refine ⟨b6W (a3Y (by omega) (by omega)) (a3Y (by omega) (by omega)),b6S,?_⟩
   rw [b98 q1 q2]
   walk_at "aq"
   refine ⟨?_,?_⟩
   ·simp [c5X,m8]
    omega
   ·have e:(⟨cs.toArray⟩:Str) ++ ⟨#[97 + ((f + t * i) % 26).toNat]⟩ = d1O cs f t i:=SX.S_cat cs [97 + ((f + t * i) % 26).toNat]
    rw [e]
    exact hk
  ·rw [a8I]
   simp [m8]
   omega
  ·rw [d14]
   have e2:((a1p n.toNat).map fun (i:Nat)=>y4 (d1O cs f t (0 + (i:Int)))) = ((a1p n.toNat).map fun (i:Nat)=>d1O cs f t (0 + (i:Int))).map y4:=by rw [y5]; rfl
   rw [e2]
   walk_at "ao"
   refine ⟨PySem.W.AllAlike.of fun _ _=>rfl,d52 fun b=>⟨(fun h=>by cases h),(fun _ h=>by cases h)⟩,?_,b6Y _,fun es hp pw=>?_⟩
   ·intro d hd
    obtain ⟨z,_,rfl⟩:=e9.mp hd
    simp [a1M]
   ·have nd:((a1p n.toNat).map fun (i:Nat)=>d1O cs f t (0 + (i:Int))).Nodup:=by
     refine a2X.mpr ?_
     refine List.Pairwise.imp_of_mem (R:=(· ≠ ·)) (fun hx hy hne e=>hne ?_) List.nodup_range
     rw [a3u] at hx hy
     have:=d4h ht (by omega) (by omega) (by omega) (by omega) e
     omega
    obtain ⟨ns,hp',rfl,ps⟩:=c4P hp nd pw
    refine h ns a3 b3 _ ?_ ?_ ps ?_ hd3 rfl
    ·rw [hp'.length_eq]
     simp
     omega
    ·intro s hs
     obtain ⟨i,_,rfl⟩:=e9.mp (hp'.mem_iff.mp hs)
     exact d7i hcs hl'
    ·intro s hs
     obtain ⟨i,_,rfl⟩:=e9.mp (hp'.mem_iff.mp hs)
     simp [d1O,c5X]
     omega
 ·exact ⟨[],a1,b1,rfl,by simp,by simp [rng],hd1,rfl⟩
end Cw
namespace Cw
open PySem L2 Aq
structure Art where
 ranks:List (Str × Int × Int)
 chests:List (Str × Int)
 month:Int
def a2S (r:Str × Int × Int):c9:=.tuple [.str r.1,.int r.2.1,.int r.2.2]
def a5W (c:Str × Int):c9:=.tuple [.str c.1,.int c.2]
def Art.d (A:Art):c9:=.tuple [.tuple (A.ranks.map a2S),.tuple (A.chests.map a5W),.int A.month]
structure Art.Ok (A:Art):Prop where
 r1:1 ≤ A.ranks.length
 r2:A.ranks.length ≤ 12
 rn:∀ r ∈ A.ranks,w7 r.1 = true
 rp:∀ r ∈ A.ranks,0 ≤ r.2.1 ∧ r.2.1 ≤ 1000000000
 rd:∀ r ∈ A.ranks,1 ≤ r.2.2 ∧ r.2.2 ≤ 1000
 rs:(A.ranks.map (·.1)).Pairwise sLt
 c1:1 ≤ A.chests.length
 c2:A.chests.length ≤ 6
 cn:∀ r ∈ A.chests,w7 r.1 = true
 cp:∀ r ∈ A.chests,1 ≤ r.2 ∧ r.2 ≤ 1000
 cs:(A.chests.map (·.1)).Pairwise sLt
 m:1 ≤ A.month ∧ A.month ≤ 1000
theorem d1P (rs:List (Str × Int × Int)):(rs.map a2S).map nmS = rs.map (·.1):=by rw [y5]; rfl
theorem c86 (rs:List (Str × Int)):(rs.map a5W).map nmS = rs.map (·.1):=by rw [y5]; rfl
theorem a1K {i lo hi:Int}:a0B (.int i) lo hi = true ↔ lo ≤ i ∧ i ≤ hi:=by simp [a0B]
theorem a3M {d:c9} {lo hi:Int} (h:a0B d lo hi = true):∃ i,d = .int i ∧ lo ≤ i ∧ i ≤ hi:=by
 cases d with
 | int i=>exact ⟨i,rfl,a1K.mp h⟩
 | _=>cases h
theorem Art.Ok.is {A:Art} (h:A.Ok):a3r A.d = true:=by
 have e1:a2z 3 12 (.tuple (A.ranks.map a2S)) = true:=by
  have q:(A.ranks.map a2S).all (a7e 3) = true:=by
   rw [t0]
   intro r hr
   obtain ⟨x,hx,rfl⟩:=e9.mp hr
   have:=h.rn x hx
   simp [a7e,a2S,b0Z,b8K,a5Z,w4,this]
  have q2:b7l ((A.ranks.map a2S).map nmS) = true:=by
   rw [d1P,c0X]
   exact h.rs
  have h1:=h.r1
  have h2:=h.r2
  have l1:1 ≤ ((A.ranks.map a2S).length:Int):=by rw [g8]; omega
  have l2:((A.ranks.map a2S).length:Int) ≤ 12:=by rw [g8]; omega
  simp only [a2z,q,q2,l1,l2,decide_true,a0s]
 have e2:a2z 2 6 (.tuple (A.chests.map a5W)) = true:=by
  have q:(A.chests.map a5W).all (a7e 2) = true:=by
   rw [t0]
   intro r hr
   obtain ⟨x,hx,rfl⟩:=e9.mp hr
   have:=h.cn x hx
   simp [a7e,a5W,b0Z,b8K,a5Z,w4,this]
  have q2:b7l ((A.chests.map a5W).map nmS) = true:=by
   rw [c86,c0X]
   exact h.cs
  have h1:=h.c1
  have h2:=h.c2
  have l1:1 ≤ ((A.chests.map a5W).length:Int):=by rw [g8]; omega
  have l2:((A.chests.map a5W).length:Int) ≤ 6:=by rw [g8]; omega
  simp only [a2z,q,q2,l1,l2,decide_true,a0s]
 have e3:(A.ranks.map a2S).all a95 = true:=by
  rw [t0]
  intro r hr
  obtain ⟨x,hx,rfl⟩:=e9.mp hr
  show (a0B (.int x.2.1) 0 1000000000 && a0B (.int x.2.2) 1 1000) = true
  rw [a1K.mpr (h.rp x hx),a1K.mpr (h.rd x hx)]
  rfl
 have e4:(A.chests.map a5W).all b2Z = true:=by
  rw [t0]
  intro r hr
  obtain ⟨x,hx,rfl⟩:=e9.mp hr
  exact a1K.mpr (h.cp x hx)
 have e5:a0B (.int A.month) 1 1000 = true:=a1K.mpr h.m
 simp only [a3r,Art.d,a5Z,e1,e2,e3,e4,e5,a0s]
theorem c39 {r:Str × Int × Int} (h:w7 r.1 = true):a0F 100 1 (a2S r):=by
 refine a4k (by simp) fun d hd=>?_
 simp at hd
 rcases hd with rfl | rfl | rfl
 ·exact a2m h
 ·exact a1y
 ·exact a1y
theorem c8X {r:Str × Int} (h:w7 r.1 = true):a0F 100 1 (a5W r):=by
 refine a4k (by simp) fun d hd=>?_
 simp at hd
 rcases hd with rfl | rfl
 ·exact a2m h
 ·exact a1y
theorem d3W {A:Art} (h1:A.ranks.length ≤ 100) (h2:A.chests.length ≤ 100) (h3:∀ r ∈ A.ranks,w7 r.1 = true) (h4:∀ r ∈ A.chests,w7 r.1 = true):a0F 100 3 A.d:=by
 refine a4k (by simp) fun d hd=>?_
 simp at hd
 rcases hd with rfl | rfl | rfl
 ·refine a4k (by simpa using h1) fun d hd=>?_
  obtain ⟨x,hx,rfl⟩:=e9.mp hd
  exact c39 (h3 x hx)
 ·refine a4k (by simpa using h2) fun d hd=>?_
  obtain ⟨x,hx,rfl⟩:=e9.mp hd
  exact c8X (h4 x hx)
 ·exact a1y
theorem Art.Ok.fine {A:Art} (h:A.Ok):a0F 100 3 A.d:=d3W (a0y h.r2 (by decide)) (a0y h.c2 (by decide)) h.rn h.cn
end Cw
namespace Cw
open PySem L2 Aq
local macro_rules | `(tactic| walk_at "aq")=>`(tactic| dsimp?! [a1n])
local macro_rules | `(tactic| walk_at "ao")=>`(tactic| simp_all?! [a1n])
def a33:List Str:=["draws", "great", "ranks", "name", "pence", "chests", "month"]
def a7j (w:i3) (K:b0):TS :=
 (a0P (a3w (tOp (rIx K) (b1C (d4 (r6 (spOf K d5) [] E0 (d4 (g9 0) (d4 (tC (.int 9)) p7))) (d4 (tOp (a0U K) (tC (.int 1)) (r6 (spOf K d5) [] E0 (d4 (g9 0) (d4 (tC (.int 40)) p7)))) (d4 (tC (.int 480)) (d4 (r6 (spOf K d5) [] E0 (d4 (g9 0) (d4 (tOp (a0U K) (g9 1) (tC (.int 1))) p7))) p7))))) (r6 (spOf K d5) [] E0 (d4 (g9 0) (d4 (tC (.int 4)) p7)))) (v4 4))
 (a5v (tBM K "list" rAppend (g9 2) (d4 (d5n (d4 (g9 3) (d4 (g9 4) (d4 (tOp (rIx K) (b1C (d4 (tC (.int 1)) (d4 (tC (.int 28)) (d4 (tOp (a0U K) (tC (.int 1)) (r6 (spOf K d5) [] E0 (d4 (g9 0) (d4 (tC (.int 30)) p7)))) (d4 (tOp (a0U K) (tC (.int 1)) (r6 (spOf K d5) [] E0 (d4 (g9 0) (d4 (tC (.int 9)) p7)))) p7))))) (r6 (spOf K d5) [] E0 (d4 (g9 0) (d4 (tC (.int 4)) p7)))) p7)))) p7))))
def a4A:ASt :=
 (a0t (a2T 4 (aOp gIx (a49 (d3 (m7 d5 (d3 (i4 0) (d3 (aC (.int 9)) n9))) (d3 (aOp a3i (aC (.int 1)) (m7 d5 (d3 (i4 0) (d3 (aC (.int 40)) n9)))) (d3 (aC (.int 480)) (d3 (m7 d5 (d3 (i4 0) (d3 (aOp a3i (i4 1) (aC (.int 1))) n9))) n9))))) (m7 d5 (d3 (i4 0) (d3 (aC (.int 4)) n9)))))
 (a3m (aMt b28 (i4 2) (d3 (b8J (d3 (i4 3) (d3 (i4 4) (d3 (aOp gIx (a49 (d3 (aC (.int 1)) (d3 (aC (.int 28)) (d3 (aOp a3i (aC (.int 1)) (m7 d5 (d3 (i4 0) (d3 (aC (.int 30)) n9)))) (d3 (aOp a3i (aC (.int 1)) (m7 d5 (d3 (i4 0) (d3 (aC (.int 9)) n9)))) n9))))) (m7 d5 (d3 (i4 0) (d3 (aC (.int 4)) n9)))) n9)))) n9))))
theorem b2m {w:i3} {K:b0} (W:WX):SS K W (a7j w K) a4A :=
 (j9 (y9 (g6 y8 (a0T (c7 (j4 (c7 c8 (c7 d6 d9))) (c7 (g6 a0k d6 (j4 (c7 c8 (c7 d6 d9)))) (c7 d6 (c7 (j4 (c7 c8 (c7 (g6 a0k c8 d6) d9))) d9))))) (j4 (c7 c8 (c7 d6 d9)))))
 (a0R (c2h b11 c8 (c7 (a4j (c7 c8 (c7 c8 (c7 (g6 y8 (a0T (c7 d6 (c7 d6 (c7 (g6 a0k d6 (j4 (c7 c8 (c7 d6 d9)))) (c7 (g6 a0k d6 (j4 (c7 c8 (c7 d6 d9)))) d9))))) (j4 (c7 c8 (c7 d6 d9)))) d9)))) d9))))
def a7k (w:i3) (K:b0):TS :=
 (a0P (a3w (tLc (c2j K (r6 (spOf K a0e) [] E0 (d4 (g9 0) (d4 (tOp (a0U K) (tC (.int 1)) (r6 (spOf K d5) [] E0 (d4 (g9 0) (d4 (tC (.int 3)) p7)))) p7)))) (v4 3) c3U (d5n (d4 (g9 3) (d4 (tOp (a0U K) (tC (.int 1)) (r6 (spOf K d5) [] E0 (d4 (g9 0) (d4 (tC (.int 9)) p7)))) p7))) [3]) (v4 5))
 (a0P (a3w (tOp (rIx K) (b1C (d4 (tC (.int 1)) (d4 (tC (.int 7)) (d4 (tOp (a0U K) (tC (.int 1)) (r6 (spOf K d5) [] E0 (d4 (g9 0) (d4 (tC (.int 12)) p7)))) (d4 (tC (.int 28)) p7))))) (r6 (spOf K d5) [] E0 (d4 (g9 0) (d4 (tC (.int 4)) p7)))) (v4 6))
 (a3p (d5n (d4 (tCB (c4I K) (d4 (g9 2) p7)) (d4 (tCB (c4I K) (d4 (g9 5) p7)) (d4 (g9 6) p7)))))))
def a4B:ASt :=
 (a0t (a2T 5 (aLc (a6i (m7 a0e (d3 (i4 0) (d3 (aOp a3i (aC (.int 1)) (m7 d5 (d3 (i4 0) (d3 (aC (.int 3)) n9)))) n9)))) [3] (gN 3) b9R (b8J (d3 (i4 3) (d3 (aOp a3i (aC (.int 1)) (m7 d5 (d3 (i4 0) (d3 (aC (.int 9)) n9)))) n9)))))
 (a0t (a2T 6 (aOp gIx (a49 (d3 (aC (.int 1)) (d3 (aC (.int 7)) (d3 (aOp a3i (aC (.int 1)) (m7 d5 (d3 (i4 0) (d3 (aC (.int 12)) n9)))) (d3 (aC (.int 28)) n9))))) (m7 d5 (d3 (i4 0) (d3 (aC (.int 4)) n9)))))
 (a2r (b8J (d3 (aCB b48 (d3 (i4 2) n9)) (d3 (aCB b48 (d3 (i4 5) n9)) (d3 (i4 6) n9)))))))
theorem b2n {w:i3} {K:b0} (W:WX):SS K W (a7k w K) a4B :=
 (j9 (y9 (a6Z (a45 (j4 (c7 c8 (c7 (g6 a0k d6 (j4 (c7 c8 (c7 d6 d9)))) d9)))) a0W a57 (a4j (c7 c8 (c7 (g6 a0k d6 (j4 (c7 c8 (c7 d6 d9)))) d9))) (by decide)))
 (j9 (y9 (g6 y8 (a0T (c7 d6 (c7 d6 (c7 (g6 a0k d6 (j4 (c7 c8 (c7 d6 d9)))) (c7 d6 d9))))) (j4 (c7 c8 (c7 d6 d9)))))
 (t7 (a4j (c7 (a2l b7j (c7 c8 d9)) (c7 (a2l b7j (c7 c8 d9)) (c7 c8 d9)))))))
def a8R (w:i3) (K:b0):TS :=
 (a0P (a3w (b1C p7) (v4 2))
 (a0P (tFor (c2j K (r6 (spOf K a0e) [] E0 (d4 (g9 0) (d4 (tOp (a0U K) (tC (.int 1)) (r6 (spOf K d5) [] E0 (d4 (g9 0) (d4 (tC (.int 4)) p7)))) p7)))) (v4 3) (a7j w K))
 (a7k w K)))
def a4a:ASt :=
 (a0t (a2T 2 (a49 n9))
 (a0t (d2a (a6i (m7 a0e (d3 (i4 0) (d3 (aOp a3i (aC (.int 1)) (m7 d5 (d3 (i4 0) (d3 (aC (.int 4)) n9)))) n9)))) (gN 3) a4A)
 a4B))
theorem b5o {w:i3} {K:b0} (W:WX):SS K W (a8R w K) a4a :=
 (j9 (y9 (a0T d9))
 (j9 (c01 (a45 (j4 (c7 c8 (c7 (g6 a0k d6 (j4 (c7 c8 (c7 d6 d9)))) d9)))) a0W (b2m  W))
 (b2n  W)))
/-- what drawn articles are -/
structure ArtG (great:Int) (A:Art):Prop where
 ok:A.Ok
 rl:A.ranks.length ≤ 4
 cl:A.chests.length ≤ 3
 rp:∀ r ∈ A.ranks,r.2.1 ≤ 480 ∨ r.2.1 ≤ great
 rd:∀ r ∈ A.ranks,r.2.2 ≤ 30
 mo:A.month ≤ 28
 cp:∀ r ∈ A.chests,r.2 ≤ 9
def a03:Ct:=fun ρ P _=>∃ a b great,ρ = [.ml (some 0) [.int a,.int b],.dat (.int great)] ∧ Dw a b ∧ 0 ≤ great ∧ great ≤ 1000000000 ∧ ∀ (A:Art) a' b' ρ',ArtG great A → Dw a' b' → a9L ρ' 0 = some (.ml (some 0) [.int a',.int b']) → P (.dat A.d) ρ'
theorem d1N {a b n:Int} {i:Nat} {p:Option Nat} {ρ1:List AV} {P:RV → List AV → Prop} (hd:Dw a b) (h1:0 ≤ n) (h2:n ≤ 26) (ht:(ρ1[i]?).bind AV.tag = p) (h:∀ (ns:List Str) a' b',(ns.length:Int) = n → (∀ s ∈ ns,w7 s = true) → ns.Pairwise sLt → Dw a' b' → P (.own (.ml none (ns.map .str))) (ρ1.set i (.ml p [.int a',.int b']))):a0e [.ml (some 0) [.int a,.int b],.dat (.int n)] (bk P ρ1 [i]) X0:=by
 refine ⟨a,b,n,rfl,hd,h1,h2,fun ns a' b' ρ' e1 e2 e3 e4 hd' ho=>?_⟩
 rw [b2b,a1U ho,a5l,a5D,ht]
 exact h ns a' b' e1 e2 e3 hd'
theorem d1M {a b n:Int} {i:Nat} {p:Option Nat} {ρ1:List AV} {P:RV → List AV → Prop} (hd:Dw a b) (h1:0 ≤ n) (h2:n ≤ 26) (ht:(ρ1[i]?).bind AV.tag = p) (h:∀ (ns:List Str) a' b',(ns.length:Int) = n → (∀ s ∈ ns,w7 s = true) → ns.Pairwise sLt → (∀ s ∈ ns,s.length ≠ 4) → Dw a' b' → P (.own (.ml none (ns.map .str))) (ρ1.set i (.ml p [.int a',.int b']))):a0e [.ml (some 0) [.int a,.int b],.dat (.int n)] (bk P ρ1 [i]) X0:=by
 refine ⟨a,b,n,rfl,hd,h1,h2,fun ns a' b' ρ' e1 e2 e3 e4 hd' ho=>?_⟩
 rw [b2b,a1U ho,a5l,a5D,ht]
 exact h ns a' b' e1 e2 e3 e4 hd'
theorem b22 (ρ:List AV) (P:RV → List AV → Prop) (PX:PXT) (h:a03 ρ P PX):ρ.length = 2:=by
 obtain ⟨_,_,_,rfl,_⟩:=h
 rfl
theorem b15 (ρ:List AV) (P:RV → List AV → Prop) (PX:PXT) (h:a03 ρ P PX):a4a { nx:=fun ρ'=>P (.dat .none) ρ',rt:=P,ex:=PX } (ρ ++ f7 (a33.length - ρ.length) .un):=by
 have eN:a33.length = 7:=rfl
 obtain ⟨a,b,great,rfl,hd,hg,hg2,h⟩:=h
 unfold a4a
 simp only [eN]
 walk_at "aq"
 refine a1b hd (by decide) (by decide) rfl fun k1 a1 b1 l1 u1 hd1=>?_
 walk_at "aq"
 refine d1N hd1 (by omega) (by omega) rfl fun ns a2 b2 e1 e2 e3 hd2=>?_
 walk_at "aq"
 refine b6G (fun ds ρ=>∃ (rk:List (Str × Int × Int)) (a9X:List Str) (a b:Int) (x y:AV),ds = a9X.map .str ∧ rk.map (·.1) ++ a9X = ns ∧ (∀ r ∈ rk,0 ≤ r.2.1 ∧ (r.2.1 ≤ 480 ∨ r.2.1 ≤ great) ∧ 1 ≤ r.2.2 ∧ r.2.2 ≤ 30) ∧ Dw a b ∧ ρ = [.ml (some 0) [.int a,.int b],.dat (.int great),.ml none (rk.map a2S),x,y,.un,.un]) ?_ ?_ _ _ ⟨[],ns,a2,b2,.un,.un,rfl,rfl,by simp,hd2,rfl⟩
 ·rintro d ds ρ ⟨rk,a9X,a,b,x,y,hds,hns,hrk,hd,rfl⟩ N hN
  cases a9X with
  | nil=>cases hds
  | cons s a9X =>
   rw [j8] at hds
   cases hds
   unfold a4A
   walk_at "aq"
   refine a1b hd (by decide) (by decide) rfl fun p1 a1 b1 l1 u1 hd1=>?_
   walk_at "aq"
   refine a1b hd1 (by decide) (by decide) rfl fun p2 a2 b2 l2 u2 hd2=>?_
   walk_at "aq"
   refine a1b hd2 (by omega) (by omega) rfl fun p3 a3 b3 l3 u3 hd3=>?_
   walk_at "aq"
   refine ⟨by decide,a1b hd3 (by decide) (by decide) rfl fun p4 a4 b4 l4 u4 hd4=>?_⟩
   obtain ⟨z,hz,ez⟩:=a2L (xs:=[m9 p1,m9 (1 + p2),m9 480,m9 p3]) l4 (by simpa using u4)
   walk_at "ao"
   rw [ez]
   obtain ⟨pe,rfl,hpe⟩:∃ t:Int,z = .int t ∧ 0 ≤ t ∧ (t ≤ 480 ∨ t ≤ great):=by
    simp at hz
    rcases hz with rfl | rfl | rfl | rfl <;> exact ⟨_,rfl,by omega,by omega⟩
   walk_at "aq"
   refine a1d ?_
   walk_at "aq"
   refine a1b hd4 (by decide) (by decide) rfl fun q1 a5 b5 l5 u5 hd5=>?_
   walk_at "aq"
   refine a1b hd5 (by decide) (by decide) rfl fun q2 a6 b6 l6 u6 hd6=>?_
   walk_at "aq"
   refine ⟨by decide,a1b hd6 (by decide) (by decide) rfl fun q3 a7 b7 l7 u7 hd7=>?_⟩
   obtain ⟨z,hz,ez⟩:=a2L (xs:=[m9 1,m9 28,m9 (1 + q1),m9 (1 + q2)]) l7 (by simpa using u7)
   walk_at "ao"
   rw [ez]
   obtain ⟨da,rfl,hda⟩:∃ t:Int,z = .int t ∧ 1 ≤ t ∧ t ≤ 30:=by
    simp at hz
    rcases hz with rfl | rfl | rfl | rfl <;> exact ⟨_,rfl,by omega,by omega⟩
   walk_at "ao"
   have hlen:rk.length + (a9X.length + 1) = ns.length:=by rw [← hns]; simp
   refine ⟨by show 3 ≤ m8; decide,?_,hN _ ⟨rk ++ [(s,pe,da)],a9X,a7,b7,.dat (.str s),.dat (.int pe),rfl,?_,?_,hd7,?_⟩⟩
   ·simp [m8]
    omega
   ·simpa using hns
   ·intro r hr
    rcases v0.mp hr with hr | hr
    ·exact hrk r hr
    ·simp at hr
     subst hr
     exact ⟨hpe.1,hpe.2,hda.1,hda.2⟩
   ·simp [a2S]
 ·rintro ρ ⟨rk,a9X,a,b,x,y,hds,hns,hrk,hd,rfl⟩
  have hr0:a9X = []:=by
   cases a9X with
   | nil=>rfl
   | cons _ _=>cases hds
  subst hr0
  rw [a01] at hns
  unfold a4B
  walk_at "aq"
  refine a1b hd (by decide) (by decide) rfl fun c1 a1 b1 l1 u1 hd1=>?_
  walk_at "aq"
  refine d1N hd1 (by omega) (by omega) rfl fun cs a2 b2 f1 f2 f3 hd2=>?_
  walk_at "aq"
  refine c84 (fun ds acc ρ=>∃ (ck:List (Str × Int)) (a9X:List Str) (a b:Int),ds = a9X.map .str ∧ acc = ck.map a5W ∧ ck.map (·.1) ++ a9X = cs ∧ (∀ r ∈ ck,1 ≤ r.2 ∧ r.2 ≤ 9) ∧ Dw a b ∧ ρ = [.ml (some 0) [.int a,.int b],.dat (.int great),.ml none (rk.map a2S),.un,y,.un,.un]) ?_ ?_ _ _ _ ⟨[],cs,a2,b2,rfl,rfl,rfl,by simp,hd2,rfl⟩
  ·rintro d ds acc ρ ⟨ck,a9X,a,b,hds,rfl,hcs,hck,hd,rfl⟩ N hN
   cases a9X with
   | nil=>cases hds
   | cons s a9X =>
    rw [j8] at hds
    cases hds
    walk_at "aq"
    refine a1b hd (by decide) (by decide) rfl fun p1 a1 b1 l1 u1 hd1=>?_
    walk_at "aq"
    have hlen:ck.length + (a9X.length + 1) = cs.length:=by rw [← hcs]; simp
    refine ⟨by decide,?_,hN _ _ ⟨ck ++ [(s,1 + p1)],a9X,a1,b1,rfl,by simp [a5W],by simpa using hcs,?_,hd1,rfl⟩⟩
    ·simp [m8]
     omega
    ·intro r hr
     rcases v0.mp hr with hr | hr
     ·exact hck r hr
     ·simp at hr
      subst hr
      exact ⟨by show 1 ≤ 1 + p1; omega,by show 1 + p1 ≤ 9; omega⟩
  ·rintro acc ρ ⟨ck,a9X,a,b,hds,rfl,hcs,hck,hd,rfl⟩
   have hr0:a9X = []:=by
    cases a9X with
    | nil=>rfl
    | cons _ _=>cases hds
   subst hr0
   rw [a01] at hcs
   walk_at "aq"
   refine a1b hd (by decide) (by decide) rfl fun q1 a3 b3 l3 u3 hd3=>?_
   walk_at "aq"
   refine ⟨by decide,a1b hd3 (by decide) (by decide) rfl fun q2 a4 b4 l4 u4 hd4=>?_⟩
   obtain ⟨z,hz,ez⟩:=a2L (xs:=[m9 1,m9 7,m9 (1 + q1),m9 28]) l4 (by simpa using u4)
   walk_at "ao"
   rw [ez]
   obtain ⟨mo,rfl,hmo⟩:∃ t:Int,z = .int t ∧ 1 ≤ t ∧ t ≤ 28:=by
    simp at hz
    rcases hz with rfl | rfl | rfl | rfl <;> exact ⟨_,rfl,by omega,by omega⟩
   walk_at "ao"
   refine a48 ?_
   walk_at "ao"
   refine a48 ?_
   walk_at "ao"
   have lr:rk.length = ns.length:=by rw [← hns]; simp
   have lc:ck.length = cs.length:=by rw [← hcs]; simp
   refine ⟨by show 3 ≤ m8; decide,h ⟨rk,ck,mo⟩ a4 b4 _ ⟨⟨?_,?_,?_,?_,?_,?_,?_,?_,?_,?_,?_,?_⟩,?_,?_,?_,?_,?_,?_⟩ hd4 rfl⟩
   ·show 1 ≤ rk.length
    omega
   ·show rk.length ≤ 12
    omega
   ·exact fun r hr=>e2 _ (by rw [← hns]; exact a1x hr)
   ·intro r hr
    have:=hrk r hr
    omega
   ·intro r hr
    have:=hrk r hr
    omega
   ·show (rk.map (·.1)).Pairwise sLt
    rw [hns]
    exact e3
   ·show 1 ≤ ck.length
    omega
   ·show ck.length ≤ 6
    omega
   ·exact fun r hr=>f2 _ (by rw [← hcs]; exact a1x hr)
   ·intro r hr
    have:=hck r hr
    omega
   ·show (ck.map (·.1)).Pairwise sLt
    rw [hcs]
    exact f3
   ·show 1 ≤ mo ∧ mo ≤ 1000
    omega
   ·show rk.length ≤ 4
    omega
   ·show ck.length ≤ 3
    omega
   ·exact fun r hr=>(hrk r hr).2.1
   ·exact fun r hr=>(hrk r hr).2.2.2
   ·exact hmo.2
   ·exact fun r hr=>(hck r hr).2
end Cw
namespace Cw
open PySem L2 Aq
local macro_rules | `(tactic| walk_at "aq")=>`(tactic| dsimp?! [a1n])
local macro_rules | `(tactic| walk_at "ao")=>`(tactic| simp_all?! [a1n])
theorem d9r {a b:Prop} [Decidable a] [Decidable b] {x y:Prop}:(if a then x else if b then x else y) = if a ∨ b then x else y:=by
 by_cases h:a <;> by_cases h':b <;> simp [h,h']
def c49:List c9:=[.int 0,.int 1,.int (-1),.bool true,.bool false,.none,.str "",.str "a",.str "ab",.str "A",.str "abcdefghi",.str "lost",.str "joins",.int 1000000000000,.int 1000000000001,.int 1000,.int 1001,.int 1000000001,.tuple [],.list []]
theorem d2A:c49.all (fun d=>okB 100 d && decide (d.depth ≤ 1)) = true:=by decide +kernel
theorem c8Z {d:c9} (h:d ∈ c49):a0F 100 1 d:=by
 have q:=t0.mp d2A d h
 rw [j5,decide_eq_true_eq] at q
 exact q
/-- a thing of any kind, not too deep -/
def z5 (n:Nat):Ct:=fun ρ P _=>∃ a b k,ρ = [.ml (some 0) [.int a,.int b],.dat (.int k)] ∧ Dw a b ∧ 0 ≤ k ∧ k < n ∧ ∀ d a' b' ρ',a0F 100 (k.toNat + 1) d → Dw a' b' → a9L ρ' 0 = some (.ml (some 0) [.int a',.int b']) → P (.dat d) ρ'
def a6l:List Str:=["draws", "deep", "way", "some", "parts", "k"]
def b0o (w:i3) (K:b0) (n:Nat):TS :=
 (a0P (a3w (tLc (d80 (d4 (r6 (spOf K d5) [] E0 (d4 (g9 0) (d4 (tC (.int 7)) p7))) p7)) (v4 5) c3U (r6 (spOf K (z5 n)) [] E0 (d4 (g9 0) (d4 (tOp c2M (g9 1) (tC (.int 1))) p7))) [5]) (v4 4))
 (a3p (tOp (rIx K) (b1C (d4 (g9 4) (d4 (tCB (c4I K) (d4 (g9 4) p7)) (d4 (tCB (c4I K) (d4 (g9 4) p7)) p7)))) (tOp c2M (g9 2) (tC (.int 6))))))
def a6X (n:Nat):ASt :=
 (a0t (a2T 4 (aLc (b47 (d3 (m7 d5 (d3 (i4 0) (d3 (aC (.int 7)) n9))) n9)) [5] (gN 5) b9R (m7 (z5 n) (d3 (i4 0) (d3 (aOp c4b (i4 1) (aC (.int 1))) n9)))))
 (a2r (aOp gIx (a49 (d3 (i4 4) (d3 (aCB b48 (d3 (i4 4) n9)) (d3 (aCB b48 (d3 (i4 4) n9)) n9)))) (aOp c4b (i4 2) (aC (.int 6))))))
theorem b7I {w:i3} {K:b0} {n:Nat} (W:WX):SS K W (b0o w K n) (a6X n) :=
 (j9 (y9 (a6Z (a7Q (c7 (j4 (c7 c8 (c7 d6 d9))) d9)) a0W a57 (j4 (c7 c8 (c7 (g6 c0V c8 d6) d9))) (by decide)))
 (t7 (g6 y8 (a0T (c7 c8 (c7 (a2l b7j (c7 c8 d9)) (c7 (a2l b7j (c7 c8 d9)) d9)))) (g6 c0V c8 d6))))
def b4T (w:i3) (K:b0) (n:Nat):TS :=
 (a0P (a3w (r6 (spOf K d5) [] E0 (d4 (g9 0) (d4 (tC (.int 9)) p7))) (v4 2))
 (a0P (a6h (tOr (a1e (tOp c8w (g9 2) (tC (.int 6)))) (a1e (tOp (c5O K) (g9 1) (tC (.int 0))))) (a0P (a3w (b1C (d4 (tC (.int 0)) (d4 (tC (.int 1)) (d4 (tUn (rU fun i=>.int (-i)) (tC (.int 1))) (d4 (tC (.bl true)) (d4 (tC (.bl false)) (d4 (tC .non) (d4 (tC (.str "")) (d4 (tC (.str "a")) (d4 (tC (.str "ab")) (d4 (tC (.str "A")) (d4 (tC (.str "abcdefghi")) (d4 (tC (.str "lost")) (d4 (tC (.str "joins")) (d4 (tOp a4J (tC (.int 10)) (tC (.int 12))) (d4 (tOp (a0U K) (tOp a4J (tC (.int 10)) (tC (.int 12))) (tC (.int 1))) p7)))))))))))))))) (v4 3))
 (a3p (tOp (rIx K) (tOp (a0U K) (g9 3) (b1C (d4 (tC (.int 1000)) (d4 (tC (.int 1001)) (d4 (tOp (a0U K) (tOp a4J (tC (.int 10)) (tC (.int 9))) (tC (.int 1))) (d4 (d5n p7) (d4 (b1C p7) p7))))))) (r6 (spOf K d5) [] E0 (d4 (g9 0) (d4 (tC (.int 20)) p7)))))) a15)
 (b0o w K n)))
def a6r (n:Nat):ASt :=
 (a0t (a2T 2 (m7 d5 (d3 (i4 0) (d3 (aC (.int 9)) n9))))
 (a0t (sIf (aOr (a3Z (aOp gLt (i4 2) (aC (.int 6)))) (a3Z (aOp gEq (i4 1) (aC (.int 0))))) (a0t (a2T 3 (a49 (d3 (aC (.int 0)) (d3 (aC (.int 1)) (d3 (aUn d9m (aC (.int 1))) (d3 (aC (.bool true)) (d3 (aC (.bool false)) (d3 (aC .none) (d3 (aC (.str "")) (d3 (aC (.str "a")) (d3 (aC (.str "ab")) (d3 (aC (.str "A")) (d3 (aC (.str "abcdefghi")) (d3 (aC (.str "lost")) (d3 (aC (.str "joins")) (d3 (aOp b2N (aC (.int 10)) (aC (.int 12))) (d3 (aOp a3i (aOp b2N (aC (.int 10)) (aC (.int 12))) (aC (.int 1))) n9)))))))))))))))))
 (a2r (aOp gIx (aOp a3i (i4 3) (a49 (d3 (aC (.int 1000)) (d3 (aC (.int 1001)) (d3 (aOp a3i (aOp b2N (aC (.int 10)) (aC (.int 9))) (aC (.int 1))) (d3 (b8J n9) (d3 (a49 n9) n9))))))) (m7 d5 (d3 (i4 0) (d3 (aC (.int 20)) n9)))))) a1m)
 (a6X n)))
theorem c2U {w:i3} {K:b0} {n:Nat} (W:WX):SS K W (b4T w K n) (a6r n) :=
 (j9 (y9 (j4 (c7 c8 (c7 d6 d9))))
 (j9 (a05 (a9R (t8 (g6 a3X c8 d6)) (t8 (g6 a4s c8 d6))) (j9 (y9 (a0T (c7 d6 (c7 d6 (c7 (d6q d2C d6) (c7 a4i (c7 a4i (c7 d1m (c7 w3 (c7 w3 (c7 w3 (c7 w3 (c7 w3 (c7 w3 (c7 w3 (c7 (g6 a2q d6 d6) (c7 (g6 a0k (g6 a2q d6 d6) d6) d9)))))))))))))))))
 (t7 (g6 y8 (g6 a0k c8 (a0T (c7 d6 (c7 d6 (c7 (g6 a0k (g6 a2q d6 d6) d6) (c7 (a4j d9) (c7 (a0T d9) d9))))))) (j4 (c7 c8 (c7 d6 d9)))))) y0)
 (b7I  W)))
theorem b8S (n:Nat) (ρ:List AV) (P:RV → List AV → Prop) (PX:PXT) (h:z5 (n + 1) ρ P PX):ρ.length = 2:=by
 obtain ⟨_,_,_,rfl,_⟩:=h
 rfl
theorem c2t (ρ:List AV) (P:RV → List AV → Prop) (PX:PXT):¬ z5 0 ρ P PX:=by
 rintro ⟨_,_,_,_,_,h0,h1,_⟩
 omega
theorem b7c (n:Nat) (ρ:List AV) (P:RV → List AV → Prop) (PX:PXT) (h:z5 (n + 1) ρ P PX):a6r n { nx:=fun ρ'=>P (.dat .none) ρ',rt:=P,ex:=PX } (ρ ++ f7 (a6l.length - ρ.length) .un):=by
 have eN:a6l.length = 6:=rfl
 obtain ⟨a,b,k,rfl,hd,h0,h1,h⟩:=h
 unfold a6r
 simp only [eN]
 walk_at "aq"
 refine a1b hd (by decide) (by decide) rfl fun way a1 b1 l1 u1 hd1=>?_
 walk_at "aq"
 rw [d9r]
 split
 ·refine ⟨a51 (by decide) (by decide) (by decide),by decide,a48 ?_⟩
  walk_at "aq"
  refine ⟨a51 (by decide) (by decide) (by decide),by decide,by decide,a1b hd1 (by decide) (by decide) rfl fun k2 a2 b2 l2 u2 hd2=>?_⟩
  obtain ⟨z,hz,ez⟩:=a2L (xs:=c49) l2 (by simpa [c49] using u2)
  unfold c49 at ez
  walk_at "ao"
  rw [ez]
  walk_at "ao"
  exact h z a2 b2 _ ((c8Z hz).mono (by omega)) hd2 rfl
 ·rename_i hw
  unfold a6X
  walk_at "aq"
  refine a1b hd1 (by decide) (by decide) rfl fun m a2 b2 l2 u2 hd2=>?_
  walk_at "aq"
  refine ⟨by omega,?_⟩
  refine c84 (fun ds acc ρ=>∃ (a b:Int),(∀ d ∈ acc,a0F 100 k.toNat d) ∧ acc.length + ds.length ≤ 7 ∧ Dw a b ∧ ρ = [.ml (some 0) [.int a,.int b],.dat (.int k),.dat (.int way),.un,.un,.un]) ?_ ?_ _ _ _ ⟨a2,b2,by simp,by rw [a8I]; simp; omega,hd2,rfl⟩
  ·rintro d ds acc ρ ⟨a,b,hf,hl,hd,rfl⟩ N hN
   walk_at "aq"
   refine ⟨a,b,k - 1,rfl,hd,by omega,by omega,fun e a' b' ρ' he hd' ho=>?_⟩
   rw [a60,a1U ho]
   walk_at "aq"
   simp only [t4] at hl
   refine ⟨by simp [m8]; omega,hN _ _ ⟨a',b',?_,by simp; omega,hd',rfl⟩⟩
   intro x hx
   rcases v0.mp hx with hx | hx
   ·exact hf x hx
   ·simp at hx
    subst hx
    exact he.mono (by omega)
  ·rintro acc ρ ⟨a,b,hf,hl,hd,rfl⟩
   walk_at "ao"
   refine a48 ?_
   walk_at "ao"
   refine ⟨by show 3 ≤ m8; decide,?_⟩
   obtain ⟨z,hz,ez⟩:=a2L (xs:=[PyData.list acc,a3f acc,a3f acc]) (i:=way - 6) (by omega) (by simp; omega)
   rw [ez]
   walk_at "ao"
   have hl':acc.length ≤ 100:=by simp at hl; omega
   have hz':a0F 100 (k.toNat + 1) z:=by
    simp at hz
    rcases hz with rfl | rfl
    ·exact a1w hl' hf
    ·exact a4k hl' hf
   exact h z a b _ hz' hd rfl
end Cw
namespace Cw
open PySem L2 Aq
local macro_rules | `(tactic| walk_at "aq")=>`(tactic| dsimp?! [a1n])
local macro_rules | `(tactic| walk_at "ao")=>`(tactic| simp_all?! [a1n])
theorem d2b {n d:Nat} {i:Int} (h:0 ≤ i):HT.sIx n d (some i) = min i.toNat n:=by
 show (if i < 0 then (i + (n:Int)).toNat else min i.toNat n) = _
 rw [if_neg (by omega)]
def d2y:List c9:=[.int 0,.int 1,.int (-1),.int 1000,.int 1001,.int 1000000,.int 1000001,.int 1000000000,.int 1000000001,.int 1000000000000,.int 1000000000001,.none,.bool true]
theorem d4J:d2y.all (fun d=>okB 100 d && decide (d.depth ≤ 1)) = true:=by decide +kernel
theorem d1p {d:c9} (h:d ∈ d2y):a0F 100 1 d:=by
 have q:=t0.mp d4J d h
 rw [j5,decide_eq_true_eq] at q
 exact q
theorem d2k {x y:Str} (h:a1c x = true) (h':a1c y = true):a1c (x ++ y) = true:=by
 unfold a1c at *
 rw [Str.cps_append,Array.all_append,h,h']
 rfl
def SeqOf (d:c9) (ds:List c9):Prop:=d = .tuple ds ∨ d = .list ds
/-- what is otherwise -/
def a0C (n:Nat):Ct:=fun ρ P _=>∃ a b d k B m ds,ρ = [.ml (some 0) [.int a,.int b],.dat d,.dat (.int k)] ∧ Dw a b ∧ SeqOf d ds ∧ ds.length ≤ B ∧ (∀ e ∈ ds,a0F B m e) ∧ 100 ≤ B ∧ B ≤ 900 ∧ m ≤ 50 ∧ 0 ≤ k ∧ k < n ∧
 ∀ (es:List c9) a' b' ρ',es.length ≤ B + 10 → (∀ e ∈ es,a0F (B + 10) (m + 4) e) → Dw a' b' → a9L ρ' 0 = some (.ml (some 0) [.int a',.int b']) → P (.dat (.tuple es)) ρ' ∧ P (.own (.ml none es)) ρ'
theorem b3a (ρ:List AV) (P:RV → List AV → Prop) (PX:PXT):¬ a0C 0 ρ P PX:=by
 rintro ⟨_,_,_,k,_,_,_,_,_,_,_,_,_,_,_,h0,h1,_⟩
 omega
def a5g:List Str:=["draws", "thing", "deep", "parts", "at", "way", "near"]
def a6C (w:i3) (K:b0) (n:Nat):TS :=
 (a3p (tCB (c4I K) (d4 (g9 3) p7)))
def a2U (n:Nat):ASt :=
 (a2r (aCB b48 (d3 (i4 3) n9)))
theorem b1e {w:i3} {K:b0} {n:Nat} (a0S:IsiOk K "str") (r0:IsiOk K "tuple") (W:WX):SS K W (a6C w K n) (a2U n) :=
 (t7 (a2l b7j (c7 c8 d9)))
def a6D (w:i3) (K:b0) (n:Nat):TS :=
 (a0P (a3w (r6 (spOf K d5) [] E0 (d4 (g9 0) (d4 (tC (.int 8)) p7))) (v4 5))
 (a0P (a6h (a1e (tOp (c5O K) (g9 5) (tC (.int 0)))) (a5v (tBM K "list" rPopAt (g9 3) (d4 (g9 4) p7))) (a6h (a1e (tOp (c5O K) (g9 5) (tC (.int 1)))) (a5v (tBM K "list" c2K (g9 3) (d4 (g9 4) (d4 (tOp (rIx K) (g9 3) (g9 4)) p7)))) (a6h (a1e (tOp (c5O K) (g9 5) (tC (.int 2)))) (AqS.tSetSl (tRevL K (tSl (c0W K) (g9 3) (tPart (g9 4)) (tPart (tOp (a0U K) (g9 4) (tC (.int 2)))))) (g9 3) (tPart (g9 4)) (tPart (tOp (a0U K) (g9 4) (tC (.int 2))))) (a6h (a1e (tOp (c5O K) (g9 5) (tC (.int 3)))) (a3w (r6 (spOf K (z5 4)) [] E0 (d4 (g9 0) (d4 (tC (.int 2)) p7))) (gSub (g9 3) (g9 4) rSetL)) (a6h (a1e (tOp (c5O K) (g9 5) (tC (.int 4)))) (a0P (a3w (b1C (d4 (tC (.int 0)) (d4 (tC (.int 1)) (d4 (tUn (rU fun i=>.int (-i)) (tC (.int 1))) (d4 (tC (.int 1000)) (d4 (tC (.int 1001)) (d4 (tOp a4J (tC (.int 10)) (tC (.int 6))) (d4 (tOp (a0U K) (tOp a4J (tC (.int 10)) (tC (.int 6))) (tC (.int 1))) (d4 (tOp a4J (tC (.int 10)) (tC (.int 9))) (d4 (tOp (a0U K) (tOp a4J (tC (.int 10)) (tC (.int 9))) (tC (.int 1))) (d4 (tOp a4J (tC (.int 10)) (tC (.int 12))) (d4 (tOp (a0U K) (tOp a4J (tC (.int 10)) (tC (.int 12))) (tC (.int 1))) (d4 (tC .non) (d4 (tC (.bl true)) p7)))))))))))))) (v4 6))
 (a3w (tOp (rIx K) (g9 6) (r6 (spOf K d5) [] E0 (d4 (g9 0) (d4 (tC (.int 13)) p7)))) (gSub (g9 3) (g9 4) rSetL))) (a6h (tAnd (a1e (tOp (c5O K) (g9 5) (tC (.int 5)))) (a8Q K (c04 K "tuple" (tOp (rIx K) (g9 3) (g9 4))))) (a3w (tCB (c8v K) (d4 (tOp (rIx K) (g9 3) (g9 4)) p7)) (gSub (g9 3) (g9 4) rSetL)) (a6h (tAnd (a1e (tOp (c5O K) (g9 5) (tC (.int 6)))) (a8Q K (c04 K "str" (tOp (rIx K) (g9 3) (g9 4))))) (a3w (tOp (a0U K) (tOp (rIx K) (g9 3) (g9 4)) (tOp (rIx K) (b1C (d4 (tC (.str "a")) (d4 (tC (.str "A")) (d4 (tC (.str " ")) (d4 (tC (.str "bbbbbbbb")) p7))))) (r6 (spOf K d5) [] E0 (d4 (g9 0) (d4 (tC (.int 4)) p7))))) (gSub (g9 3) (g9 4) rSetL)) (a3p (g9 3)))))))))
 (a6C w K n)))
def a2V (n:Nat):ASt :=
 (a0t (a2T 5 (m7 d5 (d3 (i4 0) (d3 (aC (.int 8)) n9))))
 (a0t (sIf (a3Z (aOp gEq (i4 5) (aC (.int 0)))) (a3m (aMt c8k (i4 3) (d3 (i4 4) n9))) (sIf (a3Z (aOp gEq (i4 5) (aC (.int 1)))) (a3m (aMt b6V (i4 3) (d3 (i4 4) (d3 (aOp gIx (i4 3) (i4 4)) n9)))) (sIf (a3Z (aOp gEq (i4 5) (aC (.int 2)))) (d2e (d6d (aSl (i4 3) (b6q (i4 4)) (b6q (aOp a3i (i4 4) (aC (.int 2)))))) (i4 3) (b6q (i4 4)) (b6q (aOp a3i (i4 4) (aC (.int 2))))) (sIf (a3Z (aOp gEq (i4 5) (aC (.int 3)))) (d4u (m7 (z5 4) (d3 (i4 0) (d3 (aC (.int 2)) n9))) (i4 3) (i4 4)) (sIf (a3Z (aOp gEq (i4 5) (aC (.int 4)))) (a0t (a2T 6 (a49 (d3 (aC (.int 0)) (d3 (aC (.int 1)) (d3 (aUn d9m (aC (.int 1))) (d3 (aC (.int 1000)) (d3 (aC (.int 1001)) (d3 (aOp b2N (aC (.int 10)) (aC (.int 6))) (d3 (aOp a3i (aOp b2N (aC (.int 10)) (aC (.int 6))) (aC (.int 1))) (d3 (aOp b2N (aC (.int 10)) (aC (.int 9))) (d3 (aOp a3i (aOp b2N (aC (.int 10)) (aC (.int 9))) (aC (.int 1))) (d3 (aOp b2N (aC (.int 10)) (aC (.int 12))) (d3 (aOp a3i (aOp b2N (aC (.int 10)) (aC (.int 12))) (aC (.int 1))) (d3 (aC .none) (d3 (aC (.bool true)) n9)))))))))))))))
 (d4u (aOp gIx (i4 6) (m7 d5 (d3 (i4 0) (d3 (aC (.int 13)) n9)))) (i4 3) (i4 4))) (sIf (d5p (a3Z (aOp gEq (i4 5) (aC (.int 5)))) (a9I (b9Q "tuple" (aOp gIx (i4 3) (i4 4))))) (d4u (aCB c6a (d3 (aOp gIx (i4 3) (i4 4)) n9)) (i4 3) (i4 4)) (sIf (d5p (a3Z (aOp gEq (i4 5) (aC (.int 6)))) (a9I (b9Q "str" (aOp gIx (i4 3) (i4 4))))) (d4u (aOp a3i (aOp gIx (i4 3) (i4 4)) (aOp gIx (a49 (d3 (aC (.str "a")) (d3 (aC (.str "A")) (d3 (aC (.str " ")) (d3 (aC (.str "bbbbbbbb")) n9))))) (m7 d5 (d3 (i4 0) (d3 (aC (.int 4)) n9))))) (i4 3) (i4 4)) (a2r (i4 3)))))))))
 (a2U n)))
theorem b1f {w:i3} {K:b0} {n:Nat} (a0S:IsiOk K "str") (r0:IsiOk K "tuple") (W:WX):SS K W (a6D w K n) (a2V n) :=
 (j9 (y9 (j4 (c7 c8 (c7 d6 d9))))
 (j9 (a05 (t8 (g6 a4s c8 d6)) (a0R (c2h d4g c8 (c7 c8 d9))) (a05 (t8 (g6 a4s c8 d6)) (a0R (c2h c4p c8 (c7 c8 (c7 (g6 y8 c8 c8) d9)))) (a05 (t8 (g6 a4s c8 d6)) (d4G (d6p (d3V c8 (b02 c8) (b02 (g6 a0k c8 d6)))) c8 (b02 c8) (b02 (g6 a0k c8 d6))) (a05 (t8 (g6 a4s c8 d6)) (b7K (j4 (c7 c8 (c7 d6 d9))) c8 c8) (a05 (t8 (g6 a4s c8 d6)) (j9 (y9 (a0T (c7 d6 (c7 d6 (c7 (d6q d2C d6) (c7 d6 (c7 d6 (c7 (g6 a2q d6 d6) (c7 (g6 a0k (g6 a2q d6 d6) d6) (c7 (g6 a2q d6 d6) (c7 (g6 a0k (g6 a2q d6 d6) d6) (c7 (g6 a2q d6 d6) (c7 (g6 a0k (g6 a2q d6 d6) d6) (c7 d1m (c7 a4i d9)))))))))))))))
 (b7K (g6 y8 c8 (j4 (c7 c8 (c7 d6 d9)))) c8 c8)) (a05 (c1a (t8 (g6 a4s c8 d6)) (a1V (a4t r0 (g6 y8 c8 c8)))) (b7K (a2l c6Q (c7 (g6 y8 c8 c8) d9)) c8 c8) (a05 (c1a (t8 (g6 a4s c8 d6)) (a1V (a4t a0S (g6 y8 c8 c8)))) (b7K (g6 a0k (g6 y8 c8 c8) (g6 y8 (a0T (c7 w3 (c7 w3 (c7 w3 (c7 w3 d9))))) (j4 (c7 c8 (c7 d6 d9))))) c8 c8) (t7 c8))))))))
 (b1e  a0S r0 W)))
def a6E (w:i3) (K:b0) (n:Nat):TS :=
 (a0P (a3w (r6 (spOf K d5) [] E0 (d4 (g9 0) (d4 (tCB (a5E K) (d4 (g9 3) p7)) p7))) (v4 4))
 (a0P (a6h (tAnd (a8Q K (c04 K "tuple" (tOp (rIx K) (g9 3) (g9 4)))) (tAnd (a1e (tOp d5O (g9 2) (tC (.int 0)))) (a1e (tOp d5O (r6 (spOf K d5) [] E0 (d4 (g9 0) (d4 (tC (.int 4)) p7))) (tC (.int 0)))))) (a0P (a3w (r6 (spOf K (a0C n)) [] E0 (d4 (g9 0) (d4 (tOp (rIx K) (g9 3) (g9 4)) (d4 (tOp c2M (g9 2) (tC (.int 1))) p7)))) (gSub (g9 3) (g9 4) rSetL))
 (a3p (tCB (c4I K) (d4 (g9 3) p7)))) a15)
 (a6D w K n)))
def a4c (n:Nat):ASt :=
 (a0t (a2T 4 (m7 d5 (d3 (i4 0) (d3 (aCB b6H (d3 (i4 3) n9)) n9))))
 (a0t (sIf (d5p (a9I (b9Q "tuple" (aOp gIx (i4 3) (i4 4)))) (d5p (a3Z (aOp gGt (i4 2) (aC (.int 0)))) (a3Z (aOp gGt (m7 d5 (d3 (i4 0) (d3 (aC (.int 4)) n9))) (aC (.int 0)))))) (a0t (d4u (m7 (a0C n) (d3 (i4 0) (d3 (aOp gIx (i4 3) (i4 4)) (d3 (aOp c4b (i4 2) (aC (.int 1))) n9)))) (i4 3) (i4 4))
 (a2r (aCB b48 (d3 (i4 3) n9)))) a1m)
 (a2V n)))
theorem b1g {w:i3} {K:b0} {n:Nat} (a0S:IsiOk K "str") (r0:IsiOk K "tuple") (W:WX):SS K W (a6E w K n) (a4c n) :=
 (j9 (y9 (j4 (c7 c8 (c7 (a2l a4w (c7 c8 d9)) d9))))
 (j9 (a05 (c1a (a1V (a4t r0 (g6 y8 c8 c8))) (c1a (t8 (g6 a3X c8 d6)) (t8 (g6 a3X (j4 (c7 c8 (c7 d6 d9))) d6)))) (j9 (b7K (j4 (c7 c8 (c7 (g6 y8 c8 c8) (c7 (g6 c0V c8 d6) d9)))) c8 c8)
 (t7 (a2l b7j (c7 c8 d9)))) y0)
 (b1f  a0S r0 W)))
def a8j (w:i3) (K:b0) (n:Nat):TS :=
 (a0P (a3w (tCB (c8v K) (d4 (g9 1) p7)) (v4 3))
 (a0P (a6h (a1e (tOp (c5O K) (g9 3) (b1C p7))) (a3p (d5n (d4 (r6 (spOf K (z5 4)) [] E0 (d4 (g9 0) (d4 (tC (.int 1)) p7))) p7))) a15)
 (a6E w K n)))
def a3C (n:Nat):ASt :=
 (a0t (a2T 3 (aCB c6a (d3 (i4 1) n9)))
 (a0t (sIf (a3Z (aOp gEq (i4 3) (a49 n9))) (a2r (b8J (d3 (m7 (z5 4) (d3 (i4 0) (d3 (aC (.int 1)) n9))) n9))) a1m)
 (a4c n)))
theorem b3U {w:i3} {K:b0} {n:Nat} (a0S:IsiOk K "str") (r0:IsiOk K "tuple") (W:WX):SS K W (a8j w K n) (a3C n) :=
 (j9 (y9 (a2l c6Q (c7 c8 d9)))
 (j9 (a05 (t8 (g6 a4s c8 (a0T d9))) (t7 (a4j (c7 (j4 (c7 c8 (c7 d6 d9))) d9))) y0)
 (b1g  a0S r0 W)))
theorem b1Z (n:Nat) (ρ:List AV) (P:RV → List AV → Prop) (PX:PXT) (h:a0C (n + 1) ρ P PX):ρ.length = 3:=by
 obtain ⟨_,_,_,_,_,_,_,rfl,_⟩:=h
 rfl
theorem b06 (n:Nat) (ρ:List AV) (P:RV → List AV → Prop) (PX:PXT) (h:a0C (n + 1) ρ P PX):a3C n { nx:=fun ρ'=>P (.dat .none) ρ',rt:=P,ex:=PX } (ρ ++ f7 (a5g.length - ρ.length) .un):=by
 have eN:a5g.length = 7:=rfl
 obtain ⟨a,b,d,k,B,m,ds,rfl,hd,hq,hl,hf,hB,hB2,hm,h0,h1,h⟩:=h
 unfold a3C
 simp only [eN]
 have shd:a0g (.list ds) = true:=a0F.shp (b:=B) (n:=m + 1) (a1w hl hf) (by omega)
 have st:∀ D:AEnds,D.ex = PX → D.nx [.ml (some 0) [.int a,.int b],.dat d,.dat (.int k),.ml none ds,.un,.un,.un] → a2T 3 (aCB c6a (d3 (i4 1) n9)) D [.ml (some 0) [.int a,.int b],.dat d,.dat (.int k),.un,.un,.un,.un]:=by
  intro D _ hD
  rcases hq with rfl | rfl <;> (walk_at "aq"; exact hD)
 rw [c5d]
 refine st _ rfl ?_
 walk_at "aq"
 refine a1d ?_
 walk_at "aq"
 refine ⟨shd,rfl,?_⟩
 have fin:∀ (es:List c9) a' b' (x4 x5 x6:AV),es.length ≤ B + 10 → (∀ e ∈ es,a0F (B + 10) (m + 4) e) → Dw a' b' → a2U n { nx:=fun ρ'=>P (RV.dat PyData.none) ρ',rt:=P,ex:=PX } [.ml (some 0) [.int a',.int b'],.dat d,.dat (.int k),.ml none es,x4,x5,x6]:=by
  intro es a' b' x4 x5 x6 h1 h2 h3
  unfold a2U
  walk_at "ao"
  refine a48 ?_
  walk_at "ao"
  exact (h es a' b' _ h1 h2 h3 rfl).1
 have hf':∀ e ∈ ds,a0F (B + 10) (m + 4) e:=fun e he=>((hf e he).wid (by omega)).mono (by omega)
 have th:∀ {e:c9} {j:Nat},j ≤ 4 → a0F 100 j e → a0F (B + 10) (m + 4) e:=fun hj he=>(he.wid (by omega)).mono (by omega)
 clear st shd eN
 cases ds with
 | nil =>
  rw [if_pos (by rw [a1j])]
  refine ⟨a,b,1,rfl,hd,by decide,by decide,fun e a' b' ρ' he hd' ho=>?_⟩
  rw [a60,a1U ho]
  walk_at "aq"
  refine ⟨by decide,(h [e] a' b' _ ?_ ?_ hd' rfl).1⟩
  ·simp
  ·intro x hx
   simp at hx
   subst hx
   exact th (by decide) he
 | cons y ys =>
  rw [if_neg (by simp [a1j])]
  unfold a4c
  walk_at "ao"
  refine a1d ?_
  walk_at "ao"
  refine ⟨by simp,?_⟩
  have l0:1 ≤ (y :: ys).length:=by simp
  generalize y :: ys = ds at *
  refine a1b hd (by omega) (by omega) rfl fun i a1 b1 i0 i1 hd1=>?_
  walk_at "ao"
  refine a1d ?_
  walk_at "ao"
  obtain ⟨e,he,ee⟩:=a2L i0 i1
  have ix:ixN ds.length i = some i.toNat:=by unfold ixN; rw [if_pos i0,if_pos i1]
  have fset:∀ (es:List c9) (x:c9) (j:Nat),es.length ≤ B → (∀ e ∈ es,a0F (B + 10) (m + 4) e) → a0F (B + 10) (m + 4) x → (es.set j x).length ≤ B + 10 ∧ ∀ e ∈ es.set j x,a0F (B + 10) (m + 4) e:=by
   intro es x j h1 h2 h3
   refine ⟨by rw [p8]; omega,fun e he=>?_⟩
   rcases List.mem_or_eq_of_mem_set he with q | q
   ·exact h2 e q
   ·rw [q]; exact h3
  have tail:∀ a' b',Dw a' b' → a2V n { nx:=fun ρ'=>P (RV.dat PyData.none) ρ',rt:=P,ex:=PX } [.ml (some 0) [.int a',.int b'],.dat d,.dat (.int k),.ml none ds,.dat (.int i),.un,.un]:=by
   intro a2 b2 hd2
   unfold a2V
   walk_at "aq"
   refine a1b hd2 (by decide) (by decide) rfl fun w a3 b3 w0 w1 hd3=>?_
   walk_at "aq"
   split
   ·-- one fewer
    refine a1d ?_
    walk_at "aq"
    refine ⟨⟨i0,by omega⟩,?_⟩
    have hi:i.toNat < ds.length:=by omega
    rw [j6 hi]
    walk_at "aq"
    exact fin _ a3 b3 _ _ _ (by rw [List.length_eraseIdx]; split <;> omega) (fun x hx=>hf' x (List.mem_of_mem_eraseIdx hx)) hd3
   split
   ·-- one twice
    refine a1d ?_
    walk_at "aq"
    refine a1d ?_
    walk_at "aq"
    rw [ee]
    walk_at "aq"
    refine ⟨⟨by simp [m8]; omega,i0,by omega⟩,?_⟩
    refine fin _ a3 b3 _ _ _ (by simp; omega) (fun x hx=>?_) hd3
    simp at hx
    rcases hx with hx | rfl | hx
    ·exact hf' x (a4y hx)
    ·exact hf' _ he
    ·exact hf' x (a7X hx)
   split
   ·-- two exchanged
    refine a1d ?_
    walk_at "aq"
    refine a1d ?_
    walk_at "aq"
    have cl:(b9U ds (some i) (some (i + 2))).length ≤ ds.length:=by
     unfold b9U
     rw [b4u,c8K]
     omega
    have cm:∀ x ∈ b9U ds (some i) (some (i + 2)),x ∈ ds:=fun x hx=>a7X (a4y hx)
    have c2:(b9U ds (some i) (some (i + 2))).length ≤ 2:=by
     have s1:HT.sIx ds.length 0 (some i) = i.toNat:=by
      rw [d2b (by omega)]
      omega
     have s2:HT.sIx ds.length ds.length (some (i + 2)) ≤ i.toNat + 2:=by
      rw [d2b (by omega)]
      omega
     unfold b9U
     rw [b4u,s1]
     omega
    refine ⟨⟨i0,by omega,by omega,by simp [m8]; omega⟩,?_⟩
    refine fin _ a3 b3 _ _ _ ?_ (fun x hx=>?_) hd3
    ·simp
     omega
    ·simp at hx
     rcases hx with hx | hx | hx
     ·exact hf' x (a4y hx)
     ·exact hf' x (cm x hx)
     ·exact hf' x (a7X hx)
   split
   ·-- a thing
    refine ⟨a3,b3,2,rfl,hd3,by decide,by decide,fun x a' b' ρ' hx hd' ho=>?_⟩
    rw [a60,a1U ho]
    walk_at "ao"
    refine a1d ?_
    walk_at "ao"
    rw [ix]
    walk_at "ao"
    obtain ⟨v1,v2⟩:=fset ds x i.toNat hl hf' (th (by decide) hx)
    exact fin _ a' b' _ _ _ v1 v2 hd'
   split
   ·refine ⟨a51 (by decide) (by decide) (by decide),a51 (by decide) (by decide) (by decide),a51 (by decide) (by decide) (by decide),by decide,a48 ?_⟩
    walk_at "aq"
    refine a1b hd3 (by decide) (by decide) rfl fun z a4 b4 z0 z1 hd4=>?_
    obtain ⟨x,hx,ex⟩:=a2L (xs:=d2y) z0 (by simpa [d2y] using z1)
    unfold d2y at ex
    walk_at "ao"
    rw [ex]
    walk_at "ao"
    refine a1d ?_
    walk_at "ao"
    rw [ix]
    walk_at "ao"
    obtain ⟨v1,v2⟩:=fset ds x i.toNat hl hf' (th (by decide) (d1p hx))
    exact fin _ a4 b4 _ _ _ v1 v2 hd4
   have back:∀ a' b' (x5 x6:AV),Dw a' b' → P (.own (.ml none ds)) [.ml (some 0) [.int a',.int b'],.dat d,.dat (.int k),.un,.dat (.int i),x5,x6]:=fun a' b' x5 x6 hd'=>(h ds a' b' _ (by omega) hf' hd' rfl).2
   split
   ·-- a list for a tuple
    refine a1d ?_
    walk_at "ao"
    rw [ee]
    walk_at "ao"
    cases ct:isT "tuple" e with
    | true =>
     obtain ⟨es,rfl⟩:∃ es,e = .tuple es:=by
      cases e with
      | tuple es=>exact ⟨es,rfl⟩
      | _=>cases ct
     walk_at "ao"
     refine a1d ?_
     walk_at "ao"
     rw [ee]
     walk_at "ao"
     refine a1d ?_
     walk_at "ao"
     rw [ix]
     walk_at "ao"
     have fe:=hf' _ he
     obtain ⟨q1,q2⟩:=a0F.tup (n:=m + 3) fe
     obtain ⟨v1,v2⟩:=fset ds (.list es) i.toNat hl hf' (a1w q1 q2)
     exact fin _ a3 b3 _ _ _ v1 v2 hd3
    | false =>
     walk_at "ao"
     rename_i hw5 
     subst hw5
     walk_at "aq"
     refine a1d ?_
     walk_at "aq"
     exact back _ _ _ _ hd3
   split
   ·-- a longer text
    refine a1d ?_
    walk_at "ao"
    rw [ee]
    walk_at "ao"
    cases ct:isT "str" e with
    | true =>
     obtain ⟨z,rfl⟩:∃ z,e = .str z:=by
      cases e with
      | str z=>exact ⟨z,rfl⟩
      | _=>cases ct
     walk_at "ao"
     refine a1d ?_
     walk_at "ao"
     rw [ee]
     walk_at "ao"
     refine ⟨by show 4 ≤ m8; decide,by simp,a1b hd3 (by decide) (by decide) rfl fun u a4 b4 u0 u1 hd4=>?_⟩
     obtain ⟨x,hx,ex⟩:=a2L (xs:=[y4 "a",y4 "A",y4 " ",y4 "bbbbbbbb"]) u0 (by simpa using u1)
     walk_at "ao"
     rw [ex]
     obtain ⟨y,rfl,hy⟩:∃ y,x = .str y ∧ y.length ≤ 8 ∧ a1c y = true:=by
      simp at hx
      rcases hx with rfl | rfl | rfl | rfl <;> exact ⟨_,rfl,by decide +kernel,by decide +kernel⟩
     walk_at "ao"
     obtain ⟨q1,q2⟩:=(hf _ he).str
     refine ⟨by simp [m8]; omega,a1d ?_⟩
     walk_at "ao"
     rw [ix]
     walk_at "ao"
     have fz:a0F (B + 10) (m + 4) (.str (z ++ y)):=by
      refine b1S ?_ ?_
      ·have:(z ++ y).length = z.length + y.length:=Str.length_append z y
       omega
      ·exact d2k q2 hy.2
     obtain ⟨v1,v2⟩:=fset ds (.str (z ++ y)) i.toNat hl hf' fz
     exact fin _ a4 b4 _ _ _ v1 v2 hd4
    | false =>
     walk_at "ao"
     refine a1d ?_
     walk_at "aq"
     exact back _ _ _ _ hd3
   ·refine a1d ?_
    walk_at "aq"
    exact back _ _ _ _ hd3
  rw [ee]
  walk_at "ao"
  cases ct:isT "tuple" e with
  | false =>
   rw [if_neg (by simp)]
   exact tail a1 b1 hd1
  | true =>
   rw [if_pos rfl]
   by_cases hk:0 < k
   ·rw [if_pos (decide_eq_true hk)]
    refine ⟨by simp,a1b hd1 (by decide) (by decide) rfl fun w a2 b2 w0 w1 hd2=>?_⟩
    walk_at "aq"
    split
    ·refine a1d ?_
     walk_at "ao"
     rw [ee]
     walk_at "ao"
     obtain ⟨es,rfl⟩:∃ es,e = .tuple es:=by
      cases e with
      | tuple es=>exact ⟨es,rfl⟩
      | _=>cases ct
     have fe:=hf _ he
     obtain ⟨m',rfl⟩:∃ m',m = m' + 1:=by
      cases m with
      | zero =>
       have:=fe.2
       simp [a1M] at this
      | succ m'=>exact ⟨m',rfl⟩
     obtain ⟨q1,q2⟩:=fe.tup
     refine ⟨by simp,a2,b2,.tuple es,k - 1,B,m',es,rfl,hd2,.inl rfl,q1,q2,hB,hB2,by omega,by omega,by omega,fun us a' b' ρ' u1 u2 hd' ho=>?_⟩
     have us':∀ x,(x = a3f us ∨ x = PyData.list us) → a0F (B + 10) (m' + 1 + 4) x:=by
      rintro x (rfl | rfl)
      ·exact (a4k u1 u2).mono (by omega)
      ·exact (a1w u1 u2).mono (by omega)
     refine ⟨?_,?_⟩
     ·rw [a60,a1U ho]
      walk_at "ao"
      refine a1d ?_
      walk_at "ao"
      rw [ix]
      walk_at "ao"
      refine a48 ?_
      walk_at "ao"
      obtain ⟨v1,v2⟩:=fset ds (.tuple us) i.toNat hl hf' (us' _ (.inl rfl))
      exact (h _ a' b' _ v1 v2 hd' rfl).1
     ·rw [b2b,a1U ho]
      walk_at "ao"
      refine a1d ?_
      walk_at "ao"
      rw [ix]
      walk_at "ao"
      refine a48 ?_
      walk_at "ao"
      obtain ⟨v1,v2⟩:=fset ds (.list us) i.toNat hl hf' (us' _ (.inr rfl))
      exact (h _ a' b' _ v1 v2 hd' rfl).1
    ·exact tail a2 b2 hd2
   ·rw [if_neg (by simpa using hk)]
    exact tail a1 b1 hd1
end Cw
namespace Cw
open PySem L2 Aq
local macro_rules | `(tactic| walk_at "ax")=>`(tactic| simp? [a1n])
local macro_rules | `(tactic| walk_at "bw")=>`(tactic| (refine a1d ?_; walk_at "ax"))
def a3q:List Str:=["e", "some", "words", "k"]
def b0j (w:i3) (K:b0) (v:V) (bs:Str → Bool):TS :=
 (a0P (a3w (b1C (d4 (c44 0 v (bs "Faulty")) (d4 (c44 0 v (bs "NoArticles")) (d4 (c44 0 v (bs "NoMan")) (d4 (c44 0 v (bs "NoPage")) p7))))) (v4 1))
 (a0P (a3w (tOp (a0U K) (g9 1) (b1C (d4 (c44 0 v (bs "NoPages")) (d4 (c44 0 v (bs "NoRank")) (d4 (c44 0 v (bs "NoRow")) (d4 (c44 0 v (bs "NoSum")) p7)))))) (v4 1))
 (a0P (a3w (tOp (a0U K) (g9 1) (b1C (d4 (c44 0 v (bs "NoText")) (d4 (c44 0 v (bs "NotThere")) (d4 (c44 0 v (bs "NothingLeft")) (d4 (c44 0 v (bs "TooMany")) p7)))))) (v4 1))
 (a0P (a3w (tOp (a0U K) (g9 1) (b1C (d4 (c44 0 v (bs "TooMuch")) (d4 (c44 0 v (bs "Twice")) (d4 (c44 0 v (bs "ValueError")) p7))))) (v4 1))
 (a0P (a3w (b1C (d4 (tC (.str "Faulty")) (d4 (tC (.str "NoArticles")) (d4 (tC (.str "NoMan")) (d4 (tC (.str "NoPage")) (d4 (tC (.str "NoPages")) (d4 (tC (.str "NoRank")) (d4 (tC (.str "NoRow")) (d4 (tC (.str "NoSum")) (d4 (tC (.str "NoText")) (d4 (tC (.str "NotThere")) p7))))))))))) (v4 2))
 (a0P (a3w (tOp (a0U K) (g9 2) (b1C (d4 (tC (.str "NothingLeft")) (d4 (tC (.str "TooMany")) (d4 (tC (.str "TooMuch")) (d4 (tC (.str "Twice")) (d4 (tC (.str "+")) p7))))))) (v4 2))
 (a3p (tM1 (d4r K) (tC (.str "")) (tLc (d80 (d4 (tC (.int 15)) p7)) (v4 3) (a8Q K (tOp (rIx K) (g9 1) (g9 3))) (tOp (rIx K) (g9 2) (g9 3)) [3])))))))))
def a4R (v:V) (bs:Str → Bool):ASt :=
 (a0t (a2T 1 (a49 (d3 (c3X 0 v (bs "Faulty")) (d3 (c3X 0 v (bs "NoArticles")) (d3 (c3X 0 v (bs "NoMan")) (d3 (c3X 0 v (bs "NoPage")) n9))))))
 (a0t (a2T 1 (aOp a3i (i4 1) (a49 (d3 (c3X 0 v (bs "NoPages")) (d3 (c3X 0 v (bs "NoRank")) (d3 (c3X 0 v (bs "NoRow")) (d3 (c3X 0 v (bs "NoSum")) n9)))))))
 (a0t (a2T 1 (aOp a3i (i4 1) (a49 (d3 (c3X 0 v (bs "NoText")) (d3 (c3X 0 v (bs "NotThere")) (d3 (c3X 0 v (bs "NothingLeft")) (d3 (c3X 0 v (bs "TooMany")) n9)))))))
 (a0t (a2T 1 (aOp a3i (i4 1) (a49 (d3 (c3X 0 v (bs "TooMuch")) (d3 (c3X 0 v (bs "Twice")) (d3 (c3X 0 v (bs "ValueError")) n9))))))
 (a0t (a2T 2 (a49 (d3 (aC (.str "Faulty")) (d3 (aC (.str "NoArticles")) (d3 (aC (.str "NoMan")) (d3 (aC (.str "NoPage")) (d3 (aC (.str "NoPages")) (d3 (aC (.str "NoRank")) (d3 (aC (.str "NoRow")) (d3 (aC (.str "NoSum")) (d3 (aC (.str "NoText")) (d3 (aC (.str "NotThere")) n9))))))))))))
 (a0t (a2T 2 (aOp a3i (i4 2) (a49 (d3 (aC (.str "NothingLeft")) (d3 (aC (.str "TooMany")) (d3 (aC (.str "TooMuch")) (d3 (aC (.str "Twice")) (d3 (aC (.str "+")) n9))))))))
 (a2r (d3K (aC (.str "")) (aLc (b47 (d3 (aC (.int 15)) n9)) [3] (gN 3) (a9I (aOp gIx (i4 1) (i4 3))) (aOp gIx (i4 2) (i4 3)))))))))))
theorem b7D {w:i3} {K:b0} {v:V} {bs:Str → Bool} (W:WX):SS K W (b0j w K v bs) (a4R v bs) :=
 (j9 (y9 (a0T (c7 a5X (c7 a5X (c7 a5X (c7 a5X d9))))))
 (j9 (y9 (g6 a0k c8 (a0T (c7 a5X (c7 a5X (c7 a5X (c7 a5X d9)))))))
 (j9 (y9 (g6 a0k c8 (a0T (c7 a5X (c7 a5X (c7 a5X (c7 a5X d9)))))))
 (j9 (y9 (g6 a0k c8 (a0T (c7 a5X (c7 a5X (c7 a5X d9))))))
 (j9 (y9 (a0T (c7 w3 (c7 w3 (c7 w3 (c7 w3 (c7 w3 (c7 w3 (c7 w3 (c7 w3 (c7 w3 (c7 w3 d9))))))))))))
 (j9 (y9 (g6 a0k c8 (a0T (c7 w3 (c7 w3 (c7 w3 (c7 w3 (c7 w3 d9))))))))
 (t7 (d1l w3 (a6Z (a7Q (c7 d6 d9)) a0W (a1V (g6 y8 c8 c8)) (g6 y8 c8 c8) (by decide))))))))))
def kWs:List Str:=["Faulty", "NoArticles", "NoMan", "NoPage", "NoPages", "NoRank", "NoRow", "NoSum", "NoText", "NotThere", "NothingLeft", "TooMany", "TooMuch", "Twice", "+"]
def ixD:c9 → Nat
 | .int i=>i.toNat
 | _=>0
theorem c2a {α:Type} {f:α → c9} {xs:List α} {i:Int} {b:α} (h0:0 ≤ i) (h1:i < xs.length):atI (xs.map f) i = some (f (xs.getD i.toNat b)):=by
 have hn:i.toNat < xs.length:=by omega
 rw [b0V h0 (by rw [g8]; exact h1),a0b,j6 hn,a9F,j6 hn]
 rfl
theorem d37:∀ x ∈ kNs,((rng 0 15).filter fun d=>(kYs.map fun y=>x == y || y == "ValueError").getD (ixD d) false).map (fun d=>kWs.getD (ixD d) "") = [x, "+"] ∧ ([x, "+"].map (·.length)).sum + [x, "+"].length * ("" : Str).length ≤ 16777216 ∧ c3M "" [x, "+"] = x ++ "+" := by decide +kernel
theorem b3j (v:V) (x:Str) (hx:x ∈ kNs) (bs:Str → Bool) (hb:∀ y ∈ kYs,bs y = (x == y || y == "ValueError")) (ρ:List AV) (P:RV → List AV → Prop) (PX:PXT) (h:b4x v (x ++ "+") ρ P PX):a4R v bs { nx:=fun ρ'=>P (.dat .none) ρ',rt:=P,ex:=PX } (ρ ++ f7 (a3q.length - ρ.length) .un):=by
 have eN:a3q.length = 4:=rfl
 obtain ⟨rfl,h⟩:=h
 unfold a4R
 simp only [eN]
 walk_at "ax"
 walk_at "bw"
 walk_at "bw"
 walk_at "bw"
 walk_at "bw"
 refine b6M (fun d=>[.opq v,.ml none ((kYs.map bs).map .bool),.ml none (kWs.map .str),.dat d]) (fun d=>(kYs.map bs).getD (ixD d) false) (fun d=>.str (kWs.getD (ixD d) "")) _ _ ?_ ?_ ?_ ?_ ?_ ?_
 ·intro d _ k hk
  exact hk
 ·intro d _
  rfl
 ·intro d hd k hk
  obtain ⟨i,rfl,h1,h2⟩:=b29 hd
  walk_at "ax"
  walk_at "bw"
  rw [← y5,c2a (b:=false) h1 (by rw [g8]; exact h2)]
  exact hk
 ·intro d hd _ k hk
  obtain ⟨i,rfl,h1,h2⟩:=b29 hd
  walk_at "ax"
  walk_at "bw"
  rw [c2a (xs:=kWs) (b:=("" : Str)) h1 (by exact h2)]
  rw [y5] at hk
  exact hk
 ·rw [a8I,a0V]
  decide
 ·have e1:kYs.map bs = kYs.map fun y=>x == y || y == "ValueError" := a3j hb
  have e2:=d37 x hx
  rw [a0L,e1]
  have e3:(((rng 0 15).filter fun d=>(kYs.map fun y=>x == y || y == "ValueError").getD (ixD d) false).map fun d=>y4 (kWs.getD (ixD d) "")) = [x, "+"].map .str:=by
   rw [← e2.1,y5]
   rfl
  rw [e3]
  have e4:d3s "" (d5D { nx:=fun ρ'=>P (.dat .none) ρ',rt:=P,ex:=PX }) (.own (.ml none ([x, "+"].map .str))) [.opq v,.ml none ((kYs.map bs).map .bool),.ml none (kWs.map .str),.un]:=by
   unfold d3s
   rw [b07,a7R,b08,b1k,c43,b1l]
   refine ⟨e2.2.1,?_⟩
   rw [e2.2.2]
   exact h _
  exact e4
end Cw
namespace Cw
open PySem L2 Aq
local macro_rules | `(tactic| walk_at "ax")=>`(tactic| simp? [a1n])
def a5O:List Str:=["articles"]
def a80 (w:i3) (K:b0) (W:WX) (ev:Str → f8):TS :=
 (a6h (c77 (a8Q K (r6 (spOf K a29) [] E0 (d4 (g9 0) p7)))) (d2n W (ev "NoArticles")) a15)
def a4f (ev:Str → f8):ASt :=
 (sIf (b2M (a9I (m7 a29 (d3 (i4 0) n9)))) (c8y (ev "NoArticles")) a1m)
theorem b5x {w:i3} {K:b0} {ev:Str → f8} (W:WX):SS K W (a80 w K W ev) (a4f ev) :=
 (a05 (a2s (a1V (j4 (c7 c8 d9)))) c8C y0)
def a04 (ev:Str → f8):Ct:=fun ρ P PX=>∃ d,ρ = [.dat d] ∧ okD d = true ∧ (a3r d = true → ∀ ρ',P (.dat .none) ρ') ∧ (a3r d = false → ∀ ρ',PX (ev "NoArticles") none ρ')
theorem b26 (ev:Str → f8) (ρ:List AV) (P:RV → List AV → Prop) (PX:PXT) (h:a04 ev ρ P PX):ρ.length = 1:=by
 obtain ⟨_,rfl,_⟩:=h
 rfl
theorem b19 (ev:Str → f8) (ρ:List AV) (P:RV → List AV → Prop) (PX:PXT) (h:a04 ev ρ P PX):a4f ev { nx:=fun ρ'=>P (.dat .none) ρ',rt:=P,ex:=PX } (ρ ++ f7 (a5O.length - ρ.length) .un):=by
 have eN:a5O.length = 1:=rfl
 obtain ⟨d,rfl,hd,h1,h2⟩:=h
 unfold a4f
 simp only [eN]
 walk_at "ax"
 refine ⟨d,rfl,hd,fun ρ'=>?_⟩
 cases e:a3r d with
 | true =>
  walk_at "ax"
  exact h1 e _
 | false =>
  walk_at "ax"
  exact h2 e _
end Cw
namespace Cw
open PySem L2 Aq
theorem Art.inj {A B:Art} (h:A.d = B.d):A.ranks = B.ranks ∧ A.chests = B.chests ∧ A.month = B.month:=by
 have inj1:∀ xs ys:List (Str × Int × Int),xs.map a2S = ys.map a2S → xs = ys:=fun xs=>by
  induction xs with
  | nil=>intro ys h; cases ys with
   | nil=>rfl
   | cons _ _=>cases h
  | cons x xs ih=>intro ys h; cases ys with
   | nil=>cases h
   | cons y ys =>
    rw [j8,j8] at h
    injection h with a b
    rw [ih ys b]
    unfold a2S at a
    injection a with a
    injection a with a1 a
    injection a with a2 a
    injection a with a3 a
    injection a1 with a1
    injection a2 with a2
    injection a3 with a3
    rw [show x = y from Prod.ext a1 (Prod.ext a2 a3)]
 have inj2:∀ xs ys:List (Str × Int),xs.map a5W = ys.map a5W → xs = ys:=fun xs=>by
  induction xs with
  | nil=>intro ys h; cases ys with
   | nil=>rfl
   | cons _ _=>cases h
  | cons x xs ih=>intro ys h; cases ys with
   | nil=>cases h
   | cons y ys =>
    rw [j8,j8] at h
    injection h with a b
    rw [ih ys b]
    unfold a5W at a
    injection a with a
    injection a with a1 a
    injection a with a2 a
    injection a1 with a1
    injection a2 with a2
    rw [show x = y from Prod.ext a1 a2]
 unfold Art.d at h
 injection h with h
 injection h with h1 h
 injection h with h2 h
 injection h with h3 h
 injection h1 with h1
 injection h2 with h2
 injection h3 with h3
 exact ⟨inj1 _ _ h1,inj2 _ _ h2,h3⟩
end Cw
namespace Cw
open PySem L2 Aq
inductive Pg where
 | turn (w man:Str) (day:Int) (rank:Str)
 | leaves (man:Str) (day:Int)
 | away (man:Str) (day to:Int)
 | gave (w man:Str) (day pence:Int) (by_:Str)
 | home (man:Str) (day pence times:Int) (by_:Str)
 | fine (man:Str) (day pence:Int)
 | lost (day to:Int)
 deriving DecidableEq
def Pg.k:Pg → List Key
 | .turn w m d r=>[.inr w,.inr m,.inl d,.inr r]
 | .leaves m d=>[.inr "leaves",.inr m,.inl d]
 | .away m d t=>[.inr "away",.inr m,.inl d,.inl t]
 | .gave w m d p b=>[.inr w,.inr m,.inl d,.inl p,.inr b]
 | .home m d p t b=>[.inr "home",.inr m,.inl d,.inl p,.inl t,.inr b]
 | .fine m d p=>[.inr "fine",.inr m,.inl d,.inl p]
 | .lost d t=>[.inr "lost",.inl d,.inl t]
def Pg.d (p:Pg):c9:=AqB.tupD p.k
def a5Y (d:Int):Prop:=0 ≤ d ∧ d ≤ 1000000000000
def a7P (d:Int):Prop:=1 ≤ d ∧ d ≤ 1000000000
def Pg.Ok (A:Art):Pg → Prop
 | .turn w m d r=>(w = "joins" ∨ w = "ranked") ∧ w7 m = true ∧ a5Y d ∧ r ∈ A.ranks.map (·.1)
 | .leaves m d=>w7 m = true ∧ a5Y d
 | .away m d t=>w7 m = true ∧ a5Y d ∧ d ≤ t ∧ t ≤ 1000000000000
 | .gave w m d p b=>(w = "advance" ∨ w = "slops") ∧ w7 m = true ∧ a5Y d ∧ a7P p ∧ w7 b = true
 | .home m d p t b=>w7 m = true ∧ a5Y d ∧ a7P p ∧ (1 ≤ t ∧ t ≤ 1000000) ∧ w7 b = true
 | .fine m d p=>w7 m = true ∧ a5Y d ∧ a7P p
 | .lost d t=>a5Y d ∧ 0 ≤ t ∧ t ≤ d
def Pg.man:Pg → Option Str
 | .turn _ m _ _=>some m
 | .leaves m _=>some m
 | .away m _ _=>some m
 | .gave _ m _ _ _=>some m
 | .home m _ _ _ _=>some m
 | .fine m _ _=>some m
 | .lost _ _=>none
theorem Pg.inj {A:Art} {p q:Pg} (hp:p.Ok A) (hq:q.Ok A) (h:p.k = q.k):p = q:=by
 cases p <;> cases q <;> simp [Pg.k,Pg.Ok,p9] at h hp hq ⊢
 all_goals first
  | exact h
  | (obtain ⟨h1,h2⟩:=h; rcases hp.1 with e | e <;> simp [e,p9] at h1)
  | (obtain ⟨h1,h2⟩:=h; rcases hq.1 with e | e <;> simp [e,p9] at h1)
  | (obtain ⟨h1,h2⟩:=h; rcases hp.1 with e | e <;> rcases hq.1 with e' | e' <;> simp [e,e',p9] at h1)
theorem Pg.cmp {A:Art} {p q:Pg} (hp:p.Ok A) (hq:q.Ok A):AqU.cmpAll (p.k.map kD) (q.k.map kD) = true:=by
 cases p <;> cases q <;> simp [Pg.k,Pg.Ok,p9,AqU.cmpAll,kD,d53,j3,a46] at hp hq ⊢
 all_goals first
  | (rcases hp.1 with e | e <;> rcases hq.1 with e' | e' <;> simp [e,e',p9,a46,d53] <;> done)
  | (rcases hp.1 with e | e <;> simp [e,p9,a46] <;> done)
  | (rcases hq.1 with e | e <;> simp [e,p9,a46] <;> done)
theorem Pg.head (p:Pg):∃ w r,p.k = .inr w :: r:=by cases p <;> exact ⟨_,_,rfl⟩
theorem b01:∀ ks:List Key,noDics (ks.map kD) = true
 | []=>by rw [d8Q,noDics]
 | .inl i :: ks=>by rw [j8,noDics,b01 ks]; rfl
 | .inr i :: ks=>by rw [j8,noDics,b01 ks]; rfl
theorem Pg.rows {A:Art} {ps:List Pg} (h:∀ p ∈ ps,p.Ok A):AqU.Rows (ps.map Pg.d):=by
 refine ⟨fun d hd=>?_,fun x r hx y q hy=>?_,fun xs hx ys hy=>?_,fun d hd=>?_⟩
 ·obtain ⟨p,_,rfl⟩:=e9.mp hd
  obtain ⟨w,r,e⟩:=p.head
  exact ⟨_,_,by rw [Pg.d,AqB.tupD,e]; rfl⟩
 ·obtain ⟨p,_,e1⟩:=e9.mp hx
  obtain ⟨p',_,e2⟩:=e9.mp hy
  obtain ⟨w,r',e3⟩:=p.head
  obtain ⟨w',r'',e4⟩:=p'.head
  rw [Pg.d,AqB.tupD,e3] at e1
  rw [Pg.d,AqB.tupD,e4] at e2
  cases e1
  cases e2
  rfl
 ·obtain ⟨p,hp,e1⟩:=e9.mp hx
  obtain ⟨p',hp',e2⟩:=e9.mp hy
  cases e1
  cases e2
  exact Pg.cmp (h p hp) (h p' hp')
 ·obtain ⟨p,hp,rfl⟩:=e9.mp hd
  show noDic (.tuple (p.k.map kD)) = true
  rw [noDic,b01]
theorem d1q {A:Art} (hA:A.Ok) {p:Pg} (h:p.Ok A) {n:Nat}:a0F 100 (n + 1) p.d:=by
 refine a4k (by cases p <;> simp [Pg.k]) fun d hd=>?_
 have fs:∀ s:String,s.toList.length ≤ 20 → a0F 100 n (.str (s0 s)):=fun s hs=>b1S (by rw [d1G]; omega) (b7N s)
 cases p with
 | turn w m da r =>
  obtain ⟨h1,h2,h3,h4⟩:=h
  obtain ⟨x,hx,rfl⟩:=e9.mp h4
  simp [Pg.k,kD] at hd
  rcases hd with rfl | rfl | rfl | rfl
  ·rcases h1 with rfl | rfl <;> exact fs _ (by decide)
  ·exact a2m h2
  ·exact a1y
  ·exact a2m (hA.rn x hx)
 | leaves m da =>
  simp [Pg.k,kD] at hd
  rcases hd with rfl | rfl | rfl
  ·exact fs _ (by decide)
  ·exact a2m h.1
  ·exact a1y
 | away m da t =>
  simp [Pg.k,kD] at hd
  rcases hd with rfl | rfl | rfl | rfl
  ·exact fs _ (by decide)
  ·exact a2m h.1
  ·exact a1y
  ·exact a1y
 | gave w m da pe b =>
  obtain ⟨h1,h2,h3,h4,h5⟩:=h
  simp [Pg.k,kD] at hd
  rcases hd with rfl | rfl | rfl | rfl | rfl
  ·rcases h1 with rfl | rfl <;> exact fs _ (by decide)
  ·exact a2m h2
  ·exact a1y
  ·exact a1y
  ·exact a2m h5
 | home m da pe t b =>
  obtain ⟨h2,h3,h4,h5,h6⟩:=h
  simp [Pg.k,kD] at hd
  rcases hd with rfl | rfl | rfl | rfl | rfl | rfl
  ·exact fs _ (by decide)
  ·exact a2m h2
  ·exact a1y
  ·exact a1y
  ·exact a1y
  ·exact a2m h6
 | fine m da pe =>
  simp [Pg.k,kD] at hd
  rcases hd with rfl | rfl | rfl | rfl
  ·exact fs _ (by decide)
  ·exact a2m h.1
  ·exact a1y
  ·exact a1y
 | lost da t =>
  simp [Pg.k,kD] at hd
  rcases hd with rfl | rfl | rfl
  ·exact fs _ (by decide)
  ·exact a1y
  ·exact a1y
end Cw
namespace Cw
open PySem L2 Aq
local macro_rules | `(tactic| walk_at "ao")=>`(tactic| simp_all? [a1n])
local macro_rules | `(tactic| walk_at "ax")=>`(tactic| simp? [a1n])
local macro_rules | `(tactic| walk_at "bw")=>`(tactic| (refine a1d ?_; walk_at "ax"))
def a4z:List Str:=["draws", "articles", "man", "far", "found", "day", "there", "turn", "word", "page"]
def a53 (w:i3) (K:b0):TS :=
 (a0P (a5v (tBM K "list" rAppend (g9 4) (d4 (g9 9) p7)))
 (a3w (tCB (c9J K) (d4 (tOp a4J (tC (.int 10)) (tC (.int 12))) (d4 (tOp (a0U K) (tOp (a0U K) (g9 5) (tC (.int 1))) (r6 (spOf K d5) [] E0 (d4 (g9 0) (d4 (tOp (rIx K) (b1C (d4 (tC (.int 3)) (d4 (tOp (a0U K) (tC (.int 1)) (tOp c2J (g9 3) (tC (.int 3)))) p7))) (r6 (spOf K d5) [] E0 (d4 (g9 0) (d4 (tC (.int 2)) p7)))) p7)))) p7))) (v4 5)))
def a0Q:ASt :=
 (a0t (a3m (aMt b28 (i4 4) (d3 (i4 9) n9)))
 (a2T 5 (aCB d6t (d3 (aOp b2N (aC (.int 10)) (aC (.int 12))) (d3 (aOp a3i (aOp a3i (i4 5) (aC (.int 1))) (m7 d5 (d3 (i4 0) (d3 (aOp gIx (a49 (d3 (aC (.int 3)) (d3 (aOp a3i (aC (.int 1)) (aOp d3r (i4 3) (aC (.int 3)))) n9))) (m7 d5 (d3 (i4 0) (d3 (aC (.int 2)) n9)))) n9)))) n9)))))
theorem a9N {w:i3} {K:b0} (W:WX):SS K W (a53 w K) a0Q :=
 (j9 (a0R (c2h b11 c8 (c7 c8 d9)))
 (y9 (a2l c8u (c7 (g6 a2q d6 d6) (c7 (g6 a0k (g6 a0k c8 d6) (j4 (c7 c8 (c7 (g6 y8 (a0T (c7 d6 (c7 (g6 a0k d6 (g6 b4G c8 d6)) d9))) (j4 (c7 c8 (c7 d6 d9)))) d9)))) d9)))))
def a54 (w:i3) (K:b0):TS :=
 (a0P (a3w (tOp (rNeD K) (g9 8) (tC (.str "leaves"))) (v4 6))
 (a0P (a3w (d5n (d4 (g9 8) (d4 (g9 2) (d4 (g9 5) p7)))) (v4 9))
 (a0P (a6h (a8Q K (g9 6)) (a3w (tOp (a0U K) (g9 9) (d5n (d4 (tOp (rIx K) (tOp (rIx K) (tOp (rIx K) (g9 1) (tC (.int 0))) (r6 (spOf K d5) [] E0 (d4 (g9 0) (d4 (tCB (a5E K) (d4 (tOp (rIx K) (g9 1) (tC (.int 0))) p7)) p7)))) (tC (.int 0))) p7))) (v4 9)) a15)
 (a53 w K))))
def a2y:ASt :=
 (a0t (a2T 6 (aOp gNe (i4 8) (aC (.str "leaves"))))
 (a0t (a2T 9 (b8J (d3 (i4 8) (d3 (i4 2) (d3 (i4 5) n9)))))
 (a0t (sIf (a9I (i4 6)) (a2T 9 (aOp a3i (i4 9) (b8J (d3 (aOp gIx (aOp gIx (aOp gIx (i4 1) (aC (.int 0))) (m7 d5 (d3 (i4 0) (d3 (aCB b6H (d3 (aOp gIx (i4 1) (aC (.int 0))) n9)) n9)))) (aC (.int 0))) n9)))) a1m)
 a0Q)))
theorem a9O {w:i3} {K:b0} (W:WX):SS K W (a54 w K) a2y :=
 (j9 (y9 (g6 b3D c8 w3))
 (j9 (y9 (a4j (c7 c8 (c7 c8 (c7 c8 d9)))))
 (j9 (a05 (a1V c8) (y9 (g6 a0k c8 (a4j (c7 (g6 y8 (g6 y8 (g6 y8 c8 d6) (j4 (c7 c8 (c7 (a2l a4w (c7 (g6 y8 c8 d6) d9)) d9)))) d6) d9)))) y0)
 (a9N  W))))
def a55 (w:i3) (K:b0):TS :=
 (a0P (a3w (tC (.str "joins")) (v4 8))
 (a0P (a6h (a8Q K (g9 6)) (a3w (tOp (rIx K) (b1C (d4 (tC (.str "ranked")) (d4 (tC (.str "leaves")) p7))) (tOp c2J (r6 (spOf K d5) [] E0 (d4 (g9 0) (d4 (tC (.int 5)) p7))) (tC (.int 3)))) (v4 8)) a15)
 (a54 w K)))
def a3H:ASt :=
 (a0t (a2T 8 (aC (.str "joins")))
 (a0t (sIf (a9I (i4 6)) (a2T 8 (aOp gIx (a49 (d3 (aC (.str "ranked")) (d3 (aC (.str "leaves")) n9))) (aOp d3r (m7 d5 (d3 (i4 0) (d3 (aC (.int 5)) n9))) (aC (.int 3))))) a1m)
 a2y))
theorem a9P {w:i3} {K:b0} (W:WX):SS K W (a55 w K) a3H :=
 (j9 (y9 w3)
 (j9 (a05 (a1V c8) (y9 (g6 y8 (a0T (c7 w3 (c7 w3 d9))) (g6 b4G (j4 (c7 c8 (c7 d6 d9))) d6))) y0)
 (a9O  W)))
def a56 (w:i3) (K:b0):TS :=
 (a3p (g9 4))
def a3I:ASt :=
 (a2r (i4 4))
theorem a9Q {w:i3} {K:b0} (W:WX):SS K W (a56 w K) a3I :=
 (t7 c8)
def a7o (w:i3) (K:b0):TS :=
 (a0P (a3w (b1C p7) (v4 4))
 (a0P (a3w (r6 (spOf K d5) [] E0 (d4 (g9 0) (d4 (tOp (a0U K) (tC (.int 1)) (tOp c2J (g9 3) (tC (.int 3)))) p7))) (v4 5))
 (a0P (a3w (tC (.bl false)) (v4 6))
 (a0P (tFor (d80 (d4 (tOp (a0U K) (tC (.int 1)) (r6 (spOf K d5) [] E0 (d4 (g9 0) (d4 (tC (.int 6)) p7)))) p7)) (v4 7) (a55 w K))
 (a56 w K)))))
def a28:ASt :=
 (a0t (a2T 4 (a49 n9))
 (a0t (a2T 5 (m7 d5 (d3 (i4 0) (d3 (aOp a3i (aC (.int 1)) (aOp d3r (i4 3) (aC (.int 3)))) n9))))
 (a0t (a2T 6 (aC (.bool false)))
 (a0t (d2a (b47 (d3 (aOp a3i (aC (.int 1)) (m7 d5 (d3 (i4 0) (d3 (aC (.int 6)) n9)))) n9)) (gN 7) a3H)
 a3I))))
theorem b2r {w:i3} {K:b0} (W:WX):SS K W (a7o w K) a28 :=
 (j9 (y9 (a0T d9))
 (j9 (y9 (j4 (c7 c8 (c7 (g6 a0k d6 (g6 b4G c8 d6)) d9))))
 (j9 (y9 a4i)
 (j9 (c01 (a7Q (c7 (g6 a0k d6 (j4 (c7 c8 (c7 d6 d9)))) d9)) a0W (a9P  W))
 (a9Q  W)))))
def a1J:Ct:=fun ρ P _=>∃ a b man far,∃ A:Art,ρ = [.ml (some 0) [.int a,.int b],.dat A.d,.dat (.str man),.dat (.int far)] ∧ Dw a b ∧ A.Ok ∧ w7 man = true ∧ 0 ≤ far ∧ far ≤ 1000000000000 ∧
 ∀ (ps:List Pg) a' b' ρ',1 ≤ ps.length → ps.length ≤ 6 → (∀ p ∈ ps,p.Ok A ∧ p.man = some man) → Dw a' b' → a9L ρ' 0 = some (.ml (some 0) [.int a',.int b']) → P (.own (.ml none (ps.map Pg.d))) ρ'
theorem b00 (ρ:List AV) (P:RV → List AV → Prop) (PX:PXT) (h:a1J ρ P PX):ρ.length = 4:=by
 obtain ⟨_,_,_,_,_,rfl,_⟩:=h
 rfl
/-- the day behind a turn -/
theorem d4K {D:AEnds} {a b far da:Int} {man:Str} {A:Art} {ps:List Pg} {x6 x7 x8:AV} (hd:Dw a b) (hf:0 ≤ far) (hf2:far ≤ 1000000000000) (hda:a5Y da) {p:Pg} (hl:ps.length ≤ 10)
  (hN:∀ a b da,Dw a b → a5Y da → D.nx [.ml (some 0) [.int a,.int b],.dat A.d,.dat (.str man),.dat (.int far),.ml none ((ps ++ [p]).map Pg.d),.dat (.int da),x6,x7,x8,.dat p.d]) :
  a0Q D [.ml (some 0) [.int a,.int b],.dat A.d,.dat (.str man),.dat (.int far),.ml none (ps.map Pg.d),.dat (.int da),x6,x7,x8,.dat p.d]:=by
 unfold a0Q
 walk_at "ax"
 walk_at "bw"
 refine ⟨by omega,a51 (by decide) (by decide) (by decide),c33 (by decide) (a3Y (by decide) (by decide)),a1b hd (by decide) (by decide) rfl fun k1 a1 b1 l1 u1 hd1=>?_⟩
 obtain ⟨z,hz,ez⟩:=a2L (xs:=[m9 3,m9 (1 + far / 3)]) l1 (by simpa using u1)
 walk_at "ao"
 rw [ez]
 obtain ⟨m,rfl,hm⟩:∃ t:Int,z = .int t ∧ 1 ≤ t ∧ t ≤ 1000000000000:=by
  simp at hz
  rcases hz with rfl | rfl <;> exact ⟨_,rfl,by omega,by omega⟩
 walk_at "ax"
 refine a1b hd1 (by omega) (by omega) rfl fun k2 a2 b2 l2 u2 hd2=>?_
 walk_at "ax"
 unfold a5Y at hda
 have e:(ps ++ [p]).map Pg.d = ps.map Pg.d ++ [p.d]:=by simp
 rw [e] at hN
 split
 ·exact hN _ _ _ hd2 ⟨by omega,by omega⟩
 ·exact hN _ _ _ hd2 ⟨by omega,by omega⟩
theorem a9M (ρ:List AV) (P:RV → List AV → Prop) (PX:PXT) (h:a1J ρ P PX):a28 { nx:=fun ρ'=>P (.dat .none) ρ',rt:=P,ex:=PX } (ρ ++ f7 (a4z.length - ρ.length) .un):=by
 have eN:a4z.length = 10:=rfl
 obtain ⟨a,b,man,far,A,rfl,hd,hA,hm,hf,hf2,h⟩:=h
 unfold a28
 simp only [eN]
 walk_at "ax"
 refine ⟨c33 (by decide) (a3Y (by decide) (by decide)),a1b hd (by omega) (by omega) rfl fun da a1 b1 l1 u1 hd1=>?_⟩
 walk_at "ax"
 refine a1b hd1 (by decide) (by decide) rfl fun n a2 b2 l2 u2 hd2=>?_
 walk_at "ax"
 refine ⟨by omega,?_⟩
 refine b6G (fun ds ρ=>∃ (ps:List Pg) (a b da:Int) (th:Bool) (x7 x8 x9:AV),(ps.length + ds.length:Int) = 1 + n ∧ (∀ p ∈ ps,p.Ok A ∧ p.man = some man) ∧ Dw a b ∧ a5Y da ∧ ρ = [.ml (some 0) [.int a,.int b],.dat A.d,.dat (.str man),.dat (.int far),.ml none (ps.map Pg.d),.dat (.int da),.dat (.bool th),x7,x8,x9]) ?_ ?_ _ _ ⟨[],a2,b2,da,false,.un,.un,.un,by simp [a8I]; omega,by simp,hd2,⟨by omega,by omega⟩,rfl⟩
 ·rintro d ds ρ ⟨ps,a,b,da,th,x7,x8,x9,hl,hps,hd,hda,rfl⟩ N hN
  obtain ⟨N0,hN0⟩:∃ N0:AEnds,N0 = ({ nx:=N,rt:=P,bk:=fun _=>True,ct:=N,ex:=PX }:AEnds):=⟨_,rfl⟩
  have hN':∀ (D:AEnds),D.nx = N → ∀ a b (th:Bool) (x7 x8:AV),Dw a b → ∀ p:Pg,p.Ok A → p.man = some man → a0Q D [.ml (some 0) [.int a,.int b],.dat A.d,.dat (.str man),.dat (.int far),.ml none (ps.map Pg.d),.dat (.int da),.dat (.bool th),x7,x8,.dat p.d]:=by
   intro D hD a b th x7 x8 hd p hp hpm
   refine d4K hd hf hf2 hda (by simp at hl; omega) fun a b da hd hda=>?_
   rw [hD]
   refine hN _ ⟨ps ++ [p],a,b,da,th,x7,x8,_,by simp at hl ⊢; omega,fun q hq=>?_,hd,hda,rfl⟩
   rcases v0.mp hq with hq | hq
   ·exact hps q hq
   ·simp at hq
    subst hq
    exact ⟨hp,hpm⟩
  have hR:∀ (D:AEnds),D.nx = N → ∀ (w:Str) a b (th:Bool) (x7 x9:AV),Dw a b → w = "joins" ∨ w = "ranked" ∨ w = "leaves" → a2y D [.ml (some 0) [.int a,.int b],.dat A.d,.dat (.str man),.dat (.int far),.ml none (ps.map Pg.d),.dat (.int da),.dat (.bool th),x7,.dat (.str w),x9]:=by
   intro D hD w a b th x7 x9 hd hw
   have r1:=hA.r1
   have r2:=hA.r2
   unfold a2y
   have go:w = "joins" ∨ w = "ranked" → ∀ r ∈ A.ranks,∀ a b,Dw a b → a0Q D [.ml (some 0) [.int a,.int b],.dat A.d,.dat (.str man),.dat (.int far),.ml none (ps.map Pg.d),.dat (.int da),.dat (.bool true),x7,.dat (.str w),.dat (.tuple [.str w,.str man,.int da,.str r.1])]:=by
    intro hw r hr a b hd
    exact hN' D hD a b true x7 _ hd (.turn w man da r.1) ⟨hw,hm,hda,a1x hr⟩ rfl
   have gl:w = "leaves" → a0Q D [.ml (some 0) [.int a,.int b],.dat A.d,.dat (.str man),.dat (.int far),.ml none (ps.map Pg.d),.dat (.int da),.dat (.bool false),x7,.dat (.str w),.dat (.tuple [.str w,.str man,.int da])]:=by
    intro hw
    subst hw
    exact hN' D hD a b false x7 _ hd (.leaves man da) ⟨hm,hda⟩ rfl
   unfold Art.d at *
   rcases hw with rfl | rfl | rfl
   ·walk_at "ax"
    refine a1b hd (by omega) (by omega) rfl fun k a1 b1 l1 u1 hd1=>?_
    obtain ⟨z,hz,ez⟩:=a2L (xs:=A.ranks.map a2S) l1 (by rw [g8]; exact u1)
    walk_at "ao"
    rw [ez]
    obtain ⟨r,hr,rfl⟩:=e9.mp hz
    unfold a2S
    walk_at "ax"
    exact go (.inl rfl) r hr _ _ hd1
   ·walk_at "ax"
    refine a1b hd (by omega) (by omega) rfl fun k a1 b1 l1 u1 hd1=>?_
    obtain ⟨z,hz,ez⟩:=a2L (xs:=A.ranks.map a2S) l1 (by rw [g8]; exact u1)
    walk_at "ao"
    rw [ez]
    obtain ⟨r,hr,rfl⟩:=e9.mp hz
    unfold a2S
    walk_at "ax"
    exact go (.inr rfl) r hr _ _ hd1
   ·walk_at "ax"
    exact gl rfl
  unfold a3H
  walk_at "ax"
  cases th with
  | false =>
   walk_at "ax"
   exact hR _ rfl _ a b _ _ _ hd (.inl rfl)
  | true =>
   walk_at "ax"
   refine a1b hd (by decide) (by decide) rfl fun k a1 b1 l1 u1 hd1=>?_
   walk_at "ax"
   obtain ⟨z,hz,ez⟩:=a2L (xs:=[y4 "ranked",y4 "leaves"]) (i:=k / 3) (by omega) (by simp; omega)
   refine ⟨c33 (by decide) (a3Y (by decide) (by decide)),?_⟩
   rw [ez]
   simp at hz
   rcases hz with rfl | rfl
   ·walk_at "ax"
    exact hR _ rfl _ _ _ _ _ _ hd1 (.inr (.inl rfl))
   ·walk_at "ax"
    exact hR _ rfl _ _ _ _ _ _ hd1 (.inr (.inr rfl))
 ·rintro ρ ⟨ps,a,b,da,th,x7,x8,x9,hl,hps,hd,hda,rfl⟩
  unfold a3I
  walk_at "ax"
  walk_at "bw"
  exact h ps a b _ (by simp at hl; omega) (by simp at hl; omega) hps hd rfl
end Cw
namespace Cw
open PySem L2 Aq
local macro_rules | `(tactic| walk_at "ao")=>`(tactic| simp_all? [a1n])
local macro_rules | `(tactic| walk_at "ax")=>`(tactic| simp? [a1n])
local macro_rules | `(tactic| walk_at "bw")=>`(tactic| (refine a1d ?_; walk_at "ax"))
def a5N:List Str:=["draws", "man", "bearers", "far", "great", "day", "bearer", "pence", "way"]
def a7l (w:i3) (K:b0):TS :=
 (a3p (d5n (d4 (tOp (rIx K) (b1C (d4 (tC (.str "advance")) (d4 (tC (.str "slops")) (d4 (tC (.str "slops")) p7)))) (tOp c2M (g9 8) (tC (.int 5)))) (d4 (g9 1) (d4 (g9 5) (d4 (g9 7) (d4 (g9 6) p7)))))))
def a4C:ASt :=
 (a2r (b8J (d3 (aOp gIx (a49 (d3 (aC (.str "advance")) (d3 (aC (.str "slops")) (d3 (aC (.str "slops")) n9)))) (aOp c4b (i4 8) (aC (.int 5)))) (d3 (i4 1) (d3 (i4 5) (d3 (i4 7) (d3 (i4 6) n9)))))))
theorem b2o {w:i3} {K:b0} (W:WX):SS K W (a7l w K) a4C :=
 (t7 (a4j (c7 (g6 y8 (a0T (c7 w3 (c7 w3 (c7 w3 d9)))) (g6 c0V c8 d6)) (c7 c8 (c7 c8 (c7 c8 (c7 c8 d9)))))))
def a7m (w:i3) (K:b0):TS :=
 (a0P (a6h (a1e (tOp (c5O K) (g9 8) (tC (.int 4)))) (a3p (d5n (d4 (tC (.str "fine")) (d4 (g9 1) (d4 (g9 5) (d4 (g9 7) p7)))))) a15)
 (a7l w K))
def a4D:ASt :=
 (a0t (sIf (a3Z (aOp gEq (i4 8) (aC (.int 4)))) (a2r (b8J (d3 (aC (.str "fine")) (d3 (i4 1) (d3 (i4 5) (d3 (i4 7) n9)))))) a1m)
 a4C)
theorem b2p {w:i3} {K:b0} (W:WX):SS K W (a7m w K) a4D :=
 (j9 (a05 (t8 (g6 a4s c8 d6)) (t7 (a4j (c7 w3 (c7 c8 (c7 c8 (c7 c8 d9)))))) y0)
 (b2o  W))
def a7n (w:i3) (K:b0):TS :=
 (a0P (a6h (a1e (tOp (c5O K) (g9 8) (tC (.int 3)))) (a3p (d5n (d4 (tC (.str "away")) (d4 (g9 1) (d4 (g9 5) (d4 (tCB (c9J K) (d4 (tOp a4J (tC (.int 10)) (tC (.int 12))) (d4 (tOp (a0U K) (g9 5) (r6 (spOf K d5) [] E0 (d4 (g9 0) (d4 (tOp (rIx K) (b1C (d4 (tC (.int 5)) (d4 (tOp (a0U K) (tC (.int 1)) (tOp c2J (g9 3) (tC (.int 2)))) p7))) (r6 (spOf K d5) [] E0 (d4 (g9 0) (d4 (tC (.int 2)) p7)))) p7)))) p7))) p7)))))) a15)
 (a7m w K))
def a4E:ASt :=
 (a0t (sIf (a3Z (aOp gEq (i4 8) (aC (.int 3)))) (a2r (b8J (d3 (aC (.str "away")) (d3 (i4 1) (d3 (i4 5) (d3 (aCB d6t (d3 (aOp b2N (aC (.int 10)) (aC (.int 12))) (d3 (aOp a3i (i4 5) (m7 d5 (d3 (i4 0) (d3 (aOp gIx (a49 (d3 (aC (.int 5)) (d3 (aOp a3i (aC (.int 1)) (aOp d3r (i4 3) (aC (.int 2)))) n9))) (m7 d5 (d3 (i4 0) (d3 (aC (.int 2)) n9)))) n9)))) n9))) n9)))))) a1m)
 a4D)
theorem b2q {w:i3} {K:b0} (W:WX):SS K W (a7n w K) a4E :=
 (j9 (a05 (t8 (g6 a4s c8 d6)) (t7 (a4j (c7 w3 (c7 c8 (c7 c8 (c7 (a2l c8u (c7 (g6 a2q d6 d6) (c7 (g6 a0k c8 (j4 (c7 c8 (c7 (g6 y8 (a0T (c7 d6 (c7 (g6 a0k d6 (g6 b4G c8 d6)) d9))) (j4 (c7 c8 (c7 d6 d9)))) d9)))) d9))) d9)))))) y0)
 (b2p  W))
def a8T (w:i3) (K:b0):TS :=
 (a0P (a3w (r6 (spOf K d5) [] E0 (d4 (g9 0) (d4 (tOp (a0U K) (g9 3) (tC (.int 1))) p7))) (v4 5))
 (a0P (a3w (tOp (rIx K) (g9 2) (r6 (spOf K d5) [] E0 (d4 (g9 0) (d4 (tCB (a5E K) (d4 (g9 2) p7)) p7)))) (v4 6))
 (a0P (a3w (tOp (rIx K) (b1C (d4 (tOp (a0U K) (tC (.int 1)) (r6 (spOf K d5) [] E0 (d4 (g9 0) (d4 (tC (.int 9)) p7)))) (d4 (tOp (a0U K) (tC (.int 1)) (r6 (spOf K d5) [] E0 (d4 (g9 0) (d4 (tC (.int 60)) p7)))) (d4 (tOp (a0U K) (tC (.int 1)) (r6 (spOf K d5) [] E0 (d4 (g9 0) (d4 (g9 4) p7)))) p7)))) (r6 (spOf K d5) [] E0 (d4 (g9 0) (d4 (tC (.int 3)) p7)))) (v4 7))
 (a0P (a3w (r6 (spOf K d5) [] E0 (d4 (g9 0) (d4 (tC (.int 8)) p7))) (v4 8))
 (a0P (a6h (a1e (tOp c8w (g9 8) (tC (.int 3)))) (a3p (d5n (d4 (tC (.str "home")) (d4 (g9 1) (d4 (g9 5) (d4 (g9 7) (d4 (tOp (rIx K) (b1C (d4 (tOp (a0U K) (tC (.int 1)) (r6 (spOf K d5) [] E0 (d4 (g9 0) (d4 (tC (.int 9)) p7)))) (d4 (tOp (a0U K) (tC (.int 1)) (r6 (spOf K d5) [] E0 (d4 (g9 0) (d4 (g9 4) p7)))) p7))) (tOp c2J (g9 8) (tC (.int 2)))) (d4 (g9 6) p7)))))))) a15)
 (a7n w K))))))
def a4d:ASt :=
 (a0t (a2T 5 (m7 d5 (d3 (i4 0) (d3 (aOp a3i (i4 3) (aC (.int 1))) n9))))
 (a0t (a2T 6 (aOp gIx (i4 2) (m7 d5 (d3 (i4 0) (d3 (aCB b6H (d3 (i4 2) n9)) n9)))))
 (a0t (a2T 7 (aOp gIx (a49 (d3 (aOp a3i (aC (.int 1)) (m7 d5 (d3 (i4 0) (d3 (aC (.int 9)) n9)))) (d3 (aOp a3i (aC (.int 1)) (m7 d5 (d3 (i4 0) (d3 (aC (.int 60)) n9)))) (d3 (aOp a3i (aC (.int 1)) (m7 d5 (d3 (i4 0) (d3 (i4 4) n9)))) n9)))) (m7 d5 (d3 (i4 0) (d3 (aC (.int 3)) n9)))))
 (a0t (a2T 8 (m7 d5 (d3 (i4 0) (d3 (aC (.int 8)) n9))))
 (a0t (sIf (a3Z (aOp gLt (i4 8) (aC (.int 3)))) (a2r (b8J (d3 (aC (.str "home")) (d3 (i4 1) (d3 (i4 5) (d3 (i4 7) (d3 (aOp gIx (a49 (d3 (aOp a3i (aC (.int 1)) (m7 d5 (d3 (i4 0) (d3 (aC (.int 9)) n9)))) (d3 (aOp a3i (aC (.int 1)) (m7 d5 (d3 (i4 0) (d3 (i4 4) n9)))) n9))) (aOp d3r (i4 8) (aC (.int 2)))) (d3 (i4 6) n9)))))))) a1m)
 a4E)))))
theorem b5q {w:i3} {K:b0} (W:WX):SS K W (a8T w K) a4d :=
 (j9 (y9 (j4 (c7 c8 (c7 (g6 a0k c8 d6) d9))))
 (j9 (y9 (g6 y8 c8 (j4 (c7 c8 (c7 (a2l a4w (c7 c8 d9)) d9)))))
 (j9 (y9 (g6 y8 (a0T (c7 (g6 a0k d6 (j4 (c7 c8 (c7 d6 d9)))) (c7 (g6 a0k d6 (j4 (c7 c8 (c7 d6 d9)))) (c7 (g6 a0k d6 (j4 (c7 c8 (c7 c8 d9)))) d9)))) (j4 (c7 c8 (c7 d6 d9)))))
 (j9 (y9 (j4 (c7 c8 (c7 d6 d9))))
 (j9 (a05 (t8 (g6 a3X c8 d6)) (t7 (a4j (c7 w3 (c7 c8 (c7 c8 (c7 c8 (c7 (g6 y8 (a0T (c7 (g6 a0k d6 (j4 (c7 c8 (c7 d6 d9)))) (c7 (g6 a0k d6 (j4 (c7 c8 (c7 c8 d9)))) d9))) (g6 b4G c8 d6)) (c7 c8 d9)))))))) y0)
 (b2q  W))))))
def a1R:Ct:=fun ρ P _=>∃ a b man far great,∃ (A:Art) (bs:List Str),ρ = [.ml (some 0) [.int a,.int b],.dat (.str man),.dat (.list (bs.map .str)),.dat (.int far),.dat (.int great)] ∧ Dw a b ∧ w7 man = true ∧ 1 ≤ bs.length ∧ bs.length ≤ 26 ∧ (∀ x ∈ bs,w7 x = true) ∧ 0 ≤ far ∧ far ≤ 1000000000000 ∧ 1 ≤ great ∧ great ≤ 1000000 ∧
 ∀ (p:Pg) a' b' ρ',p.Ok A → p.man = some man → Dw a' b' → a9L ρ' 0 = some (.ml (some 0) [.int a',.int b']) → P (.dat p.d) ρ'
theorem b24 (ρ:List AV) (P:RV → List AV → Prop) (PX:PXT) (h:a1R ρ P PX):ρ.length = 5:=by
 obtain ⟨_,_,_,_,_,_,_,rfl,_⟩:=h
 rfl
theorem b17 (ρ:List AV) (P:RV → List AV → Prop) (PX:PXT) (h:a1R ρ P PX):a4d { nx:=fun ρ'=>P (.dat .none) ρ',rt:=P,ex:=PX } (ρ ++ f7 (a5N.length - ρ.length) .un):=by
 have eN:a5N.length = 9:=rfl
 obtain ⟨a,b,man,far,great,A,bs,rfl,hd,hm,b1,b2,hb,f0,f1,g0,g1,h⟩:=h
 unfold a4d
 simp only [eN]
 walk_at "ax"
 refine a1b hd (by omega) (by omega) rfl fun da a1 b1 l1 u1 hd1=>?_
 have hda:a5Y da:=⟨by omega,by omega⟩
 walk_at "ax"
 refine a1b hd1 (by omega) (by omega) rfl fun kb a2 b2 l2 u2 hd2=>?_
 obtain ⟨z,hz,ez⟩:=a2L (xs:=bs.map y4) l2 (by rw [g8]; exact u2)
 walk_at "ao"
 rw [ez]
 obtain ⟨be,hbe,rfl⟩:=e9.mp hz
 have nb:=hb be hbe
 walk_at "ax"
 refine a1b hd2 (by decide) (by decide) rfl fun p1 a3 b3 l3 u3 hd3=>?_
 walk_at "ax"
 refine a1b hd3 (by decide) (by decide) rfl fun p2 a4 b4 l4 u4 hd4=>?_
 walk_at "ax"
 refine a1b hd4 (by omega) (by omega) rfl fun p3 a5 b5 l5 u5 hd5=>?_
 walk_at "ax"
 refine a1b hd5 (by decide) (by decide) rfl fun p4 a6 b6 l6 u6 hd6=>?_
 obtain ⟨z,hz,ez⟩:=a2L (xs:=[m9 (1 + p1),m9 (1 + p2),m9 (1 + p3)]) l6 (by simpa using u6)
 walk_at "ao"
 rw [ez]
 obtain ⟨pe,rfl,hpe⟩:∃ t:Int,z = .int t ∧ a7P t:=by
  unfold a7P
  simp at hz
  rcases hz with rfl | rfl | rfl <;> exact ⟨_,rfl,by omega,by omega⟩
 walk_at "ax"
 refine a1b hd6 (by decide) (by decide) rfl fun way a7 b7 l7 u7 hd7=>?_
 walk_at "ax"
 split
 ·rename_i hw
  refine a1b hd7 (by decide) (by decide) rfl fun t1 a8 b8 l8 u8 hd8=>?_
  walk_at "ax"
  refine a1b hd8 (by omega) (by omega) rfl fun t2 a9 b9 l9 u9 hd9=>?_
  walk_at "ax"
  obtain ⟨z,hz,ez⟩:=a2L (xs:=[m9 (1 + t1),m9 (1 + t2)]) (i:=way / 2) (by omega) (by simp; omega)
  refine ⟨c33 (by decide) (a3Y (by decide) (by decide)),?_⟩
  rw [ez]
  obtain ⟨ti,rfl,hti⟩:∃ t:Int,z = .int t ∧ 1 ≤ t ∧ t ≤ 1000000:=by
   simp at hz
   rcases hz with rfl | rfl <;> exact ⟨_,rfl,by omega,by omega⟩
  walk_at "ax"
  exact h (.home man da pe ti be) a9 b9 _ ⟨hm,hda,hpe,hti,nb⟩ rfl hd9 rfl
 ·rename_i hw
  unfold a4E
  walk_at "ax"
  split
  ·rename_i h3
   refine ⟨a51 (by decide) (by decide) (by decide),c33 (by decide) (a3Y (by decide) (by decide)),a1b hd7 (by decide) (by decide) rfl fun t1 a8 b8 l8 u8 hd8=>?_⟩
   obtain ⟨z,hz,ez⟩:=a2L (xs:=[m9 5,m9 (1 + far / 2)]) l8 (by simpa using u8)
   walk_at "ao"
   rw [ez]
   obtain ⟨m,rfl,hm2⟩:∃ t:Int,z = .int t ∧ 1 ≤ t ∧ t ≤ 1000000000000:=by
    simp at hz
    rcases hz with rfl | rfl <;> exact ⟨_,rfl,by omega,by omega⟩
   walk_at "ax"
   refine a1b hd8 (by omega) (by omega) rfl fun t2 a9 b9 l9 u9 hd9=>?_
   walk_at "ax"
   unfold a5Y at hda
   split
   ·exact h (.away man da _) a9 b9 _ ⟨hm,hda,by omega,by omega⟩ rfl hd9 rfl
   ·exact h (.away man da _) a9 b9 _ ⟨hm,hda,by omega,by omega⟩ rfl hd9 rfl
  ·rename_i h3
   unfold a4D
   walk_at "ax"
   split
   ·exact h (.fine man da pe) a7 b7 _ ⟨hm,hda,hpe⟩ rfl hd7 rfl
   ·rename_i h4
    unfold a4C
    obtain ⟨z,hz,ez⟩:=a2L (xs:=[y4 "advance",y4 "slops",y4 "slops"]) (i:=way - 5) (by omega) (by simp; omega)
    walk_at "ax"
    rw [ez]
    simp at hz
    rcases hz with rfl | rfl
    ·walk_at "ax"
     exact h (.gave "advance" man da pe be) a7 b7 _ ⟨.inl rfl,hm,hda,hpe,nb⟩ rfl hd7 rfl
    ·walk_at "ax"
     exact h (.gave "slops" man da pe be) a7 b7 _ ⟨.inr rfl,hm,hda,hpe,nb⟩ rfl hd7 rfl
theorem d4s (lo:Int) (n:Nat):rng lo (n + 1) = .int lo :: rng (lo + 1) n:=by
 unfold rng
 rw [List.range_succ_eq_map,j8,y5]
 congr 1
 ·simp
 ·refine a3j fun i _=>?_
  show m9 (lo + ((i + 1:Nat):Int)) = .int (lo + 1 + i)
  congr 1
  omega
def a5e:List Str:=["draws", "many", "order", "k"]
def a6y (w:i3) (K:b0):TS :=
 (a5v (tBM K "list" c2K (g9 2) (d4 (r6 (spOf K d5) [] E0 (d4 (g9 0) (d4 (tOp (a0U K) (g9 3) (tC (.int 1))) p7))) (d4 (g9 3) p7))))
def a36:ASt :=
 (a3m (aMt b6V (i4 2) (d3 (m7 d5 (d3 (i4 0) (d3 (aOp a3i (i4 3) (aC (.int 1))) n9))) (d3 (i4 3) n9))))
theorem b1a {w:i3} {K:b0} (W:WX):SS K W (a6y w K) a36 :=
 (a0R (c2h c4p c8 (c7 (j4 (c7 c8 (c7 (g6 a0k c8 d6) d9))) (c7 c8 d9))))
def a6z (w:i3) (K:b0):TS :=
 (a3p (g9 2))
def a37:ASt :=
 (a2r (i4 2))
theorem b1b {w:i3} {K:b0} (W:WX):SS K W (a6z w K) a37 :=
 (t7 c8)
def a77 (w:i3) (K:b0):TS :=
 (a0P (a3w (b1C p7) (v4 2))
 (a0P (tFor (d80 (d4 (g9 1) p7)) (v4 3) (a6y w K))
 (a6z w K)))
def a3y:ASt :=
 (a0t (a2T 2 (a49 n9))
 (a0t (d2a (b47 (d3 (i4 1) n9)) (gN 3) a36)
 a37))
theorem b3I {w:i3} {K:b0} (W:WX):SS K W (a77 w K) a3y :=
 (j9 (y9 (a0T d9))
 (j9 (c01 (a7Q (c7 c8 d9)) a0W (b1a  W))
 (b1b  W)))
/-- the numbers below n, in some order -/
def a13:Ct:=fun ρ P _=>∃ a b n,ρ = [.ml (some 0) [.int a,.int b],.dat (.int n)] ∧ Dw a b ∧ 0 ≤ n ∧ n ≤ 500 ∧
 ∀ (os:List Nat) a' b' ρ',os.Perm (a1p n.toNat) → Dw a' b' → a9L ρ' 0 = some (.ml (some 0) [.int a',.int b']) → P (.own (.ml none (os.map fun (i:Nat)=>m9 (i:Int)))) ρ'
theorem b1W (ρ:List AV) (P:RV → List AV → Prop) (PX:PXT) (h:a13 ρ P PX):ρ.length = 2:=by
 obtain ⟨_,_,_,rfl,_⟩:=h
 rfl
theorem b03 (ρ:List AV) (P:RV → List AV → Prop) (PX:PXT) (h:a13 ρ P PX):a3y { nx:=fun ρ'=>P (.dat .none) ρ',rt:=P,ex:=PX } (ρ ++ f7 (a5e.length - ρ.length) .un):=by
 have eN:a5e.length = 4:=rfl
 obtain ⟨a,b,n,rfl,hd,n0,n1,h⟩:=h
 unfold a3y
 simp only [eN]
 walk_at "ax"
 refine ⟨by omega,?_⟩
 refine b6G (fun ds ρ=>∃ (os:List Nat) (m:Nat) (a b:Int) (x:AV),ds = rng (m:Int) (n.toNat - m) ∧ m ≤ n.toNat ∧ os.Perm (a1p m) ∧ Dw a b ∧ ρ = [.ml (some 0) [.int a,.int b],.dat (.int n),.ml none (os.map fun (i:Nat)=>m9 (i:Int)),x]) ?_ ?_ _ _ ⟨[],0,a,b,_,by simp,by omega,by simp,hd,rfl⟩
 ·rintro d ds ρ ⟨os,m,a,b,x,hds,hm,hp,hd,rfl⟩ N hN
  obtain ⟨q,hq⟩:∃ q,n.toNat - m = q + 1:=by
   cases e:n.toNat - m with
   | zero=>rw [e] at hds; cases hds
   | succ q=>exact ⟨q,rfl⟩
  rw [hq,d4s] at hds
  cases hds
  have ol:os.length = m:=by rw [hp.length_eq,List.length_range]
  unfold a36
  walk_at "ax"
  walk_at "bw"
  refine a1b hd (by omega) (by omega) rfl fun k a1 b1 l1 u1 hd1=>?_
  walk_at "ax"
  refine ⟨by omega,hN _ ⟨os.take k.toNat ++ m :: os.drop k.toNat,m + 1,a1,b1,.dat (.int (m:Int)),?_,by omega,?_,hd1,?_⟩⟩
  ·have:n.toNat - (m + 1) = q:=by omega
   rw [this]
   rfl
  ·rw [List.range_succ]
   refine List.Perm.trans ?_ (hp.append_right [m])
   refine List.Perm.trans List.perm_middle ?_
   rw [d8S]
   exact (d3n m os).symm
  ·simp
 ·rintro ρ ⟨os,m,a,b,x,hds,hm,hp,hd,rfl⟩
  have e:m = n.toNat:=by
   have:=congrArg b2Q hds
   rw [a8I,List.length_nil] at this
   omega
  subst e
  unfold a37
  walk_at "ax"
  walk_at "bw"
  exact h os a b _ hp hd rfl
end Cw
namespace Cw
open PySem L2 Aq
local macro_rules | `(tactic| walk_at "ao")=>`(tactic| simp_all? [a1n])
local macro_rules | `(tactic| walk_at "ax")=>`(tactic| simp? [a1n])
local macro_rules | `(tactic| walk_at "bw")=>`(tactic| (refine a1d ?_; walk_at "ax"))
local macro_rules | `(tactic| walk_at "fw")=>`(tactic| (refine a48 ?_; walk_at "ax"))
/-- pages of some crew -/
structure BookOk (A:Art) (ps:List Pg) (crew:List Str):Prop where
 ok:∀ p ∈ ps,p.Ok A
 nd:ps.Nodup
 few:ps.length ≤ 43
 men:∀ p ∈ ps,∀ m,p.man = some m → m ∈ crew
 all:∀ m ∈ crew,∃ p ∈ ps,p.man = some m
 one:∀ p ∈ ps,∀ q ∈ ps,p.man = none → q.man = none → p = q
theorem d1A:∀ {ps:List Pg} {kss:List (List Key)},(∀ k,k ∈ kss → k ∈ ps.map Pg.k) → ∃ qs:List Pg,kss = qs.map Pg.k ∧ ∀ q ∈ qs,q ∈ ps
 | ps,[],_=>⟨[],rfl,by simp⟩
 | ps,k :: kss,h=>by
  obtain ⟨qs,e,hq⟩:=d1A (ps:=ps) (kss:=kss) fun k hk=>h k (e7 _ hk)
  obtain ⟨p,hp,rfl⟩:=e9.mp (h k f9)
  refine ⟨p :: qs,by rw [e]; rfl,fun q hq'=>?_⟩
  rcases o9.mp hq' with rfl | hq'
  ·exact hp
  ·exact hq q hq'
theorem d4e (ps:List Pg):ps.map Pg.d = (ps.map Pg.k).map AqB.tupD:=by rw [y5]; rfl
theorem b12 {α β:Type} (f:α → β):∀ {l:List α},(l.map f).Nodup → l.Nodup
 | [],_=>b0H
 | x :: l,h=>by
  rw [j8,a02] at h
  exact a02.mpr ⟨fun hx=>h.1 (a1x hx),b12 f h.2⟩
def a43:List Str:=["draws", "articles", "crew", "far", "great", "most", "found", "bearers", "man", "day", "k"]
def b0k (w:i3) (K:b0):TS :=
 (a0P (a5v (tBM K "list" rExtend (g9 6) (d4 (r6 (spOf K a1J) [] E0 (d4 (g9 0) (d4 (g9 1) (d4 (g9 8) (d4 (g9 3) p7))))) p7)))
 (a5v (tBM K "list" rExtend (g9 6) (d4 (tLc (d80 (d4 (r6 (spOf K d5) [] E0 (d4 (g9 0) (d4 (tOp (a0U K) (g9 5) (tC (.int 1))) p7))) p7)) (v4 10) c3U (r6 (spOf K a1R) [] E0 (d4 (g9 0) (d4 (g9 8) (d4 (g9 7) (d4 (g9 3) (d4 (g9 4) p7)))))) [10]) p7))))
def a6V:ASt :=
 (a0t (a3m (aMt b6U (i4 6) (d3 (m7 a1J (d3 (i4 0) (d3 (i4 1) (d3 (i4 8) (d3 (i4 3) n9))))) n9)))
 (a3m (aMt b6U (i4 6) (d3 (aLc (b47 (d3 (m7 d5 (d3 (i4 0) (d3 (aOp a3i (i4 5) (aC (.int 1))) n9))) n9)) [10] (gN 10) b9R (m7 a1R (d3 (i4 0) (d3 (i4 8) (d3 (i4 7) (d3 (i4 3) (d3 (i4 4) n9))))))) n9))))
theorem b7E {w:i3} {K:b0} (W:WX):SS K W (b0k w K) a6V :=
 (j9 (a0R (c2h c4o c8 (c7 (j4 (c7 c8 (c7 c8 (c7 c8 (c7 c8 d9))))) d9)))
 (a0R (c2h c4o c8 (c7 (a6Z (a7Q (c7 (j4 (c7 c8 (c7 (g6 a0k c8 d6) d9))) d9)) a0W a57 (j4 (c7 c8 (c7 c8 (c7 c8 (c7 c8 (c7 c8 d9)))))) (by decide)) d9))))
def b0l (w:i3) (K:b0):TS :=
 (a0P (a3w (b7O w K (g9 6)) (v4 6))
 (a3p (tLc (c2j K (r6 (spOf K a13) [] E0 (d4 (g9 0) (d4 (tCB (a5E K) (d4 (g9 6) p7)) p7)))) (v4 10) c3U (tOp (rIx K) (g9 6) (g9 10)) [10])))
def a4S:ASt :=
 (a0t (a2T 6 (b6r (i4 6)))
 (a2r (aLc (a6i (m7 a13 (d3 (i4 0) (d3 (aCB b6H (d3 (i4 6) n9)) n9)))) [10] (gN 10) b9R (aOp gIx (i4 6) (i4 10)))))
theorem b7F {w:i3} {K:b0} (W:WX):SS K W (b0l w K) a4S :=
 (j9 (y9 (c58 c8))
 (t7 (a6Z (a45 (j4 (c7 c8 (c7 (a2l a4w (c7 c8 d9)) d9)))) a0W a57 (g6 y8 c8 c8) (by decide))))
def b0m (w:i3) (K:b0):TS :=
 (a0P (a6h (a1e (tOp (c5O K) (r6 (spOf K d5) [] E0 (d4 (g9 0) (d4 (tC (.int 3)) p7))) (tC (.int 0)))) (a0P (a3w (r6 (spOf K d5) [] E0 (d4 (g9 0) (d4 (tOp (a0U K) (g9 3) (tC (.int 1))) p7))) (v4 9))
 (a5v (tBM K "list" rAppend (g9 6) (d4 (d5n (d4 (tC (.str "lost")) (d4 (g9 9) (d4 (tOp c2M (g9 9) (r6 (spOf K d5) [] E0 (d4 (g9 0) (d4 (tOp (rIx K) (b1C (d4 (tC (.int 1)) (d4 (tOp (a0U K) (tCB (c9J K) (d4 (g9 9) (d4 (tC (.int 9)) p7))) (tC (.int 1))) (d4 (tOp (a0U K) (g9 9) (tC (.int 1))) p7)))) (r6 (spOf K d5) [] E0 (d4 (g9 0) (d4 (tC (.int 3)) p7)))) p7)))) p7)))) p7)))) a15)
 (b0l w K))
def a6W:ASt :=
 (a0t (sIf (a3Z (aOp gEq (m7 d5 (d3 (i4 0) (d3 (aC (.int 3)) n9))) (aC (.int 0)))) (a0t (a2T 9 (m7 d5 (d3 (i4 0) (d3 (aOp a3i (i4 3) (aC (.int 1))) n9))))
 (a3m (aMt b28 (i4 6) (d3 (b8J (d3 (aC (.str "lost")) (d3 (i4 9) (d3 (aOp c4b (i4 9) (m7 d5 (d3 (i4 0) (d3 (aOp gIx (a49 (d3 (aC (.int 1)) (d3 (aOp a3i (aCB d6t (d3 (i4 9) (d3 (aC (.int 9)) n9))) (aC (.int 1))) (d3 (aOp a3i (i4 9) (aC (.int 1))) n9)))) (m7 d5 (d3 (i4 0) (d3 (aC (.int 3)) n9)))) n9)))) n9)))) n9)))) a1m)
 a4S)
theorem b7G {w:i3} {K:b0} (W:WX):SS K W (b0m w K) a6W :=
 (j9 (a05 (t8 (g6 a4s (j4 (c7 c8 (c7 d6 d9))) d6)) (j9 (y9 (j4 (c7 c8 (c7 (g6 a0k c8 d6) d9))))
 (a0R (c2h b11 c8 (c7 (a4j (c7 w3 (c7 c8 (c7 (g6 c0V c8 (j4 (c7 c8 (c7 (g6 y8 (a0T (c7 d6 (c7 (g6 a0k (a2l c8u (c7 c8 (c7 d6 d9))) d6) (c7 (g6 a0k c8 d6) d9)))) (j4 (c7 c8 (c7 d6 d9)))) d9)))) d9)))) d9)))) y0)
 (b7F  W))
def b4S (w:i3) (K:b0):TS :=
 (a0P (a3w (b1C p7) (v4 6))
 (a0P (a3w (r6 (spOf K a0e) [] E0 (d4 (g9 0) (d4 (tC (.int 3)) p7))) (v4 7))
 (a0P (tFor (c2j K (g9 2)) (v4 8) (b0k w K))
 (b0m w K))))
def a6q:ASt :=
 (a0t (a2T 6 (a49 n9))
 (a0t (a2T 7 (m7 a0e (d3 (i4 0) (d3 (aC (.int 3)) n9))))
 (a0t (d2a (a6i (i4 2)) (gN 8) a6V)
 a6W)))
theorem c2T {w:i3} {K:b0} (W:WX):SS K W (b4S w K) a6q :=
 (j9 (y9 (a0T d9))
 (j9 (y9 (j4 (c7 c8 (c7 d6 d9))))
 (j9 (c01 (a45 c8) a0W (b7E  W))
 (b7G  W))))
def a16:Ct:=fun ρ P _=>∃ a b far great most,∃ (A:Art) (crew:List Str),ρ = [.ml (some 0) [.int a,.int b],.dat A.d,.dat (.list (crew.map .str)),.dat (.int far),.dat (.int great),.dat (.int most)] ∧ Dw a b ∧ A.Ok ∧ 1 ≤ crew.length ∧ crew.length ≤ 3 ∧ (∀ x ∈ crew,w7 x = true) ∧ 0 ≤ far ∧ far ≤ 1000000000000 ∧ 1 ≤ great ∧ great ≤ 1000000 ∧ 0 ≤ most ∧ most ≤ 8 ∧
 ∀ (ps:List Pg) a' b' ρ',BookOk A ps crew → Dw a' b' → a9L ρ' 0 = some (.ml (some 0) [.int a',.int b']) → P (.own (.ml none (ps.map Pg.d))) ρ'
theorem b8R (ρ:List AV) (P:RV → List AV → Prop) (PX:PXT) (h:a16 ρ P PX):ρ.length = 6:=by
 obtain ⟨_,_,_,_,_,_,_,rfl,_⟩:=h
 rfl
theorem d5M {qs:List Pg}:∀ {os:List Nat},(∀ i ∈ os,i < qs.length) → (os.filterMap fun i=>qs[i]?).map Pg.d = os.map fun i=>(qs.map Pg.d).getD i .none
 | [],_=>rfl
 | i :: os,h=>by
  have hi:=h i f9
  rw [c12,j6 hi,j8,j8,d5M fun j hj=>h j (e7 _ hj)]
  congr 1
  simp [List.getD,hi]
def pgAt (ds:List c9):c9 → c9
 | .int i=>ds.getD i.toNat .none
 | _=>.none
/-- each once, in a drawn order -/
theorem c4B {A:Art} {crew:List Str} {ps:List Pg} (hok:∀ p ∈ ps,p.Ok A) (few:ps.length ≤ 43) (men:∀ p ∈ ps,∀ m,p.man = some m → m ∈ crew) (all:∀ m ∈ crew,∃ p ∈ ps,p.man = some m) (one:∀ p ∈ ps,∀ q ∈ ps,p.man = none → q.man = none → p = q)
  {a b:Int} (hd:Dw a b) {D:AEnds} {x1 x2 x3 x4 x5 x7 x8 x9:AV} (h:∀ (ps:List Pg) a' b' ρ',BookOk A ps crew → Dw a' b' → a9L ρ' 0 = some (.ml (some 0) [.int a',.int b']) → D.rt (.own (.ml none (ps.map Pg.d))) ρ') :
  a4S D [.ml (some 0) [.int a,.int b],x1,x2,x3,x4,x5,.ml none (ps.map Pg.d),x7,x8,x9,.un]:=by
 unfold a4S
 walk_at "ax"
 walk_at "fw"
 rw [show a7p (ps.map Pg.d) = some (ps.map Pg.k) by rw [d4e,b3X]]
 walk_at "ax"
 refine ⟨by omega,Pg.rows hok,fun es nd mem pw=>?_⟩
 obtain ⟨qs,rfl,hq⟩:=d1A (ps:=ps) (kss:=es) fun k hk=>by
  have:=(mem k).mp hk
  simpa using this
 have nq:qs.Nodup:=b12 Pg.k nd
 have pq:∀ p ∈ ps,p ∈ qs:=fun p hp=>by
  have:=(mem p.k).mpr (by simpa using ⟨p,hp,rfl⟩)
  obtain ⟨q,hq1,e⟩:=e9.mp this
  rw [← Pg.inj (hok q (hq q hq1)) (hok p hp) e]
  exact hq1
 have lq:qs.length ≤ 43:=by
  have:=a4l nd (m:=ps.map Pg.k) fun k hk=>by
   have:=(mem k).mp hk
   simpa using this
  simp at this
  omega
 rw [← d4e]
 walk_at "bw"
 refine ⟨a,b,(qs.length:Int),by simp,hd,by omega,by omega,fun os a1 b1 ρ' hp hd1 ho=>?_⟩
 rw [b2b,a1U ho]
 walk_at "ax"
 have hi:∀ i ∈ os,i < qs.length:=fun i hi=>by
  have:=hp.mem_iff.mp hi
  simpa using this
 have ol:os.length = qs.length:=by rw [hp.length_eq]; simp
 refine c2l (fun y=>[.ml (some 0) [.int a1,.int b1],x1,x2,x3,x4,x5,.ml none (qs.map Pg.d),x7,x8,x9,.dat y]) (pgAt (qs.map Pg.d)) _ _ ?_ ?_ ?_ ?_ ?_
 ·intro y _ k hk
  exact hk
 ·intro y _
  rfl
 ·intro y hy k hk
  obtain ⟨i,hi2,rfl⟩:=e9.mp hy
  have hi3:=hi i hi2
  walk_at "ax"
  walk_at "bw"
  rw [b0V (by omega) (by simp; omega)]
  have e:pgAt (qs.map Pg.d) (.int (i:Int)) = (qs[i]).d:=by simp [pgAt,hi3]
  rw [e] at hk
  simp [hi3]
  exact hk
 ·rw [a0V]
  simp
  omega
 ·walk_at "ax"
  have e:os.map (pgAt (qs.map Pg.d) ∘ fun (i:Nat)=>m9 (i:Int)) = (os.filterMap fun i=>qs[i]?).map Pg.d:=by
   rw [d5M hi]
   refine a3j fun i _=>?_
   show (qs.map Pg.d).getD ((i:Int).toNat) .none = _
   rw [c5Q]
  rw [e]
  have pm:(os.filterMap fun i=>qs[i]?).Perm qs:=by
   have:=hp.filterMap (fun i=>qs[i]?)
   rw [c5Q,AqT.all_at] at this
   exact this
  refine h _ a1 b1 _ ⟨fun p hp2=>hok p (hq p (pm.mem_iff.mp hp2)),pm.nodup_iff.mpr nq,by rw [pm.length_eq]; exact lq,fun p hp2=>men p (hq p (pm.mem_iff.mp hp2)),fun m hm=>?_,fun p hp2 q hq2=>one p (hq p (pm.mem_iff.mp hp2)) q (hq q (pm.mem_iff.mp hq2))⟩ hd1 rfl
  obtain ⟨p,hp2,e⟩:=all m hm
  exact ⟨p,pm.mem_iff.mpr (pq p hp2),e⟩
theorem b7b (ρ:List AV) (P:RV → List AV → Prop) (PX:PXT) (h:a16 ρ P PX):a6q { nx:=fun ρ'=>P (.dat .none) ρ',rt:=P,ex:=PX } (ρ ++ f7 (a43.length - ρ.length) .un):=by
 have eN:a43.length = 11:=rfl
 obtain ⟨a,b,far,great,most,A,crew,rfl,hd,hA,c1,c2,hc,f0,f1,g0,g1,m0,m1,h⟩:=h
 unfold a6q
 simp only [eN]
 walk_at "ax"
 refine d1N hd (by decide) (by decide) rfl fun bs a1 b1 e1 e2 e3 hd1=>?_
 walk_at "ax"
 refine b6G (fun ds ρ=>∃ (ps:List Pg) (a9X:List Str) (done:List Str) (a b:Int) (x7 x8:AV),ds = a9X.map .str ∧ done ++ a9X = crew ∧ ps.length ≤ 14 * done.length ∧ (∀ p ∈ ps,p.Ok A ∧ ∃ m ∈ done,p.man = some m) ∧ (∀ m ∈ done,∃ p ∈ ps,p.man = some m) ∧ Dw a b ∧ (x7 = .ml none (bs.map .str) ∨ x7 = .dat (.list (bs.map .str))) ∧ ρ = [.ml (some 0) [.int a,.int b],.dat A.d,.dat (.list (crew.map .str)),.dat (.int far),.dat (.int great),.dat (.int most),.ml none (ps.map Pg.d),x7,x8,.un,.un]) ?_ ?_ _ _ ⟨[],crew,[],a1,b1,_,_,rfl,rfl,by simp,by simp,by simp,hd1,.inl rfl,rfl⟩
 ·rintro d ds ρ ⟨ps,a9X,done,a,b,x7,x8,hds,hc2,hl,hps,hdn,hd,hx7,rfl⟩ N hN
  cases a9X with
  | nil=>cases hds
  | cons man a9X =>
   rw [j8] at hds
   cases hds
   have hm:man ∈ crew:=by rw [← hc2]; exact a2K _ f9
   have hdl:done.length ≤ 2:=by
    have:=congrArg b2Q hc2
    rw [a1h,t4] at this
    omega
   unfold a6V
   walk_at "ax"
   walk_at "bw"
   refine ⟨a,b,man,far,A,rfl,hd,hA,hc man hm,f0,f1,fun qs a2 b2 ρ' l1 l2 hq hd2 ho=>?_⟩
   rw [b2b,a1U ho]
   walk_at "ax"
   refine ⟨by omega,?_⟩
   walk_at "bw"
   refine a1b hd2 (by omega) (by omega) rfl fun n a3 b3 l3 u3 hd3=>?_
   walk_at "ax"
   refine ⟨by omega,?_⟩
   refine c84 (fun ds acc ρ=>∃ (rs:List Pg) (a b:Int) (x7:AV),acc = rs.map Pg.d ∧ (rs.length + ds.length:Int) = n ∧ (∀ p ∈ rs,p.Ok A ∧ p.man = some man) ∧ Dw a b ∧ (x7 = .ml none (bs.map .str) ∨ x7 = .dat (.list (bs.map .str))) ∧ ρ = [.ml (some 0) [.int a,.int b],.dat A.d,.dat (.list (crew.map .str)),.dat (.int far),.dat (.int great),.dat (.int most),.ml none (ps.map Pg.d ++ qs.map Pg.d),x7,.dat (.str man),.un,.un]) ?_ ?_ _ _ _ ⟨[],a3,b3,x7,rfl,by simp [a8I]; omega,by simp,hd3,hx7,rfl⟩
   ·rintro d ds acc ρ ⟨rs,a,b,x7,rfl,hrl,hrs,hd,hx7,rfl⟩ N2 hN2
    have bl:(bs.length:Int) = 3:=e1
    rcases hx7 with rfl | rfl
    ·walk_at "ax"
     walk_at "fw"
     refine ⟨a,b,man,far,great,A,bs,rfl,hd,hc man hm,by omega,by omega,e2,f0,f1,g0,g1,fun p a4 b4 ρ' hp hpm hd4 ho=>?_⟩
     rw [a60,a1U ho]
     walk_at "ax"
     refine ⟨by simp at hrl; omega,hN2 _ _ ⟨rs ++ [p],a4,b4,_,by simp,by simp at hrl ⊢; omega,fun q hq=>?_,hd4,.inr rfl,rfl⟩⟩
     rcases v0.mp hq with hq | hq
     ·exact hrs q hq
     ·simp at hq
      subst hq
      exact ⟨hp,hpm⟩
    ·walk_at "ax"
     refine ⟨a,b,man,far,great,A,bs,rfl,hd,hc man hm,by omega,by omega,e2,f0,f1,g0,g1,fun p a4 b4 ρ' hp hpm hd4 ho=>?_⟩
     rw [a60,a1U ho]
     walk_at "ax"
     refine ⟨by simp at hrl; omega,hN2 _ _ ⟨rs ++ [p],a4,b4,_,by simp,by simp at hrl ⊢; omega,fun q hq=>?_,hd4,.inr rfl,rfl⟩⟩
     rcases v0.mp hq with hq | hq
     ·exact hrs q hq
     ·simp at hq
      subst hq
      exact ⟨hp,hpm⟩
   ·rintro acc ρ ⟨rs,a,b,x7,rfl,hrl,hrs,hd,hx7,rfl⟩
    walk_at "ax"
    have hrl:(rs.length:Int) = n:=by simpa using hrl
    refine ⟨by omega,hN _ ⟨ps ++ qs ++ rs,a9X,done ++ [man],a,b,x7,.dat (.str man),rfl,by simpa using hc2,by simp; omega,fun p hp=>?_,fun m hm2=>?_,hd,hx7,by simp⟩⟩
    ·rcases v0.mp hp with hp | hp
     ·rcases v0.mp hp with hp | hp
      ·obtain ⟨z1,m,z2,z3⟩:=hps p hp
       exact ⟨z1,m,a0E _ z2,z3⟩
      ·exact ⟨(hq p hp).1,man,by simp,(hq p hp).2⟩
     ·exact ⟨(hrs p hp).1,man,by simp,(hrs p hp).2⟩
    ·rcases v0.mp hm2 with hm2 | hm2
     ·obtain ⟨p,hp,e⟩:=hdn m hm2
      exact ⟨p,by simp [hp],e⟩
     ·simp at hm2
      subst hm2
      cases qs with
      | nil=>simp at l1
      | cons q qs=>exact ⟨q,by simp,(hq q f9).2⟩
 ·rintro ρ ⟨ps,a9X,done,a,b,x7,x8,hds,hc2,hl,hps,hdn,hd,hx7,rfl⟩
  have hr0:a9X = []:=by
   cases a9X with
   | nil=>rfl
   | cons _ _=>cases hds
  subst hr0
  rw [a01] at hc2
  subst hc2
  have hok:∀ p ∈ ps,p.Ok A:=fun p hp=>(hps p hp).1
  have men:∀ p ∈ ps,∀ m,p.man = some m → m ∈ done:=fun p hp m e=>by
   obtain ⟨_,m2,h2,e2⟩:=hps p hp
   rw [e] at e2
   cases e2
   exact h2
  have no:∀ p ∈ ps,p.man ≠ none:=fun p hp e=>by
   obtain ⟨_,m2,h2,e2⟩:=hps p hp
   rw [e] at e2
   cases e2
  unfold a6W
  walk_at "ax"
  refine a1b hd (by decide) (by decide) rfl fun k a1 b1 l1 u1 hd1=>?_
  walk_at "ax"
  split
  ·refine a1b hd1 (by omega) (by omega) rfl fun da a2 b2 l2 u2 hd2=>?_
   walk_at "ax"
   walk_at "bw"
   refine a1b hd2 (by decide) (by decide) rfl fun k2 a3 b3 l3 u3 hd3=>?_
   walk_at "ao"
   generalize hmn:(if 9 < da then (9:Int) else da) = mn
   obtain ⟨z,hz,ez⟩:=a2L (xs:=[m9 1,m9 (mn + 1),m9 (da + 1)]) l3 (by simpa using u3)
   rw [ez]
   obtain ⟨m,rfl,hm2⟩:∃ t:Int,z = .int t ∧ 1 ≤ t ∧ t ≤ da + 1:=by
    have:0 ≤ mn ∧ mn ≤ da:=by subst hmn; split <;> omega
    simp at hz
    rcases hz with rfl | rfl | rfl <;> exact ⟨_,rfl,by omega,by omega⟩
   walk_at "ax"
   refine a1b hd3 (by omega) (by omega) rfl fun k3 a4 b4 l4 u4 hd4=>?_
   walk_at "ax"
   refine ⟨by omega,?_⟩
   have e:ps.map Pg.d ++ [a3f [.str "lost",.int da,.int (da - k3)]] = (ps ++ [Pg.lost da (da - k3)]).map Pg.d:=by simp [Pg.d,AqB.tupD,Pg.k,kD]
   rw [e]
   refine c4B (A:=A) (crew:=done) ?_ (by simp; omega) ?_ ?_ ?_ hd4 h
   ·intro p hp
    rcases v0.mp hp with hp | hp
    ·exact hok p hp
    ·simp at hp
     subst hp
     exact ⟨⟨by omega,by omega⟩,by omega,by omega⟩
   ·intro p hp m e
    rcases v0.mp hp with hp | hp
    ·exact men p hp m e
    ·simp at hp
     subst hp
     cases e
   ·intro m hm
    obtain ⟨p,hp,e⟩:=hdn m hm
    exact ⟨p,a0E _ hp,e⟩
   ·intro p hp q hq e1 e2
    have f:∀ p ∈ ps ++ [Pg.lost da (da - k3)],p.man = none → p = Pg.lost da (da - k3):=by
     intro p hp e
     rcases v0.mp hp with hp | hp
     ·exact absurd e (no p hp)
     ·simpa using hp
    rw [f p hp e1,f q hq e2]
  ·exact c4B (A:=A) (crew:=done) hok (by omega) men hdn (fun p hp q hq e1=>absurd e1 (no p hp)) hd1 h
def a5f:List Str:=["draws", "crew", "articles"]
def a8i (w:i3) (K:b0):TS :=
 (a0P (a3w (r6 (spOf K a0e) [] E0 (d4 (g9 0) (d4 (tOp (a0U K) (tC (.int 1)) (r6 (spOf K d5) [] E0 (d4 (g9 0) (d4 (tC (.int 3)) p7)))) p7))) (v4 1))
 (a0P (a3w (r6 (spOf K a03) [] E0 (d4 (g9 0) (d4 (tC (.int 60)) p7))) (v4 2))
 (a3p (d5n (d4 (g9 2) (d4 (r6 (spOf K a16) [] E0 (d4 (g9 0) (d4 (g9 2) (d4 (g9 1) (d4 (tC (.int 40)) (d4 (tC (.int 12)) (d4 (tC (.int 6)) p7))))))) (d4 (g9 1) p7)))))))
def a3B:ASt :=
 (a0t (a2T 1 (m7 a0e (d3 (i4 0) (d3 (aOp a3i (aC (.int 1)) (m7 d5 (d3 (i4 0) (d3 (aC (.int 3)) n9)))) n9))))
 (a0t (a2T 2 (m7 a03 (d3 (i4 0) (d3 (aC (.int 60)) n9))))
 (a2r (b8J (d3 (i4 2) (d3 (m7 a16 (d3 (i4 0) (d3 (i4 2) (d3 (i4 1) (d3 (aC (.int 40)) (d3 (aC (.int 12)) (d3 (aC (.int 6)) n9))))))) (d3 (i4 1) n9)))))))
theorem b3T {w:i3} {K:b0} (W:WX):SS K W (a8i w K) a3B :=
 (j9 (y9 (j4 (c7 c8 (c7 (g6 a0k d6 (j4 (c7 c8 (c7 d6 d9)))) d9))))
 (j9 (y9 (j4 (c7 c8 (c7 d6 d9))))
 (t7 (a4j (c7 c8 (c7 (j4 (c7 c8 (c7 c8 (c7 c8 (c7 d6 (c7 d6 (c7 d6 d9))))))) (c7 c8 d9)))))))
def bookD (A:Art) (ps:List Pg) (crew:List Str):c9:=.tuple [A.d,.list (ps.map Pg.d),.list (crew.map .str)]
structure CrewOk (crew:List Str):Prop where
 few:1 ≤ crew.length ∧ crew.length ≤ 3
 nm:∀ x ∈ crew,w7 x = true
 up:crew.Pairwise sLt
 l4:∀ x ∈ crew,x.length ≠ 4
def a08:Ct:=fun ρ P _=>∃ a b,ρ = [.ml (some 0) [.int a,.int b]] ∧ Dw a b ∧
 ∀ (A:Art) (ps:List Pg) (crew:List Str) a' b' ρ',ArtG 1000000000 A → BookOk A ps crew → CrewOk crew → Dw a' b' → a9L ρ' 0 = some (.ml (some 0) [.int a',.int b']) → P (.dat (bookD A ps crew)) ρ'
theorem ArtG.mono {g g':Int} {A:Art} (h:ArtG g A) (l:g ≤ g'):ArtG g' A:=⟨h.ok,h.rl,h.cl,fun r hr=>(h.rp r hr).imp id fun z=>by omega,h.rd,h.mo,h.cp⟩
theorem b1Y (ρ:List AV) (P:RV → List AV → Prop) (PX:PXT) (h:a08 ρ P PX):ρ.length = 1:=by
 obtain ⟨_,_,rfl,_⟩:=h
 rfl
theorem b05 (ρ:List AV) (P:RV → List AV → Prop) (PX:PXT) (h:a08 ρ P PX):a3B { nx:=fun ρ'=>P (.dat .none) ρ',rt:=P,ex:=PX } (ρ ++ f7 (a5f.length - ρ.length) .un):=by
 have eN:a5f.length = 3:=rfl
 obtain ⟨a,b,rfl,hd,h⟩:=h
 unfold a3B
 simp only [eN]
 walk_at "ax"
 refine a1b hd (by decide) (by decide) rfl fun k a1 b1 l1 u1 hd1=>?_
 walk_at "ax"
 refine d1M hd1 (by omega) (by omega) rfl fun crew a2 b2 e1 e2 e3 e4 hd2=>?_
 walk_at "ax"
 refine ⟨a2,b2,60,rfl,hd2,by decide,by decide,fun A a3 b3 ρ' hA hd3 ho=>?_⟩
 rw [a60,a1U ho]
 walk_at "ax"
 walk_at "fw"
 refine ⟨a3,b3,40,12,6,A,crew,rfl,hd3,hA.ok,by omega,by omega,e2,by decide,by decide,by decide,by decide,by decide,by decide,fun ps a4 b4 ρ' hB hd4 ho=>?_⟩
 rw [b2b,a1U ho]
 walk_at "ax"
 exact h A ps crew a4 b4 _ (hA.mono (by decide)) hB ⟨⟨by omega,by omega⟩,e2,e3,e4⟩ hd4 rfl
end Cw
namespace Cw
open PySem L2 Aq
local macro_rules | `(tactic| walk_at "ao")=>`(tactic| simp_all? [a1n])
local macro_rules | `(tactic| walk_at "ax")=>`(tactic| simp? [a1n])
local macro_rules | `(tactic| walk_at "fw")=>`(tactic| (refine a48 ?_; walk_at "ax"))
def a5M:List Str:=["draws", "crew", "great", "articles", "far"]
def a8S (w:i3) (K:b0):TS :=
 (a0P (a3w (r6 (spOf K a0e) [] E0 (d4 (g9 0) (d4 (tOp (a0U K) (tC (.int 1)) (r6 (spOf K d5) [] E0 (d4 (g9 0) (d4 (tC (.int 3)) p7)))) p7))) (v4 1))
 (a0P (a3w (tOp (rIx K) (b1C (d4 (tC (.int 60)) (d4 (tOp a4J (tC (.int 10)) (tC (.int 6))) (d4 (tOp a4J (tC (.int 10)) (tC (.int 6))) p7)))) (r6 (spOf K d5) [] E0 (d4 (g9 0) (d4 (tC (.int 3)) p7)))) (v4 2))
 (a0P (a3w (r6 (spOf K a03) [] E0 (d4 (g9 0) (d4 (tOp (rIx K) (b1C (d4 (g9 2) (d4 (tOp a4J (tC (.int 10)) (tC (.int 9))) p7))) (r6 (spOf K d5) [] E0 (d4 (g9 0) (d4 (tC (.int 2)) p7)))) p7))) (v4 3))
 (a0P (a3w (tOp (rIx K) (b1C (d4 (tC (.int 40)) (d4 (tOp a4J (tC (.int 10)) (tC (.int 4))) (d4 (tOp a4J (tC (.int 10)) (tC (.int 6))) (d4 (tOp a4J (tC (.int 10)) (tC (.int 12))) p7))))) (r6 (spOf K d5) [] E0 (d4 (g9 0) (d4 (tC (.int 4)) p7)))) (v4 4))
 (a3p (d5n (d4 (g9 3) (d4 (r6 (spOf K a16) [] E0 (d4 (g9 0) (d4 (g9 3) (d4 (g9 1) (d4 (g9 4) (d4 (g9 2) (d4 (tC (.int 8)) p7))))))) (d4 (g9 1) p7)))))))))
def a4b:ASt :=
 (a0t (a2T 1 (m7 a0e (d3 (i4 0) (d3 (aOp a3i (aC (.int 1)) (m7 d5 (d3 (i4 0) (d3 (aC (.int 3)) n9)))) n9))))
 (a0t (a2T 2 (aOp gIx (a49 (d3 (aC (.int 60)) (d3 (aOp b2N (aC (.int 10)) (aC (.int 6))) (d3 (aOp b2N (aC (.int 10)) (aC (.int 6))) n9)))) (m7 d5 (d3 (i4 0) (d3 (aC (.int 3)) n9)))))
 (a0t (a2T 3 (m7 a03 (d3 (i4 0) (d3 (aOp gIx (a49 (d3 (i4 2) (d3 (aOp b2N (aC (.int 10)) (aC (.int 9))) n9))) (m7 d5 (d3 (i4 0) (d3 (aC (.int 2)) n9)))) n9))))
 (a0t (a2T 4 (aOp gIx (a49 (d3 (aC (.int 40)) (d3 (aOp b2N (aC (.int 10)) (aC (.int 4))) (d3 (aOp b2N (aC (.int 10)) (aC (.int 6))) (d3 (aOp b2N (aC (.int 10)) (aC (.int 12))) n9))))) (m7 d5 (d3 (i4 0) (d3 (aC (.int 4)) n9)))))
 (a2r (b8J (d3 (i4 3) (d3 (m7 a16 (d3 (i4 0) (d3 (i4 3) (d3 (i4 1) (d3 (i4 4) (d3 (i4 2) (d3 (aC (.int 8)) n9))))))) (d3 (i4 1) n9)))))))))
theorem b5p {w:i3} {K:b0} (W:WX):SS K W (a8S w K) a4b :=
 (j9 (y9 (j4 (c7 c8 (c7 (g6 a0k d6 (j4 (c7 c8 (c7 d6 d9)))) d9))))
 (j9 (y9 (g6 y8 (a0T (c7 d6 (c7 (g6 a2q d6 d6) (c7 (g6 a2q d6 d6) d9)))) (j4 (c7 c8 (c7 d6 d9)))))
 (j9 (y9 (j4 (c7 c8 (c7 (g6 y8 (a0T (c7 c8 (c7 (g6 a2q d6 d6) d9))) (j4 (c7 c8 (c7 d6 d9)))) d9))))
 (j9 (y9 (g6 y8 (a0T (c7 d6 (c7 (g6 a2q d6 d6) (c7 (g6 a2q d6 d6) (c7 (g6 a2q d6 d6) d9))))) (j4 (c7 c8 (c7 d6 d9)))))
 (t7 (a4j (c7 c8 (c7 (j4 (c7 c8 (c7 c8 (c7 c8 (c7 c8 (c7 c8 (c7 d6 d9))))))) (c7 c8 d9)))))))))
def a2k:Ct:=a08
theorem b23 (ρ:List AV) (P:RV → List AV → Prop) (PX:PXT) (h:a2k ρ P PX):ρ.length = 1:=by
 obtain ⟨_,_,rfl,_⟩:=h
 rfl
theorem b16 (ρ:List AV) (P:RV → List AV → Prop) (PX:PXT) (h:a2k ρ P PX):a4b { nx:=fun ρ'=>P (.dat .none) ρ',rt:=P,ex:=PX } (ρ ++ f7 (a5M.length - ρ.length) .un):=by
 have eN:a5M.length = 5:=rfl
 obtain ⟨a,b,rfl,hd,h⟩:=h
 unfold a4b
 simp only [eN]
 walk_at "ax"
 refine a1b hd (by decide) (by decide) rfl fun k a1 b1 l1 u1 hd1=>?_
 walk_at "ax"
 refine d1M hd1 (by omega) (by omega) rfl fun crew a2 b2 e1 e2 e3 e4 hd2=>?_
 walk_at "ax"
 refine ⟨a51 (by decide) (by decide) (by decide),a1b hd2 (by decide) (by decide) rfl fun k2 a3 b3 l3 u3 hd3=>?_⟩
 obtain ⟨z,hz,ez⟩:=a2L (xs:=[m9 60,m9 1000000,m9 1000000]) l3 (by simpa using u3)
 walk_at "ao"
 rw [ez]
 obtain ⟨great,rfl,hg⟩:∃ t:Int,z = .int t ∧ 1 ≤ t ∧ t ≤ 1000000:=by
  simp at hz
  rcases hz with rfl | rfl <;> exact ⟨_,rfl,by omega,by omega⟩
 walk_at "ax"
 refine ⟨a51 (by decide) (by decide) (by decide),a1b hd3 (by decide) (by decide) rfl fun k3 a4 b4 l4 u4 hd4=>?_⟩
 obtain ⟨z,hz,ez⟩:=a2L (xs:=[m9 great,m9 1000000000]) l4 (by simpa using u4)
 walk_at "ao"
 rw [ez]
 obtain ⟨gr,rfl,hgr⟩:∃ t:Int,z = .int t ∧ 1 ≤ t ∧ t ≤ 1000000000:=by
  simp at hz
  rcases hz with rfl | rfl <;> exact ⟨_,rfl,by omega,by omega⟩
 walk_at "ax"
 refine ⟨a4,b4,gr,rfl,hd4,by omega,by omega,fun A a5 b5 ρ' hA hd5 ho=>?_⟩
 rw [a60,a1U ho]
 walk_at "ax"
 refine ⟨a51 (by decide) (by decide) (by decide),a51 (by decide) (by decide) (by decide),a51 (by decide) (by decide) (by decide),a1b hd5 (by decide) (by decide) rfl fun k4 a6 b6 l6 u6 hd6=>?_⟩
 obtain ⟨z,hz,ez⟩:=a2L (xs:=[m9 40,m9 10000,m9 1000000,m9 1000000000000]) l6 (by simpa using u6)
 walk_at "ao"
 rw [ez]
 obtain ⟨far,rfl,hf⟩:∃ t:Int,z = .int t ∧ 0 ≤ t ∧ t ≤ 1000000000000:=by
  simp at hz
  rcases hz with rfl | rfl | rfl | rfl <;> exact ⟨_,rfl,by omega,by omega⟩
 walk_at "ax"
 walk_at "fw"
 refine ⟨a6,b6,far,great,8,A,crew,rfl,hd6,hA.ok,by omega,by omega,e2,by omega,by omega,by omega,by omega,by decide,by decide,fun ps a4 b4 ρ' hB hd4 ho=>?_⟩
 rw [b2b,a1U ho]
 walk_at "ax"
 exact h A ps crew a4 b4 _ (hA.mono (by omega)) hB ⟨⟨by omega,by omega⟩,e2,e3,e4⟩ hd4 rfl
def b0J:List Str:=["draws"]
def b2s (w:i3) (K:b0):TS :=
 (a3p (r6 (spOf K a2k) [] E0 (d4 (g9 0) p7)))
def a7F:ASt :=
 (a2r (m7 a2k (d3 (i4 0) n9)))
theorem b9a {w:i3} {K:b0} (W:WX):SS K W (b2s w K) a7F :=
 (t7 (j4 (c7 c8 d9)))
def b7P (w:i3) (K:b0):TS :=
 (a0P (a6h (a1e (tOp (c5O K) (r6 (spOf K d5) [] E0 (d4 (g9 0) (d4 (tC (.int 2)) p7))) (tC (.int 0)))) (a3p (r6 (spOf K a08) [] E0 (d4 (g9 0) p7))) a15)
 (b2s w K))
def a7E:ASt :=
 (a0t (sIf (a3Z (aOp gEq (m7 d5 (d3 (i4 0) (d3 (aC (.int 2)) n9))) (aC (.int 0)))) (a2r (m7 a08 (d3 (i4 0) n9))) a1m)
 a7F)
theorem c4Q {w:i3} {K:b0} (W:WX):SS K W (b7P w K) a7E :=
 (j9 (a05 (t8 (g6 a4s (j4 (c7 c8 (c7 d6 d9))) d6)) (t7 (j4 (c7 c8 d9))) y0)
 (b9a  W))
def a4G:Ct:=a08
theorem c2m (ρ:List AV) (P:RV → List AV → Prop) (PX:PXT) (h:a4G ρ P PX):ρ.length = 1:=by
 obtain ⟨_,_,rfl,_⟩:=h
 rfl
theorem b83 (ρ:List AV) (P:RV → List AV → Prop) (PX:PXT) (h:a4G ρ P PX):a7E { nx:=fun ρ'=>P (.dat .none) ρ',rt:=P,ex:=PX } (ρ ++ f7 (b0J.length - ρ.length) .un):=by
 have eN:b0J.length = 1:=rfl
 obtain ⟨a,b,rfl,hd,h⟩:=h
 unfold a7E
 simp only [eN]
 walk_at "ax"
 refine a1b hd (by decide) (by decide) rfl fun k a1 b1 l1 u1 hd1=>?_
 walk_at "ax"
 split
 ·refine ⟨a1,b1,rfl,hd1,fun A ps crew a2 b2 ρ' hA hB hC hd2 ho=>?_⟩
  rw [a60,a1U ho]
  walk_at "ax"
  exact h A ps crew a2 b2 _ hA hB hC hd2 rfl
 ·unfold a7F
  walk_at "ax"
  refine ⟨a1,b1,rfl,hd1,fun A ps crew a2 b2 ρ' hA hB hC hd2 ho=>?_⟩
  rw [a60,a1U ho]
  walk_at "ax"
  exact h A ps crew a2 b2 _ hA hB hC hd2 rfl
end Cw
namespace Cw
open PySem L2 Aq
local macro_rules | `(tactic| walk_at "ax")=>`(tactic| simp? [a1n])
def leI:c9 → c9 → Bool
 | .int a,.int b=>decide (a ≤ b)
 | _,_=>false
def a52 (A:Art):c9 → Bool
 | .str s=>decide (s ∈ A.ranks.map (·.1))
 | _=>false
def a4r (d:c9):Bool:=a0B d 0 1000000000000
def pgL (A:Art) (w:Str) (x y:c9):List c9 → Bool
 | []=>if w = "lost" then a4r x && (a4r y && leI y x) else if w = "leaves" then w4 x && a4r y else false
 | [z]=>if w = "joins" ∨ w = "ranked" then w4 x && (a4r y && a52 A z) else if w = "away" then w4 x && (a4r y && (a4r z && leI y z)) else if w = "fine" then w4 x && (a4r y && a0B z 1 1000000000) else false
 | [z,u]=>if w = "advance" ∨ w = "slops" then w4 x && (a4r y && (a0B z 1 1000000000 && w4 u)) else false
 | [z,u,v]=>if w = "home" then w4 x && (a4r y && (a0B z 1 1000000000 && (a0B u 1 1000000 && w4 v))) else false
 | _=>false
def a5k (A:Art):c9 → Bool
 | .tuple (.str w :: x :: y :: r)=>pgL A w x y r
 | _=>false
def LEN:List (Str × Int):=[("joins",4),("ranked",4),("leaves",3),("away",4),("advance",5),("home",6),("slops",5),("fine",4),("lost",3)]
/-- the nine words -/
inductive Word:Str → Nat → Prop
 | joins:Word "joins" 1
 | ranked:Word "ranked" 1
 | leaves:Word "leaves" 0
 | away:Word "away" 1
 | advance:Word "advance" 2
 | home:Word "home" 3
 | slops:Word "slops" 2
 | fine:Word "fine" 1
 | lost:Word "lost" 0
theorem c1b (w:Str):(∃ n,Word w n ∧ b72 LEN w = some ((n:Int) + 3)) ∨ (b72 LEN w = none ∧ ∀ n,¬ Word w n):=by
 by_cases h1:w = "joins"
 ·subst h1; exact .inl ⟨_,.joins,by simp [b72,LEN,p9]⟩
 by_cases h2:w = "ranked"
 ·subst h2; exact .inl ⟨_,.ranked,by simp [b72,LEN,p9]⟩
 by_cases h3:w = "leaves"
 ·subst h3; exact .inl ⟨_,.leaves,by simp [b72,LEN,p9]⟩
 by_cases h4:w = "away"
 ·subst h4; exact .inl ⟨_,.away,by simp [b72,LEN,p9]⟩
 by_cases h5:w = "advance"
 ·subst h5; exact .inl ⟨_,.advance,by simp [b72,LEN,p9]⟩
 by_cases h6:w = "home"
 ·subst h6; exact .inl ⟨_,.home,by simp [b72,LEN,p9]⟩
 by_cases h7:w = "slops"
 ·subst h7; exact .inl ⟨_,.slops,by simp [b72,LEN,p9]⟩
 by_cases h8:w = "fine"
 ·subst h8; exact .inl ⟨_,.fine,by simp [b72,LEN,p9]⟩
 by_cases h9:w = "lost"
 ·subst h9; exact .inl ⟨_,.lost,by simp [b72,LEN,p9]⟩
 refine .inr ⟨?_,fun n h=>?_⟩
 ·simp only [b72,LEN,d8n,List.find?_eq_none]
  intro p hp
  simp at hp
  simp only [decide_eq_true_eq]
  rcases hp with rfl | rfl | rfl | rfl | rfl | rfl | rfl | rfl | rfl <;> exact fun e=>absurd e.symm (by assumption)
 ·cases h <;> contradiction
theorem d1W {A:Art} {w:Str} {x y:c9} {r:List c9} (h:∀ n,Word w n → n ≠ r.length):pgL A w x y r = false:=by
 have k:∀ z n,Word z n → n = r.length → w ≠ z:=fun z n hz hn e=>by subst e; exact h n hz hn
 match r,k with
 | [],k =>
  have k1:=k _ _ .lost rfl
  have k2:=k _ _ .leaves rfl
  simp [pgL,k1,k2]
 | [z],k =>
  have k1:=k _ _ .joins rfl
  have k2:=k _ _ .ranked rfl
  have k3:=k _ _ .away rfl
  have k4:=k _ _ .fine rfl
  simp [pgL,k1,k2,k3,k4]
 | [z,u],k =>
  have k1:=k _ _ .advance rfl
  have k2:=k _ _ .slops rfl
  simp [pgL,k1,k2]
 | [z,u,v],k =>
  have k1:=k _ _ .home rfl
  simp [pgL,k1]
 | _ :: _ :: _ :: _ :: _,k=>rfl
def c14:List Str:=["thing"]
def c8E (w:i3) (K:b0):TS :=
 (a3p (r6 (spOf K z8) [] E0 (d4 (g9 0) (d4 (tC (.int 0)) (d4 (tC (.int 1000000000000)) p7)))))
def b52:ASt :=
 (a2r (m7 z8 (d3 (i4 0) (d3 (aC (.int 0)) (d3 (aC (.int 1000000000000)) n9)))))
theorem d2i {w:i3} {K:b0} (W:WX):SS K W (c8E w K) b52 :=
 (t7 (j4 (c7 c8 (c7 d6 (c7 d6 d9)))))
def a3E:Ct:=fun ρ P _=>∃ d,ρ = [.dat d] ∧ ∀ ρ',P (.dat (.bool (a4r d))) ρ'
theorem c85 (ρ:List AV) (P:RV → List AV → Prop) (PX:PXT) (h:a3E ρ P PX):ρ.length = 1:=by
 obtain ⟨_,rfl,_⟩:=h
 rfl
theorem c6P (ρ:List AV) (P:RV → List AV → Prop) (PX:PXT) (h:a3E ρ P PX):b52 { nx:=fun ρ'=>P (.dat .none) ρ',rt:=P,ex:=PX } (ρ ++ f7 (c14.length - ρ.length) .un):=by
 have eN:c14.length = 1:=rfl
 obtain ⟨d,rfl,h⟩:=h
 unfold b52
 simp only [eN]
 walk_at "ax"
 refine ⟨d,_,_,rfl,fun ρ'=>?_⟩
 walk_at "ax"
 exact h _
/-- what is asked of a thing -/
def a6F (t:c9):Prop:=okD t = true ∧ t.depth ≤ 60
theorem a6F.sub {ds:List c9} (h:a6F (.tuple ds)) {d:c9} (hd:d ∈ ds):a6F d:=by
 have:=a0F.tup (b:=10000) (n:=59) ⟨h.1,h.2⟩
 have:=this.2 d hd
 exact ⟨this.1,a0y this.2 (by decide)⟩
theorem a6F.shp {d:c9} (h:a6F d):a0g d = true:=a0F.shp (b:=10000) (n:=60) h (by decide)
theorem a6F.okS {d:c9} (h:a6F d):okS d:=d5K h.1
def a19 (w:Str):List c9 → Bool
 | [z]=>a0B z 1 1000000000
 | [z,u]=>a0B z 1 1000000000 && w4 u
 | [z,u,v]=>a0B z 1 1000000000 && (a0B u 1 1000000 && w4 v)
 | _=>false
def a7B:List Str:=["page"]
def a8Y (w:i3) (K:b0):TS :=
 (a3p (tOrT K (tOp (c5O K) (tOp (rIx K) (g9 0) (tC (.int 0))) (tC (.str "fine"))) (r6 (spOf K a1S) [] E0 (d4 (tOp (rIx K) (g9 0) (tC (.int 4))) p7))))
def a20:ASt :=
 (a2r (aOrT (aOp gEq (aOp gIx (i4 0) (aC (.int 0))) (aC (.str "fine"))) (m7 a1S (d3 (aOp gIx (i4 0) (aC (.int 4))) n9))))
theorem b5v {w:i3} {K:b0} (W:WX):SS K W (a8Y w K) a20 :=
 (t7 (d5x (g6 a4s (g6 y8 c8 d6) w3) (j4 (c7 (g6 y8 c8 d6) d9))))
def a8Z (w:i3) (K:b0):TS :=
 (a0P (a6h (a1e (tOp (c5O K) (tOp (rIx K) (g9 0) (tC (.int 0))) (tC (.str "home")))) (a3p (b45 K (r6 (spOf K z8) [] E0 (d4 (tOp (rIx K) (g9 0) (tC (.int 4))) (d4 (tC (.int 1)) (d4 (tC (.int 1000000)) p7)))) (r6 (spOf K a1S) [] E0 (d4 (tOp (rIx K) (g9 0) (tC (.int 5))) p7)))) a15)
 (a8Y w K))
def a2j:ASt :=
 (a0t (sIf (a3Z (aOp gEq (aOp gIx (i4 0) (aC (.int 0))) (aC (.str "home")))) (a2r (a7D (m7 z8 (d3 (aOp gIx (i4 0) (aC (.int 4))) (d3 (aC (.int 1)) (d3 (aC (.int 1000000)) n9)))) (m7 a1S (d3 (aOp gIx (i4 0) (aC (.int 5))) n9)))) a1m)
 a20)
theorem b5w {w:i3} {K:b0} (W:WX):SS K W (a8Z w K) a2j :=
 (j9 (a05 (t8 (g6 a4s (g6 y8 c8 d6) w3)) (t7 (a23 (j4 (c7 (g6 y8 c8 d6) (c7 d6 (c7 d6 d9)))) (j4 (c7 (g6 y8 c8 d6) d9)))) y0)
 (b5v  W))
def b2z (w:i3) (K:b0):TS :=
 (a0P (a6h (c77 (a8Q K (r6 (spOf K z8) [] E0 (d4 (tOp (rIx K) (g9 0) (tC (.int 3))) (d4 (tC (.int 1)) (d4 (tC (.int 1000000000)) p7)))))) (a3p (tC (.bl false))) a15)
 (a8Z w K))
def a5z:ASt :=
 (a0t (sIf (b2M (a9I (m7 z8 (d3 (aOp gIx (i4 0) (aC (.int 3))) (d3 (aC (.int 1)) (d3 (aC (.int 1000000000)) n9)))))) (a2r (aC (.bool false))) a1m)
 a2j)
theorem b9h {w:i3} {K:b0} (W:WX):SS K W (b2z w K) a5z :=
 (j9 (a05 (a2s (a1V (j4 (c7 (g6 y8 c8 d6) (c7 d6 (c7 d6 d9)))))) (t7 a4i) y0)
 (b5w  W))
def a3a:Ct:=fun ρ P _=>∃ w x y r,ρ = [.dat (.tuple (.str w :: x :: y :: r))] ∧ a6F (.tuple (.str w :: x :: y :: r)) ∧ ((w = "fine" ∧ r.length = 1) ∨ ((w = "advance" ∨ w = "slops") ∧ r.length = 2) ∨ (w = "home" ∧ r.length = 3)) ∧ ∀ ρ',P (.dat (.bool (a19 w r))) ρ'
theorem b6Q (ρ:List AV) (P:RV → List AV → Prop) (PX:PXT) (h:a3a ρ P PX):ρ.length = 1:=by
 obtain ⟨_,_,_,_,rfl,_⟩:=h
 rfl
theorem b5m (ρ:List AV) (P:RV → List AV → Prop) (PX:PXT) (h:a3a ρ P PX):a5z { nx:=fun ρ'=>P (.dat .none) ρ',rt:=P,ex:=PX } (ρ ++ f7 (a7B.length - ρ.length) .un):=by
 have eN:a7B.length = 1:=rfl
 obtain ⟨w,x,y,r,rfl,ht,hw,h⟩:=h
 unfold a5z
 simp only [eN]
 have hz:∀ z ∈ r,a6F z:=fun z hz=>ht.sub (by simp [hz])
 have pr:∀ a b:Bool,a19 w r = (a && b) → (b = true → a = true → ∀ ρ',P (.dat (.bool true)) ρ'):=fun a b e h1 h2 ρ'=>by
  have:=h ρ'
  rw [e,h1,h2] at this
  exact this
 rcases hw with ⟨rfl,hl⟩ | ⟨hw,hl⟩ | ⟨rfl,hl⟩
 ·match r,hl with
  | [z],_ =>
   walk_at "ax"
   refine ⟨_,_,_,rfl,fun ρ'=>?_⟩
   cases e:a0B z 1 1000000000 with
   | false=>walk_at "ax"; have:=h; simp only [a19,e] at this; exact this _
   | true=>walk_at "ax"; unfold a2j; walk_at "ax"; unfold a20; walk_at "ax"; have:=h; simp only [a19,e] at this; exact this _
 ·match r,hl with
  | [z,u],_ =>
   have hu:=hz u (by simp)
   rcases hw with rfl | rfl
   ·walk_at "ax"
    refine ⟨_,_,_,rfl,fun ρ'=>?_⟩
    cases e:a0B z 1 1000000000 with
    | false=>walk_at "ax"; have:=h; simp only [a19,e] at this; exact this _
    | true=>walk_at "ax"; unfold a2j; walk_at "ax"; unfold a20; walk_at "ax"; refine ⟨_,rfl,hu.okS,fun ρ'=>?_⟩; walk_at "ax"; have:=h; simp only [a19,e,a0s] at this; exact this _
   ·walk_at "ax"
    refine ⟨_,_,_,rfl,fun ρ'=>?_⟩
    cases e:a0B z 1 1000000000 with
    | false=>walk_at "ax"; have:=h; simp only [a19,e] at this; exact this _
    | true=>walk_at "ax"; unfold a2j; walk_at "ax"; unfold a20; walk_at "ax"; refine ⟨_,rfl,hu.okS,fun ρ'=>?_⟩; walk_at "ax"; have:=h; simp only [a19,e,a0s] at this; exact this _
 ·match r,hl with
  | [z,u,v],_ =>
   have hu:=hz v (by simp)
   walk_at "ax"
   refine ⟨_,_,_,rfl,fun ρ'=>?_⟩
   cases e:a0B z 1 1000000000 with
   | false=>walk_at "ax"; have:=h; simp only [a19,e] at this; exact this _
   | true =>
    walk_at "ax"; unfold a2j; walk_at "ax"
    refine ⟨_,_,_,rfl,fun ρ'=>?_⟩
    cases e2:a0B u 1 1000000 with
    | false=>walk_at "ax"; have:=h; simp only [a19,e,e2,a0s] at this; exact this _
    | true =>
     walk_at "ax"
     refine ⟨_,rfl,hu.okS,fun ρ'=>?_⟩; walk_at "ax"; have:=h; simp only [a19,e,e2,a0s] at this; exact this _
def b1G:List Str:=["articles", "thing", "row"]
def b7R (w:i3) (K:b0) (W:WX) (ev:Str → f8):TS :=
 (a3p (r6 (spOf K a3a) [] E0 (d4 (g9 1) p7)))
def a4F (ev:Str → f8):ASt :=
 (a2r (m7 a3a (d3 (i4 1) n9)))
theorem c4S {w:i3} {K:b0} {ev:Str → f8} (a0S:IsiOk K "str") (r0:IsiOk K "tuple") (a2H:c8S K (a0J K "TURNS") ["joins", "ranked", "leaves"]) (W:WX):SS K W (b7R w K W ev) (a4F ev) :=
 (t7 (j4 (c7 c8 d9)))
def b7S (w:i3) (K:b0) (W:WX) (ev:Str → f8):TS :=
 (a0P (a6h (a1e (tOp (d4q K) (tOp (rIx K) (g9 1) (tC (.int 0))) (tC (.ref (a0J K "TURNS"))))) (a3p (tOp (d4q K) (tOp (rIx K) (g9 1) (tC (.int 3))) (tLc (c2j K (tOp (rIx K) (g9 0) (tC (.int 0)))) (v4 2) c3U (tOp (rIx K) (g9 2) (tC (.int 0))) [2]))) a15)
 (b7R w K W ev))
def a2Y (ev:Str → f8):ASt :=
 (a0t (sIf (a3Z (aOp (gIn false) (aOp gIx (i4 1) (aC (.int 0))) (aC (.tuple [.str "joins",.str "ranked",.str "leaves"])))) (a2r (aOp (gIn false) (aOp gIx (i4 1) (aC (.int 3))) (aLc (a6i (aOp gIx (i4 0) (aC (.int 0)))) [2] (gN 2) b9R (aOp gIx (i4 2) (aC (.int 0)))))) a1m)
 (a4F ev))
theorem c4T {w:i3} {K:b0} {ev:Str → f8} (a0S:IsiOk K "str") (r0:IsiOk K "tuple") (a2H:c8S K (a0J K "TURNS") ["joins", "ranked", "leaves"]) (W:WX):SS K W (b7S w K W ev) (a2Y ev) :=
 (j9 (a05 (t8 (g6 c9I (g6 y8 c8 d6) (d6o a2H))) (t7 (g6 c9I (g6 y8 c8 d6) (a6Z (a45 (g6 y8 c8 d6)) a0W a57 (g6 y8 c8 d6) (by decide)))) y0)
 (c4S  a0S r0 a2H W))
def b7T (w:i3) (K:b0) (W:WX) (ev:Str → f8):TS :=
 (a0P (a6h (a1e (tOp (c5O K) (tOp (rIx K) (g9 1) (tC (.int 0))) (tC (.str "away")))) (a3p (b45 K (r6 (spOf K a3E) [] E0 (d4 (tOp (rIx K) (g9 1) (tC (.int 3))) p7)) (tOp d11 (tOp (rIx K) (g9 1) (tC (.int 2))) (tOp (rIx K) (g9 1) (tC (.int 3)))))) a15)
 (b7S w K W ev))
def a2Z (ev:Str → f8):ASt :=
 (a0t (sIf (a3Z (aOp gEq (aOp gIx (i4 1) (aC (.int 0))) (aC (.str "away")))) (a2r (a7D (m7 a3E (d3 (aOp gIx (i4 1) (aC (.int 3))) n9)) (aOp gLe (aOp gIx (i4 1) (aC (.int 2))) (aOp gIx (i4 1) (aC (.int 3)))))) a1m)
 (a2Y ev))
theorem c4U {w:i3} {K:b0} {ev:Str → f8} (a0S:IsiOk K "str") (r0:IsiOk K "tuple") (a2H:c8S K (a0J K "TURNS") ["joins", "ranked", "leaves"]) (W:WX):SS K W (b7T w K W ev) (a2Z ev) :=
 (j9 (a05 (t8 (g6 a4s (g6 y8 c8 d6) w3)) (t7 (a23 (j4 (c7 (g6 y8 c8 d6) d9)) (g6 a3X (g6 y8 c8 d6) (g6 y8 c8 d6)))) y0)
 (c4T  a0S r0 a2H W))
def b7U (w:i3) (K:b0) (W:WX) (ev:Str → f8):TS :=
 (a0P (a6h (a1e (tOp (c5O K) (tOp (rIx K) (g9 1) (tC (.int 0))) (tC (.str "leaves")))) (a3p (tC (.bl true))) a15)
 (b7T w K W ev))
def a1Q (ev:Str → f8):ASt :=
 (a0t (sIf (a3Z (aOp gEq (aOp gIx (i4 1) (aC (.int 0))) (aC (.str "leaves")))) (a2r (aC (.bool true))) a1m)
 (a2Z ev))
theorem c4V {w:i3} {K:b0} {ev:Str → f8} (a0S:IsiOk K "str") (r0:IsiOk K "tuple") (a2H:c8S K (a0J K "TURNS") ["joins", "ranked", "leaves"]) (W:WX):SS K W (b7U w K W ev) (a1Q ev) :=
 (j9 (a05 (t8 (g6 a4s (g6 y8 c8 d6) w3)) (t7 a4i) y0)
 (c4U  a0S r0 a2H W))
def b7V (w:i3) (K:b0) (W:WX) (ev:Str → f8):TS :=
 (a0P (a6h (tOr (c77 (a8Q K (r6 (spOf K a1S) [] E0 (d4 (tOp (rIx K) (g9 1) (tC (.int 1))) p7)))) (c77 (a8Q K (r6 (spOf K a3E) [] E0 (d4 (tOp (rIx K) (g9 1) (tC (.int 2))) p7))))) (a3p (tC (.bl false))) a15)
 (b7U w K W ev))
def a7K (ev:Str → f8):ASt :=
 (a0t (sIf (aOr (b2M (a9I (m7 a1S (d3 (aOp gIx (i4 1) (aC (.int 1))) n9)))) (b2M (a9I (m7 a3E (d3 (aOp gIx (i4 1) (aC (.int 2))) n9))))) (a2r (aC (.bool false))) a1m)
 (a1Q ev))
theorem c4W {w:i3} {K:b0} {ev:Str → f8} (a0S:IsiOk K "str") (r0:IsiOk K "tuple") (a2H:c8S K (a0J K "TURNS") ["joins", "ranked", "leaves"]) (W:WX):SS K W (b7V w K W ev) (a7K ev) :=
 (j9 (a05 (a9R (a2s (a1V (j4 (c7 (g6 y8 c8 d6) d9)))) (a2s (a1V (j4 (c7 (g6 y8 c8 d6) d9))))) (t7 a4i) y0)
 (c4V  a0S r0 a2H W))
def b7W (w:i3) (K:b0) (W:WX) (ev:Str → f8):TS :=
 (a0P (a6h (a1e (tOp (c5O K) (tOp (rIx K) (g9 1) (tC (.int 0))) (tC (.str "lost")))) (a3p (b45 K (r6 (spOf K a3E) [] E0 (d4 (tOp (rIx K) (g9 1) (tC (.int 1))) p7)) (b45 K (r6 (spOf K a3E) [] E0 (d4 (tOp (rIx K) (g9 1) (tC (.int 2))) p7)) (tOp d11 (tOp (rIx K) (g9 1) (tC (.int 2))) (tOp (rIx K) (g9 1) (tC (.int 1))))))) a15)
 (b7V w K W ev))
def b0Q (ev:Str → f8):ASt :=
 (a0t (sIf (a3Z (aOp gEq (aOp gIx (i4 1) (aC (.int 0))) (aC (.str "lost")))) (a2r (a7D (m7 a3E (d3 (aOp gIx (i4 1) (aC (.int 1))) n9)) (a7D (m7 a3E (d3 (aOp gIx (i4 1) (aC (.int 2))) n9)) (aOp gLe (aOp gIx (i4 1) (aC (.int 2))) (aOp gIx (i4 1) (aC (.int 1))))))) a1m)
 (a7K ev))
theorem c4X {w:i3} {K:b0} {ev:Str → f8} (a0S:IsiOk K "str") (r0:IsiOk K "tuple") (a2H:c8S K (a0J K "TURNS") ["joins", "ranked", "leaves"]) (W:WX):SS K W (b7W w K W ev) (b0Q ev) :=
 (j9 (a05 (t8 (g6 a4s (g6 y8 c8 d6) w3)) (t7 (a23 (j4 (c7 (g6 y8 c8 d6) d9)) (a23 (j4 (c7 (g6 y8 c8 d6) d9)) (g6 a3X (g6 y8 c8 d6) (g6 y8 c8 d6))))) y0)
 (c4W  a0S r0 a2H W))
def b7X (w:i3) (K:b0) (W:WX) (ev:Str → f8):TS :=
 (a0P (a6h (a1e (tOp (rNeD K) (d2l [("joins",4),("ranked",4),("leaves",3),("away",4),("advance",5),("home",6),("slops",5),("fine",4),("lost",3)] 0 (tOp (rIx K) (g9 1) (tC (.int 0)))) (tCB (a5E K) (d4 (g9 1) p7)))) (a3p (tC (.bl false))) a15)
 (b7W w K W ev))
def b0R (ev:Str → f8):ASt :=
 (a0t (sIf (a3Z (aOp gNe (d1a [("joins",4),("ranked",4),("leaves",3),("away",4),("advance",5),("home",6),("slops",5),("fine",4),("lost",3)] 0 (aOp gIx (i4 1) (aC (.int 0)))) (aCB b6H (d3 (i4 1) n9)))) (a2r (aC (.bool false))) a1m)
 (b0Q ev))
theorem c4Y {w:i3} {K:b0} {ev:Str → f8} (a0S:IsiOk K "str") (r0:IsiOk K "tuple") (a2H:c8S K (a0J K "TURNS") ["joins", "ranked", "leaves"]) (W:WX):SS K W (b7X w K W ev) (b0R ev) :=
 (j9 (a05 (t8 (g6 b3D (d3U (g6 y8 c8 d6)) (a2l a4w (c7 c8 d9)))) (t7 a4i) y0)
 (c4X  a0S r0 a2H W))
def c48 (w:i3) (K:b0) (W:WX) (ev:Str → f8):TS :=
 (a0P (a5v (a3h (spOf K (a04 ev)) (WE W) (d4 (g9 0) p7)))
 (a0P (a6h (tOr (c77 (a8Q K (c04 K "tuple" (g9 1)))) (tOr (a1e (tOp c8w (tCB (a5E K) (d4 (g9 1) p7)) (tC (.int 3)))) (c77 (a8Q K (c04 K "str" (tOp (rIx K) (g9 1) (tC (.int 0)))))))) (a3p (tC (.bl false))) a15)
 (b7X w K W ev)))
def b1K (ev:Str → f8):ASt :=
 (a0t (a3m (a3G (a04 ev) (d3 (i4 0) n9)))
 (a0t (sIf (aOr (b2M (a9I (b9Q "tuple" (i4 1)))) (aOr (a3Z (aOp gLt (aCB b6H (d3 (i4 1) n9)) (aC (.int 3)))) (b2M (a9I (b9Q "str" (aOp gIx (i4 1) (aC (.int 0)))))))) (a2r (aC (.bool false))) a1m)
 (b0R ev)))
theorem c9Q {w:i3} {K:b0} {ev:Str → f8} (a0S:IsiOk K "str") (r0:IsiOk K "tuple") (a2H:c8S K (a0J K "TURNS") ["joins", "ranked", "leaves"]) (W:WX):SS K W (c48 w K W ev) (b1K ev) :=
 (j9 (a0R (a0G (c7 c8 d9)))
 (j9 (a05 (a9R (a2s (a1V (a4t r0 c8))) (a9R (t8 (g6 a3X (a2l a4w (c7 c8 d9)) d6)) (a2s (a1V (a4t a0S (g6 y8 c8 d6)))))) (t7 a4i) y0)
 (c4Y  a0S r0 a2H W)))
def a5V (ev:Str → f8):Ct:=fun ρ P PX=>∃ d t,ρ = [.dat d,.dat t] ∧ okD d = true ∧ a6F t ∧ (a3r d = false → ∀ ρ',PX (ev "NoArticles") none ρ') ∧ (a3r d = true → ∃ A:Art,A.Ok ∧ d = A.d ∧ ∀ ρ',P (.dat (.bool (a5k A t))) ρ')
theorem c6B (ev:Str → f8) (ρ:List AV) (P:RV → List AV → Prop) (PX:PXT) (h:a5V ev ρ P PX):ρ.length = 2:=by
 obtain ⟨_,_,rfl,_⟩:=h
 rfl
theorem c4z (ev:Str → f8) {D:AEnds} {a:AV} {w:Str} {x y:c9} {r:List c9} (ht:a6F (.tuple (.str w :: x :: y :: r))) (k1:(w4 x && a4r y) = false → ∀ ρ',D.rt (.dat (.bool false)) ρ')
  (k2:w4 x = true → a4r y = true → a1Q ev D [a,.dat (.tuple (.str w :: x :: y :: r)),.un]):a7K ev D [a,.dat (.tuple (.str w :: x :: y :: r)),.un]:=by
 have hx:a6F x:=ht.sub (by simp)
 unfold a7K
 walk_at "ax"
 refine ⟨x,rfl,hx.okS,fun ρ'=>?_⟩
 cases e1:w4 x with
 | false =>
  walk_at "ax"
  exact k1 (by rw [e1]; rfl) _
 | true =>
  walk_at "ax"
  refine ⟨y,rfl,fun ρ'=>?_⟩
  cases e2:a4r y with
  | false =>
   walk_at "ax"
   exact k1 (by rw [e1,e2]; rfl) _
  | true =>
   walk_at "ax"
   exact k2 e1 e2
theorem a1l (w:Str):b1T (.str w) = true:=rfl
local macro_rules | `(tactic| walk_at "ax")=>`(tactic| simp? [a1l])
theorem b6t (A:Art) (z:c9):((A.ranks.map a2S).map b8K).any (fun y=>j3 y z) = a52 A z:=by
 rw [y5,List.any_map]
 have e:∀ l:List (Str × Int × Int),(l.any ((fun y=>j3 y z) ∘ (b8K ∘ a2S))) = l.any fun q=>j3 (.str q.1) z:=fun l=>rfl
 rw [e]
 cases z with
 | str s =>
  rw [a52,b6e]
  simp [j3]
 | _=>simp [a52,j3]
theorem c4O {A:Art} (hA:A.Ok):a0g (.list ((A.ranks.map a2S).map b8K)) = true:=by
 refine a0F.shp (b:=100) (n:=1) (a1w (n:=0) ?_ fun e he=>?_) (by decide)
 ·have:=hA.r2
  simp
  omega
 ·obtain ⟨y,hy,rfl⟩:=e9.mp he
  obtain ⟨r,hr,rfl⟩:=e9.mp hy
  exact a2m (hA.rn r hr)
/-- a turn: joining, ranked -/
theorem c4A (ev:Str → f8) {D:AEnds} {A:Art} (hA:A.Ok) {w:Str} {x y z:c9} (hz:a6F z) (hw:w = "joins" ∨ w = "ranked") (k:∀ ρ',D.rt (.dat (.bool (a52 A z))) ρ') :
  a1Q ev D [.dat A.d,.dat (.tuple [.str w,x,y,z]),.un]:=by
 have r2:=hA.r2
 have go:a2Y ev D [.dat A.d,.dat (.tuple [.str w,x,y,z]),.un]:=by
  unfold a2Y Art.d
  rcases hw with rfl | rfl
  ·walk_at "ax"
   refine c2l (fun y'=>[.dat A.d,.dat (.tuple [.str "joins",x,y,z]),.dat y']) b8K _ _ ?_ ?_ ?_ ?_ ?_
   ·intro d _ k hk
    exact hk
   ·intro d _
    rfl
   ·intro d hd k hk
    obtain ⟨r,hr,rfl⟩:=e9.mp hd
    unfold a2S
    walk_at "ax"
    exact hk
   ·rw [a0V]
    simp
    omega
   ·rw [a0L]
    have sr:=c4O hA
    have ar:=b6t A z
    generalize (A.ranks.map a2S).map b8K = ns at sr ar ⊢
    walk_at "ax"
    refine ⟨hz.shp,sr,?_⟩
    rw [ar]
    exact k _
  ·walk_at "ax"
   refine c2l (fun y'=>[.dat A.d,.dat (.tuple [.str "ranked",x,y,z]),.dat y']) b8K _ _ ?_ ?_ ?_ ?_ ?_
   ·intro d _ k hk
    exact hk
   ·intro d _
    rfl
   ·intro d hd k hk
    obtain ⟨r,hr,rfl⟩:=e9.mp hd
    unfold a2S
    walk_at "ax"
    exact hk
   ·rw [a0V]
    simp
    omega
   ·rw [a0L]
    have sr:=c4O hA
    have ar:=b6t A z
    generalize (A.ranks.map a2S).map b8K = ns at sr ar ⊢
    walk_at "ax"
    refine ⟨hz.shp,sr,?_⟩
    rw [ar]
    exact k _
 unfold a1Q
 rcases hw with rfl | rfl
 all_goals
  walk_at "ax"
  unfold a2Z
  walk_at "ax"
  exact go
theorem c4G (ev:Str → f8) (ρ:List AV) (P:RV → List AV → Prop) (PX:PXT) (h:a5V ev ρ P PX):b1K ev { nx:=fun ρ'=>P (.dat .none) ρ',rt:=P,ex:=PX } (ρ ++ f7 (b1G.length - ρ.length) .un):=by
 have eN:b1G.length = 3:=rfl
 obtain ⟨d,t,rfl,hd,ht,h1,h2⟩:=h
 unfold b1K
 simp only [eN]
 walk_at "ax"
 refine ⟨d,rfl,hd,fun ha ρ'=>?_,fun ha ρ'=>h1 ha _⟩
 obtain ⟨A,hA,rfl,h2'⟩:=h2 ha
 clear h2
 have h2:=h2'
 clear h2'
 walk_at "ax"
 have no:∀ t,a5k A t = false → ∀ ρ',(∀ ρ',P (.dat (.bool (a5k A t))) ρ') → P (.dat (.bool false)) ρ':=fun t e ρ' h=>by
  have:=h ρ'
  rw [e] at this
  exact this
 cases t with
 | tuple ds =>
  match ds,ht,h2 with
  | [],ht,h2=>walk_at "ax"; exact no _ rfl _ h2
  | [a],ht,h2=>walk_at "ax"; exact no _ (by cases a <;> rfl) _ h2
  | [a,b],ht,h2=>walk_at "ax"; exact no _ (by cases a <;> rfl) _ h2
  | a :: x :: y :: r,ht,h2 =>
   cases a with
   | str w =>
    walk_at "ax"
    rw [if_neg (by omega)]
    unfold b0R
    walk_at "ax"
    rw [show ([(s0 "joins",4),(s0 "ranked",4),(s0 "leaves",3),(s0 "away",4),(s0 "advance",5),(s0 "home",6),(s0 "slops",5),(s0 "fine",4),(s0 "lost",3)]:List (Str × Int)) = LEN from rfl]
    rcases c1b w with ⟨n,hw,e⟩ | ⟨e,hw⟩
    ·rw [e,Option.getD_some]
     split
     ·rename_i hl
      have hl:r.length = n:=by omega
      clear e
      have k1:∀ c,(∀ ρ',P (.dat (.bool (w4 x && (a4r y && c)))) ρ') → (w4 x && a4r y) = false → ∀ ρ',P (.dat (.bool false)) ρ':=fun c h e ρ'=>by
       have:=h ρ'
       rw [← Bool.and_assoc,e,a2e] at this
       exact this
      have k2:∀ c,(∀ ρ',P (.dat (.bool (w4 x && (a4r y && c)))) ρ') → w4 x = true → a4r y = true → ∀ ρ',P (.dat (.bool c)) ρ':=fun c h e1 e2 ρ'=>by
       have:=h ρ'
       rw [e1,e2,a0s,a0s] at this
       exact this
      unfold b0Q
      cases hw with
      | joins =>
       match r,hl with
       | [z],_ =>
        have h3:∀ ρ',P (.dat (.bool (w4 x && (a4r y && a52 A z)))) ρ':=by simpa [a5k,pgL,p9,a19] using h2
        walk_at "ax"
        refine c4z ev ht (k1 _ h3) fun e1 e2=>?_
        have h4:=k2 _ h3 e1 e2
        exact c4A ev hA (ht.sub (by simp)) (.inl rfl) h4
      | ranked =>
       match r,hl with
       | [z],_ =>
        have h3:∀ ρ',P (.dat (.bool (w4 x && (a4r y && a52 A z)))) ρ':=by simpa [a5k,pgL,p9,a19] using h2
        walk_at "ax"
        refine c4z ev ht (k1 _ h3) fun e1 e2=>?_
        have h4:=k2 _ h3 e1 e2
        exact c4A ev hA (ht.sub (by simp)) (.inr rfl) h4
      | leaves =>
       match r,hl with
       | [],_ =>
        have h3:∀ ρ',P (.dat (.bool (w4 x && (a4r y && true)))) ρ':=by simpa [a5k,pgL,p9,a19] using h2
        walk_at "ax"
        refine c4z ev ht (k1 _ h3) fun e1 e2=>?_
        have h4:=k2 _ h3 e1 e2
        unfold a1Q
        walk_at "ax"
        exact h4 _
      | away =>
       match r,hl with
       | [z],_ =>
        have h3:∀ ρ',P (.dat (.bool (w4 x && (a4r y && (a4r z && leI y z))))) ρ':=by simpa [a5k,pgL,p9,a19] using h2
        walk_at "ax"
        refine c4z ev ht (k1 _ h3) fun e1 e2=>?_
        have h4:=k2 _ h3 e1 e2
        unfold a1Q
        walk_at "ax"
        unfold a2Z
        walk_at "ax"
        refine ⟨z,rfl,fun ρ'=>?_⟩
        cases e3:a4r z with
        | false =>
         rw [e3] at h4
         walk_at "ax"
         exact h4 _
        | true =>
         rw [e3] at h4
         obtain ⟨j,rfl,_⟩:=a3M e2
         obtain ⟨i,rfl,_⟩:=a3M e3
         walk_at "ax"
         exact h4 _
      | advance =>
       match r,hl with
       | [z,u],_ =>
        have h3:∀ ρ',P (.dat (.bool (w4 x && (a4r y && a19 "advance" [z,u])))) ρ':=by simpa [a5k,pgL,p9,a19] using h2
        walk_at "ax"
        refine c4z ev ht (k1 _ h3) fun e1 e2=>?_
        have h4:=k2 _ h3 e1 e2
        unfold a1Q
        walk_at "ax"
        unfold a2Z
        walk_at "ax"
        unfold a2Y
        walk_at "ax"
        unfold a4F
        walk_at "ax"
        refine ⟨_,_,_,_,rfl,ht,.inr (.inl ⟨.inl rfl,rfl⟩),fun ρ'=>?_⟩
        walk_at "ax"
        exact h4 _
      | home =>
       match r,hl with
       | [z,u,v],_ =>
        have h3:∀ ρ',P (.dat (.bool (w4 x && (a4r y && a19 "home" [z,u,v])))) ρ':=by simpa [a5k,pgL,p9,a19] using h2
        walk_at "ax"
        refine c4z ev ht (k1 _ h3) fun e1 e2=>?_
        have h4:=k2 _ h3 e1 e2
        unfold a1Q
        walk_at "ax"
        unfold a2Z
        walk_at "ax"
        unfold a2Y
        walk_at "ax"
        unfold a4F
        walk_at "ax"
        refine ⟨_,_,_,_,rfl,ht,.inr (.inr ⟨rfl,rfl⟩),fun ρ'=>?_⟩
        walk_at "ax"
        exact h4 _
      | slops =>
       match r,hl with
       | [z,u],_ =>
        have h3:∀ ρ',P (.dat (.bool (w4 x && (a4r y && a19 "slops" [z,u])))) ρ':=by simpa [a5k,pgL,p9,a19] using h2
        walk_at "ax"
        refine c4z ev ht (k1 _ h3) fun e1 e2=>?_
        have h4:=k2 _ h3 e1 e2
        unfold a1Q
        walk_at "ax"
        unfold a2Z
        walk_at "ax"
        unfold a2Y
        walk_at "ax"
        unfold a4F
        walk_at "ax"
        refine ⟨_,_,_,_,rfl,ht,.inr (.inl ⟨.inr rfl,rfl⟩),fun ρ'=>?_⟩
        walk_at "ax"
        exact h4 _
      | fine =>
       match r,hl with
       | [z],_ =>
        have h3:∀ ρ',P (.dat (.bool (w4 x && (a4r y && a19 "fine" [z])))) ρ':=by simpa [a5k,pgL,p9,a19] using h2
        walk_at "ax"
        refine c4z ev ht (k1 _ h3) fun e1 e2=>?_
        have h4:=k2 _ h3 e1 e2
        unfold a1Q
        walk_at "ax"
        unfold a2Z
        walk_at "ax"
        unfold a2Y
        walk_at "ax"
        unfold a4F
        walk_at "ax"
        refine ⟨_,_,_,_,rfl,ht,.inl ⟨rfl,rfl⟩,fun ρ'=>?_⟩
        walk_at "ax"
        exact h4 _
      | lost =>
       match r,hl with
       | [],_ =>
        have h3:∀ ρ',P (.dat (.bool (a4r x && (a4r y && leI y x)))) ρ':=by simpa [a5k,pgL,p9,a19] using h2
        walk_at "ax"
        refine ⟨x,rfl,fun ρ'=>?_⟩
        cases e2:a4r x with
        | false =>
         rw [e2] at h3
         walk_at "ax"
         exact h3 _
        | true =>
         rw [e2] at h3
         walk_at "ax"
         refine ⟨y,rfl,fun ρ'=>?_⟩
         cases e3:a4r y with
         | false =>
          rw [e3] at h3
          walk_at "ax"
          exact h3 _
         | true =>
          rw [e3] at h3
          obtain ⟨j,rfl,_⟩:=a3M e2
          obtain ⟨i,rfl,_⟩:=a3M e3
          walk_at "ax"
          exact h3 _
     ·rename_i hl
      exact no (.tuple (.str w :: x :: y :: r)) (d1W fun m hm=>by
       have:m = n:=by cases hw <;> cases hm <;> rfl
       omega) _ h2
    ·rw [e,Option.getD_none]
     rw [if_neg (by omega)]
     exact no (.tuple (.str w :: x :: y :: r)) (d1W fun m hm=>absurd hm (hw m)) _ h2
   | _ =>
    walk_at "ax"
    exact no _ rfl _ h2
 | _=>walk_at "ax"; exact no _ rfl _ h2
end Cw
namespace Cw
open PySem L2 Aq
local macro_rules | `(tactic| walk_at "ax")=>`(tactic| simp? [a1n])
theorem a5C {i:Int} (h:a5Y i):a4r (.int i) = true:=a1K.mpr h
theorem Pg.Ok.is {A:Art} {p:Pg} (h:p.Ok A):a5k A p.d = true:=by
 cases p with
 | turn w m da r =>
  obtain ⟨h1,h2,h3,h4⟩:=h
  have h4:a52 A (.str r) = true:=by rw [a52]; exact decide_eq_true h4
  have h3:=a5C h3
  simp [Pg.d,AqB.tupD,Pg.k,kD,a5k,pgL,w4,h1,h2,h3,h4]
 | leaves m da =>
  obtain ⟨h2,h3⟩:=h
  have h3:=a5C h3
  simp [Pg.d,AqB.tupD,Pg.k,kD,a5k,pgL,w4,p9,h2,h3]
 | away m da t =>
  obtain ⟨h2,h3,h4,h5⟩:=h
  have h6:=a5C (i:=t) ⟨d8O h3.1 h4,h5⟩
  have h3:=a5C h3
  simp [Pg.d,AqB.tupD,Pg.k,kD,a5k,pgL,w4,p9,leI,h2,h3,h4,h6]
 | gave w m da pe b =>
  obtain ⟨h1,h2,h3,h4,h5⟩:=h
  have h3:=a5C h3
  have h4:=a1K.mpr h4
  simp [Pg.d,AqB.tupD,Pg.k,kD,a5k,pgL,w4,p9,h1,h2,h3,h4,h5]
 | home m da pe t b =>
  obtain ⟨h2,h3,h4,h5,h6⟩:=h
  have h3:=a5C h3
  have h4:=a1K.mpr h4
  have h5:=a1K.mpr h5
  simp [Pg.d,AqB.tupD,Pg.k,kD,a5k,pgL,w4,p9,h2,h3,h4,h5,h6]
 | fine m da pe =>
  obtain ⟨h2,h3,h4⟩:=h
  have h3:=a5C h3
  have h4:=a1K.mpr h4
  simp [Pg.d,AqB.tupD,Pg.k,kD,a5k,pgL,w4,p9,h2,h3,h4]
 | lost da t =>
  obtain ⟨h3,h4,h5⟩:=h
  have h6:=a5C (i:=t) ⟨h4,d8O h5 h3.2⟩
  have h3:=a5C h3
  simp [Pg.d,AqB.tupD,Pg.k,kD,a5k,pgL,w4,p9,leI,h3,h5,h6]
theorem b3c {A:Art}:∀ {ps:List Pg},(∀ p ∈ ps,p.Ok A) → ps.Nodup → (ps.map Pg.k).Nodup
 | [],_,_=>b0H
 | p :: ps,h,nd=>by
  rw [a02] at nd
  rw [j8,a02]
  refine ⟨fun hm=>?_,b3c (fun q hq=>h q (e7 _ hq)) nd.2⟩
  obtain ⟨q,hq,e⟩:=e9.mp hm
  rw [Pg.inj (h q (e7 _ hq)) (h p f9) e] at hq
  exact nd.1 hq
theorem d4v {α:Type} [DecidableEq α] {l m:List α} (h1:l.Nodup) (h2:m.Nodup) (h:∀ x,x ∈ l ↔ x ∈ m):l.length = m.length :=
 Nat.le_antisymm (a4l h1 fun x hx=>(h x).mp hx) (a4l h2 fun x hx=>(h x).mpr hx)
end Cw
namespace Cw
open PySem L2 Aq
local macro_rules | `(tactic| walk_at "ax")=>`(tactic| simp? [a1l])
local macro_rules | `(tactic| walk_at "bm")=>`(tactic| (refine e0h ?_; walk_at "ax"))
def a4N:List Str:=["articles", "thing", "longs", "word", "row"]
def a8a (w:i3) (K:b0):TS :=
 (a3p (tOrT K (tOp (d4q K) (g9 3) (d5n (d4 (tC (.str "leaves")) (d4 (tC (.str "fine")) p7)))) (r6 (spOf K a1z) [] E0 (d4 (tOp (rIx K) (g9 1) (tUn (rU fun i=>.int (-i)) (tC (.int 1)))) p7))))
def a1t:ASt :=
 (a2r (aOrT (aOp (gIn false) (i4 3) (b8J (d3 (aC (.str "leaves")) (d3 (aC (.str "fine")) n9)))) (m7 a1z (d3 (aOp gIx (i4 1) (aUn d9m (aC (.int 1)))) n9))))
theorem b3L {w:i3} {K:b0} (a0S:IsiOk K "str") (r0:IsiOk K "tuple") (W:WX):SS K W (a8a w K) a1t :=
 (t7 (d5x (g6 c9I c8 (a4j (c7 w3 (c7 w3 d9)))) (j4 (c7 (g6 y8 c8 (d6q d2C d6)) d9))))
def a8b (w:i3) (K:b0):TS :=
 (a0P (a6h (tAnd (a1e (tOp (c5O K) (g9 3) (tC (.str "home")))) (c77 (a8Q K (r6 (spOf K a0m) [] E0 (d4 (tOp (rIx K) (g9 1) (tC (.int 4))) (d4 (tC (.int 1)) (d4 (tOp a4J (tC (.int 10)) (tC (.int 6))) p7))))))) (a3p (tC (.bl false))) a15)
 (a8a w K))
def a1u:ASt :=
 (a0t (sIf (d5p (a3Z (aOp gEq (i4 3) (aC (.str "home")))) (b2M (a9I (m7 a0m (d3 (aOp gIx (i4 1) (aC (.int 4))) (d3 (aC (.int 1)) (d3 (aOp b2N (aC (.int 10)) (aC (.int 6))) n9))))))) (a2r (aC (.bool false))) a1m)
 a1t)
theorem b3M {w:i3} {K:b0} (a0S:IsiOk K "str") (r0:IsiOk K "tuple") (W:WX):SS K W (a8b w K) a1u :=
 (j9 (a05 (c1a (t8 (g6 a4s c8 w3)) (a2s (a1V (j4 (c7 (g6 y8 c8 d6) (c7 d6 (c7 (g6 a2q d6 d6) d9))))))) (t7 a4i) y0)
 (b3L  a0S r0 W))
def a8c (w:i3) (K:b0):TS :=
 (a0P (a6h (tAnd (a1e (tOp (d4q K) (g9 3) (d5n (d4 (tC (.str "advance")) (d4 (tC (.str "home")) (d4 (tC (.str "slops")) (d4 (tC (.str "fine")) p7))))))) (c77 (a8Q K (r6 (spOf K a0m) [] E0 (d4 (tOp (rIx K) (g9 1) (tC (.int 3))) (d4 (tC (.int 1)) (d4 (tOp a4J (tC (.int 10)) (tC (.int 9))) p7))))))) (a3p (tC (.bl false))) a15)
 (a8b w K))
def a1v:ASt :=
 (a0t (sIf (d5p (a3Z (aOp (gIn false) (i4 3) (b8J (d3 (aC (.str "advance")) (d3 (aC (.str "home")) (d3 (aC (.str "slops")) (d3 (aC (.str "fine")) n9))))))) (b2M (a9I (m7 a0m (d3 (aOp gIx (i4 1) (aC (.int 3))) (d3 (aC (.int 1)) (d3 (aOp b2N (aC (.int 10)) (aC (.int 9))) n9))))))) (a2r (aC (.bool false))) a1m)
 a1u)
theorem b3N {w:i3} {K:b0} (a0S:IsiOk K "str") (r0:IsiOk K "tuple") (W:WX):SS K W (a8c w K) a1v :=
 (j9 (a05 (c1a (t8 (g6 c9I c8 (a4j (c7 w3 (c7 w3 (c7 w3 (c7 w3 d9))))))) (a2s (a1V (j4 (c7 (g6 y8 c8 d6) (c7 d6 (c7 (g6 a2q d6 d6) d9))))))) (t7 a4i) y0)
 (b3M  a0S r0 W))
def a8d (w:i3) (K:b0):TS :=
 (a0P (a6h (a1e (tOp (c5O K) (g9 3) (tC (.str "away")))) (a3p (r6 (spOf K a0m) [] E0 (d4 (tOp (rIx K) (g9 1) (tC (.int 3))) (d4 (tOp (rIx K) (g9 1) (tC (.int 2))) (d4 (tOp a4J (tC (.int 10)) (tC (.int 12))) p7))))) a15)
 (a8c w K))
def a07:ASt :=
 (a0t (sIf (a3Z (aOp gEq (i4 3) (aC (.str "away")))) (a2r (m7 a0m (d3 (aOp gIx (i4 1) (aC (.int 3))) (d3 (aOp gIx (i4 1) (aC (.int 2))) (d3 (aOp b2N (aC (.int 10)) (aC (.int 12))) n9))))) a1m)
 a1v)
theorem b3O {w:i3} {K:b0} (a0S:IsiOk K "str") (r0:IsiOk K "tuple") (W:WX):SS K W (a8d w K) a07 :=
 (j9 (a05 (t8 (g6 a4s c8 w3)) (t7 (j4 (c7 (g6 y8 c8 d6) (c7 (g6 y8 c8 d6) (c7 (g6 a2q d6 d6) d9))))) y0)
 (b3N  a0S r0 W))
def a8e (w:i3) (K:b0):TS :=
 (a0P (a6h (a1e (tOp (d4q K) (g9 3) (d5n (d4 (tC (.str "joins")) (d4 (tC (.str "ranked")) p7))))) (a3p (tOp (rNeD K) (tLc (c2j K (tOp (rIx K) (g9 0) (tC (.int 0)))) (v4 4) (a1e (tOp (c5O K) (tOp (rIx K) (g9 4) (tC (.int 0))) (tOp (rIx K) (g9 1) (tC (.int 3))))) (g9 4) [4]) (b1C p7))) a15)
 (a8d w K))
def a0c:ASt :=
 (a0t (sIf (a3Z (aOp (gIn false) (i4 3) (b8J (d3 (aC (.str "joins")) (d3 (aC (.str "ranked")) n9))))) (a2r (aOp gNe (aLc (a6i (aOp gIx (i4 0) (aC (.int 0)))) [4] (gN 4) (a3Z (aOp gEq (aOp gIx (i4 4) (aC (.int 0))) (aOp gIx (i4 1) (aC (.int 3))))) (i4 4)) (a49 n9))) a1m)
 a07)
theorem b3P {w:i3} {K:b0} (a0S:IsiOk K "str") (r0:IsiOk K "tuple") (W:WX):SS K W (a8e w K) a0c :=
 (j9 (a05 (t8 (g6 c9I c8 (a4j (c7 w3 (c7 w3 d9))))) (t7 (g6 b3D (a6Z (a45 (g6 y8 c8 d6)) a0W (t8 (g6 a4s (g6 y8 c8 d6) (g6 y8 c8 d6))) c8 (by decide)) (a0T d9))) y0)
 (b3O  a0S r0 W))
def a8f (w:i3) (K:b0):TS :=
 (a0P (a6h (tOr (c77 (a8Q K (r6 (spOf K a1z) [] E0 (d4 (tOp (rIx K) (g9 1) (tC (.int 1))) p7)))) (c77 (a8Q K (r6 (spOf K a0m) [] E0 (d4 (tOp (rIx K) (g9 1) (tC (.int 2))) (d4 (tC (.int 0)) (d4 (tOp a4J (tC (.int 10)) (tC (.int 12))) p7))))))) (a3p (tC (.bl false))) a15)
 (a8e w K))
def a3A:ASt :=
 (a0t (sIf (aOr (b2M (a9I (m7 a1z (d3 (aOp gIx (i4 1) (aC (.int 1))) n9)))) (b2M (a9I (m7 a0m (d3 (aOp gIx (i4 1) (aC (.int 2))) (d3 (aC (.int 0)) (d3 (aOp b2N (aC (.int 10)) (aC (.int 12))) n9))))))) (a2r (aC (.bool false))) a1m)
 a0c)
theorem b3Q {w:i3} {K:b0} (a0S:IsiOk K "str") (r0:IsiOk K "tuple") (W:WX):SS K W (a8f w K) a3A :=
 (j9 (a05 (a9R (a2s (a1V (j4 (c7 (g6 y8 c8 d6) d9)))) (a2s (a1V (j4 (c7 (g6 y8 c8 d6) (c7 d6 (c7 (g6 a2q d6 d6) d9))))))) (t7 a4i) y0)
 (b3P  a0S r0 W))
def a8g (w:i3) (K:b0):TS :=
 (a0P (a6h (a1e (tOp (c5O K) (g9 3) (tC (.str "lost")))) (a3p (b45 K (r6 (spOf K a0m) [] E0 (d4 (tOp (rIx K) (g9 1) (tC (.int 1))) (d4 (tC (.int 0)) (d4 (tOp a4J (tC (.int 10)) (tC (.int 12))) p7)))) (r6 (spOf K a0m) [] E0 (d4 (tOp (rIx K) (g9 1) (tC (.int 2))) (d4 (tC (.int 0)) (d4 (tOp (rIx K) (g9 1) (tC (.int 1))) p7)))))) a15)
 (a8f w K))
def a5i:ASt :=
 (a0t (sIf (a3Z (aOp gEq (i4 3) (aC (.str "lost")))) (a2r (a7D (m7 a0m (d3 (aOp gIx (i4 1) (aC (.int 1))) (d3 (aC (.int 0)) (d3 (aOp b2N (aC (.int 10)) (aC (.int 12))) n9)))) (m7 a0m (d3 (aOp gIx (i4 1) (aC (.int 2))) (d3 (aC (.int 0)) (d3 (aOp gIx (i4 1) (aC (.int 1))) n9)))))) a1m)
 a3A)
theorem b3R {w:i3} {K:b0} (a0S:IsiOk K "str") (r0:IsiOk K "tuple") (W:WX):SS K W (a8g w K) a5i :=
 (j9 (a05 (t8 (g6 a4s c8 w3)) (t7 (a23 (j4 (c7 (g6 y8 c8 d6) (c7 d6 (c7 (g6 a2q d6 d6) d9)))) (j4 (c7 (g6 y8 c8 d6) (c7 d6 (c7 (g6 y8 c8 d6) d9)))))) y0)
 (b3Q  a0S r0 W))
def a8h (w:i3) (K:b0):TS :=
 (a0P (a3w (tOp (rIx K) (g9 1) (tC (.int 0))) (v4 3))
 (a0P (a6h (tOr (a1e (tDNotIn (g9 3) (g9 2))) (a1e (tOp (rNeD K) (tCB (a5E K) (d4 (g9 1) p7)) (tDGet (g9 2) (g9 3))))) (a3p (tC (.bl false))) a15)
 (a8g w K)))
def a5j:ASt :=
 (a0t (a2T 3 (aOp gIx (i4 1) (aC (.int 0))))
 (a0t (sIf (aOr (a3Z (aDIn true (i4 3) (i4 2))) (a3Z (aOp gNe (aCB b6H (d3 (i4 1) n9)) (d6b (i4 2) (i4 3))))) (a2r (aC (.bool false))) a1m)
 a5i))
theorem b3S {w:i3} {K:b0} (a0S:IsiOk K "str") (r0:IsiOk K "tuple") (W:WX):SS K W (a8h w K) a5j :=
 (j9 (y9 (g6 y8 c8 d6))
 (j9 (a05 (a9R (t8 (d1k c8 c8)) (t8 (g6 b3D (a2l a4w (c7 c8 d9)) (d6l c8 c8)))) (t7 a4i) y0)
 (b3R  a0S r0 W)))
def b0i (w:i3) (K:b0):TS :=
 (a0P (a3w (tDisp (litP [("joins",4),("ranked",4),("leaves",3),("away",4),("advance",5),("home",6),("slops",5),("fine",4),("lost",3)])) (v4 2))
 (a0P (a6h (tOr (c77 (a8Q K (c04 K "tuple" (g9 1)))) (tOr (a1e (tOp (c5O K) (g9 1) (d5n p7))) (c77 (a8Q K (c04 K "str" (tOp (rIx K) (g9 1) (tC (.int 0)))))))) (a3p (tC (.bl false))) a15)
 (a8h w K)))
def a4Q:ASt :=
 (a0t (a2T 2 (d6c [("joins",4),("ranked",4),("leaves",3),("away",4),("advance",5),("home",6),("slops",5),("fine",4),("lost",3)]))
 (a0t (sIf (aOr (b2M (a9I (b9Q "tuple" (i4 1)))) (aOr (a3Z (aOp gEq (i4 1) (b8J n9))) (b2M (a9I (b9Q "str" (aOp gIx (i4 1) (aC (.int 0)))))))) (a2r (aC (.bool false))) a1m)
 a5j))
theorem b7C {w:i3} {K:b0} (a0S:IsiOk K "str") (r0:IsiOk K "tuple") (W:WX):SS K W (b0i w K) a4Q :=
 (j9 (y9 (d6m (by rfl) (by decide)))
 (j9 (a05 (a9R (a2s (a1V (a4t r0 c8))) (a9R (t8 (g6 a4s c8 (a4j d9))) (a2s (a1V (a4t a0S (g6 y8 c8 d6)))))) (t7 a4i) y0)
 (b3S  a0S r0 W)))
def a2d:Ct:=fun ρ P _=>∃ (A:Art) (t:c9),ρ = [.dat A.d,.dat t] ∧ A.Ok ∧ a6F t ∧ ∀ ρ',P (.dat (.bool (a5k A t))) ρ'
theorem b5a (ρ:List AV) (P:RV → List AV → Prop) (PX:PXT) (h:a2d ρ P PX):ρ.length = 2:=by
 obtain ⟨_,_,rfl,_⟩:=h
 rfl
theorem c6C (w:Str):∀ kvs:List (Str × Int),c3F (ukD (d7g kvs)) (.inr w) = (b72 kvs w).map m9
 | []=>rfl
 | (k,v) :: kvs=>by
  have ih:=c6C w kvs
  have e:ukD (d7g ((k,v) :: kvs)) = (.inr k,.int v) :: ukD (d7g kvs):=rfl
  rw [e]
  unfold c3F b72 at ih ⊢
  rw [a30,a30]
  by_cases hk:k = w
  ·subst hk; simp
  ·simp [hk]
   simpa using ih
theorem b4F {D:AEnds} {a m:AV} {w:Str} {x y:c9} {r:List c9} (ht:a6F (.tuple (.str w :: x :: y :: r))) (k1:(w4 x && a4r y) = false → ∀ ρ',D.rt (.dat (.bool false)) ρ')
  (k2:w4 x = true → a4r y = true → a0c D [a,.dat (.tuple (.str w :: x :: y :: r)),m,.dat (.str w),.un]):a3A D [a,.dat (.tuple (.str w :: x :: y :: r)),m,.dat (.str w),.un]:=by
 have hx:a6F x:=ht.sub (by simp)
 unfold a3A
 walk_at "ax"
 refine ⟨x,rfl,hx.1,fun ρ'=>?_⟩
 cases e1:w4 x with
 | false =>
  walk_at "ax"
  exact k1 (by rw [e1]; rfl) _
 | true =>
  walk_at "ax"
  refine ⟨a51 (by decide) (by decide) (by decide),y,0,_,rfl,fun ρ'=>?_⟩
  rw [show a0B y 0 1000000000000 = a4r y from rfl]
  cases e2:a4r y with
  | false =>
   walk_at "ax"
   exact k1 (by rw [e1,e2]; rfl) _
  | true =>
   walk_at "ax"
   exact k2 e1 e2
theorem c37 (A:Art) (z:c9):(!a1j ((A.ranks.map a2S).filter fun y=>j3 (b8K y) z) []) = a52 A z:=by
 rw [← b6t A z,List.any_map]
 generalize A.ranks.map a2S = l
 induction l with
 | nil=>simp [a1j]
 | cons y l ih =>
  rw [a2J,c3H]
  by_cases hy:j3 (b8K y) z = true
  ·simp [hy,a1j]
  ·rw [if_neg hy]
   simp [hy]
   simpa using ih
theorem d2h {A:Art} (hA:A.Ok) (z:c9):a0g (.list ((A.ranks.map a2S).filter fun y=>j3 (b8K y) z)) = true:=by
 refine a0F.shp (b:=100) (n:=2) (a1w ?_ fun e he=>?_) (by decide)
 ·have:=b6g (fun y=>j3 (b8K y) z) (A.ranks.map a2S)
  rw [g8] at this
  have:=hA.r2
  omega
 ·obtain ⟨r,hr2,rfl⟩:=e9.mp (b6i.mp he).1
  exact c39 (hA.rn r hr2)
theorem c6D {D:AEnds} {A:Art} (hA:A.Ok) {m:AV} {x y z:c9} (hz:a6F z) (k:∀ ρ',D.rt (.dat (.bool (a52 A z))) ρ') :
  a0c D [.dat A.d,.dat (.tuple [.str "joins",x,y,z]),m,.dat (.str "joins"),.un]:=by
 have r2:=hA.r2
 unfold a0c Art.d
 walk_at "ax"
 refine b6M (fun y'=>[.dat A.d,.dat (.tuple [.str "joins",x,y,z]),m,.dat (.str "joins"),.dat y']) (fun y=>j3 (b8K y) z) id _ _ ?_ ?_ ?_ ?_ ?_ ?_
 ·intro d _ k hk
  exact hk
 ·intro d _
  rfl
 ·intro d hd k hk
  obtain ⟨r,hr,rfl⟩:=e9.mp hd
  have e:b8K (a2S r) = .str r.1:=rfl
  rw [e] at hk
  unfold a2S at hk ⊢
  walk_at "ax"
  exact ⟨c6S (b3W (hA.rn r hr)),hz.shp,hk⟩
 ·intro d hd _ k hk
  walk_at "ax"
  exact hk
 ·rw [a0V]
  simp
  omega
 ·rw [a0L,d0Z]
  have f1:=c37 A z
  have f2:=d2h hA z
  generalize (A.ranks.map a2S).filter (fun y=>j3 (b8K y) z) = fs at f1 f2 ⊢
  walk_at "ax"
  refine ⟨f2,?_⟩
  rw [f1]
  exact k _
theorem c4n {D:AEnds} {A:Art} (hA:A.Ok) {m:AV} {x y z:c9} (hz:a6F z) (k:∀ ρ',D.rt (.dat (.bool (a52 A z))) ρ') :
  a0c D [.dat A.d,.dat (.tuple [.str "ranked",x,y,z]),m,.dat (.str "ranked"),.un]:=by
 have r2:=hA.r2
 unfold a0c Art.d
 walk_at "ax"
 refine b6M (fun y'=>[.dat A.d,.dat (.tuple [.str "ranked",x,y,z]),m,.dat (.str "ranked"),.dat y']) (fun y=>j3 (b8K y) z) id _ _ ?_ ?_ ?_ ?_ ?_ ?_
 ·intro d _ k hk
  exact hk
 ·intro d _
  rfl
 ·intro d hd k hk
  obtain ⟨r,hr,rfl⟩:=e9.mp hd
  have e:b8K (a2S r) = .str r.1:=rfl
  rw [e] at hk
  unfold a2S at hk ⊢
  walk_at "ax"
  exact ⟨c6S (b3W (hA.rn r hr)),hz.shp,hk⟩
 ·intro d hd _ k hk
  walk_at "ax"
  exact hk
 ·rw [a0V]
  simp
  omega
 ·rw [a0L,d0Z]
  have f1:=c37 A z
  have f2:=d2h hA z
  generalize (A.ranks.map a2S).filter (fun y=>j3 (b8K y) z) = fs at f1 f2 ⊢
  walk_at "ax"
  refine ⟨f2,?_⟩
  rw [f1]
  exact k _
theorem c9R {z:c9} {j:Int} (h:0 ≤ j):a0B z j 1000000000000 = (a4r z && leI (.int j) z):=by
 cases z with
 | int i =>
  rw [b6e]
  simp only [a4r,leI,j5,a1K,decide_eq_true_eq]
  omega
 | _=>rfl
theorem c6Y {z:c9} {j:Int} (h:j ≤ 1000000000000):a0B z 0 j = (a4r z && leI z (.int j)):=by
 cases z with
 | int i =>
  rw [b6e]
  simp only [a4r,leI,j5,a1K,decide_eq_true_eq]
  omega
 | _=>rfl
theorem b3i (ρ:List AV) (P:RV → List AV → Prop) (PX:PXT) (h:a2d ρ P PX):a4Q { nx:=fun ρ'=>P (.dat .none) ρ',rt:=P,ex:=PX } (ρ ++ f7 (a4N.length - ρ.length) .un):=by
 have eN:a4N.length = 5:=rfl
 obtain ⟨A,t,rfl,hA,ht,h⟩:=h
 unfold a4Q
 simp only [eN]
 walk_at "ax"
 have no:∀ t,a5k A t = false → ∀ ρ',(∀ ρ',P (.dat (.bool (a5k A t))) ρ') → P (.dat (.bool false)) ρ':=fun t e ρ' h=>by
  have:=h ρ'
  rw [e] at this
  exact this
 cases t with
 | tuple ds =>
  match ds,ht,h with
  | [],ht,h =>
   walk_at "ax"
   simp [a1j]
   exact no _ rfl _ h
  | a :: ds,ht,h =>
   have hs:=ht.shp
   cases a with
   | str w =>
    walk_at "ax"
    refine ⟨hs,?_⟩
    simp only [a1j,a0n,if_false]
    rw [show ([(s0 "joins",4),(s0 "ranked",4),(s0 "leaves",3),(s0 "away",4),(s0 "advance",5),(s0 "home",6),(s0 "slops",5),(s0 "fine",4),(s0 "lost",3)]:List (Str × Int)) = LEN from rfl]
    unfold a5j
    walk_at "ax"
    walk_at "bm"
    rw [c6C]
    have pno:(∀ n,Word w n → ¬ ds.length = n + 2) → a5k A (.tuple (.str w :: ds)) = false:=fun hn=>by
     match ds,hn with
     | [],_=>rfl
     | [_],_=>rfl
     | x :: y :: r,hn=>exact d1W fun n hw e=>hn n hw (by simp [e])
    rcases c1b w with ⟨n,hw,e⟩ | ⟨e,hw⟩
    ·rw [e]
     walk_at "ax"
     walk_at "bm"
     rw [c6C,e]
     walk_at "ax"
     split
     ·rename_i hl
      have hl:ds.length = n + 2:=by omega
      clear e
      match ds,hl with
      | x :: y :: r,hl =>
       have hl:r.length = n:=by simpa using hl
       have k1:∀ c,(∀ ρ',P (.dat (.bool (w4 x && (a4r y && c)))) ρ') → (w4 x && a4r y) = false → ∀ ρ',P (.dat (.bool false)) ρ':=fun c h e ρ'=>by
        have:=h ρ'
        rw [← Bool.and_assoc,e,a2e] at this
        exact this
       have k2:∀ c,(∀ ρ',P (.dat (.bool (w4 x && (a4r y && c)))) ρ') → w4 x = true → a4r y = true → ∀ ρ',P (.dat (.bool c)) ρ':=fun c h e1 e2 ρ'=>by
        have:=h ρ'
        rw [e1,e2,a0s,a0s] at this
        exact this
       unfold a5i
       cases hw with
       | joins =>
        match r,hl with
        | [z],_ =>
         have h3:∀ ρ',P (.dat (.bool (w4 x && (a4r y && a52 A z)))) ρ':=by simpa [a5k,pgL,p9,a19] using h
         walk_at "ax"
         refine b4F ht (k1 _ h3) fun e1 e2=>?_
         have h4:=k2 _ h3 e1 e2
         exact c6D hA (ht.sub (by simp)) h4
       | ranked =>
        match r,hl with
        | [z],_ =>
         have h3:∀ ρ',P (.dat (.bool (w4 x && (a4r y && a52 A z)))) ρ':=by simpa [a5k,pgL,p9,a19] using h
         walk_at "ax"
         refine b4F ht (k1 _ h3) fun e1 e2=>?_
         have h4:=k2 _ h3 e1 e2
         exact c4n hA (ht.sub (by simp)) h4
       | leaves =>
        match r,hl with
        | [],_ =>
         have h3:∀ ρ',P (.dat (.bool (w4 x && (a4r y && true)))) ρ':=by simpa [a5k,pgL,p9,a19] using h
         walk_at "ax"
         refine b4F ht (k1 _ h3) fun e1 e2=>?_
         have h4:=k2 _ h3 e1 e2
         unfold a0c
         walk_at "ax"
         unfold a07
         walk_at "ax"
         unfold a1v
         walk_at "ax"
         unfold a1u
         walk_at "ax"
         unfold a1t
         walk_at "ax"
         exact h4 _
       | away =>
        match r,hl with
        | [z],_ =>
         have h3:∀ ρ',P (.dat (.bool (w4 x && (a4r y && (a4r z && leI y z))))) ρ':=by simpa [a5k,pgL,p9,a19] using h
         walk_at "ax"
         refine b4F ht (k1 _ h3) fun e1 e2=>?_
         have h4:=k2 _ h3 e1 e2
         unfold a0c
         walk_at "ax"
         unfold a07
         walk_at "ax"
         obtain ⟨j,rfl,j0,_⟩:=a3M e2
         walk_at "ax"
         refine ⟨a51 (by decide) (by decide) (by decide),z,j,_,rfl,fun ρ'=>?_⟩
         walk_at "ax"
         rw [c9R j0]
         exact h4 _
       | advance =>
        match r,hl with
        | [z,u],_ =>
         have h3:∀ ρ',P (.dat (.bool (w4 x && (a4r y && a19 "advance" [z,u])))) ρ':=by simpa [a5k,pgL,p9,a19] using h
         walk_at "ax"
         refine b4F ht (k1 _ h3) fun e1 e2=>?_
         have h4:=k2 _ h3 e1 e2
         unfold a0c
         walk_at "ax"
         unfold a07
         walk_at "ax"
         unfold a1v
         walk_at "ax"
         refine ⟨a51 (by decide) (by decide) (by decide),z,1,_,rfl,fun ρ'=>?_⟩
         cases e3:a0B z 1 1000000000 with
         | false =>
          simp only [a19,e3,a2e] at h4
          walk_at "ax"
          exact h4 _
         | true =>
          simp only [a19,e3,a0s] at h4
          walk_at "ax"
          unfold a1u
          walk_at "ax"
          unfold a1t
          walk_at "ax"
          refine ⟨u,rfl,(ht.sub (by simp)).1,fun ρ'=>?_⟩
          walk_at "ax"
          exact h4 _
       | home =>
        match r,hl with
        | [z,u,v],_ =>
         have h3:∀ ρ',P (.dat (.bool (w4 x && (a4r y && a19 "home" [z,u,v])))) ρ':=by simpa [a5k,pgL,p9,a19] using h
         walk_at "ax"
         refine b4F ht (k1 _ h3) fun e1 e2=>?_
         have h4:=k2 _ h3 e1 e2
         unfold a0c
         walk_at "ax"
         unfold a07
         walk_at "ax"
         unfold a1v
         walk_at "ax"
         refine ⟨a51 (by decide) (by decide) (by decide),z,1,_,rfl,fun ρ'=>?_⟩
         cases e3:a0B z 1 1000000000 with
         | false =>
          simp only [a19,e3,a2e] at h4
          walk_at "ax"
          exact h4 _
         | true =>
          simp only [a19,e3,a0s] at h4
          walk_at "ax"
          unfold a1u
          walk_at "ax"
          refine ⟨a51 (by decide) (by decide) (by decide),u,1,_,rfl,fun ρ'=>?_⟩
          cases e4:a0B u 1 1000000 with
          | false =>
           simp only [e4,a2e] at h4
           walk_at "ax"
           exact h4 _
          | true =>
           simp only [e4,a0s] at h4
           walk_at "ax"
           unfold a1t
           walk_at "ax"
           refine ⟨v,rfl,(ht.sub (by simp)).1,fun ρ'=>?_⟩
           walk_at "ax"
           exact h4 _
       | slops =>
        match r,hl with
        | [z,u],_ =>
         have h3:∀ ρ',P (.dat (.bool (w4 x && (a4r y && a19 "slops" [z,u])))) ρ':=by simpa [a5k,pgL,p9,a19] using h
         walk_at "ax"
         refine b4F ht (k1 _ h3) fun e1 e2=>?_
         have h4:=k2 _ h3 e1 e2
         unfold a0c
         walk_at "ax"
         unfold a07
         walk_at "ax"
         unfold a1v
         walk_at "ax"
         refine ⟨a51 (by decide) (by decide) (by decide),z,1,_,rfl,fun ρ'=>?_⟩
         cases e3:a0B z 1 1000000000 with
         | false =>
          simp only [a19,e3,a2e] at h4
          walk_at "ax"
          exact h4 _
         | true =>
          simp only [a19,e3,a0s] at h4
          walk_at "ax"
          unfold a1u
          walk_at "ax"
          unfold a1t
          walk_at "ax"
          refine ⟨u,rfl,(ht.sub (by simp)).1,fun ρ'=>?_⟩
          walk_at "ax"
          exact h4 _
       | fine =>
        match r,hl with
        | [z],_ =>
         have h3:∀ ρ',P (.dat (.bool (w4 x && (a4r y && a19 "fine" [z])))) ρ':=by simpa [a5k,pgL,p9,a19] using h
         walk_at "ax"
         refine b4F ht (k1 _ h3) fun e1 e2=>?_
         have h4:=k2 _ h3 e1 e2
         unfold a0c
         walk_at "ax"
         unfold a07
         walk_at "ax"
         unfold a1v
         walk_at "ax"
         refine ⟨a51 (by decide) (by decide) (by decide),z,1,_,rfl,fun ρ'=>?_⟩
         cases e3:a0B z 1 1000000000 with
         | false =>
          simp only [a19,e3,a2e] at h4
          walk_at "ax"
          exact h4 _
         | true =>
          simp only [a19,e3,a0s] at h4
          walk_at "ax"
          unfold a1u
          walk_at "ax"
          unfold a1t
          walk_at "ax"
          exact h4 _
       | lost =>
        match r,hl with
        | [],_ =>
         have h3:∀ ρ',P (.dat (.bool (a4r x && (a4r y && leI y x)))) ρ':=by simpa [a5k,pgL,p9] using h
         walk_at "ax"
         refine ⟨a51 (by decide) (by decide) (by decide),x,0,_,rfl,fun ρ'=>?_⟩
         rw [show a0B x 0 1000000000000 = a4r x from rfl]
         cases e2:a4r x with
         | false =>
          rw [e2] at h3
          walk_at "ax"
          exact h3 _
         | true =>
          rw [e2] at h3
          obtain ⟨j,rfl,_,j1⟩:=a3M e2
          walk_at "ax"
          refine ⟨y,0,j,rfl,fun ρ'=>?_⟩
          walk_at "ax"
          rw [c6Y j1]
          exact h3 _
     ·rename_i hl
      refine no _ (pno fun m hm=>?_) _ h
      have:m = n:=by cases hw <;> cases hm <;> rfl
      omega
    ·rw [e]
     walk_at "ax"
     exact no _ (pno fun m hm=>absurd hm (hw m)) _ h
   | _ =>
    walk_at "ax"
    refine ⟨hs,?_⟩
    exact no _ rfl _ h
 | _ =>
  walk_at "ax"
  exact no _ rfl _ h
end Cw
namespace Cw
open PySem L2 Aq
local macro_rules | `(tactic| walk_at "ax")=>`(tactic| simp? [a1l])
local macro_rules | `(tactic| walk_at "bw")=>`(tactic| (refine a1d ?_; walk_at "ax"))
/-- a tuple of a few plain things -/
def Row6 (d:c9):Prop:=∃ es,d = .tuple es ∧ es.length ≤ 6 ∧ ∀ e ∈ es,a0F 100 0 e
theorem Row6.pg {A:Art} (hA:A.Ok) {p:Pg} (h:p.Ok A):Row6 p.d:=by
 have f:=a0F.tup (n:=0) (d1q hA h (n:=0))
 exact ⟨_,rfl,by cases p <;> simp [Pg.k],f.2⟩
theorem c8f (s:String) (h:s.toList.length ≤ 20:=by decide):a0F 100 0 (.str (s0 s)):=b1S (by rw [d1G]; omega) (b7N s)
end Cw
namespace Cw
open PySem L2 Aq
/-- a comprehension over things of a kind that changes nothing -/
theorem lcFm {α:Type} (enc:α → c9) {vs:List Nat} {g:ATg} {tt:ATx} {a:AEx} {P:RV → List AV → Prop} {ρ:List AV} (st:α → List AV) (f:α → Option c9):∀ (xs:List α) (acc:List c9)
  (_:∀ x ∈ xs,∀ k,k (st x) → g (enc x) ρ k) (_:∀ x ∈ xs,a3s (st x) vs = ρ) (_:∀ x ∈ xs,∀ k,k (f x).isSome (st x) → tt (st x) X0 k) (_:∀ x ∈ xs,∀ y,f x = some y → ∀ k,k (.dat y) (st x) → a (st x) X0 k) (_:acc.length + xs.length ≤ m8)
  (_:P (.own (.ml none (acc ++ xs.filterMap f))) ρ),c6x vs g tt a P (xs.map enc) acc ρ
 | [],acc,_,_,_,_,_,h=>by
  simp only [List.filterMap_nil,a01] at h
  exact h
 | x :: xs,acc,h1,h2,h3,h4,hz,h=>by
  have m:x ∈ x :: xs:=f9
  have ih:=fun acc hz h=>lcFm (P:=P) enc st f xs acc (fun d hd=>h1 d (e7 _ hd)) (fun d hd=>h2 d (e7 _ hd)) (fun d hd=>h3 d (e7 _ hd)) (fun d hd=>h4 d (e7 _ hd)) hz h
  rw [t4] at hz
  rw [j8]
  unfold c6x
  refine h1 x m _ (h3 x m _ ?_)
  cases hp:f x with
  | some y =>
   rw [Option.isSome_some,if_pos rfl]
   refine h4 x m y hp _ ?_
   refine ⟨by omega,?_⟩
   rw [h2 x m]
   refine ih _ (by rw [a1h]; simp; omega) ?_
   rw [c12,hp] at h
   simpa using h
  | none =>
   rw [Option.isSome_none,if_neg a9S,h2 x m]
   refine ih _ (by omega) ?_
   rw [c12,hp] at h
   exact h
theorem ints_of:∀ {ys:List Key} {ns:List Int},(∀ k,k ∈ ys → k ∈ ns.map Sum.inl) → ∃ zs:List Int,ys = zs.map .inl
 | [],_,_=>⟨[],rfl⟩
 | y :: ys,ns,h=>by
  obtain ⟨zs,rfl⟩:=ints_of (ys:=ys) (ns:=ns) fun k hk=>h k (e7 _ hk)
  obtain ⟨z,_,rfl⟩:=e9.mp (h y f9)
  exact ⟨z :: zs,rfl⟩
inductive Wd where
 | joins
 | ranked
 | leaves
 deriving DecidableEq
def Wd.s:Wd → Str
 | .joins => "joins"
 | .ranked => "ranked"
 | .leaves => "leaves"
theorem Wd.eqv (a b:Wd):j3 (.str a.s) (.str b.s) = decide (a = b):=by
 cases a <;> cases b <;> simp [Wd.s,j3,a46]
end Cw
namespace Cw
open PySem L2 Aq
local macro_rules | `(tactic| walk_at "ax")=>`(tactic| simp? [a1l])
/-- a page by its word -/
theorem Pg.Ok.cs {A:Art} {p:Pg} (h:p.Ok A) :
  (∃ m d r,p = .turn "joins" m d r ∧ w7 m = true ∧ a5Y d ∧ r ∈ A.ranks.map (·.1)) ∨
  (∃ m d r,p = .turn "ranked" m d r ∧ w7 m = true ∧ a5Y d ∧ r ∈ A.ranks.map (·.1)) ∨
  (∃ m d,p = .leaves m d ∧ w7 m = true ∧ a5Y d) ∨
  (∃ m d t,p = .away m d t ∧ w7 m = true ∧ a5Y d ∧ d ≤ t ∧ t ≤ 1000000000000) ∨
  (∃ m d c b,p = .gave "advance" m d c b ∧ w7 m = true ∧ a5Y d ∧ a7P c ∧ w7 b = true) ∨
  (∃ m d c b,p = .gave "slops" m d c b ∧ w7 m = true ∧ a5Y d ∧ a7P c ∧ w7 b = true) ∨
  (∃ m d c t b,p = .home m d c t b ∧ w7 m = true ∧ a5Y d ∧ a7P c ∧ 1 ≤ t ∧ t ≤ 1000000 ∧ w7 b = true) ∨
  (∃ m d c,p = .fine m d c ∧ w7 m = true ∧ a5Y d ∧ a7P c) ∨
  (∃ d t,p = .lost d t ∧ a5Y d ∧ 0 ≤ t ∧ t ≤ d):=by
 cases p with
 | turn w m d r =>
  rcases h with ⟨rfl | rfl,a,b,c⟩
  ·exact .inl ⟨m,d,r,rfl,a,b,c⟩
  ·exact .inr (.inl ⟨m,d,r,rfl,a,b,c⟩)
 | leaves m d=>exact .inr (.inr (.inl ⟨m,d,rfl,h.1,h.2⟩))
 | away m d t=>exact .inr (.inr (.inr (.inl ⟨m,d,t,rfl,h.1,h.2.1,h.2.2.1,h.2.2.2⟩)))
 | gave w m d c b =>
  rcases h with ⟨rfl | rfl,h1,h2,h3,h4⟩
  ·exact .inr (.inr (.inr (.inr (.inl ⟨m,d,c,b,rfl,h1,h2,h3,h4⟩))))
  ·exact .inr (.inr (.inr (.inr (.inr (.inl ⟨m,d,c,b,rfl,h1,h2,h3,h4⟩)))))
 | home m d c t b=>exact .inr (.inr (.inr (.inr (.inr (.inr (.inl ⟨m,d,c,t,b,rfl,h.1,h.2.1,h.2.2.1,h.2.2.2.1.1,h.2.2.2.1.2,h.2.2.2.2⟩))))))
 | fine m d c=>exact .inr (.inr (.inr (.inr (.inr (.inr (.inr (.inl ⟨m,d,c,rfl,h.1,h.2.1,h.2.2⟩)))))))
 | lost d t=>exact .inr (.inr (.inr (.inr (.inr (.inr (.inr (.inr ⟨d,t,rfl,h.1,h.2.1,h.2.2⟩)))))))
def a2i (ps:List Pg):c9:=.list (ps.map Pg.d)
end Cw
namespace Cw
open PySem L2 Aq
local macro_rules | `(tactic| walk_at "ax")=>`(tactic| simp? [a1l])
local macro_rules | `(tactic| walk_at "bw")=>`(tactic| (refine a1d ?_; walk_at "ax"))
local macro_rules | `(tactic| walk_at "fw")=>`(tactic| (refine a48 ?_; walk_at "ax"))
end Cw
namespace Cw
open PySem L2 Aq
local macro_rules | `(tactic| walk_at "ax")=>`(tactic| simp? [a1l,isN])
local macro_rules | `(tactic| walk_at "bw")=>`(tactic| (refine a1d ?_; walk_at "ax"))
local macro_rules | `(tactic| walk_at "fw")=>`(tactic| (refine a48 ?_; walk_at "ax"))
/-- a stint: its days and ranks -/
structure St where
 first:Int
 last:Option Int
 rs:List (Int × Str)
def dayD:Option Int → c9
 | some d=>.int d
 | none=>.none
def rkD (q:Int × Str):c9:=.tuple [.int q.1,.str q.2]
def St.d (s:St):c9:=.tuple [.int s.first,dayD s.last,.list (s.rs.map rkD)]
end Cw
namespace Cw
open PySem L2 Aq
local macro_rules | `(tactic| walk_at "ax")=>`(tactic| simp? [a1l,isN])
local macro_rules | `(tactic| walk_at "bw")=>`(tactic| (refine a1d ?_; walk_at "ax"))
local macro_rules | `(tactic| walk_at "fw")=>`(tactic| (refine a48 ?_; walk_at "ax"))
def a9k:List Str:=["pages", "page"]
def c08 (w:i3) (K:b0):TS :=
 (a3p (b57 w K (tLc (c2j K (g9 0)) (v4 1) (a1e (tOp (rNeD K) (tOp (rIx K) (g9 1) (tC (.int 0))) (tC (.str "lost")))) (tOp (rIx K) (g9 1) (tC (.int 1))) [1])))
def a9o:ASt :=
 (a2r (b51 (aLc (a6i (i4 0)) [1] (gN 1) (a3Z (aOp gNe (aOp gIx (i4 1) (aC (.int 0))) (aC (.str "lost")))) (aOp gIx (i4 1) (aC (.int 1))))))
theorem c6W {w:i3} {K:b0} (W:WX):SS K W (c08 w K) a9o :=
 (t7 (b94 (a6Z (a45 c8) a0W (t8 (g6 b3D (g6 y8 c8 d6) w3)) (g6 y8 c8 d6) (by decide))))
def d0S (ps:List Pg):List Str:=ps.filterMap Pg.man
def a4H:Ct:=fun ρ P _=>∃ (A:Art) (ps:List Pg),ρ = [.dat (a2i ps)] ∧ (∀ p ∈ ps,p.Ok A) ∧ ps.length ≤ 200 ∧ ∀ (zs:List Str) ρ',zs.Pairwise sLt → (∀ z,z ∈ zs ↔ z ∈ d0S ps) → P (.own (.ml none (zs.map .str))) ρ'
theorem c4j (ρ:List AV) (P:RV → List AV → Prop) (PX:PXT) (h:a4H ρ P PX):ρ.length = 1:=by
 obtain ⟨_,_,rfl,_⟩:=h
 rfl
theorem b9S (ns:List Str):a12 (ns.map .str):=by
 intro x hx y hy
 obtain ⟨a,_,rfl⟩:=e9.mp hx
 obtain ⟨b,_,rfl⟩:=e9.mp hy
 rfl
theorem d4d {A:Art} {ps:List Pg} (h:∀ p ∈ ps,p.Ok A) {z:Str} (hz:z ∈ d0S ps):w7 z = true:=by
 obtain ⟨p,hp,e⟩:=List.mem_filterMap.mp hz
 rcases Pg.Ok.cs (h p hp) with ⟨m2,d,r,rfl,n1,d1,r1⟩ | ⟨m2,d,r,rfl,n1,d1,r1⟩ | ⟨m2,d,rfl,n1,d1⟩ | ⟨m2,d,t,rfl,n1,d1,t1,t2⟩ | ⟨m2,d,c,b,rfl,n1,d1,c1,b1⟩ | ⟨m2,d,c,b,rfl,n1,d1,c1,b1⟩ | ⟨m2,d,c,t,b,rfl,n1,d1,c1,t1,t2,b1⟩ | ⟨m2,d,c,rfl,n1,d1,c1⟩ | ⟨d,t,rfl,d1,t1,t2⟩
 all_goals cases e
 all_goals exact n1
theorem c2s (ps:List Pg):(d0S ps).length ≤ ps.length:=List.length_filterMap_le ..
theorem c2F (ρ:List AV) (P:RV → List AV → Prop) (PX:PXT) (h:a4H ρ P PX):a9o { nx:=fun ρ'=>P (.dat .none) ρ',rt:=P,ex:=PX } (ρ ++ f7 (a9k.length - ρ.length) .un):=by
 have eN:a9k.length = 2:=rfl
 obtain ⟨A,ps,rfl,hok,few,h⟩:=h
 unfold a9o a2i
 simp only [eN]
 walk_at "ax"
 refine lcFm Pg.d (fun p=>[.dat (.list (ps.map Pg.d)),.dat p.d]) (fun p=>(Pg.man p).map .str) _ _ ?_ ?_ ?_ ?_ ?_ ?_
 ·intro p _ k hk
  exact hk
 ·intro p _
  rfl
 ·intro p hp k hk
  rcases Pg.Ok.cs (hok p hp) with ⟨m2,d,r,rfl,n1,d1,r1⟩ | ⟨m2,d,r,rfl,n1,d1,r1⟩ | ⟨m2,d,rfl,n1,d1⟩ | ⟨m2,d,t,rfl,n1,d1,t1,t2⟩ | ⟨m2,d,c,b,rfl,n1,d1,c1,b1⟩ | ⟨m2,d,c,b,rfl,n1,d1,c1,b1⟩ | ⟨m2,d,c,t,b,rfl,n1,d1,c1,t1,t2,b1⟩ | ⟨m2,d,c,rfl,n1,d1,c1⟩ | ⟨d,t,rfl,d1,t1,t2⟩
  all_goals
   simp [Pg.d,AqB.tupD,Pg.k,kD,Pg.man] at hk ⊢
   walk_at "ax"
  all_goals exact hk
 ·intro p hp y hy k hk
  rcases Pg.Ok.cs (hok p hp) with ⟨m2,d,r,rfl,n1,d1,r1⟩ | ⟨m2,d,r,rfl,n1,d1,r1⟩ | ⟨m2,d,rfl,n1,d1⟩ | ⟨m2,d,t,rfl,n1,d1,t1,t2⟩ | ⟨m2,d,c,b,rfl,n1,d1,c1,b1⟩ | ⟨m2,d,c,b,rfl,n1,d1,c1,b1⟩ | ⟨m2,d,c,t,b,rfl,n1,d1,c1,t1,t2,b1⟩ | ⟨m2,d,c,rfl,n1,d1,c1⟩ | ⟨d,t,rfl,d1,t1,t2⟩
  all_goals simp [Pg.man] at hy
  all_goals
   subst hy
   simp [Pg.d,AqB.tupD,Pg.k,kD] at hk ⊢
   walk_at "ax"
  all_goals exact hk
 ·rw [a0V]
  simp
  omega
 ·have e:[] ++ ps.filterMap (fun p=>(Pg.man p).map y4) = (d0S ps).map .str:=by
   rw [d0S,List.map_filterMap,a0L]
  rw [e]
  have ml:=c2s ps
  walk_at "ax"
  rw [b21]
  walk_at "ax"
  refine ⟨AqS.fewK (by rw [show a69 = 4096 from rfl]; first | omega | (rw [g8]; omega) | (simp; omega)),b9S _,fun ys nd hm pw=>?_⟩
  obtain ⟨zs,rfl,p1,p2⟩:=b7u nd (fun k=>by simpa using hm k) pw
  rw [show (zs.map Sum.inr).map kD = zs.map y4 by rw [y5]; rfl]
  exact h zs _ p1 p2
end Cw
namespace Cw
open PySem L2 Aq
local macro_rules | `(tactic| walk_at "ax")=>`(tactic| simp? [a1l,isN])
local macro_rules | `(tactic| walk_at "bw")=>`(tactic| (refine a1d ?_; walk_at "ax"))
local macro_rules | `(tactic| walk_at "fw")=>`(tactic| (refine a48 ?_; walk_at "ax"))
end Cw
namespace Cw
open PySem L2 Aq
local macro_rules | `(tactic| walk_at "ao")=>`(tactic| simp_all? [a1l,isN])
local macro_rules | `(tactic| walk_at "ax")=>`(tactic| simp? [a1l,isN])
local macro_rules | `(tactic| walk_at "bw")=>`(tactic| (refine a1d ?_; walk_at "ax"))
/-- a stretch with what is told of it -/
structure Rw where
 b:Int
 e:Option Int
 v:c9
def Rw.d (r:Rw):c9:=.tuple [.int r.b,dayD r.e,r.v]
/-- one stretch more, the last first -/
def d19 (f:Int → c9) (m:Int) (e:Option Int):List Rw → List Rw
 | []=>[⟨m,e,f m⟩]
 | r :: acc=>if j3 r.v (f m) = true then ⟨r.b,e,f m⟩ :: acc else ⟨m,e,f m⟩ :: r :: acc
def d7h:List Int → Option Int
 | []=>none
 | m :: _=>some (m - 1)
def d2j (f:Int → c9):List Int → List Rw → List Rw
 | [],acc=>acc
 | m :: ms,acc=>d2j f ms (d19 f m (d7h ms) acc)
end Cw
namespace Cw
open PySem L2 Aq
local macro_rules | `(tactic| walk_at "ax")=>`(tactic| simp? [a1l,isN])
local macro_rules | `(tactic| walk_at "bw")=>`(tactic| (refine a1d ?_; walk_at "ax"))
local macro_rules | `(tactic| walk_at "fw")=>`(tactic| (refine a48 ?_; walk_at "ax"))
theorem b7i {es:List (List Key × c9)} {k:List Key} {d:c9}:∀ j,j ∈ (d4o es k d).map (·.1) ↔ j = k ∨ j ∈ es.map (·.1):=by
 intro j
 unfold d4o
 split
 ·rename_i h
  have e:(es.map fun e=>if e.1 = k then (e.1,d) else e).map (·.1) = es.map (·.1):=by
   rw [y5]
   refine a3j fun e _=>?_
   show (if e.1 = k then (e.1,d) else e).1 = e.1
   split <;> rfl
  rw [e]
  constructor
  ·exact .inr
  ·rintro (rfl | h2)
   ·obtain ⟨e,he,q⟩:=c8J.mp h
    exact e9.mpr ⟨e,he,by simpa using q⟩
   ·exact h2
 ·rw [d0Y,v0]
  constructor
  ·rintro (h | h)
   ·exact .inr h
   ·exact .inl (by simpa using h)
  ·rintro (h | h)
   ·exact .inr (by simpa using h)
   ·exact .inl h
/-- what the law found wrong -/
def d3G (ps:List Pg) (k:List Key):Prop:=∃ n d w,k = [.inr n,.inl d,.inr w] ∧ n ∈ d0S ps
def d6a (m:Str) (ks:List (List Key)):Prop:=∃ d w,[.inr m,.inl d,.inr w] ∈ ks
/-- what is found of a man: nothing is lost, and he is told of or sound -/
structure Grown (ps:List Pg) (m:Str) (es es':List (List Key × c9)):Prop where
 sub:∀ k ∈ es.map (·.1),k ∈ es'.map (·.1)
 ok:(∀ k ∈ es.map (·.1),d3G ps k) → ∀ k ∈ es'.map (·.1),d3G ps k
theorem Grown.refl {ps:List Pg} {m:Str} {es:List (List Key × c9)}:Grown ps m es es:=⟨fun _ h=>h,fun h=>h⟩
theorem Grown.put {ps:List Pg} {m:Str} {es es':List (List Key × c9)} (h:Grown ps m es es') (hm:m ∈ d0S ps) {d:Int} {w:Str}:Grown ps m es (d4o es' [.inr m,.inl d,.inr w] (.bool true)):=by
 refine ⟨fun k hk=>(b7i k).mpr (.inr (h.sub k hk)),fun ho k hk=>?_⟩
 rcases (b7i k).mp hk with rfl | hk
 ·exact ⟨m,d,w,rfl,hm⟩
 ·exact h.ok ho k hk
theorem d6a.put {m n:Str} {es:List (List Key × c9)} {d:Int} {w:Str} (h:d6a m (es.map (·.1))):d6a m ((d4o es [.inr n,.inl d,.inr w] (.bool true)).map (·.1)):=by
 obtain ⟨a,b,h⟩:=h
 exact ⟨a,b,(b7i _).mpr (.inr h)⟩
theorem d3G.rows {ps:List Pg} {kss:List (List Key)} (h:∀ k ∈ kss,d3G ps k):AqU.Rows (kss.map AqB.tupD) where
 tup d hd:=by
  obtain ⟨k,hk,rfl⟩:=e9.mp hd
  obtain ⟨n,a,w,rfl,_⟩:=h k hk
  exact ⟨_,_,rfl⟩
 fst x r hx y q hy:=by
  obtain ⟨k,hk,e⟩:=e9.mp hx
  obtain ⟨k',hk',e'⟩:=e9.mp hy
  obtain ⟨n,a,w,rfl,_⟩:=h k hk
  obtain ⟨n',a',w',rfl,_⟩:=h k' hk'
  cases e
  cases e'
  rfl
 cmp xs hx ys hy:=by
  obtain ⟨k,hk,e⟩:=e9.mp hx
  obtain ⟨k',hk',e'⟩:=e9.mp hy
  obtain ⟨n,a,w,rfl,_⟩:=h k hk
  obtain ⟨n',a',w',rfl,_⟩:=h k' hk'
  cases e
  cases e'
  exact AqU.cmp_alike (by simp [kD,d53,PySem.W.alikeAll])
 nd d hd:=by
  obtain ⟨k,hk,rfl⟩:=e9.mp hd
  obtain ⟨n,a,w,rfl,_⟩:=h k hk
  simp [AqB.tupD,kD,noDic,noDics]
end Cw
namespace Cw
open PySem L2 Aq
abbrev Sg (α:Type):=Int × Option Int × α
section
variable {α:Type} {f:Int → Option α}
def Cov (f:Int → Option α):Int → List (Sg α) → Prop
 | lo,[]=>∀ d,lo ≤ d → f d = none
 | lo,(a,none,r) :: L=>lo ≤ a ∧ (∀ d,lo ≤ d → d < a → f d = none) ∧ (∀ d,a ≤ d → f d = some r) ∧ L = []
 | lo,(a,some z,r) :: L=>lo ≤ a ∧ (∀ d,lo ≤ d → d < a → f d = none) ∧ (∀ d,a ≤ d → d ≤ z → f d = some r) ∧ a ≤ z ∧ f (z + 1) ≠ some r ∧ Cov f (z + 1) L
theorem Cov.head {lo a:Int} {e:Option Int} {r:α} {L:List (Sg α)} (h:Cov f lo ((a,e,r) :: L)):lo ≤ a ∧ (∀ d,lo ≤ d → d < a → f d = none) ∧ f a = some r:=by
 cases e with
 | none=>exact ⟨h.1,h.2.1,h.2.2.1 a (Int.le_refl _)⟩
 | some z=>exact ⟨h.1,h.2.1,h.2.2.1 a (Int.le_refl _) h.2.2.2.1⟩
theorem Cov.uniq:∀ {L M:List (Sg α)} {lo:Int},Cov f lo L → Cov f lo M → L = M
 | [],[],_,_,_=>rfl
 | [],(a,e,r) :: M,lo,h,h'=>by
  obtain ⟨h1,_,h3⟩:=h'.head
  rw [h a h1] at h3
  cases h3
 | (a,e,r) :: L,[],lo,h',h=>by
  obtain ⟨h1,_,h3⟩:=h'.head
  rw [h a h1] at h3
  cases h3
 | (a,e,r) :: L,(b,e',r') :: M,lo,h,h'=>by
  obtain ⟨h1,h2,h3⟩:=h.head
  obtain ⟨h1',h2',h3'⟩:=h'.head
  have eab:a = b:=by
   rcases Int.lt_trichotomy a b with l | l | l
   ·rw [h2' a h1 l] at h3; cases h3
   ·exact l
   ·rw [h2 b h1' l] at h3'; cases h3'
  subst eab
  rw [h3] at h3'
  cases h3'
  cases e with
  | none =>
   obtain ⟨_,_,k3,rfl⟩:=h
   cases e' with
   | none=>obtain ⟨_,_,_,rfl⟩:=h'; rfl
   | some z =>
    obtain ⟨_,_,_,k4,k5,_⟩:=h'
    exact absurd (k3 (z + 1) (by omega)) k5
  | some z =>
   obtain ⟨_,_,k3,k4,k5,k6⟩:=h
   cases e' with
   | none =>
    obtain ⟨_,_,k3',rfl⟩:=h'
    exact absurd (k3' (z + 1) (by omega)) k5
   | some z' =>
    obtain ⟨_,_,k3',k4',k5',k6'⟩:=h'
    have ez:z = z':=by
     rcases Int.lt_trichotomy z z' with l | l | l
     ·exact absurd (k3' (z + 1) (by omega) (by omega)) k5
     ·exact l
     ·exact absurd (k3 (z' + 1) (by omega) (by omega)) k5'
    subst ez
    rw [Cov.uniq k6 k6']
/-- whether a day lies within -/
def d5A (d:Int) (x:Sg α):Bool:=decide (x.1 ≤ d) && (match x.2.1 with
 | none=>true
 | some z=>decide (d ≤ z))
/-- what is so on a day -/
theorem Cov.at:∀ {L:List (Sg α)} {lo d:Int},Cov f lo L → lo ≤ d → (L.filter (d5A d)).map (·.2.2) = (f d).toList
 | [],lo,d,h,hd=>by rw [h d hd]; rfl
 | (a,none,r) :: L,lo,d,h,hd=>by
  obtain ⟨h1,h2,h3,rfl⟩:=h
  by_cases l:d < a
  ·rw [h2 d hd l]
   simp [d5A]
   omega
  ·rw [h3 d (by omega),a2J,if_pos (by simp [d5A]; omega)]
   rfl
 | (a,some z,r) :: L,lo,d,h,hd=>by
  obtain ⟨h1,h2,h3,h4,h5,h6⟩:=h
  have late:∀ {M:List (Sg α)} {lo:Int},Cov f lo M → d < lo → (M.filter (d5A d)) = []:=by
   intro M
   induction M with
   | nil=>intros; rfl
   | cons x M ih =>
    intro lo hc hl
    obtain ⟨b,e,q⟩:=x
    have hb:=hc.head.1
    rw [a2J,if_neg (by simp [d5A]; omega)]
    cases e with
    | none=>rw [hc.2.2.2]; rfl
    | some y=>exact ih hc.2.2.2.2.2 (by have:=hc.2.2.2.1; omega)
  by_cases l:d < a
  ·rw [h2 d hd l,a2J,if_neg (by simp [d5A]; omega),late h6 (by omega)]
   rfl
  ·by_cases l2:d ≤ z
   ·rw [h3 d (by omega) l2,a2J,if_pos (by simp [d5A]; omega),late h6 (by omega)]
    rfl
   ·rw [a2J,if_neg (by simp [d5A]; omega)]
    exact Cov.at h6 (by omega)
end
def d85 (g:Int → c9):List Int → Prop
 | []=>True
 | [m]=>∀ d,m ≤ d → g d = g m
 | m :: n :: ms=>(m < n ∧ ∀ d,m ≤ d → d < n → g d = g m) ∧ d85 g (n :: ms)
/-- stretches told one behind the other, the last first -/
def RP (g:Int → c9) (lo:Int):Option Int → List Rw → Prop
 | hi,[]=>hi = some lo
 | hi,r :: acc=>r.e = hi.map (· - 1) ∧ (∀ d,r.b ≤ d → (∀ h,hi = some h → d < h) → g d = r.v) ∧ (∀ h,hi = some h → r.b < h) ∧ r.v = g r.b ∧ RP g lo (some r.b) acc ∧ ∀ q acc',acc = q :: acc' → j3 q.v r.v = false
theorem RP.push {g:Int → c9} {lo m:Int} {hi:Option Int} {acc:List Rw} (heq:∀ x y,j3 (g x) (g y) = true → g x = g y) (h:RP g lo (some m) acc) (hc:∀ d,m ≤ d → (∀ h,hi = some h → d < h) → g d = g m) (hm:∀ h,hi = some h → m < h):RP g lo hi (d19 g m (hi.map (· - 1)) acc):=by
 cases acc with
 | nil=>exact ⟨rfl,hc,hm,rfl,h,fun q acc' e=>by cases e⟩
 | cons r acc =>
  obtain ⟨h1,h2,h3,h4,h5,h6⟩:=h
  rw [d19]
  have h3:=h3 m rfl
  by_cases hv:j3 r.v (g m) = true
  ·rw [if_pos hv]
   have e:r.v = g m:=by
    rw [h4] at hv ⊢
    exact heq _ _ hv
   refine ⟨rfl,fun d hd hh=>?_,fun h hh=>by have:=hm h hh; show r.b < h; omega,?_,h5,fun q acc' ea=>?_⟩
   ·by_cases l:d < m
    ·rw [h2 d hd fun h hh=>by cases hh; exact l]
     exact e
    ·exact hc d (by omega) hh
   ·show g m = g r.b
    rw [← e,h4]
   ·show j3 q.v (g m) = false
    rw [← e]
    exact h6 q acc' ea
  ·rw [if_neg hv]
   refine ⟨rfl,hc,hm,rfl,⟨h1,h2,fun h hh=>by cases hh; exact h3,h4,h5,h6⟩,fun q acc' ea=>?_⟩
   cases ea
   simpa using hv
theorem RP.go {g:Int → c9} {lo:Int} (heq:∀ x y,j3 (g x) (g y) = true → g x = g y):∀ {ms:List Int} {m:Int} {acc:List Rw},d85 g (m :: ms) → RP g lo (some m) acc → RP g lo none (d2j g (m :: ms) acc)
 | [],m,acc,hs,h=>by
  rw [d2j,d2j,d7h]
  exact RP.push (hi:=none) heq h (fun d hd _=>hs d hd) fun h e=>by cases e
 | n :: ms,m,acc,hs,h=>by
  rw [d2j,d7h]
  exact RP.go heq hs.2 (RP.push (hi:=some n) heq h (fun d hd hh=>hs.1.2 d hd (hh n rfl)) fun h e=>by cases e; exact hs.1.1)
end Cw
namespace Cw
open PySem L2 Aq
local macro_rules | `(tactic| walk_at "ax")=>`(tactic| simp? [a1l,isN])
local macro_rules | `(tactic| walk_at "bw")=>`(tactic| (refine a1d ?_; walk_at "ax"))
def a9j:List Str:=["pages", "page"]
def c05 (w:i3) (K:b0):TS :=
 (a3p (b57 w K (tLc (c2j K (g9 0)) (v4 1) (a1e (tOp (rNeD K) (tOp (rIx K) (g9 1) (tC (.int 0))) (tC (.str "lost")))) (tOp (rIx K) (g9 1) (tC (.int 1))) [1])))
def a9l:ASt :=
 (a2r (b51 (aLc (a6i (i4 0)) [1] (gN 1) (a3Z (aOp gNe (aOp gIx (i4 1) (aC (.int 0))) (aC (.str "lost")))) (aOp gIx (i4 1) (aC (.int 1))))))
theorem c6T {w:i3} {K:b0} (W:WX):SS K W (c05 w K) a9l :=
 (t7 (b94 (a6Z (a45 c8) a0W (t8 (g6 b3D (g6 y8 c8 d6) w3)) (g6 y8 c8 d6) (by decide))))
def a3S:Ct:=a4H
theorem c4g (ρ:List AV) (P:RV → List AV → Prop) (PX:PXT) (h:a3S ρ P PX):ρ.length = 1:=by
 obtain ⟨_,_,rfl,_⟩:=h
 rfl
theorem c2C (ρ:List AV) (P:RV → List AV → Prop) (PX:PXT) (h:a3S ρ P PX):a9l { nx:=fun ρ'=>P (.dat .none) ρ',rt:=P,ex:=PX } (ρ ++ f7 (a9j.length - ρ.length) .un):=by
 have eN:a9j.length = 2:=rfl
 obtain ⟨A,ps,rfl,hok,few,h⟩:=h
 unfold a9l a2i
 simp only [eN]
 walk_at "ax"
 refine lcFm Pg.d (fun p=>[.dat (.list (ps.map Pg.d)),.dat p.d]) (fun p=>(Pg.man p).map .str) _ _ ?_ ?_ ?_ ?_ ?_ ?_
 ·intro p _ k hk
  exact hk
 ·intro p _
  rfl
 ·intro p hp k hk
  rcases Pg.Ok.cs (hok p hp) with ⟨m2,d,r,rfl,n1,d1,r1⟩ | ⟨m2,d,r,rfl,n1,d1,r1⟩ | ⟨m2,d,rfl,n1,d1⟩ | ⟨m2,d,t,rfl,n1,d1,t1,t2⟩ | ⟨m2,d,c,b,rfl,n1,d1,c1,b1⟩ | ⟨m2,d,c,b,rfl,n1,d1,c1,b1⟩ | ⟨m2,d,c,t,b,rfl,n1,d1,c1,t1,t2,b1⟩ | ⟨m2,d,c,rfl,n1,d1,c1⟩ | ⟨d,t,rfl,d1,t1,t2⟩
  all_goals
   simp [Pg.d,AqB.tupD,Pg.k,kD,Pg.man] at hk ⊢
   walk_at "ax"
  all_goals exact hk
 ·intro p hp y hy k hk
  rcases Pg.Ok.cs (hok p hp) with ⟨m2,d,r,rfl,n1,d1,r1⟩ | ⟨m2,d,r,rfl,n1,d1,r1⟩ | ⟨m2,d,rfl,n1,d1⟩ | ⟨m2,d,t,rfl,n1,d1,t1,t2⟩ | ⟨m2,d,c,b,rfl,n1,d1,c1,b1⟩ | ⟨m2,d,c,b,rfl,n1,d1,c1,b1⟩ | ⟨m2,d,c,t,b,rfl,n1,d1,c1,t1,t2,b1⟩ | ⟨m2,d,c,rfl,n1,d1,c1⟩ | ⟨d,t,rfl,d1,t1,t2⟩
  all_goals simp [Pg.man] at hy
  all_goals
   subst hy
   simp [Pg.d,AqB.tupD,Pg.k,kD] at hk ⊢
   walk_at "ax"
  all_goals exact hk
 ·rw [a0V]
  simp
  omega
 ·have e:[] ++ ps.filterMap (fun p=>(Pg.man p).map y4) = (d0S ps).map .str:=by
   rw [d0S,List.map_filterMap,a0L]
  rw [e]
  have ml:=c2s ps
  walk_at "ax"
  rw [b21]
  walk_at "ax"
  refine ⟨AqS.fewK (by rw [show a69 = 4096 from rfl]; first | omega | (rw [g8]; omega) | (simp; omega)),b9S _,fun ys nd hm pw=>?_⟩
  obtain ⟨zs,rfl,p1,p2⟩:=b7u nd (fun k=>by simpa using hm k) pw
  rw [show (zs.map Sum.inr).map kD = zs.map y4 by rw [y5]; rfl]
  exact h zs _ p1 p2
end Cw
namespace Cw
open PySem L2 Aq
local macro_rules | `(tactic| walk_at "ax")=>`(tactic| simp? [a1l])
theorem a44 {d:c9} (h:w4 d = true):∃ s,d = .str s ∧ w7 s = true:=by
 cases d with
 | str s=>exact ⟨s,rfl,h⟩
 | _=>cases h
theorem d7v {A:Art} {d:c9} (h:a52 A d = true):∃ s,d = .str s ∧ s ∈ A.ranks.map (·.1):=by
 cases d with
 | str s=>exact ⟨s,rfl,of_decide_eq_true h⟩
 | _=>cases h
theorem a2n {d:c9} {a b:Int} (h:a0B d a b = true):∃ i,d = .int i ∧ a ≤ i ∧ i ≤ b:=by
 obtain ⟨i,rfl,_⟩:=a3M h
 exact ⟨i,rfl,a1K.mp h⟩
theorem Pg.of1 {A:Art} {w:Str} {x y:c9}:∀ {r:List c9},pgL A w x y r = true → ∃ p:Pg,p.Ok A ∧ .tuple (.str w :: x :: y :: r) = p.d
 | [],h=>by
  simp only [pgL] at h
  split at h
  ·rename_i e
   subst e
   simp only [j5] at h
   obtain ⟨h1,h2,h3⟩:=h
   obtain ⟨i,rfl,i1,i2⟩:=a2n h1
   obtain ⟨j,rfl,j1,j2⟩:=a2n h2
   exact ⟨.lost i j,⟨⟨i1,i2⟩,j1,of_decide_eq_true h3⟩,rfl⟩
  ·split at h
   ·rename_i e
    subst e
    simp only [j5] at h
    obtain ⟨h1,h2⟩:=h
    obtain ⟨m,rfl,n1⟩:=a44 h1
    obtain ⟨i,rfl,i1,i2⟩:=a2n h2
    exact ⟨.leaves m i,⟨n1,i1,i2⟩,rfl⟩
   ·cases h
 | [z],h=>by
  simp only [pgL] at h
  split at h
  ·rename_i e
   simp only [j5] at h
   obtain ⟨h1,h2,h3⟩:=h
   obtain ⟨m,rfl,n1⟩:=a44 h1
   obtain ⟨i,rfl,i1,i2⟩:=a2n h2
   obtain ⟨s,rfl,hs⟩:=d7v h3
   exact ⟨.turn w m i s,⟨e,n1,⟨i1,i2⟩,hs⟩,rfl⟩
  ·split at h
   ·rename_i e
    subst e
    simp only [j5] at h
    obtain ⟨h1,h2,h3,h4⟩:=h
    obtain ⟨m,rfl,n1⟩:=a44 h1
    obtain ⟨i,rfl,i1,i2⟩:=a2n h2
    obtain ⟨j,rfl,j1,j2⟩:=a2n h3
    exact ⟨.away m i j,⟨n1,⟨i1,i2⟩,of_decide_eq_true h4,j2⟩,rfl⟩
   ·split at h
    ·rename_i e
     subst e
     simp only [j5] at h
     obtain ⟨h1,h2,h3⟩:=h
     obtain ⟨m,rfl,n1⟩:=a44 h1
     obtain ⟨i,rfl,i1,i2⟩:=a2n h2
     obtain ⟨j,rfl,j1,j2⟩:=a2n h3
     exact ⟨.fine m i j,⟨n1,⟨i1,i2⟩,j1,j2⟩,rfl⟩
    ·cases h
 | [z,u],h=>by
  simp only [pgL] at h
  split at h
  ·rename_i e
   simp only [j5] at h
   obtain ⟨h1,h2,h3,h4⟩:=h
   obtain ⟨m,rfl,n1⟩:=a44 h1
   obtain ⟨i,rfl,i1,i2⟩:=a2n h2
   obtain ⟨j,rfl,j1,j2⟩:=a2n h3
   obtain ⟨b,rfl,n2⟩:=a44 h4
   exact ⟨.gave w m i j b,⟨e,n1,⟨i1,i2⟩,⟨j1,j2⟩,n2⟩,rfl⟩
  ·cases h
 | [z,u,v],h=>by
  simp only [pgL] at h
  split at h
  ·rename_i e
   subst e
   simp only [j5] at h
   obtain ⟨h1,h2,h3,h4,h5⟩:=h
   obtain ⟨m,rfl,n1⟩:=a44 h1
   obtain ⟨i,rfl,i1,i2⟩:=a2n h2
   obtain ⟨j,rfl,j1,j2⟩:=a2n h3
   obtain ⟨k,rfl,k1,k2⟩:=a2n h4
   obtain ⟨b,rfl,n2⟩:=a44 h5
   exact ⟨.home m i j k b,⟨n1,⟨i1,i2⟩,⟨j1,j2⟩,⟨k1,k2⟩,n2⟩,rfl⟩
  ·cases h
 | _ :: _ :: _ :: _ :: _,h=>by cases h
theorem Pg.of {A:Art} {d:c9} (h:a5k A d = true):∃ p:Pg,p.Ok A ∧ d = p.d:=by
 match d,h with
 | .tuple (.str w :: x :: y :: r),h=>exact Pg.of1 h
theorem d1X {A:Art}:∀ {ds:List c9},(∀ d ∈ ds,a5k A d = true) → ∃ ps:List Pg,ds = ps.map Pg.d ∧ ∀ p ∈ ps,p.Ok A
 | [],_=>⟨[],rfl,by simp⟩
 | d :: ds,h=>by
  obtain ⟨p,hp,rfl⟩:=Pg.of (h d f9)
  obtain ⟨ps,rfl,hps⟩:=d1X fun e he=>h e (e7 _ he)
  exact ⟨p :: ps,rfl,fun q hq=>by
   rcases o9.mp hq with rfl | hq
   ·exact hp
   ·exact hps q hq⟩
/-- a list of pages, none twice -/
def b1E (A:Art) (t:c9):Prop:=∃ ps:List Pg,t = .list (ps.map Pg.d) ∧ (∀ p ∈ ps,p.Ok A) ∧ ps.Nodup ∧ ps.length ≤ 200
theorem d9O:∀ {a b:Key},kD a = kD b → a = b
 | .inl i,.inl j,e=>by cases e; rfl
 | .inr i,.inr j,e=>by cases e; rfl
 | .inl i,.inr j,e=>nomatch e
 | .inr i,.inl j,e=>nomatch e
theorem c6O {A:Art}:∀ {ps qs:List Pg},(∀ p ∈ ps,p.Ok A) → (∀ p ∈ qs,p.Ok A) → ps.map Pg.d = qs.map Pg.d → ps = qs
 | [],[],_,_,_=>rfl
 | [],q :: qs,_,_,e=>nomatch e
 | p :: ps,[],_,_,e=>nomatch e
 | p :: ps,q :: qs,h,h',e=>by
  rw [j8,j8,List.cons.injEq] at e
  have e1:p.k = q.k:=by
   have:=e.1
   unfold Pg.d AqB.tupD at this
   injection this with this
   exact (List.map_inj_right (f:=kD) (fun a b z=>d9O z)).mp this
  rw [Pg.inj (h p f9) (h' q f9) e1,c6O (fun x hx=>h x (e7 _ hx)) (fun x hx=>h' x (e7 _ hx)) e.2]
theorem b1E.list {A:Art} {t:c9} (h:b1E A t):∃ ds,t = .list ds ∧ ds.length ≤ 200 ∧ ∀ d ∈ ds,a5k A d = true:=by
 obtain ⟨ps,rfl,hp,nd,few⟩:=h
 refine ⟨_,rfl,by rw [g8]; exact few,fun d hd=>?_⟩
 obtain ⟨p,hp',rfl⟩:=e9.mp hd
 exact (hp p hp').is
theorem b1E.nodup {A:Art} {ps:List Pg} (hp:∀ p ∈ ps,p.Ok A) (h:b1E A (.list (ps.map Pg.d))):ps.Nodup:=by
 obtain ⟨qs,e,hq,nd,few⟩:=h
 injection e with e
 rw [c6O hp hq e]
 exact nd
theorem d5v {α:Type} [DecidableEq α]:∀ {l:List α},¬ l.Nodup → ∃ x,x ∈ l ∧ x ∈ l.erase x
 | [],h=>absurd b0H h
 | y :: l,h=>by
  by_cases hy:y ∈ l
  ·exact ⟨y,f9,by rw [List.erase_cons_head]; exact hy⟩
  ·have h':¬ l.Nodup:=fun z=>h (a02.mpr ⟨hy,z⟩)
   obtain ⟨x,hx,hx2⟩:=d5v h'
   have ne:y ≠ x:=fun e=>hy (e ▸ hx)
   exact ⟨x,e7 _ hx,by rw [List.erase_cons_tail (by simpa using ne)]; exact e7 _ hx2⟩
/-- as many keys as pages: none is twice -/
theorem c4k {α:Type} [DecidableEq α] {l es:List α} (h1:es.Nodup) (h:∀ x,x ∈ es ↔ x ∈ l):es.length = l.length ↔ l.Nodup:=by
 constructor
 ·intro e
  apply b0G
  intro nd
  obtain ⟨x,hx,hx2⟩:=d5v nd
  have h2:es.length ≤ (l.erase x).length:=a4l h1 fun y hy=>by
   by_cases e2:y = x
   ·subst e2; exact hx2
   ·exact (e0m e2).mpr ((h y).mp hy)
  rw [d5e hx] at h2
  have:=d8m hx
  omega
 ·intro nd
  exact d4v h1 nd h
def a6m:List Str:=["articles", "thing", "page"]
def b0p (w:i3) (K:b0) (W:WX) (ev:Str → f8):TS :=
 (a3p (b45 K (tCB (rAll K) (d4 (tLc (c2j K (g9 1)) (v4 2) c3U (r6 (spOf K (a5V ev)) [] E0 (d4 (g9 0) (d4 (g9 2) p7))) [2]) p7)) (tOp (c5O K) (b56 w K (g9 1)) (tCB (a5E K) (d4 (g9 1) p7)))))
def a6Y (ev:Str → f8):ASt :=
 (a2r (a7D (aCB d5z (d3 (aLc (a6i (i4 1)) [2] (gN 2) b9R (m7 (a5V ev) (d3 (i4 0) (d3 (i4 2) n9)))) n9)) (aOp gEq (b50 (i4 1)) (aCB b6H (d3 (i4 1) n9)))))
theorem b7J {w:i3} {K:b0} {ev:Str → f8} (a5u:IsiOk K "list") (W:WX):SS K W (b0p w K W ev) (a6Y ev) :=
 (t7 (a23 (a2l c0U (c7 (a6Z (a45 c8) a0W a57 (j4 (c7 c8 (c7 c8 d9))) (by decide)) d9)) (g6 a4s (b93 c8) (a2l a4w (c7 c8 d9)))))
def b4U (w:i3) (K:b0) (W:WX) (ev:Str → f8):TS :=
 (a0P (a5v (a3h (spOf K (a04 ev)) (WE W) (d4 (g9 0) p7)))
 (a0P (a6h (tOr (c77 (a8Q K (c04 K "list" (g9 1)))) (a1e (tOp d5O (tCB (a5E K) (d4 (g9 1) p7)) (tC (.int 200))))) (a3p (tC (.bl false))) a15)
 (b0p w K W ev)))
def a6s (ev:Str → f8):ASt :=
 (a0t (a3m (a3G (a04 ev) (d3 (i4 0) n9)))
 (a0t (sIf (aOr (b2M (a9I (b9Q "list" (i4 1)))) (a3Z (aOp gGt (aCB b6H (d3 (i4 1) n9)) (aC (.int 200))))) (a2r (aC (.bool false))) a1m)
 (a6Y ev)))
theorem c2V {w:i3} {K:b0} {ev:Str → f8} (a5u:IsiOk K "list") (W:WX):SS K W (b4U w K W ev) (a6s ev) :=
 (j9 (a0R (a0G (c7 c8 d9)))
 (j9 (a05 (a9R (a2s (a1V (a4t a5u c8))) (t8 (g6 a3X (a2l a4w (c7 c8 d9)) d6))) (t7 a4i) y0)
 (b7J  a5u W)))
def a17 (ev:Str → f8):Ct:=fun ρ P PX=>∃ d t,ρ = [.dat d,.dat t] ∧ okD d = true ∧ a6F t ∧ (a3r d = false → ∀ ρ',PX (ev "NoArticles") none ρ') ∧ (a3r d = true → ∃ A:Art,A.Ok ∧ d = A.d ∧ ∀ b:Bool,(b = true ↔ b1E A t) → ∀ ρ',P (.dat (.bool b)) ρ')
theorem b8T (ev:Str → f8) (ρ:List AV) (P:RV → List AV → Prop) (PX:PXT) (h:a17 ev ρ P PX):ρ.length = 2:=by
 obtain ⟨_,_,rfl,_⟩:=h
 rfl
theorem a6F.lst {ds:List c9} (h:a6F (.list ds)):ds.length ≤ 10000 ∧ ∀ d ∈ ds,a6F d:=by
 have q:=a0F.lst (b:=10000) (n:=59) ⟨h.1,h.2⟩
 exact ⟨q.1,fun d hd=>⟨(q.2 d hd).1,a0y (q.2 d hd).2 (by decide)⟩⟩
theorem b7d (ev:Str → f8) (ρ:List AV) (P:RV → List AV → Prop) (PX:PXT) (h:a17 ev ρ P PX):a6s ev { nx:=fun ρ'=>P (.dat .none) ρ',rt:=P,ex:=PX } (ρ ++ f7 (a6m.length - ρ.length) .un):=by
 have eN:a6m.length = 3:=rfl
 obtain ⟨d,t,rfl,hd,ht,h1,h2⟩:=h
 unfold a6s
 simp only [eN]
 walk_at "ax"
 refine ⟨d,rfl,hd,fun ha ρ'=>?_,fun ha ρ'=>h1 ha _⟩
 obtain ⟨A,hA,rfl,h⟩:=h2 ha
 have no:(∀ ds,t = .list ds → ds.length ≤ 200 → ∃ d ∈ ds,a5k A d = false) → ∀ ρ',P (.dat (.bool false)) ρ':=fun n ρ'=>h false ⟨fun e=>(nomatch e),fun z=>by
  obtain ⟨ds,rfl,l,a⟩:=z.list
  obtain ⟨d,hd,e⟩:=n ds rfl l
  rw [a d hd] at e
  exact e.symm⟩ ρ'
 cases t with
 | list ds =>
  obtain ⟨dl,de⟩:=ht.lst
  walk_at "ax"
  split
  ·rename_i hl
   exact no (fun ds' e l=>by cases e; omega) _
  ·rename_i hl
   unfold a6Y
   walk_at "ax"
   refine c2l (fun y=>[.dat A.d,.dat (.list ds),.dat y]) (fun y=>.bool (a5k A y)) _ _ ?_ ?_ ?_ ?_ ?_
   ·intro y _ k hk
    exact hk
   ·intro y _
    rfl
   ·intro y hy k hk
    walk_at "ax"
    refine ⟨A.d,y,rfl,hd,de y hy,fun e=>?_,fun _=>⟨A,hA,rfl,fun ρ'=>?_⟩⟩
    ·rw [ha] at e
     cases e
    ·walk_at "ax"
     exact hk
   ·rw [a0V]
    simp
    omega
   ·have e:[] ++ ds.map (fun y=>a0M (a5k A y)) = (ds.map (a5k A)).map a0M:=by
     rw [a0L,y5]
     rfl
    rw [e]
    have ea:(ds.map (a5k A)).all id = true ↔ ∀ d ∈ ds,a5k A d = true:=by simp
    generalize ds.map (a5k A) = bs at ea ⊢
    walk_at "ax"
    split
    ·rename_i hf
     have e0:bs.all id = false:=by
      rw [List.all_eq_false]
      exact ⟨false,hf,by decide⟩
     rw [e0]
     refine no (fun ds' e' l=>?_) _
     cases e'
     apply b0G
     intro hn
     rw [ea.mpr fun d hd=>by
      cases e2:a5k A d with
      | true=>rfl
      | false=>exact absurd ⟨d,hd,e2⟩ hn] at e0
     cases e0
    ·rename_i hf
     have e0:bs.all id = true:=by
      rw [t0]
      intro b hb
      cases b with
      | true=>rfl
      | false=>exact absurd hb hf
     obtain ⟨ps,rfl,hps⟩:=d1X (ea.mp e0)
     rw [g8] at hl
     rw [show a7p (ps.map Pg.d) = some (ps.map Pg.k) by rw [d4e,b3X]]
     walk_at "ax"
     refine ⟨by omega,fun es n1 mem=>?_⟩
     have key:es.length = ps.length ↔ ps.Nodup:=by
      have:=c4k (l:=ps.map Pg.k) n1 fun k=>by simpa using mem k
      rw [g8] at this
      exact this.trans ⟨b12 Pg.k,b3c hps⟩
     walk_at "ax"
     refine h _ ?_ _
     rw [beq_iff_eq,Int.natCast_inj,key]
     exact ⟨fun nd=>⟨ps,rfl,hps,nd,by omega⟩,fun z=>z.nodup hps⟩
 | _ =>
  walk_at "ax"
  exact no (fun ds' e l=>nomatch e) _
def a7C:List Str:=["articles", "pages"]
def b2A (w:i3) (K:b0) (W:WX) (ev:Str → f8):TS :=
 (a6h (c77 (a8Q K (a3h (spOf K (a17 ev)) (WE W) (d4 (g9 0) (d4 (g9 1) p7))))) (d2n W (ev "NoPages")) a15)
def a5A (ev:Str → f8):ASt :=
 (sIf (b2M (a9I (a3G (a17 ev) (d3 (i4 0) (d3 (i4 1) n9))))) (c8y (ev "NoPages")) a1m)
theorem b9i {w:i3} {K:b0} {ev:Str → f8} (W:WX):SS K W (b2A w K W ev) (a5A ev) :=
 (a05 (a2s (a1V (a0G (c7 c8 (c7 c8 d9))))) c8C y0)
def v8 (ev:Str → f8):Ct:=fun ρ P PX=>∃ d t,ρ = [.dat d,.dat t] ∧ okD d = true ∧ a6F t ∧ (a3r d = false → ∀ ρ',PX (ev "NoArticles") none ρ') ∧ (a3r d = true → ∃ A:Art,A.Ok ∧ d = A.d ∧ (¬ b1E A t → ∀ ρ',PX (ev "NoPages") none ρ') ∧ (b1E A t → ∀ ρ',P (.dat .none) ρ'))
theorem b6R (ev:Str → f8) (ρ:List AV) (P:RV → List AV → Prop) (PX:PXT) (h:v8 ev ρ P PX):ρ.length = 2:=by
 obtain ⟨_,_,rfl,_⟩:=h
 rfl
theorem b5n (ev:Str → f8) (ρ:List AV) (P:RV → List AV → Prop) (PX:PXT) (h:v8 ev ρ P PX):a5A ev { nx:=fun ρ'=>P (.dat .none) ρ',rt:=P,ex:=PX } (ρ ++ f7 (a7C.length - ρ.length) .un):=by
 have eN:a7C.length = 2:=rfl
 obtain ⟨d,t,rfl,hd,ht,h1,h2⟩:=h
 unfold a5A
 simp only [eN]
 walk_at "ax"
 refine ⟨d,t,rfl,hd,ht,fun ha ρ'=>h1 ha _,fun ha=>?_⟩
 obtain ⟨A,hA,e,k1,k2⟩:=h2 ha
 refine ⟨A,hA,e,fun b hb ρ'=>?_⟩
 cases b with
 | true =>
  walk_at "ax"
  exact k2 (hb.mp rfl) _
 | false =>
  walk_at "ax"
  exact k1 (fun z=>nomatch hb.mpr z) _
def d59:List Str:=["articles", "pages"]
def e0c (w:i3) (K:b0) (W:WX) (ev:Str → f8):TS :=
 (a0P (a5v (a3h (spOf K (v8 ev)) (WE W) (d4 (g9 0) (d4 (g9 1) p7))))
 (a3p (r6 (spOf K a4H) [] E0 (d4 (g9 1) p7))))
def d3O (ev:Str → f8):ASt :=
 (a0t (a3m (a3G (v8 ev) (d3 (i4 0) (d3 (i4 1) n9))))
 (a2r (m7 a4H (d3 (i4 1) n9))))
theorem d99 {w:i3} {K:b0} {ev:Str → f8} (W:WX):SS K W (e0c w K W ev) (d3O ev) :=
 (j9 (a0R (a0G (c7 c8 (c7 c8 d9))))
 (t7 (j4 (c7 c8 d9))))
def b2X (ev:Str → f8):Ct:=fun ρ P PX=>∃ d t,ρ = [.dat d,.dat t] ∧ okD d = true ∧ a6F t ∧ (a3r d = false → ∀ ρ',PX (ev "NoArticles") none ρ') ∧ (a3r d = true → ∃ A:Art,A.Ok ∧ d = A.d ∧ (¬ b1E A t → ∀ ρ',PX (ev "NoPages") none ρ') ∧ (∀ ps:List Pg,t = a2i ps → (∀ p ∈ ps,p.Ok A) → ps.Nodup → ps.length ≤ 200 → ∀ (zs:List Str) ρ',zs.Pairwise sLt → (∀ z,z ∈ zs ↔ z ∈ d0S ps) → P (.own (.ml none (zs.map .str))) ρ'))
theorem d7f (ev:Str → f8) (ρ:List AV) (P:RV → List AV → Prop) (PX:PXT) (h:b2X ev ρ P PX):ρ.length = 2:=by
 obtain ⟨_,_,rfl,_⟩:=h
 rfl
theorem d4n (ev:Str → f8) (ρ:List AV) (P:RV → List AV → Prop) (PX:PXT) (h:b2X ev ρ P PX):d3O ev { nx:=fun ρ'=>P (.dat .none) ρ',rt:=P,ex:=PX } (ρ ++ f7 (d59.length - ρ.length) .un):=by
 have eN:d59.length = 2:=rfl
 obtain ⟨d,t,rfl,hd,ht,h1,h2⟩:=h
 unfold d3O
 simp only [eN]
 walk_at "ax"
 refine ⟨d,t,rfl,hd,ht,fun ha ρ'=>h1 ha _,fun ha=>?_⟩
 obtain ⟨A,hA,e,k1,k2⟩:=h2 ha
 refine ⟨A,hA,e,fun hn ρ'=>k1 hn _,fun ⟨ps,ep,hps,nd,few⟩ ρ'=>?_⟩
 subst ep
 walk_at "ax"
 refine ⟨A,ps,rfl,hps,few,fun zs ρ' z1 z2=>?_⟩
 walk_at "ax"
 exact k2 ps rfl hps nd few zs _ z1 z2
def d3J (ev:Str → f8) (d t:c9) (PX:PXT):Prop:=okD d = true ∧ a6F t ∧ (a3r d = false → ∀ ρ',PX (ev "NoArticles") none ρ') ∧ (a3r d = true → ∃ A:Art,A.Ok ∧ d = A.d ∧ ¬ b1E A t ∧ ∀ ρ',PX (ev "NoPages") none ρ')
def cNp2 (ev:Str → f8):Ct:=fun ρ _ PX=>∃ d t,ρ = [.dat d,.dat t] ∧ d3J ev d t PX
def d8q (ev:Str → f8):Ct:=fun ρ _ PX=>∃ d t u,ρ = [.dat d,.dat t,.dat u] ∧ d3J ev d t PX
def d3P (ev:Str → f8):Ct:=fun ρ _ PX=>∃ d t u v,ρ = [.dat d,.dat t,.dat u,.dat v] ∧ d3J ev d t PX
def d5q (ev:Str → f8):Ct:=fun ρ _ PX=>∃ d x y u,ρ = [.dat d,.dat x,.dat y,.dat u] ∧ okD d = true ∧ a6F x ∧ a6F y ∧ (a3r d = false → ∀ ρ',PX (ev "NoArticles") none ρ') ∧ (a3r d = true → ∃ A:Art,A.Ok ∧ d = A.d ∧ ¬ (b1E A x ∧ b1E A y) ∧ ∀ ρ',PX (ev "NoPages") none ρ')
theorem d3J.need {ev:Str → f8} {d t:c9} {PX PX':PXT} {P:RV → List AV → Prop} (h:d3J ev d t PX) (k:∀ x ρ',(∀ ρ',PX (ev x) none ρ') → PX' (ev x) none ρ'):v8 ev [.dat d,.dat t] P PX':=by
 obtain ⟨h1,h2,h3,h4⟩:=h
 refine ⟨d,t,rfl,h1,h2,fun ha ρ'=>k _ _ (h3 ha),fun ha=>?_⟩
 obtain ⟨A,hA,e,n,q⟩:=h4 ha
 exact ⟨A,hA,e,fun _ ρ'=>k _ _ q,fun z=>absurd z n⟩
end Cw
namespace Cw
open PySem L2 Aq
local macro_rules | `(tactic| walk_at "ax")=>`(tactic| simp? [a1l])
def b0M:List Str:=["articles", "pages", "man"]
def b7Z (w:i3) (K:b0) (W:WX) (ev:Str → f8):TS :=
 (a0P (a5v (a3h (spOf K (v8 ev)) (WE W) (d4 (g9 0) (d4 (g9 1) p7))))
 tNo)
def a7M (ev:Str → f8):ASt :=
 (a0t (a3m (a3G (v8 ev) (d3 (i4 0) (d3 (i4 1) n9))))
 sNo)
theorem c40 {w:i3} {K:b0} {ev:Str → f8} (W:WX):SS K W (b7Z w K W ev) (a7M ev) :=
 (j9 (a0R (a0G (c7 c8 (c7 c8 d9))))
 a8p)
def o8 (ev:Str → f8):Ct:=d8q ev
theorem c2p (ev:Str → f8) (ρ:List AV) (P:RV → List AV → Prop) (PX:PXT) (h:o8 ev ρ P PX):ρ.length = 3:=by
 obtain ⟨_,_,_,rfl,_⟩:=h
 rfl
theorem b86 (ev:Str → f8) (ρ:List AV) (P:RV → List AV → Prop) (PX:PXT) (h:o8 ev ρ P PX):a7M ev { nx:=fun ρ'=>P (.dat .none) ρ',rt:=P,ex:=PX } (ρ ++ f7 (b0M.length - ρ.length) .un):=by
 have eN:b0M.length = 3:=rfl
 obtain ⟨d,t,u,rfl,h⟩:=h
 unfold a7M
 simp only [eN]
 walk_at "ax"
 exact h.need fun x ρ' q=>q _
def a8w:List Str:=["articles", "one", "other", "man"]
def b4Y (w:i3) (K:b0) (W:WX) (ev:Str → f8):TS :=
 (a0P (a5v (a3h (spOf K (v8 ev)) (WE W) (d4 (g9 0) (d4 (g9 1) p7))))
 (a0P (a5v (a3h (spOf K (v8 ev)) (WE W) (d4 (g9 0) (d4 (g9 2) p7))))
 tNo))
def a6u (ev:Str → f8):ASt :=
 (a0t (a3m (a3G (v8 ev) (d3 (i4 0) (d3 (i4 1) n9))))
 (a0t (a3m (a3G (v8 ev) (d3 (i4 0) (d3 (i4 2) n9))))
 sNo))
theorem c2Z {w:i3} {K:b0} {ev:Str → f8} (W:WX):SS K W (b4Y w K W ev) (a6u ev) :=
 (j9 (a0R (a0G (c7 c8 (c7 c8 d9))))
 (j9 (a0R (a0G (c7 c8 (c7 c8 d9))))
 a8p))
def a18 (ev:Str → f8):Ct:=d5q ev
theorem b8V (ev:Str → f8) (ρ:List AV) (P:RV → List AV → Prop) (PX:PXT) (h:a18 ev ρ P PX):ρ.length = 4:=by
 obtain ⟨_,_,_,_,rfl,_⟩:=h
 rfl
theorem b7f (ev:Str → f8) (ρ:List AV) (P:RV → List AV → Prop) (PX:PXT) (h:a18 ev ρ P PX):a6u ev { nx:=fun ρ'=>P (.dat .none) ρ',rt:=P,ex:=PX } (ρ ++ f7 (a8w.length - ρ.length) .un):=by
 have eN:a8w.length = 4:=rfl
 obtain ⟨d,x,y,u,rfl,hd,hx,hy,h1,h2⟩:=h
 unfold a6u
 simp only [eN]
 walk_at "ax"
 refine ⟨d,x,rfl,hd,hx,fun ha ρ'=>h1 ha _,fun ha=>?_⟩
 obtain ⟨A,hA,rfl,n,q⟩:=h2 ha
 refine ⟨A,hA,rfl,fun _ ρ'=>q _,fun z ρ'=>?_⟩
 walk_at "ax"
 refine ⟨A.d,y,rfl,hd,hy,fun e=>?_,fun _=>⟨A,hA,rfl,fun _ ρ'=>q _,fun z2=>absurd ⟨z,z2⟩ n⟩⟩
 rw [ha] at e
 cases e
def b6p:List Str:=["articles", "pages", "found", "man"]
def c46 (w:i3) (K:b0) (W:WX) (ev:Str → f8):TS :=
 (a0P (a5v (a3h (spOf K (v8 ev)) (WE W) (d4 (g9 0) (d4 (g9 1) p7))))
 tNo)
def b1I (ev:Str → f8):ASt :=
 (a0t (a3m (a3G (v8 ev) (d3 (i4 0) (d3 (i4 1) n9))))
 sNo)
theorem c9O {w:i3} {K:b0} {ev:Str → f8} (W:WX):SS K W (c46 w K W ev) (b1I ev) :=
 (j9 (a0R (a0G (c7 c8 (c7 c8 d9))))
 a8p)
def a5U (ev:Str → f8):Ct:=cNp2 ev
theorem c6z (ev:Str → f8) (ρ:List AV) (P:RV → List AV → Prop) (PX:PXT) (h:a5U ev ρ P PX):ρ.length = 2:=by
 obtain ⟨_,_,rfl,_⟩:=h
 rfl
theorem c4E (ev:Str → f8) (ρ:List AV) (P:RV → List AV → Prop) (PX:PXT) (h:a5U ev ρ P PX):b1I ev { nx:=fun ρ'=>P (.dat .none) ρ',rt:=P,ex:=PX } (ρ ++ f7 (b6p.length - ρ.length) .un):=by
 have eN:b6p.length = 4:=rfl
 obtain ⟨d,t,rfl,h⟩:=h
 unfold b1I
 simp only [eN]
 walk_at "ax"
 exact h.need fun x ρ' q=>q _
def a8v:List Str:=["articles", "pages", "day", "page"]
def b4X (w:i3) (K:b0) (W:WX) (ev:Str → f8):TS :=
 (a0P (a5v (a3h (spOf K (v8 ev)) (WE W) (d4 (g9 0) (d4 (g9 1) p7))))
 tNo)
def a6t (ev:Str → f8):ASt :=
 (a0t (a3m (a3G (v8 ev) (d3 (i4 0) (d3 (i4 1) n9))))
 sNo)
theorem c2Y {w:i3} {K:b0} {ev:Str → f8} (W:WX):SS K W (b4X w K W ev) (a6t ev) :=
 (j9 (a0R (a0G (c7 c8 (c7 c8 d9))))
 a8p)
def a2p (ev:Str → f8):Ct:=d8q ev
theorem b8U (ev:Str → f8) (ρ:List AV) (P:RV → List AV → Prop) (PX:PXT) (h:a2p ev ρ P PX):ρ.length = 3:=by
 obtain ⟨_,_,_,rfl,_⟩:=h
 rfl
theorem b7e (ev:Str → f8) (ρ:List AV) (P:RV → List AV → Prop) (PX:PXT) (h:a2p ev ρ P PX):a6t ev { nx:=fun ρ'=>P (.dat .none) ρ',rt:=P,ex:=PX } (ρ ++ f7 (a8v.length - ρ.length) .un):=by
 have eN:a8v.length = 4:=rfl
 obtain ⟨d,t,u,rfl,h⟩:=h
 unfold a6t
 simp only [eN]
 walk_at "ax"
 exact h.need fun x ρ' q=>q _
theorem d3J.pass {ev:Str → f8} {d t:c9} {PX PX':PXT} (h:d3J ev d t PX) (k:∀ x ρ',(∀ ρ',PX (ev x) none ρ') → PX' (ev x) none ρ'):d3J ev d t PX':=by
 obtain ⟨h1,h2,h3,h4⟩:=h
 refine ⟨h1,h2,fun ha ρ'=>k _ _ (h3 ha),fun ha=>?_⟩
 obtain ⟨A,hA,e,n,q⟩:=h4 ha
 exact ⟨A,hA,e,n,fun ρ'=>k _ _ q⟩
def b0N:List Str:=["articles", "pages", "man", "first", "last", "ranks"]
def b70 (w:i3) (K:b0) (W:WX) (ev:Str → f8):TS :=
 (a0P (a5v (a3h (spOf K (o8 ev)) (WE W) (d4 (g9 0) (d4 (g9 1) (d4 (g9 2) p7)))))
 tNo)
def a7N (ev:Str → f8):ASt :=
 (a0t (a3m (a3G (o8 ev) (d3 (i4 0) (d3 (i4 1) (d3 (i4 2) n9)))))
 sNo)
theorem c41 {w:i3} {K:b0} {ev:Str → f8} (W:WX):SS K W (b70 w K W ev) (a7N ev) :=
 (j9 (a0R (a0G (c7 c8 (c7 c8 (c7 c8 d9)))))
 a8p)
def a3J (ev:Str → f8):Ct:=d8q ev
theorem c2q (ev:Str → f8) (ρ:List AV) (P:RV → List AV → Prop) (PX:PXT) (h:a3J ev ρ P PX):ρ.length = 3:=by
 obtain ⟨_,_,_,rfl,_⟩:=h
 rfl
theorem b87 (ev:Str → f8) (ρ:List AV) (P:RV → List AV → Prop) (PX:PXT) (h:a3J ev ρ P PX):a7N ev { nx:=fun ρ'=>P (.dat .none) ρ',rt:=P,ex:=PX } (ρ ++ f7 (b0N.length - ρ.length) .un):=by
 have eN:b0N.length = 6:=rfl
 obtain ⟨d,t,u,rfl,h⟩:=h
 unfold a7N
 simp only [eN]
 walk_at "ax"
 exact ⟨d,t,u,rfl,h.pass fun x ρ' q=>q _⟩
def a8y:List Str:=["articles", "pages", "man"]
def b40 (w:i3) (K:b0) (W:WX) (ev:Str → f8):TS :=
 (a0P (a5v (a3h (spOf K (o8 ev)) (WE W) (d4 (g9 0) (d4 (g9 1) (d4 (g9 2) p7)))))
 tNo)
def a6w (ev:Str → f8):ASt :=
 (a0t (a3m (a3G (o8 ev) (d3 (i4 0) (d3 (i4 1) (d3 (i4 2) n9)))))
 sNo)
theorem c21 {w:i3} {K:b0} {ev:Str → f8} (W:WX):SS K W (b40 w K W ev) (a6w ev) :=
 (j9 (a0R (a0G (c7 c8 (c7 c8 (c7 c8 d9)))))
 a8p)
def a22 (ev:Str → f8):Ct:=d8q ev
theorem b8X (ev:Str → f8) (ρ:List AV) (P:RV → List AV → Prop) (PX:PXT) (h:a22 ev ρ P PX):ρ.length = 3:=by
 obtain ⟨_,_,_,rfl,_⟩:=h
 rfl
theorem b7h (ev:Str → f8) (ρ:List AV) (P:RV → List AV → Prop) (PX:PXT) (h:a22 ev ρ P PX):a6w ev { nx:=fun ρ'=>P (.dat .none) ρ',rt:=P,ex:=PX } (ρ ++ f7 (a8y.length - ρ.length) .un):=by
 have eN:a8y.length = 3:=rfl
 obtain ⟨d,t,u,rfl,h⟩:=h
 unfold a6w
 simp only [eN]
 walk_at "ax"
 exact ⟨d,t,u,rfl,h.pass fun x ρ' q=>q _⟩
def a7A:List Str:=["articles", "pages", "man", "ledger", "begin", "behind", "end", "some", "low", "high", "day"]
def b2x (w:i3) (K:b0) (W:WX) (ev:Str → f8):TS :=
 (a0P (a5v (a3h (spOf K (o8 ev)) (WE W) (d4 (g9 0) (d4 (g9 1) (d4 (g9 2) p7)))))
 tNo)
def a5x (ev:Str → f8):ASt :=
 (a0t (a3m (a3G (o8 ev) (d3 (i4 0) (d3 (i4 1) (d3 (i4 2) n9)))))
 sNo)
theorem b9f {w:i3} {K:b0} {ev:Str → f8} (W:WX):SS K W (b2x w K W ev) (a5x ev) :=
 (j9 (a0R (a0G (c7 c8 (c7 c8 (c7 c8 d9)))))
 a8p)
def a2A (ev:Str → f8):Ct:=d8q ev
theorem b6O (ev:Str → f8) (ρ:List AV) (P:RV → List AV → Prop) (PX:PXT) (h:a2A ev ρ P PX):ρ.length = 3:=by
 obtain ⟨_,_,_,rfl,_⟩:=h
 rfl
theorem b5k (ev:Str → f8) (ρ:List AV) (P:RV → List AV → Prop) (PX:PXT) (h:a2A ev ρ P PX):a5x ev { nx:=fun ρ'=>P (.dat .none) ρ',rt:=P,ex:=PX } (ρ ++ f7 (a7A.length - ρ.length) .un):=by
 have eN:a7A.length = 11:=rfl
 obtain ⟨d,t,u,rfl,h⟩:=h
 unfold a5x
 simp only [eN]
 walk_at "ax"
 exact ⟨d,t,u,rfl,h.pass fun x ρ' q=>q _⟩
def b6o:List Str:=["articles", "pages", "man", "day"]
def c45 (w:i3) (K:b0) (W:WX) (ev:Str → f8):TS :=
 (a0P (a5v (a3h (spOf K (o8 ev)) (WE W) (d4 (g9 0) (d4 (g9 1) (d4 (g9 2) p7)))))
 tNo)
def b1H (ev:Str → f8):ASt :=
 (a0t (a3m (a3G (o8 ev) (d3 (i4 0) (d3 (i4 1) (d3 (i4 2) n9)))))
 sNo)
theorem c9N {w:i3} {K:b0} {ev:Str → f8} (W:WX):SS K W (c45 w K W ev) (b1H ev) :=
 (j9 (a0R (a0G (c7 c8 (c7 c8 (c7 c8 d9)))))
 a8p)
def a5T (ev:Str → f8):Ct:=d3P ev
theorem c6y (ev:Str → f8) (ρ:List AV) (P:RV → List AV → Prop) (PX:PXT) (h:a5T ev ρ P PX):ρ.length = 4:=by
 obtain ⟨_,_,_,_,rfl,_⟩:=h
 rfl
theorem c4D (ev:Str → f8) (ρ:List AV) (P:RV → List AV → Prop) (PX:PXT) (h:a5T ev ρ P PX):b1H ev { nx:=fun ρ'=>P (.dat .none) ρ',rt:=P,ex:=PX } (ρ ++ f7 (b6o.length - ρ.length) .un):=by
 have eN:b6o.length = 4:=rfl
 obtain ⟨d,t,u,v,rfl,h⟩:=h
 unfold b1H
 simp only [eN]
 walk_at "ax"
 exact ⟨d,t,u,rfl,h.pass fun x ρ' q=>q _⟩
def d08:List Str:=["articles", "pages", "man", "day", "ledger", "word"]
def d5U (w:i3) (K:b0) (W:WX) (ev:Str → f8):TS :=
 (a0P (a5v (a3h (spOf K (o8 ev)) (WE W) (d4 (g9 0) (d4 (g9 1) (d4 (g9 2) p7)))))
 tNo)
def c79 (ev:Str → f8):ASt :=
 (a0t (a3m (a3G (o8 ev) (d3 (i4 0) (d3 (i4 1) (d3 (i4 2) n9)))))
 sNo)
theorem d7A {w:i3} {K:b0} {ev:Str → f8} (W:WX):SS K W (d5U w K W ev) (c79 ev) :=
 (j9 (a0R (a0G (c7 c8 (c7 c8 (c7 c8 d9)))))
 a8p)
def b6v (ev:Str → f8):Ct:=d3P ev
theorem d4c (ev:Str → f8) (ρ:List AV) (P:RV → List AV → Prop) (PX:PXT) (h:b6v ev ρ P PX):ρ.length = 4:=by
 obtain ⟨_,_,_,_,rfl,_⟩:=h
 rfl
theorem d1Y (ev:Str → f8) (ρ:List AV) (P:RV → List AV → Prop) (PX:PXT) (h:b6v ev ρ P PX):c79 ev { nx:=fun ρ'=>P (.dat .none) ρ',rt:=P,ex:=PX } (ρ ++ f7 (d08.length - ρ.length) .un):=by
 have eN:d08.length = 6:=rfl
 obtain ⟨d,t,u,v,rfl,h⟩:=h
 unfold c79
 simp only [eN]
 walk_at "ax"
 exact ⟨d,t,u,rfl,h.pass fun x ρ' q=>q _⟩
def c51:List Str:=["articles", "pages", "man", "day"]
def d2w (w:i3) (K:b0) (W:WX) (ev:Str → f8):TS :=
 (a0P (a5v (a3h (spOf K (o8 ev)) (WE W) (d4 (g9 0) (d4 (g9 1) (d4 (g9 2) p7)))))
 tNo)
def c18 (ev:Str → f8):ASt :=
 (a0t (a3m (a3G (o8 ev) (d3 (i4 0) (d3 (i4 1) (d3 (i4 2) n9)))))
 sNo)
theorem d4E {w:i3} {K:b0} {ev:Str → f8} (W:WX):SS K W (d2w w K W ev) (c18 ev) :=
 (j9 (a0R (a0G (c7 c8 (c7 c8 (c7 c8 d9)))))
 a8p)
def b0W (ev:Str → f8):Ct:=d3P ev
theorem d1F (ev:Str → f8) (ρ:List AV) (P:RV → List AV → Prop) (PX:PXT) (h:b0W ev ρ P PX):ρ.length = 4:=by
 obtain ⟨_,_,_,_,rfl,_⟩:=h
 rfl
theorem c9b (ev:Str → f8) (ρ:List AV) (P:RV → List AV → Prop) (PX:PXT) (h:b0W ev ρ P PX):c18 ev { nx:=fun ρ'=>P (.dat .none) ρ',rt:=P,ex:=PX } (ρ ++ f7 (c51.length - ρ.length) .un):=by
 have eN:c51.length = 4:=rfl
 obtain ⟨d,t,u,v,rfl,h⟩:=h
 unfold c18
 simp only [eN]
 walk_at "ax"
 exact ⟨d,t,u,rfl,h.pass fun x ρ' q=>q _⟩
def a8x:List Str:=["articles", "pages", "man", "day", "ledger", "days", "sending", "one"]
def b4Z (w:i3) (K:b0) (W:WX) (ev:Str → f8):TS :=
 (a0P (a5v (a3h (spOf K (o8 ev)) (WE W) (d4 (g9 0) (d4 (g9 1) (d4 (g9 2) p7)))))
 tNo)
def a6v (ev:Str → f8):ASt :=
 (a0t (a3m (a3G (o8 ev) (d3 (i4 0) (d3 (i4 1) (d3 (i4 2) n9)))))
 sNo)
theorem c20 {w:i3} {K:b0} {ev:Str → f8} (W:WX):SS K W (b4Z w K W ev) (a6v ev) :=
 (j9 (a0R (a0G (c7 c8 (c7 c8 (c7 c8 d9)))))
 a8p)
def a21 (ev:Str → f8):Ct:=d3P ev
theorem b8W (ev:Str → f8) (ρ:List AV) (P:RV → List AV → Prop) (PX:PXT) (h:a21 ev ρ P PX):ρ.length = 4:=by
 obtain ⟨_,_,_,_,rfl,_⟩:=h
 rfl
theorem b7g (ev:Str → f8) (ρ:List AV) (P:RV → List AV → Prop) (PX:PXT) (h:a21 ev ρ P PX):a6v ev { nx:=fun ρ'=>P (.dat .none) ρ',rt:=P,ex:=PX } (ρ ++ f7 (a8x.length - ρ.length) .un):=by
 have eN:a8x.length = 8:=rfl
 obtain ⟨d,t,u,v,rfl,h⟩:=h
 unfold a6v
 simp only [eN]
 walk_at "ax"
 exact ⟨d,t,u,rfl,h.pass fun x ρ' q=>q _⟩
def b2W:List Str:=["articles", "pages", "man", "day", "ledger"]
def c09 (w:i3) (K:b0) (W:WX) (ev:Str → f8):TS :=
 (a0P (a5v (a3h (spOf K (o8 ev)) (WE W) (d4 (g9 0) (d4 (g9 1) (d4 (g9 2) p7)))))
 tNo)
def a9p (ev:Str → f8):ASt :=
 (a0t (a3m (a3G (o8 ev) (d3 (i4 0) (d3 (i4 1) (d3 (i4 2) n9)))))
 sNo)
theorem c6X {w:i3} {K:b0} {ev:Str → f8} (W:WX):SS K W (c09 w K W ev) (a9p ev) :=
 (j9 (a0R (a0G (c7 c8 (c7 c8 (c7 c8 d9)))))
 a8p)
def a4I (ev:Str → f8):Ct:=d3P ev
theorem c4l (ev:Str → f8) (ρ:List AV) (P:RV → List AV → Prop) (PX:PXT) (h:a4I ev ρ P PX):ρ.length = 4:=by
 obtain ⟨_,_,_,_,rfl,_⟩:=h
 rfl
theorem c2G (ev:Str → f8) (ρ:List AV) (P:RV → List AV → Prop) (PX:PXT) (h:a4I ev ρ P PX):a9p ev { nx:=fun ρ'=>P (.dat .none) ρ',rt:=P,ex:=PX } (ρ ++ f7 (b2W.length - ρ.length) .un):=by
 have eN:b2W.length = 5:=rfl
 obtain ⟨d,t,u,v,rfl,h⟩:=h
 unfold a9p
 simp only [eN]
 walk_at "ax"
 exact ⟨d,t,u,rfl,h.pass fun x ρ' q=>q _⟩
def c52:List Str:=["articles", "pages", "man", "day", "ledger", "one"]
def d2x (w:i3) (K:b0) (W:WX) (ev:Str → f8):TS :=
 (a0P (a5v (a3h (spOf K (o8 ev)) (WE W) (d4 (g9 0) (d4 (g9 1) (d4 (g9 2) p7)))))
 tNo)
def c19 (ev:Str → f8):ASt :=
 (a0t (a3m (a3G (o8 ev) (d3 (i4 0) (d3 (i4 1) (d3 (i4 2) n9)))))
 sNo)
theorem d4F {w:i3} {K:b0} {ev:Str → f8} (W:WX):SS K W (d2x w K W ev) (c19 ev) :=
 (j9 (a0R (a0G (c7 c8 (c7 c8 (c7 c8 d9)))))
 a8p)
def b0X (ev:Str → f8):Ct:=d3P ev
theorem d1H (ev:Str → f8) (ρ:List AV) (P:RV → List AV → Prop) (PX:PXT) (h:b0X ev ρ P PX):ρ.length = 4:=by
 obtain ⟨_,_,_,_,rfl,_⟩:=h
 rfl
theorem c9c (ev:Str → f8) (ρ:List AV) (P:RV → List AV → Prop) (PX:PXT) (h:b0X ev ρ P PX):c19 ev { nx:=fun ρ'=>P (.dat .none) ρ',rt:=P,ex:=PX } (ρ ++ f7 (c52.length - ρ.length) .un):=by
 have eN:c52.length = 6:=rfl
 obtain ⟨d,t,u,v,rfl,h⟩:=h
 unfold c19
 simp only [eN]
 walk_at "ax"
 exact ⟨d,t,u,rfl,h.pass fun x ρ' q=>q _⟩
def b0O:List Str:=["articles", "pages", "man", "day", "ledger", "wages", "fines", "most"]
def b71 (w:i3) (K:b0) (W:WX) (ev:Str → f8):TS :=
 (a0P (a5v (a3h (spOf K (o8 ev)) (WE W) (d4 (g9 0) (d4 (g9 1) (d4 (g9 2) p7)))))
 tNo)
def a7O (ev:Str → f8):ASt :=
 (a0t (a3m (a3G (o8 ev) (d3 (i4 0) (d3 (i4 1) (d3 (i4 2) n9)))))
 sNo)
theorem c42 {w:i3} {K:b0} {ev:Str → f8} (W:WX):SS K W (b71 w K W ev) (a7O ev) :=
 (j9 (a0R (a0G (c7 c8 (c7 c8 (c7 c8 d9)))))
 a8p)
def a3K (ev:Str → f8):Ct:=d3P ev
theorem c2r (ev:Str → f8) (ρ:List AV) (P:RV → List AV → Prop) (PX:PXT) (h:a3K ev ρ P PX):ρ.length = 4:=by
 obtain ⟨_,_,_,_,rfl,_⟩:=h
 rfl
theorem b88 (ev:Str → f8) (ρ:List AV) (P:RV → List AV → Prop) (PX:PXT) (h:a3K ev ρ P PX):a7O ev { nx:=fun ρ'=>P (.dat .none) ρ',rt:=P,ex:=PX } (ρ ++ f7 (b0O.length - ρ.length) .un):=by
 have eN:b0O.length = 8:=rfl
 obtain ⟨d,t,u,v,rfl,h⟩:=h
 unfold a7O
 simp only [eN]
 walk_at "ax"
 exact ⟨d,t,u,rfl,h.pass fun x ρ' q=>q _⟩
def a6O:List Str:=["articles", "pages", "man", "pence", "ledger", "first", "last", "rank", "top", "bottom", "pay", "days", "many"]
def b0r (w:i3) (K:b0) (W:WX) (ev:Str → f8):TS :=
 (a0P (a5v (a3h (spOf K (o8 ev)) (WE W) (d4 (g9 0) (d4 (g9 1) (d4 (g9 2) p7)))))
 tNo)
def a4V (ev:Str → f8):ASt :=
 (a0t (a3m (a3G (o8 ev) (d3 (i4 0) (d3 (i4 1) (d3 (i4 2) n9)))))
 sNo)
theorem b7M {w:i3} {K:b0} {ev:Str → f8} (W:WX):SS K W (b0r w K W ev) (a4V ev) :=
 (j9 (a0R (a0G (c7 c8 (c7 c8 (c7 c8 d9)))))
 a8p)
def a2N (ev:Str → f8):Ct:=d3P ev
theorem b5d (ev:Str → f8) (ρ:List AV) (P:RV → List AV → Prop) (PX:PXT) (h:a2N ev ρ P PX):ρ.length = 4:=by
 obtain ⟨_,_,_,_,rfl,_⟩:=h
 rfl
theorem b3m (ev:Str → f8) (ρ:List AV) (P:RV → List AV → Prop) (PX:PXT) (h:a2N ev ρ P PX):a4V ev { nx:=fun ρ'=>P (.dat .none) ρ',rt:=P,ex:=PX } (ρ ++ f7 (a6O.length - ρ.length) .un):=by
 have eN:a6O.length = 13:=rfl
 obtain ⟨d,t,u,v,rfl,h⟩:=h
 unfold a4V
 simp only [eN]
 walk_at "ax"
 exact ⟨d,t,u,rfl,h.pass fun x ρ' q=>q _⟩
def a5P:List Str:=["articles", "one", "other", "man"]
def a81 (w:i3) (K:b0) (W:WX) (ev:Str → f8):TS :=
 (a0P (a5v (a3h (spOf K (a18 ev)) (WE W) (d4 (g9 0) (d4 (g9 1) (d4 (g9 2) (d4 (g9 3) p7))))))
 tNo)
def a4g (ev:Str → f8):ASt :=
 (a0t (a3m (a3G (a18 ev) (d3 (i4 0) (d3 (i4 1) (d3 (i4 2) (d3 (i4 3) n9))))))
 sNo)
theorem b5y {w:i3} {K:b0} {ev:Str → f8} (W:WX):SS K W (a81 w K W ev) (a4g ev) :=
 (j9 (a0R (a0G (c7 c8 (c7 c8 (c7 c8 (c7 c8 d9))))))
 a8p)
def a0p (ev:Str → f8):Ct:=d5q ev
theorem b27 (ev:Str → f8) (ρ:List AV) (P:RV → List AV → Prop) (PX:PXT) (h:a0p ev ρ P PX):ρ.length = 4:=by
 obtain ⟨_,_,_,_,rfl,_⟩:=h
 rfl
theorem b2a (ev:Str → f8) (ρ:List AV) (P:RV → List AV → Prop) (PX:PXT) (h:a0p ev ρ P PX):a4g ev { nx:=fun ρ'=>P (.dat .none) ρ',rt:=P,ex:=PX } (ρ ++ f7 (a5P.length - ρ.length) .un):=by
 have eN:a5P.length = 4:=rfl
 obtain ⟨d,x,y,u,rfl,hd,hx,hy,h1,h2⟩:=h
 unfold a4g
 simp only [eN]
 walk_at "ax"
 refine ⟨d,x,y,u,rfl,hd,hx,hy,fun ha ρ'=>h1 ha _,fun ha=>?_⟩
 obtain ⟨A,hA,e,n,q⟩:=h2 ha
 exact ⟨A,hA,e,n,fun ρ'=>q _⟩
def a6N:List Str:=["articles", "one", "other", "man", "month", "found"]
def b0q (w:i3) (K:b0) (W:WX) (ev:Str → f8):TS :=
 (a0P (a5v (a3h (spOf K (a18 ev)) (WE W) (d4 (g9 0) (d4 (g9 1) (d4 (g9 2) (d4 (g9 3) p7))))))
 tNo)
def a4U (ev:Str → f8):ASt :=
 (a0t (a3m (a3G (a18 ev) (d3 (i4 0) (d3 (i4 1) (d3 (i4 2) (d3 (i4 3) n9))))))
 sNo)
theorem b7L {w:i3} {K:b0} {ev:Str → f8} (W:WX):SS K W (b0q w K W ev) (a4U ev) :=
 (j9 (a0R (a0G (c7 c8 (c7 c8 (c7 c8 (c7 c8 d9))))))
 a8p)
def a00 (ev:Str → f8):Ct:=d5q ev
theorem b5c (ev:Str → f8) (ρ:List AV) (P:RV → List AV → Prop) (PX:PXT) (h:a00 ev ρ P PX):ρ.length = 4:=by
 obtain ⟨_,_,_,_,rfl,_⟩:=h
 rfl
theorem b3l (ev:Str → f8) (ρ:List AV) (P:RV → List AV → Prop) (PX:PXT) (h:a00 ev ρ P PX):a4U ev { nx:=fun ρ'=>P (.dat .none) ρ',rt:=P,ex:=PX } (ρ ++ f7 (a6N.length - ρ.length) .un):=by
 have eN:a6N.length = 6:=rfl
 obtain ⟨d,x,y,u,rfl,hd,hx,hy,h1,h2⟩:=h
 unfold a4U
 simp only [eN]
 walk_at "ax"
 refine ⟨d,x,y,u,rfl,hd,hx,hy,fun ha ρ'=>h1 ha _,fun ha=>?_⟩
 obtain ⟨A,hA,e,n,q⟩:=h2 ha
 exact ⟨A,hA,e,n,fun ρ'=>q _⟩
def a34:List Str:=["articles", "one", "other", "man", "days", "row"]
def a8U (w:i3) (K:b0) (W:WX) (ev:Str → f8):TS :=
 (a0P (a3w (tLc (c2j K (tSl (c0W K) (a3h (spOf K (a0p ev)) (WE W) (d4 (g9 0) (d4 (g9 1) (d4 (g9 2) (d4 (g9 3) p7))))) tNoPart (tPart (tC (.int 1))))) (v4 5) c3U (tOp (rIx K) (g9 5) (tC (.int 0))) [5]) (v4 4))
 tNo)
def a4e (ev:Str → f8):ASt :=
 (a0t (a2T 4 (aLc (a6i (aSl (a3G (a0p ev) (d3 (i4 0) (d3 (i4 1) (d3 (i4 2) (d3 (i4 3) n9))))) b0P (b6q (aC (.int 1))))) [5] (gN 5) b9R (aOp gIx (i4 5) (aC (.int 0)))))
 sNo)
theorem b5r {w:i3} {K:b0} {ev:Str → f8} (W:WX):SS K W (a8U w K W ev) (a4e ev) :=
 (j9 (y9 (a6Z (a45 (d3V (a0G (c7 c8 (c7 c8 (c7 c8 (c7 c8 d9))))) c6M (b02 d6))) a0W a57 (g6 y8 c8 d6) (by decide)))
 a8p)
def a0N (ev:Str → f8):Ct:=d5q ev
theorem b25 (ev:Str → f8) (ρ:List AV) (P:RV → List AV → Prop) (PX:PXT) (h:a0N ev ρ P PX):ρ.length = 4:=by
 obtain ⟨_,_,_,_,rfl,_⟩:=h
 rfl
theorem b18 (ev:Str → f8) (ρ:List AV) (P:RV → List AV → Prop) (PX:PXT) (h:a0N ev ρ P PX):a4e ev { nx:=fun ρ'=>P (.dat .none) ρ',rt:=P,ex:=PX } (ρ ++ f7 (a34.length - ρ.length) .un):=by
 have eN:a34.length = 6:=rfl
 obtain ⟨d,x,y,u,rfl,hd,hx,hy,h1,h2⟩:=h
 unfold a4e
 simp only [eN]
 walk_at "ax"
 refine ⟨d,x,y,u,rfl,hd,hx,hy,fun ha ρ'=>h1 ha _,fun ha=>?_⟩
 obtain ⟨A,hA,e,n,q⟩:=h2 ha
 exact ⟨A,hA,e,n,fun ρ'=>q _⟩
end Cw
namespace Cw
open PySem L2 Aq
local macro_rules | `(tactic| walk_at "ax")=>`(tactic| simp? [a1l])
def a3x:List Str:=["articles", "thing", "page"]
def a6A (w:i3) (K:b0):TS :=
 (a3p (tOp (c5O K) (b56 w K (g9 1)) (tCB (a5E K) (d4 (g9 1) p7))))
def a38:ASt :=
 (a2r (aOp gEq (b50 (i4 1)) (aCB b6H (d3 (i4 1) n9))))
theorem b1c {w:i3} {K:b0} (a5u:IsiOk K "list") (W:WX):SS K W (a6A w K) a38 :=
 (t7 (g6 a4s (b93 c8) (a2l a4w (c7 c8 d9))))
def a6B (w:i3) (K:b0):TS :=
 (a0P (a6h (a1e (tOp (rNeD K) (tLc (c2j K (g9 1)) (v4 2) (c77 (a8Q K (r6 (spOf K a2d) [] E0 (d4 (g9 0) (d4 (g9 2) p7))))) (g9 2) [2]) (b1C p7))) (a3p (tC (.bl false))) a15)
 (a6A w K))
def a39:ASt :=
 (a0t (sIf (a3Z (aOp gNe (aLc (a6i (i4 1)) [2] (gN 2) (b2M (a9I (m7 a2d (d3 (i4 0) (d3 (i4 2) n9))))) (i4 2)) (a49 n9))) (a2r (aC (.bool false))) a1m)
 a38)
theorem b1d {w:i3} {K:b0} (a5u:IsiOk K "list") (W:WX):SS K W (a6B w K) a39 :=
 (j9 (a05 (t8 (g6 b3D (a6Z (a45 c8) a0W (a2s (a1V (j4 (c7 c8 (c7 c8 d9))))) c8 (by decide)) (a0T d9))) (t7 a4i) y0)
 (b1c  a5u W))
def a78 (w:i3) (K:b0):TS :=
 (a0P (a6h (tOr (c77 (a8Q K (c04 K "list" (g9 1)))) (a1e (tOp d5O (tCB (a5E K) (d4 (g9 1) p7)) (tC (.int 200))))) (a3p (tC (.bl false))) a15)
 (a6B w K))
def a3z:ASt :=
 (a0t (sIf (aOr (b2M (a9I (b9Q "list" (i4 1)))) (a3Z (aOp gGt (aCB b6H (d3 (i4 1) n9)) (aC (.int 200))))) (a2r (aC (.bool false))) a1m)
 a39)
theorem b3J {w:i3} {K:b0} (a5u:IsiOk K "list") (W:WX):SS K W (a78 w K) a3z :=
 (j9 (a05 (a9R (a2s (a1V (a4t a5u c8))) (t8 (g6 a3X (a2l a4w (c7 c8 d9)) d6))) (t7 a4i) y0)
 (b1d  a5u W))
def a14:Ct:=fun ρ P _=>∃ (A:Art) (t:c9),ρ = [.dat A.d,.dat t] ∧ A.Ok ∧ a6F t ∧ ∀ b:Bool,(b = true ↔ b1E A t) → ∀ ρ',P (.dat (.bool b)) ρ'
theorem b1X (ρ:List AV) (P:RV → List AV → Prop) (PX:PXT) (h:a14 ρ P PX):ρ.length = 2:=by
 obtain ⟨_,_,rfl,_⟩:=h
 rfl
theorem b04 (ρ:List AV) (P:RV → List AV → Prop) (PX:PXT) (h:a14 ρ P PX):a3z { nx:=fun ρ'=>P (.dat .none) ρ',rt:=P,ex:=PX } (ρ ++ f7 (a3x.length - ρ.length) .un):=by
 have eN:a3x.length = 3:=rfl
 obtain ⟨A,t,rfl,hA,ht,h⟩:=h
 unfold a3z
 simp only [eN]
 have no:(∀ ds,t = .list ds → ds.length ≤ 200 → ∃ d ∈ ds,a5k A d = false) → ∀ ρ',P (.dat (.bool false)) ρ':=fun n ρ'=>h false ⟨fun e=>(nomatch e),fun z=>by
  obtain ⟨ds,rfl,l,a⟩:=z.list
  obtain ⟨d,hd,e⟩:=n ds rfl l
  rw [a d hd] at e
  exact e.symm⟩ ρ'
 cases t with
 | list ds =>
  obtain ⟨dl,de⟩:=ht.lst
  walk_at "ax"
  split
  ·rename_i hl
   exact no (fun ds' e l=>by cases e; omega) _
  ·rename_i hl
   unfold a39
   walk_at "ax"
   refine b6M (fun y=>[.dat A.d,.dat (.list ds),.dat y]) (fun y=>!a5k A y) id _ _ ?_ ?_ ?_ ?_ ?_ ?_
   ·intro y _ k hk
    exact hk
   ·intro y _
    rfl
   ·intro y hy k hk
    walk_at "ax"
    refine ⟨A,y,rfl,hA,de y hy,fun ρ'=>?_⟩
    walk_at "ax"
    exact hk
   ·intro y hy _ k hk
    walk_at "ax"
    exact hk
   ·rw [a0V]
    simp
    omega
   ·rw [a0L,d0Z]
    have sf:a0g (.list (ds.filter fun y=>!a5k A y)) = true:=by
     refine a0F.shp (b:=10000) (n:=61) (a1w (n:=60) (a0y (b6g ..) dl) fun e he=>?_) (by decide)
     exact de e (b6i.mp he).1
    have en:ds.filter (fun y=>!a5k A y) = [] ↔ ∀ d ∈ ds,a5k A d = true:=by
     rw [d8l]
     exact ⟨fun q d hd=>by simpa using q d hd,fun q d hd=>by simpa using q d hd⟩
    generalize ds.filter (fun y=>!a5k A y) = fs at sf en ⊢
    walk_at "ax"
    refine ⟨sf,?_⟩
    cases fs with
    | cons f fs =>
     rw [if_neg (by simp [a1j])]
     refine no (fun ds' e' l=>?_) _
     cases e'
     apply b0G
     intro hn
     have:=en.mpr fun d hd=>by
      cases e2:a5k A d with
      | true=>rfl
      | false=>exact absurd ⟨d,hd,e2⟩ hn
     cases this
    | nil =>
     rw [if_pos (by simp [a1j])]
     obtain ⟨ps,rfl,hps⟩:=d1X (en.mp rfl)
     rw [g8] at hl
     unfold a38
     walk_at "ax"
     rw [show a7p (ps.map Pg.d) = some (ps.map Pg.k) by rw [d4e,b3X]]
     walk_at "ax"
     refine ⟨by omega,fun es n1 mem=>?_⟩
     have key:es.length = ps.length ↔ ps.Nodup:=by
      have:=c4k (l:=ps.map Pg.k) n1 fun k=>by simpa using mem k
      rw [g8] at this
      exact this.trans ⟨b12 Pg.k,b3c hps⟩
     walk_at "ax"
     refine h _ ?_ _
     rw [beq_iff_eq,Int.natCast_inj,key]
     exact ⟨fun nd=>⟨ps,rfl,hps,nd,by omega⟩,fun z=>z.nodup hps⟩
 | _ =>
  walk_at "ax"
  exact no (fun ds' e l=>nomatch e) _
def a8t:List Str:=["door", "articles", "pages", "good"]
def b0b (w:i3) (K:b0) (W:WX) (ev:Str → f8):TS :=
 (a3p (d7B 0 17 (d0P (spOf K) [(a0p ev),(a00 ev),(a0N ev)]) (WE W) (d4 (g9 1) (d4 (g9 3) (d4 (g9 2) (d4 (tC (.str "a")) p7))))))
def a6Q (ev:Str → f8):ASt :=
 (a2r (d6f [(a0p ev),(a00 ev),(a0N ev)] 0 17 (d3 (i4 1) (d3 (i4 3) (d3 (i4 2) (d3 (aC (.str "a")) n9))))))
theorem b7v {w:i3} {K:b0} {ev:Str → f8} (W:WX):SS K W (b0b w K W ev) (a6Q ev) :=
 (t7 (c36 (c7 c8 (c7 c8 (c7 c8 (c7 w3 d9))))))
def b0c (w:i3) (K:b0) (W:WX) (ev:Str → f8):TS :=
 (a0P (a6h (a1e (tOp c8w (g9 0) (tC (.int 17)))) (a3p (d7B 0 14 (d0P (spOf K) [(a0p ev),(a00 ev),(a0N ev)]) (WE W) (d4 (g9 1) (d4 (g9 2) (d4 (g9 3) (d4 (tC (.str "a")) p7)))))) a15)
 (b0b w K W ev))
def a6R (ev:Str → f8):ASt :=
 (a0t (sIf (a3Z (aOp gLt (i4 0) (aC (.int 17)))) (a2r (d6f [(a0p ev),(a00 ev),(a0N ev)] 0 14 (d3 (i4 1) (d3 (i4 2) (d3 (i4 3) (d3 (aC (.str "a")) n9)))))) a1m)
 (a6Q ev))
theorem b7w {w:i3} {K:b0} {ev:Str → f8} (W:WX):SS K W (b0c w K W ev) (a6R ev) :=
 (j9 (a05 (t8 (g6 a3X c8 d6)) (t7 (c36 (c7 c8 (c7 c8 (c7 c8 (c7 w3 d9)))))) y0)
 (b7v  W))
def b0d (w:i3) (K:b0) (W:WX) (ev:Str → f8):TS :=
 (a0P (a6h (a1e (tOp (c5O K) (g9 0) (tC (.int 13)))) (a3p (a3h (spOf K (a2N ev)) (WE W) (d4 (g9 1) (d4 (g9 2) (d4 (tC (.str "a")) (d4 (tC (.int 5)) p7)))))) a15)
 (b0c w K W ev))
def a6S (ev:Str → f8):ASt :=
 (a0t (sIf (a3Z (aOp gEq (i4 0) (aC (.int 13)))) (a2r (a3G (a2N ev) (d3 (i4 1) (d3 (i4 2) (d3 (aC (.str "a")) (d3 (aC (.int 5)) n9)))))) a1m)
 (a6R ev))
theorem b7x {w:i3} {K:b0} {ev:Str → f8} (W:WX):SS K W (b0d w K W ev) (a6S ev) :=
 (j9 (a05 (t8 (g6 a4s c8 d6)) (t7 (a0G (c7 c8 (c7 c8 (c7 w3 (c7 d6 d9)))))) y0)
 (b7w  W))
def b0e (w:i3) (K:b0) (W:WX) (ev:Str → f8):TS :=
 (a0P (a6h (a1e (tOp c8w (g9 0) (tC (.int 13)))) (a3p (d7B 0 6 (d0P (spOf K) [(a5T ev),(b6v ev),(b0W ev),(a21 ev),(a4I ev),(b0X ev),(a3K ev)]) (WE W) (d4 (g9 1) (d4 (g9 2) (d4 (tC (.str "a")) (d4 (tC (.int 5)) p7)))))) a15)
 (b0d w K W ev))
def a6T (ev:Str → f8):ASt :=
 (a0t (sIf (a3Z (aOp gLt (i4 0) (aC (.int 13)))) (a2r (d6f [(a5T ev),(b6v ev),(b0W ev),(a21 ev),(a4I ev),(b0X ev),(a3K ev)] 0 6 (d3 (i4 1) (d3 (i4 2) (d3 (aC (.str "a")) (d3 (aC (.int 5)) n9)))))) a1m)
 (a6S ev))
theorem b7y {w:i3} {K:b0} {ev:Str → f8} (W:WX):SS K W (b0e w K W ev) (a6T ev) :=
 (j9 (a05 (t8 (g6 a3X c8 d6)) (t7 (c36 (c7 c8 (c7 c8 (c7 w3 (c7 d6 d9)))))) y0)
 (b7x  W))
def b0f (w:i3) (K:b0) (W:WX) (ev:Str → f8):TS :=
 (a0P (a6h (a1e (tOp c8w (g9 0) (tC (.int 6)))) (a3p (d7B 0 3 (d0P (spOf K) [(a3J ev),(a22 ev),(a2A ev)]) (WE W) (d4 (g9 1) (d4 (g9 2) (d4 (tC (.str "a")) p7))))) a15)
 (b0e w K W ev))
def a6U (ev:Str → f8):ASt :=
 (a0t (sIf (a3Z (aOp gLt (i4 0) (aC (.int 6)))) (a2r (d6f [(a3J ev),(a22 ev),(a2A ev)] 0 3 (d3 (i4 1) (d3 (i4 2) (d3 (aC (.str "a")) n9))))) a1m)
 (a6T ev))
theorem b7z {w:i3} {K:b0} {ev:Str → f8} (W:WX):SS K W (b0f w K W ev) (a6U ev) :=
 (j9 (a05 (t8 (g6 a3X c8 d6)) (t7 (c36 (c7 c8 (c7 c8 (c7 w3 d9))))) y0)
 (b7y  W))
def b4P (w:i3) (K:b0) (W:WX) (ev:Str → f8):TS :=
 (a0P (a6h (a1e (tOp c8w (g9 0) (tC (.int 3)))) (a3p (tIf (a1e (tOp c8w (g9 0) (tC (.int 2)))) (d7B 0 0 (d0P (spOf K) [(a5U ev),(b2X ev),(a2p ev)]) (WE W) (d4 (g9 1) (d4 (g9 2) p7))) (a3h (spOf K (a2p ev)) (WE W) (d4 (g9 1) (d4 (g9 2) (d4 (tC (.int 5)) p7)))))) a15)
 (b0f w K W ev))
def a6n (ev:Str → f8):ASt :=
 (a0t (sIf (a3Z (aOp gLt (i4 0) (aC (.int 3)))) (a2r (aIfE (a3Z (aOp gLt (i4 0) (aC (.int 2)))) (d6f [(a5U ev),(b2X ev),(a2p ev)] 0 0 (d3 (i4 1) (d3 (i4 2) n9))) (a3G (a2p ev) (d3 (i4 1) (d3 (i4 2) (d3 (aC (.int 5)) n9)))))) a1m)
 (a6U ev))
theorem c2Q {w:i3} {K:b0} {ev:Str → f8} (W:WX):SS K W (b4P w K W ev) (a6n ev) :=
 (j9 (a05 (t8 (g6 a3X c8 d6)) (t7 (d9i (t8 (g6 a3X c8 d6)) (c36 (c7 c8 (c7 c8 d9))) (a0G (c7 c8 (c7 c8 (c7 d6 d9)))))) y0)
 (b7z  W))
def a3Q (ev:Str → f8):Ct:=fun ρ _ PX=>∃ k d t g,ρ = [.dat (.int k),.dat d,.dat t,.dat g] ∧ 0 ≤ k ∧ k < 20 ∧ a6F g ∧ d3J ev d t PX
theorem b8O (ev:Str → f8) (ρ:List AV) (P:RV → List AV → Prop) (PX:PXT) (h:a3Q ev ρ P PX):ρ.length = 4:=by
 obtain ⟨_,_,_,_,rfl,_⟩:=h
 rfl
theorem d36 {cs:List Ct} {c:Ct} (h:∀ x ∈ cs,x = c) {a:AAx} {ρ:List AV} {PX:PXT} {P:PK} {i:Nat} (hi:i < cs.length) (k:a3G c a ρ PX P):kSel cs a ρ PX P i :=
 ⟨cs[i],j6 hi,by rw [h _ (b4t hi)]; exact k⟩
theorem c8z {cs:List Ct} {c:Ct} (h:∀ x ∈ cs,x = c) {a:AAx} {ρ:List AV} {PX:PXT} {P:PK} {j:Nat} {n k:Int} (e:ρ[j]? = some (.dat (.int k))) (h1:n ≤ k) (h2:k < n + cs.length) (q:a3G c a ρ PX P):d6f cs j n a ρ PX P :=
 ⟨(k - n).toNat,by rw [e]; congr; omega,d36 h (by omega) q⟩
theorem b68 (ev:Str → f8) (ρ:List AV) (P:RV → List AV → Prop) (PX:PXT) (h:a3Q ev ρ P PX):a6n ev { nx:=fun ρ'=>P (.dat .none) ρ',rt:=P,ex:=PX } (ρ ++ f7 (a8t.length - ρ.length) .un):=by
 have eN:a8t.length = 4:=rfl
 obtain ⟨k,d,t,g,rfl,k0,k1,hg,h⟩:=h
 unfold a6n
 simp only [eN]
 have hb:∀ {PX':PXT} {P:RV → List AV → Prop},(∀ x ρ',(∀ ρ',PX (ev x) none ρ') → PX' (ev x) none ρ') → d5q ev [.dat d,.dat t,.dat g,.dat (.str "a")] P PX' ∧ d5q ev [.dat d,.dat g,.dat t,.dat (.str "a")] P PX':=fun {PX' P} q=>by
  obtain ⟨h1,h2,h3,h4⟩:=h
  refine ⟨⟨d,t,g,_,rfl,h1,h2,hg,fun ha ρ'=>q _ _ (h3 ha),fun ha=>?_⟩,⟨d,g,t,_,rfl,h1,hg,h2,fun ha ρ'=>q _ _ (h3 ha),fun ha=>?_⟩⟩
  ·obtain ⟨A,hA,e,n,z⟩:=h4 ha
   exact ⟨A,hA,e,fun y=>n y.1,fun ρ'=>q _ _ z⟩
  ·obtain ⟨A,hA,e,n,z⟩:=h4 ha
   exact ⟨A,hA,e,fun y=>n y.2,fun ρ'=>q _ _ z⟩
 walk_at "ax"
 split
 ·rename_i hk
  split
  ·rename_i hk2
   have h01:k = 0 ∨ k = 1:=by omega
   rcases h01 with rfl | rfl
   ·refine ⟨0,rfl,a5U ev,rfl,?_⟩
    walk_at "ax"
    exact ⟨d,t,rfl,h.pass fun x ρ' q=>q _⟩
   ·refine ⟨1,rfl,b2X ev,rfl,?_⟩
    walk_at "ax"
    obtain ⟨h1,h2,h3,h4⟩:=h
    refine ⟨d,t,rfl,h1,h2,fun ha ρ'=>h3 ha _,fun ha=>?_⟩
    obtain ⟨A,hA,e,n,q⟩:=h4 ha
    refine ⟨A,hA,e,fun _ ρ'=>q _,fun ps e1 e2 e3 e4=>absurd ⟨ps,e1,e2,e3,e4⟩ n⟩
  ·walk_at "ax"
   exact ⟨d,t,_,rfl,h.pass fun x ρ' q=>q _⟩
 ·rename_i hk
  unfold a6U
  walk_at "ax"
  split
  ·rename_i hk2
   refine c8z (c:=d8q ev) (by simp [a3J,a22,a2A]) rfl (by omega) (by simp; omega) ?_
   walk_at "ax"
   exact ⟨d,t,_,rfl,h.pass fun x ρ' q=>q _⟩
  ·rename_i hk2
   unfold a6T
   walk_at "ax"
   split
   ·rename_i hk3
    refine c8z (c:=d3P ev) (by simp [a5T,b6v,b0W,a21,a4I,b0X,a3K]) rfl (by omega) (by simp; omega) ?_
    walk_at "ax"
    exact ⟨d,t,_,_,rfl,h.pass fun x ρ' q=>q _⟩
   ·rename_i hk3
    unfold a6S
    walk_at "ax"
    split
    ·walk_at "ax"
     exact ⟨d,t,_,_,rfl,h.pass fun x ρ' q=>q _⟩
    ·rename_i hk4
     unfold a6R
     walk_at "ax"
     split
     ·rename_i hk5
      refine c8z (c:=d5q ev) (by simp [a0p,a00,a0N]) rfl (by omega) (by simp; omega) ?_
      walk_at "ax"
      exact (hb (PX':=bkX PX [.dat (.int k),.dat d,.dat t,.dat g] []) fun x ρ' q=>q _).1
     ·rename_i hk5
      unfold a6Q
      walk_at "ax"
      refine c8z (c:=d5q ev) (by simp [a0p,a00,a0N]) rfl (by omega) (by simp; omega) ?_
      walk_at "ax"
      exact (hb (PX':=bkX PX [.dat (.int k),.dat d,.dat t,.dat g] []) fun x ρ' q=>q _).2
def a6M:List Str:=["door", "articles", "pages", "good", "kind", "e"]
def a8k (w:i3) (K:b0) (ev:Str → f8):TS :=
 (a3p (g9 4))
def a3D (ev:Str → f8):ASt :=
 (a2r (i4 4))
theorem b3V {w:i3} {K:b0} {ev:Str → f8} (d8h:∀ x ∈ kNs,b0I K (ev x) (ev "WageError") = some true) (W:WX):SS K W (a8k w K ev) (a3D ev) :=
 (t7 c8)
def b0n (w:i3) (K:b0) (ev:Str → f8):TS :=
 (a0P (a3w (tC (.str "")) (v4 4))
 (a0P (tTry K (ev "WageError") 5 (fun W=>(a5v (a3h (spOf K (a3Q ev)) (WE W) (d4 (g9 0) (d4 (g9 1) (d4 (g9 2) (d4 (g9 3) p7))))))) (fun a cls d=>(a3w (d2m K ev kNs 5 a cls d) (v4 4))) W0)
 (a8k w K ev)))
def a4T (ev:Str → f8):ASt :=
 (a0t (a2T 4 (aC (.str "")))
 (a0t (sTry ev kNs 5 (a3m (a3G (a3Q ev) (d3 (i4 0) (d3 (i4 1) (d3 (i4 2) (d3 (i4 3) n9)))))) (fun a x=>(a2T 4 (d3L 5 a x))))
 (a3D ev)))
theorem b7H {w:i3} {K:b0} {ev:Str → f8} (d8h:∀ x ∈ kNs,b0I K (ev x) (ev "WageError") = some true) (W:WX):SS K W (b0n w K ev) (a4T ev) :=
 (j9 (y9 w3)
 (j9 (e0a (fun W=>(a0R (a0G (c7 c8 (c7 c8 (c7 c8 (c7 c8 d9))))))) d8h (fun a x hx=>(y9 (d6n hx))))
 (b3V  d8h W)))
def a1A:Ct:=fun ρ P _=>∃ k d t g,ρ = [.dat (.int k),.dat d,.dat t,.dat g] ∧ 0 ≤ k ∧ k < 20 ∧ okD d = true ∧ a6F t ∧ a6F g ∧ (a3r d = false → ∀ ρ',P (.dat (.str "NoArticles+")) ρ') ∧ (a3r d = true → ∃ A:Art,A.Ok ∧ d = A.d ∧ ¬ b1E A t ∧ ∀ ρ',P (.dat (.str "NoPages+")) ρ')
theorem b5b (ρ:List AV) (P:RV → List AV → Prop) (PX:PXT) (h:a1A ρ P PX):ρ.length = 4:=by
 obtain ⟨_,_,_,_,rfl,_⟩:=h
 rfl
theorem b3k (ev:Str → f8) (ρ:List AV) (P:RV → List AV → Prop) (PX:PXT) (h:a1A ρ P PX):a4T ev { nx:=fun ρ'=>P (.dat .none) ρ',rt:=P,ex:=PX } (ρ ++ f7 (a6M.length - ρ.length) .un):=by
 have eN:a6M.length = 6:=rfl
 obtain ⟨k,d,t,g,rfl,k0,k1,hd,ht,hg,h1,h2⟩:=h
 unfold a4T
 simp only [eN]
 walk_at "ax"
 refine ⟨k,d,t,g,rfl,k0,k1,hg,hd,ht,fun ha ρ'=>?_,fun ha=>?_⟩
 ·rw [c5c,a5l]
  refine d5y "NoArticles" (by decide) fun a=>?_
  walk_at "ax"
  refine d5W rfl ?_
  walk_at "ax"
  unfold a3D
  walk_at "ax"
  exact h1 ha _
 ·obtain ⟨A,hA,e,n,q⟩:=h2 ha
  refine ⟨A,hA,e,n,fun ρ'=>?_⟩
  rw [c5c,a5l]
  refine d5y "NoPages" (by decide) fun a=>?_
  walk_at "ax"
  refine d5W rfl ?_
  walk_at "ax"
  unfold a3D
  walk_at "ax"
  exact q _
end Cw
namespace Cw
open PySem L2 Aq
local macro_rules | `(tactic| walk_at "ax")=>`(tactic| simp? [a1l])
local macro_rules | `(tactic| walk_at "bw")=>`(tactic| (refine a1d ?_; walk_at "ax"))
local macro_rules | `(tactic| walk_at "fw")=>`(tactic| (refine a48 ?_; walk_at "ax"))
def d3I:List Str:=["script", "k", "draws", "articles", "pages", "names", "at", "odd", "many", "some", "thing", "found", "door", "handed", "told", "j"]
def d2o (w:i3) (K:b0) (ev:Str → f8):TS :=
 (a6h (a1e (tOp (rNeD K) (r6 (spOf K a1A) [] E0 (d4 (g9 12) (d4 (tC .non) (d4 (g9 10) (d4 (g9 4) p7))))) (tC (.str "NoArticles+")))) (a3p (tC (.bl false))) a15)
def c54 (ev:Str → f8):ASt :=
 (sIf (a3Z (aOp gNe (m7 a1A (d3 (i4 12) (d3 (aC .none) (d3 (i4 10) (d3 (i4 4) n9))))) (aC (.str "NoArticles+")))) (a2r (aC (.bool false))) a1m)
theorem d4w {w:i3} {K:b0} {ev:Str → f8} (a1Y:IsiOk K "bool") (W:WX):SS K W (d2o w K ev) (c54 ev) :=
 (a05 (t8 (g6 b3D (j4 (c7 c8 (c7 d1m (c7 c8 (c7 c8 d9))))) w3)) (t7 a4i) y0)
def d2p (w:i3) (K:b0) (ev:Str → f8):TS :=
 (a6h (c77 (a8Q K (g9 11))) (a0P (a3w (r6 (spOf K d5) [] E0 (d4 (g9 2) (d4 (tC (.int 20)) p7))) (v4 12))
 (a0P (a6h (a1e (tOp (rNeD K) (r6 (spOf K a1A) [] E0 (d4 (g9 12) (d4 (g9 3) (d4 (g9 10) (d4 (g9 4) p7))))) (tC (.str "NoPages+")))) (a3p (tC (.bl false))) a15)
 (d2o w K ev))) a15)
def c55 (ev:Str → f8):ASt :=
 (sIf (b2M (a9I (i4 11))) (a0t (a2T 12 (m7 d5 (d3 (i4 2) (d3 (aC (.int 20)) n9))))
 (a0t (sIf (a3Z (aOp gNe (m7 a1A (d3 (i4 12) (d3 (i4 3) (d3 (i4 10) (d3 (i4 4) n9))))) (aC (.str "NoPages+")))) (a2r (aC (.bool false))) a1m)
 (c54 ev))) a1m)
theorem d4x {w:i3} {K:b0} {ev:Str → f8} (a1Y:IsiOk K "bool") (W:WX):SS K W (d2p w K ev) (c55 ev) :=
 (a05 (a2s (a1V c8)) (j9 (y9 (j4 (c7 c8 (c7 d6 d9))))
 (j9 (a05 (t8 (g6 b3D (j4 (c7 c8 (c7 c8 (c7 c8 (c7 c8 d9))))) w3)) (t7 a4i) y0)
 (d4w  a1Y W))) y0)
def d2q (w:i3) (K:b0) (ev:Str → f8):TS :=
 (a0P (a3w (r6 (spOf K (a17 ev)) [] E0 (d4 (g9 3) (d4 (g9 10) p7))) (v4 11))
 (a0P (a6h (tOr (c77 (a8Q K (c04 K "bool" (g9 11)))) (a1e (tOp (rNeD K) (g9 11) (r6 (spOf K a14) [] E0 (d4 (g9 3) (d4 (g9 10) p7)))))) (a3p (tC (.bl false))) a15)
 (d2p w K ev)))
def b0S (ev:Str → f8):ASt :=
 (a0t (a2T 11 (m7 (a17 ev) (d3 (i4 3) (d3 (i4 10) n9))))
 (a0t (sIf (aOr (b2M (a9I (b9Q "bool" (i4 11)))) (a3Z (aOp gNe (i4 11) (m7 a14 (d3 (i4 3) (d3 (i4 10) n9)))))) (a2r (aC (.bool false))) a1m)
 (c55 ev)))
theorem d4y {w:i3} {K:b0} {ev:Str → f8} (a1Y:IsiOk K "bool") (W:WX):SS K W (d2q w K ev) (b0S ev) :=
 (j9 (y9 (j4 (c7 c8 (c7 c8 d9))))
 (j9 (a05 (a9R (a2s (a1V (a4t a1Y c8))) (t8 (g6 b3D c8 (j4 (c7 c8 (c7 c8 d9)))))) (t7 a4i) y0)
 (d4x  a1Y W)))
def d2r (w:i3) (K:b0) (ev:Str → f8):TS :=
 (a0P (a5v (tBM K "list" rAppend (g9 14) (d4 (tC (.str "zz")) p7)))
 (a6h (a1e (tOp (rNeD K) (r6 (spOf K (b2X ev)) [] E0 (d4 (g9 3) (d4 (g9 13) p7))) (r6 (spOf K a3S) [] E0 (d4 (g9 4) p7)))) (a3p (tC (.bl false))) a15))
def c56 (ev:Str → f8):ASt :=
 (a0t (a3m (aMt b28 (i4 14) (d3 (aC (.str "zz")) n9)))
 (sIf (a3Z (aOp gNe (m7 (b2X ev) (d3 (i4 3) (d3 (i4 13) n9))) (m7 a3S (d3 (i4 4) n9)))) (a2r (aC (.bool false))) a1m))
theorem d4z {w:i3} {K:b0} {ev:Str → f8} (a1Y:IsiOk K "bool") (W:WX):SS K W (d2r w K ev) (c56 ev) :=
 (j9 (a0R (c2h b11 c8 (c7 w3 d9)))
 (a05 (t8 (g6 b3D (j4 (c7 c8 (c7 c8 d9))) (j4 (c7 c8 d9)))) (t7 a4i) y0))
def d2s (w:i3) (K:b0) (ev:Str → f8):TS :=
 (a0P (a3w (tCB (c8v K) (d4 (g9 4) p7)) (v4 13))
 (a0P (a3w (r6 (spOf K (b2X ev)) [] E0 (d4 (g9 3) (d4 (g9 13) p7))) (v4 14))
 (a0P (a6h (tOr (a1e (tOp (rNeD K) (g9 14) (r6 (spOf K a3S) [] E0 (d4 (g9 4) p7)))) (a1e (tOp (rNeD K) (g9 13) (g9 4)))) (a3p (tC (.bl false))) a15)
 (d2r w K ev))))
def b0T (ev:Str → f8):ASt :=
 (a0t (a2T 13 (aCB c6a (d3 (i4 4) n9)))
 (a0t (a2T 14 (m7 (b2X ev) (d3 (i4 3) (d3 (i4 13) n9))))
 (a0t (sIf (aOr (a3Z (aOp gNe (i4 14) (m7 a3S (d3 (i4 4) n9)))) (a3Z (aOp gNe (i4 13) (i4 4)))) (a2r (aC (.bool false))) a1m)
 (c56 ev))))
theorem d4A {w:i3} {K:b0} {ev:Str → f8} (a1Y:IsiOk K "bool") (W:WX):SS K W (d2s w K ev) (b0T ev) :=
 (j9 (y9 (a2l c6Q (c7 c8 d9)))
 (j9 (y9 (j4 (c7 c8 (c7 c8 d9))))
 (j9 (a05 (a9R (t8 (g6 b3D c8 (j4 (c7 c8 d9)))) (t8 (g6 b3D c8 c8))) (t7 a4i) y0)
 (d4z  a1Y W))))
def d2t (w:i3) (K:b0) (ev:Str → f8):TS :=
 (a0P (a3w (r6 (spOf K d5) [] E0 (d4 (g9 2) (d4 (tCB (a5E K) (d4 (g9 4) p7)) p7))) (v4 6))
 (a0P (a3w (tOp (a0U K) (tOp (a0U K) (tSl (c0W K) (g9 4) tNoPart (tPart (g9 6))) (b1C (d4 (r6 (spOf K (a0C 3)) [] E0 (d4 (g9 2) (d4 (tOp (rIx K) (g9 4) (g9 6)) (d4 (tC (.int 1)) p7)))) p7))) (tSl (c0W K) (g9 4) (tPart (tOp (a0U K) (g9 6) (tC (.int 1)))) tNoPart)) (v4 7))
 (a0P (a3w (tLc (d80 (d4 (tOp (a0U K) (tC (.int 199)) (r6 (spOf K d5) [] E0 (d4 (g9 2) (d4 (tC (.int 4)) p7)))) p7)) (v4 15) c3U (d5n (d4 (tC (.str "fine")) (d4 (tC (.str "ann")) (d4 (tOp (a0U K) (tC (.int 7)) (g9 15)) (d4 (tC (.int 3)) p7))))) [15]) (v4 8))
 (a0P (a3w (b1C (d4 (g9 4) (d4 (g9 7) (d4 (tOp (a0U K) (g9 4) (b1C (d4 (tOp (rIx K) (g9 4) (g9 6)) p7))) (d4 (tCB (c4I K) (d4 (g9 4) p7)) (d4 (b1C p7) (d4 (g9 8) (d4 (r6 (spOf K (z5 4)) [] E0 (d4 (g9 2) (d4 (tC (.int 3)) p7))) (d4 (b1C (d4 (r6 (spOf K (z5 4)) [] E0 (d4 (g9 2) (d4 (tC (.int 1)) p7))) p7)) p7))))))))) (v4 9))
 (a0P (tFor (c2j K (g9 9)) (v4 10) (d2q w K ev))
 (d2s w K ev))))))
def b6s (ev:Str → f8):ASt :=
 (a0t (a2T 6 (m7 d5 (d3 (i4 2) (d3 (aCB b6H (d3 (i4 4) n9)) n9))))
 (a0t (a2T 7 (aOp a3i (aOp a3i (aSl (i4 4) b0P (b6q (i4 6))) (a49 (d3 (m7 (a0C 3) (d3 (i4 2) (d3 (aOp gIx (i4 4) (i4 6)) (d3 (aC (.int 1)) n9)))) n9))) (aSl (i4 4) (b6q (aOp a3i (i4 6) (aC (.int 1)))) b0P)))
 (a0t (a2T 8 (aLc (b47 (d3 (aOp a3i (aC (.int 199)) (m7 d5 (d3 (i4 2) (d3 (aC (.int 4)) n9)))) n9)) [15] (gN 15) b9R (b8J (d3 (aC (.str "fine")) (d3 (aC (.str "ann")) (d3 (aOp a3i (aC (.int 7)) (i4 15)) (d3 (aC (.int 3)) n9)))))))
 (a0t (a2T 9 (a49 (d3 (i4 4) (d3 (i4 7) (d3 (aOp a3i (i4 4) (a49 (d3 (aOp gIx (i4 4) (i4 6)) n9))) (d3 (aCB b48 (d3 (i4 4) n9)) (d3 (a49 n9) (d3 (i4 8) (d3 (m7 (z5 4) (d3 (i4 2) (d3 (aC (.int 3)) n9))) (d3 (a49 (d3 (m7 (z5 4) (d3 (i4 2) (d3 (aC (.int 1)) n9))) n9)) n9))))))))))
 (a0t (d2a (a6i (i4 9)) (gN 10) (b0S ev))
 (b0T ev))))))
theorem d4B {w:i3} {K:b0} {ev:Str → f8} (a1Y:IsiOk K "bool") (W:WX):SS K W (d2t w K ev) (b6s ev) :=
 (j9 (y9 (j4 (c7 c8 (c7 (a2l a4w (c7 c8 d9)) d9))))
 (j9 (y9 (g6 a0k (g6 a0k (d3V c8 c6M (b02 c8)) (a0T (c7 (j4 (c7 c8 (c7 (g6 y8 c8 c8) (c7 d6 d9)))) d9))) (d3V c8 (b02 (g6 a0k c8 d6)) c6M)))
 (j9 (y9 (a6Z (a7Q (c7 (g6 a0k d6 (j4 (c7 c8 (c7 d6 d9)))) d9)) a0W a57 (a4j (c7 w3 (c7 w3 (c7 (g6 a0k d6 c8) (c7 d6 d9))))) (by decide)))
 (j9 (y9 (a0T (c7 c8 (c7 c8 (c7 (g6 a0k c8 (a0T (c7 (g6 y8 c8 c8) d9))) (c7 (a2l b7j (c7 c8 d9)) (c7 (a0T d9) (c7 c8 (c7 (j4 (c7 c8 (c7 d6 d9))) (c7 (a0T (c7 (j4 (c7 c8 (c7 d6 d9))) d9)) d9))))))))))
 (j9 (c01 (a45 c8) a0W (d4y  a1Y W))
 (d4A  a1Y W))))))
def d2u (w:i3) (K:b0) (ev:Str → f8):TS :=
 (a0P (a3w (r6 (spOf K a3R) [] E0 (d4 (g9 0) (d4 (g9 1) p7))) (v4 2))
 (a0P (a3w (r6 (spOf K a4G) [] E0 (d4 (g9 2) p7)) (gTup K 3 (gCons (v4 3) (gCons (v4 4) (gCons (v4 5) gNil)))))
 (d2t w K ev)))
def c17 (ev:Str → f8):ASt :=
 (a0t (a2T 2 (m7 a3R (d3 (i4 0) (d3 (i4 1) n9))))
 (a0t (sAsg (m7 a4G (d3 (i4 2) n9)) (gT 3 (c4c (gN 3) (c4c (gN 4) (c4c (gN 5) d6v)))))
 (b6s ev)))
theorem d4C {w:i3} {K:b0} {ev:Str → f8} (a1Y:IsiOk K "bool") (W:WX):SS K W (d2u w K ev) (c17 ev) :=
 (j9 (y9 (j4 (c7 c8 (c7 c8 d9))))
 (j9 (d97 (j4 (c7 c8 d9)) (d9p (c6b a0W (c6b a0W (c6b a0W d9o)))))
 (d4B  a1Y W)))
def d2v (w:i3) (K:b0) (ev:Str → f8):TS :=
 (a3p (tC (.bl true)))
def c57 (ev:Str → f8):ASt :=
 (a2r (aC (.bool true)))
theorem d4D {w:i3} {K:b0} {ev:Str → f8} (a1Y:IsiOk K "bool") (W:WX):SS K W (d2v w K ev) (c57 ev) :=
 (t7 a4i)
def e0b (w:i3) (K:b0) (ev:Str → f8):TS :=
 (a0P (tFor (d80 (d4 (tCB (d7u K) (d4 (tC (.int 1)) (d4 (tCB (c9J K) (d4 (tC (.int 20)) (d4 (tCB (a5E K) (d4 (g9 0) p7)) p7))) p7))) p7)) (v4 1) (d2u w K ev))
 (d2v w K ev))
def d3N (ev:Str → f8):ASt :=
 (a0t (d2a (b47 (d3 (aCB gMax (d3 (aC (.int 1)) (d3 (aCB d6t (d3 (aC (.int 20)) (d3 (c53 0) n9))) n9))) n9)) (gN 1) (c17 ev))
 (c57 ev))
theorem d98 {w:i3} {K:b0} {ev:Str → f8} (a1Y:IsiOk K "bool") (W:WX):SS K W (e0b w K ev) (d3N ev) :=
 (j9 (c01 (a7Q (c7 (a2l d90 (c7 d6 (c7 (a2l c8u (c7 d6 (c7 c2g d9))) d9))) d9)) a0W (d4C  a1Y W))
 (d4D  a1Y W))
theorem b58 {A:Art} (hA:A.Ok) {ps:List Pg} (hp:∀ p ∈ ps,p.Ok A) (few:ps.length ≤ 1000):a0F 1000 2 (a2i ps):=by
 refine a1w (n:=1) (by rw [g8]; exact few) fun e he=>?_
 obtain ⟨p,hp',rfl⟩:=e9.mp he
 exact (d1q hA (hp p hp') (n:=0)).wid (by decide)
theorem b9k {c n:Nat} {d:c9} (h:a0F c n d) (hc:c ≤ 10000) (hn:n ≤ 60):a6F d:=⟨(h.wid hc).1,a0y h.2 hn⟩
theorem c2e {ds:List c9} (h:a0g (.list ds) = true):a1j ds ds = true:=by
 unfold a0g at h
 rw [j5] at h
 have:=SeqAt.eqv_refl (.list ds) h.1
 simpa [j3] using this
/-- one thing -/
theorem law3 (ev:Str → f8) {A:Art} (hA:A.Ok) {ps:List Pg} (hp:∀ p ∈ ps,p.Ok A) (few:ps.length ≤ 200) {t:c9} (ht:a6F t) {a b:Int} (hd:Dw a b) {D:AEnds} {x0 x1 x5 x6 x7 x8 x9 x11 x12 x13 x14 x15:AV}
  (hN:∀ a b x11 x12,Dw a b → D.nx [x0,x1,.ml none [.int a,.int b],.dat A.d,.dat (a2i ps),x5,x6,x7,x8,x9,.dat t,x11,x12,x13,x14,x15]) :
  b0S ev D [x0,x1,.ml none [.int a,.int b],.dat A.d,.dat (a2i ps),x5,x6,x7,x8,x9,.dat t,x11,x12,x13,x14,x15]:=by
 have okA:okD A.d = true:=(hA.fine.wid (c:=10000) (by decide)).1
 have tp:a6F (a2i ps):=b9k (b58 hA hp (by omega)) (by decide) (by decide)
 generalize a2i ps = pd at hN tp ⊢
 unfold b0S
 walk_at "ax"
 refine ⟨A.d,t,rfl,okA,ht,fun e=>?_,fun _=>⟨A,hA,rfl,fun bl hb ρ'=>?_⟩⟩
 ·rw [hA.is] at e
  cases e
 ·walk_at "ax"
  refine ⟨A,t,rfl,hA,ht,fun bl2 hb2 ρ'=>?_⟩
  obtain rfl:bl2 = bl:=b6e.mpr (hb2.trans hb.symm)
  unfold c55
  cases bl2 with
  | true =>
   walk_at "ax"
   exact hN _ _ _ _ hd
  | false =>
   have hn:¬ b1E A t:=fun z=>nomatch hb.mpr z
   walk_at "ax"
   walk_at "bw"
   refine a1b hd (by decide) (by decide) rfl fun k a1 b1 l1 u1 hd1=>?_
   walk_at "ax"
   refine ⟨k,A.d,t,pd,rfl,l1,u1,okA,ht,tp,fun e=>?_,fun _=>⟨A,hA,rfl,hn,fun ρ'=>?_⟩⟩
   ·rw [hA.is] at e
    cases e
   ·walk_at "ax"
    unfold c54
    walk_at "ax"
    refine ⟨k,.none,t,pd,rfl,l1,u1,rfl,ht,tp,fun _ ρ'=>?_,fun e=>?_⟩
    ·walk_at "ax"
     exact hN _ _ _ _ hd1
    ·cases e
theorem law5 (ev:Str → f8) {A:Art} (hA:A.Ok) {ps:List Pg} (hp:∀ p ∈ ps,p.Ok A) (nd:ps.Nodup) (few:ps.length ≤ 200) {D:AEnds} {x0 x1 x2 x5 x6 x7 x8 x9 x10 x11 x12 x13 x14 x15:AV}
  (hN:∀ x13 x14,D.nx [x0,x1,x2,.dat A.d,.dat (a2i ps),x5,x6,x7,x8,x9,x10,x11,x12,x13,x14,x15]) :
  b0T ev D [x0,x1,x2,.dat A.d,.dat (a2i ps),x5,x6,x7,x8,x9,x10,x11,x12,x13,x14,x15]:=by
 have okA:okD A.d = true:=(hA.fine.wid (c:=10000) (by decide)).1
 have tp:a6F (a2i ps):=b9k (b58 hA hp (by omega)) (by decide) (by decide)
 have sp:a0g (a2i ps) = true:=tp.shp
 unfold b0T
 unfold a2i at hN tp sp ⊢
 walk_at "ax"
 walk_at "fw"
 have man:∀ (u:c9) {P:RV → List AV → Prop} {PX:PXT},u = a2i ps → (∀ (zs:List Str) ρ',zs.Pairwise sLt → (∀ z,z ∈ zs ↔ z ∈ d0S ps) → P (.own (.ml none (zs.map .str))) ρ') → b2X ev [.dat A.d,.dat u] P PX:=fun u P PX e k=>by
  subst e
  refine ⟨A.d,_,rfl,okA,tp,fun e=>?_,fun _=>⟨A,hA,rfl,fun n=>absurd ⟨ps,rfl,hp,nd,few⟩ n,fun qs e hq _ _=>?_⟩⟩
  ·rw [hA.is] at e
   cases e
  ·have e:ps.map Pg.d = qs.map Pg.d:=by
    unfold a2i at e
    injection e
   cases c6O hp hq e
   exact k
 have shs:∀ zs:List Str,zs.Pairwise sLt → (∀ z,z ∈ zs ↔ z ∈ d0S ps) → a0g (.list (zs.map y4)) = true:=fun zs pz hz=>by
  refine a0F.shp (b:=1000) (n:=1) (a1w (n:=0) ?_ fun e he=>?_) (by decide)
  ·rw [g8]
   have:=a4l (pz.imp fun {a b} h e=>by
    subst e
    exact b55 _ _ h h) fun z hz'=>(hz z).mp hz'
   have:=c2s ps
   omega
  ·obtain ⟨z,hz',rfl⟩:=e9.mp he
   exact a2m (d4d hp ((hz z).mp hz'))
 refine man _ rfl fun zs ρ' z1 z2=>?_
 walk_at "ax"
 walk_at "bw"
 refine ⟨A,ps,rfl,hp,few,fun zs' ρ' z1' z2'=>?_⟩
 obtain rfl:zs' = zs:=uniq b55 z1' z1 fun k=>(z2' k).trans (z2 k).symm
 have ss:=shs _ z1 z2
 have es:a0g (PyData.list (d0P Pg.d ps)) = true:=sp
 generalize e1:zs'.map y4 = ms at ss ⊢
 walk_at "ax"
 refine ⟨ss,?_⟩
 rw [if_pos (c2e ss)]
 refine ⟨es,?_⟩
 rw [if_pos (c2e es)]
 unfold c56
 walk_at "ax"
 walk_at "bw"
 have lm:ms.length ≤ 200:=by
  rw [← e1,g8]
  have:=a4l (z1.imp fun {a b} h e=>by
   subst e
   exact b55 _ _ h h) fun z hz'=>(z2 z).mp hz'
  have:=c2s ps
  omega
 refine ⟨by omega,man _ rfl fun ys ρ' y1 y2=>?_⟩
 have sy:=shs _ y1 y2
 walk_at "ax"
 refine ⟨A,ps,rfl,hp,few,fun ys' ρ' y1' y2'=>?_⟩
 obtain rfl:ys' = ys:=uniq b55 y1' y1 fun k=>(y2' k).trans (y2 k).symm
 generalize ys'.map y4 = ns at sy ⊢
 walk_at "ax"
 refine ⟨sy,?_⟩
 rw [if_pos (c2e sy)]
 exact hN _ _
end Cw
namespace Cw
open PySem L2 Aq
local macro_rules | `(tactic| walk_at "ax")=>`(tactic| simp? [a1l])
local macro_rules | `(tactic| walk_at "bw")=>`(tactic| (refine a1d ?_; walk_at "ax"))
local macro_rules | `(tactic| walk_at "fw")=>`(tactic| (refine a48 ?_; walk_at "ax"))
theorem d1d {A:Art} {ps:List Pg} {crew:List Str} (h:BookOk A ps crew) (hc:CrewOk crew):∃ p qs,ps = p :: qs:=by
 cases ps with
 | nil =>
  cases crew with
  | nil=>have:=hc.few.1; simp at this
  | cons m crew =>
   obtain ⟨p,hp,_⟩:=h.all m f9
   simp at hp
 | cons p qs=>exact ⟨p,qs,rfl⟩
/-- behind what is otherwise -/
def b53 (ev:Str → f8):ASt:=(a0t (a2T 8 (aLc (b47 (d3 (aOp a3i (aC (.int 199)) (m7 d5 (d3 (i4 2) (d3 (aC (.int 4)) n9)))) n9)) [15] (gN 15) b9R (b8J (d3 (aC (.str "fine")) (d3 (aC (.str "ann")) (d3 (aOp a3i (aC (.int 7)) (i4 15)) (d3 (aC (.int 3)) n9)))))))
 (a0t (a2T 9 (a49 (d3 (i4 4) (d3 (i4 7) (d3 (aOp a3i (i4 4) (a49 (d3 (aOp gIx (i4 4) (i4 6)) n9))) (d3 (aCB b48 (d3 (i4 4) n9)) (d3 (a49 n9) (d3 (i4 8) (d3 (m7 (z5 4) (d3 (i4 2) (d3 (aC (.int 3)) n9))) (d3 (a49 (d3 (m7 (z5 4) (d3 (i4 2) (d3 (aC (.int 1)) n9))) n9)) n9))))))))))
 (a0t (d2a (a6i (i4 9)) (gN 10) (b0S ev))
 (b0T ev))))
def c15 (ev:Str → f8):ASt:=(a0t (a2T 9 (a49 (d3 (i4 4) (d3 (i4 7) (d3 (aOp a3i (i4 4) (a49 (d3 (aOp gIx (i4 4) (i4 6)) n9))) (d3 (aCB b48 (d3 (i4 4) n9)) (d3 (a49 n9) (d3 (i4 8) (d3 (m7 (z5 4) (d3 (i4 2) (d3 (aC (.int 3)) n9))) (d3 (a49 (d3 (m7 (z5 4) (d3 (i4 2) (d3 (aC (.int 1)) n9))) n9)) n9))))))))))
 (a0t (d2a (a6i (i4 9)) (gN 10) (b0S ev))
 (b0T ev)))
def c16 (ev:Str → f8):ASt:=(a0t (d2a (a6i (i4 9)) (gN 10) (b0S ev))
 (b0T ev))
theorem law6d (ev:Str → f8) {A:Art} (hA:A.Ok) {ps:List Pg} (hp:∀ p ∈ ps,p.Ok A) (nd:ps.Nodup) (few:ps.length ≤ 200) {some_:List c9} (hs:∀ t ∈ some_,a6F t) {a b:Int} (hd:Dw a b) {D:AEnds} {x0 x1 x5 x6 x7 x8 x10 x11 x12 x13 x14 x15:AV}
  (hN:∀ x2 x3 x4 x5 x6 x7 x8 x9 x10 x11 x12 x13 x14,D.nx [x0,x1,x2,x3,x4,x5,x6,x7,x8,x9,x10,x11,x12,x13,x14,x15]) :
  c16 ev D [x0,x1,.ml none [.int a,.int b],.dat A.d,.dat (a2i ps),x5,x6,x7,x8,.ml none some_,x10,x11,x12,x13,x14,x15]:=by
 unfold c16
 walk_at "ax"
 walk_at "fw"
 refine b6G (fun ds ρ=>(∀ d ∈ ds,a6F d) ∧ ∃ a b x10 x11 x12,Dw a b ∧ ρ = [x0,x1,.ml none [.int a,.int b],.dat A.d,.dat (a2i ps),x5,x6,x7,x8,.dat (.list some_),x10,x11,x12,x13,x14,x15]) ?_ ?_ _ _ ⟨hs,_,_,_,_,_,hd,rfl⟩
 ·rintro d ds ρ ⟨hds,a,b,x10,x11,x12,hd,rfl⟩ N hN2
  exact law3 ev hA hp few (hds d f9) hd fun a b x11 x12 hd=>hN2 _ ⟨fun e he=>hds e (e7 _ he),_,_,_,_,_,hd,rfl⟩
 ·rintro ρ ⟨_,a,b,x10,x11,x12,hd,rfl⟩
  exact law5 ev hA hp nd few fun x13 x14=>hN _ _ _ _ _ _ _ _ _ _ _ _ _
theorem law6c (ev:Str → f8) {A:Art} (hA:A.Ok) {ps:List Pg} (hp:∀ p ∈ ps,p.Ok A) (nd:ps.Nodup) (few:ps.length ≤ 43) {odd many:List c9} (ho:a6F (.list odd)) (hm:a6F (.list many)) {at_:Int} (l2:0 ≤ at_) (u2:at_ < ps.length) {a b:Int} (hd:Dw a b) {D:AEnds} {x0 x1 x5 x9 x10 x11 x12 x13 x14 x15:AV}
  (hN:∀ x2 x3 x4 x5 x6 x7 x8 x9 x10 x11 x12 x13 x14,D.nx [x0,x1,x2,x3,x4,x5,x6,x7,x8,x9,x10,x11,x12,x13,x14,x15]) :
  c15 ev D [x0,x1,.ml none [.int a,.int b],.dat A.d,.dat (a2i ps),x5,.dat (.int at_),.ml none odd,.ml none many,x9,x10,x11,x12,x13,x14,x15]:=by
 have tp:=b58 hA hp (by omega)
 have fpd:∀ d ∈ ps.map Pg.d,a0F 1000 1 d:=(a0F.lst (n:=1) tp).2
 have lpd:(ps.map Pg.d).length = ps.length:=g8 ..
 obtain ⟨z,hz,ez⟩:=a2L (xs:=ps.map Pg.d) l2 (by rw [lpd]; exact u2)
 have key:∀ {some_:List c9} {a b:Int},Dw a b → (∀ t ∈ some_,a6F t) → ∀ x7 x8,c16 ev D [x0,x1,.ml none [.int a,.int b],.dat A.d,.dat (a2i ps),x5,.dat (.int at_),x7,x8,.ml none some_,x10,x11,x12,x13,x14,x15]:=fun hd hs x7 x8=>law6d ev hA hp nd (by omega) hs hd hN
 unfold a2i at tp key ⊢
 generalize ps.map Pg.d = pd at tp key fpd lpd hz ez ⊢
 unfold c15
 rw [c5d]
 walk_at "ax"
 walk_at "fw"
 rw [ez]
 walk_at "ax"
 refine ⟨by omega,?_⟩
 walk_at "fw"
 walk_at "bw"
 refine ⟨a,b,3,rfl,hd,by decide,by decide,fun d1 a1 b1 ρ' f1 hd1 ho1=>?_⟩
 rw [a60,a1U ho1]
 walk_at "ax"
 walk_at "bw"
 refine ⟨a1,b1,1,rfl,hd1,by decide,by decide,fun d2 a2 b2 ρ' f2 hd2 ho2=>?_⟩
 rw [a60,a1U ho2]
 walk_at "ax"
 refine key hd2 (fun t ht=>?_) _ _
 simp only [o9,c8L,or_false] at ht
 have fz:=fpd z hz
 rcases ht with rfl | rfl | rfl | rfl | rfl | rfl | rfl | rfl
 ·exact b9k tp (by decide) (by decide)
 ·exact ho
 ·refine b9k (a1w (b:=1000) (n:=1) (by simp; omega) fun e he=>?_) (by decide) (by decide)
  rcases v0.mp he with he | he
  ·exact fpd e he
  ·rw [a1Z.mp he]
   exact fz
 ·exact b9k (a4k (b:=1000) (n:=1) (by omega) fpd) (by decide) (by decide)
 ·exact b9k (a1w (b:=1000) (n:=1) (by simp) (by simp)) (by decide) (by decide)
 ·exact hm
 ·exact b9k f1 (by decide) (by decide)
 ·exact b9k (a1w (b:=100) (n:=2) (by simp) fun e he=>by rw [a1Z.mp he]; exact f2) (by decide) (by decide)
theorem law6b (ev:Str → f8) {A:Art} (hA:A.Ok) {ps:List Pg} (hp:∀ p ∈ ps,p.Ok A) (nd:ps.Nodup) (few:ps.length ≤ 43) {odd:List c9} (ho:a6F (.list odd)) {at_:Int} (l2:0 ≤ at_) (u2:at_ < ps.length) {a b:Int} (hd:Dw a b) {D:AEnds} {x0 x1 x5 x8 x9 x10 x11 x12 x13 x14:AV}
  (hN:∀ x2 x3 x4 x5 x6 x7 x8 x9 x10 x11 x12 x13 x14,D.nx [x0,x1,x2,x3,x4,x5,x6,x7,x8,x9,x10,x11,x12,x13,x14,.un]) :
  b53 ev D [x0,x1,.ml none [.int a,.int b],.dat A.d,.dat (a2i ps),x5,.dat (.int at_),.ml none odd,x8,x9,x10,x11,x12,x13,x14,.un]:=by
 have key:∀ {many:List c9} {a b:Int},Dw a b → a6F (.list many) → c15 ev D [x0,x1,.ml none [.int a,.int b],.dat A.d,.dat (a2i ps),x5,.dat (.int at_),.ml none odd,.ml none many,x9,x10,x11,x12,x13,x14,.un]:=fun hd hm=>law6c ev hA hp nd few ho hm l2 u2 hd hN
 generalize a2i ps = pd at key ⊢
 unfold b53
 walk_at "ax"
 walk_at "bw"
 refine a1b hd (by omega) (by omega) rfl fun k a2 b2 l3 u3 hd2=>?_
 walk_at "ax"
 refine ⟨by omega,?_⟩
 refine c84 (fun ds acc ρ=>(∀ d ∈ ds,∃ i,d = .int i) ∧ (∀ d ∈ acc,a0F 1000 1 d) ∧ acc.length + ds.length ≤ 300 ∧ ρ = [x0,x1,.ml none [.int a2,.int b2],.dat A.d,.dat pd,x5,.dat (.int at_),.ml none odd,x8,x9,x10,x11,x12,x13,x14,.un]) ?_ ?_ _ _ _ ⟨fun d hd=>?_,by simp,by rw [a8I]; simp; omega,rfl⟩
 ·rintro d ds acc ρ ⟨hds,hf,hl,rfl⟩ N hN2
  obtain ⟨i,rfl⟩:=hds d f9
  rw [t4] at hl
  walk_at "ax"
  refine ⟨by omega,hN2 _ _ ⟨fun e he=>hds e (e7 _ he),fun e he=>?_,by simp; omega,rfl⟩⟩
  rcases v0.mp he with he | he
  ·exact hf e he
  ·rw [a1Z.mp he]
   refine a4k (n:=0) (by simp) fun y hy=>?_
   simp only [o9,c8L,or_false] at hy
   rcases hy with rfl | rfl | rfl | rfl
   ·exact (c8f "fine").wid (by decide)
   ·exact (c8f "ann").wid (by decide)
   ·exact a1y
   ·exact a1y
 ·rintro acc ρ ⟨_,hf,hl,rfl⟩
  walk_at "ax"
  exact key hd2 (b9k (a1w (b:=1000) (n:=1) (by simp at hl; omega) hf) (by decide) (by decide))
 ·obtain ⟨i,rfl,_⟩:=b29 hd
  exact ⟨i,rfl⟩
theorem law6 (ev:Str → f8) {A:Art} (hA:A.Ok) {ps:List Pg} (hp:∀ p ∈ ps,p.Ok A) (nd:ps.Nodup) (p1:1 ≤ ps.length) (few:ps.length ≤ 43) {a b:Int} (hd:Dw a b) {D:AEnds} {x0 x1 x5 x6 x7 x8 x9 x10 x11 x12 x13 x14:AV} (hN:∀ x2 x3 x4 x5 x6 x7 x8 x9 x10 x11 x12 x13 x14,D.nx [x0,x1,x2,x3,x4,x5,x6,x7,x8,x9,x10,x11,x12,x13,x14,.un]) :
  b6s ev D [x0,x1,.ml none [.int a,.int b],.dat A.d,.dat (a2i ps),x5,x6,x7,x8,x9,x10,x11,x12,x13,x14,.un]:=by
 have key:∀ {odd:List c9} {at_:Int} {a b:Int},Dw a b → 0 ≤ at_ → at_ < ps.length → a6F (.list odd) → b53 ev D [x0,x1,.ml none [.int a,.int b],.dat A.d,.dat (a2i ps),x5,.dat (.int at_),.ml none odd,x8,x9,x10,x11,x12,x13,x14,.un]:=fun hd l2 u2 ho=>law6b ev hA hp nd few ho l2 u2 hd hN
 have tp:=b58 hA hp (by omega)
 have fpd:∀ d ∈ ps.map Pg.d,a0F 1000 1 d:=(a0F.lst (n:=1) tp).2
 have row:∀ d ∈ ps.map Pg.d,Row6 d:=fun d hd=>by
  obtain ⟨p,hp',rfl⟩:=e9.mp hd
  exact Row6.pg hA (hp p hp')
 have lpd:(ps.map Pg.d).length = ps.length:=g8 ..
 unfold a2i at key ⊢
 generalize ps.map Pg.d = pd at key fpd row lpd ⊢
 have e6:b6s ev = a0t (a2T 6 (m7 d5 (d3 (i4 2) (d3 (aCB b6H (d3 (i4 4) n9)) n9)))) (a0t (a2T 7 (aOp a3i (aOp a3i (aSl (i4 4) b0P (b6q (i4 6))) (a49 (d3 (m7 (a0C 3) (d3 (i4 2) (d3 (aOp gIx (i4 4) (i4 6)) (d3 (aC (.int 1)) n9)))) n9))) (aSl (i4 4) (b6q (aOp a3i (i4 6) (aC (.int 1)))) b0P))) (b53 ev)):=rfl
 rw [e6]
 walk_at "ax"
 walk_at "bw"
 refine a1b hd (by omega) (by omega) rfl fun at_ a2 b2 l2 u2 hd2=>?_
 rw [lpd] at u2
 obtain ⟨z,hz,ez⟩:=a2L (xs:=pd) l2 (by rw [lpd]; exact u2)
 obtain ⟨es,rfl,el,ef⟩:=row z hz
 walk_at "ax"
 walk_at "bw"
 rw [ez]
 walk_at "ax"
 have lc:∀ lo hi,(b9U pd lo hi).length ≤ 43 ∧ ∀ x ∈ b9U pd lo hi,a0F 1000 1 x:=fun lo hi=>by
  unfold b9U
  refine ⟨?_,fun x hx=>fpd x (a7X (a4y hx))⟩
  rw [b4u,c8K]
  omega
 have fin:∀ o:c9,a0F 1000 5 o → ∀ lo hi lo' hi',a6F (.list (b9U pd lo hi ++ [o] ++ b9U pd lo' hi')):=fun o fo lo hi lo' hi'=>by
  refine b9k (a1w (b:=1000) (n:=5) ?_ fun e he=>?_) (by decide) (by decide)
  ·have:=(lc lo hi).1
   have:=(lc lo' hi').1
   simp only [a1h,t4,List.length_nil]
   omega
  ·simp only [v0,a1Z] at he
   rcases he with (he | rfl) | he
   ·exact ((lc lo hi).2 e he).mono (by decide)
   ·exact fo
   ·exact ((lc lo' hi').2 e he).mono (by decide)
 refine ⟨a2,b2,.tuple es,1,100,0,es,rfl,hd2,.inl rfl,by omega,ef,by decide,by decide,by decide,by decide,by decide,fun fs a3 b3 ρ' g1 g2 hd3 ho=>?_⟩
 constructor
 ·rw [a60,a1U ho]
  walk_at "ax"
  have q1:=(lc none (some at_)).1
  have q2:=(lc (some (at_ + 1)) none).1
  refine ⟨by omega,by omega,key hd3 l2 u2 ?_⟩
  rw [List.append_cons]
  exact fin (.tuple fs) ((a4k (n:=4) (by omega) g2).wid (by decide)) _ _ _ _
 ·rw [b2b,a1U ho]
  walk_at "ax"
  have q1:=(lc none (some at_)).1
  have q2:=(lc (some (at_ + 1)) none).1
  refine ⟨by omega,by omega,key hd3 l2 u2 ?_⟩
  rw [List.append_cons]
  exact fin (.list fs) ((a1w (n:=4) (by omega) g2).wid (by decide)) _ _ _ _
theorem law7 (ev:Str → f8) {ns:List Int} {i:Int} (i0:0 ≤ i) (i1:i ≤ 1000) {D:AEnds} {x2 x3 x4 x5 x6 x7 x8 x9 x10 x11 x12 x13 x14:AV} (hN:∀ x1 x2 x3 x4 x5 x6 x7 x8 x9 x10 x11 x12 x13 x14,D.nx [.scr ns,x1,x2,x3,x4,x5,x6,x7,x8,x9,x10,x11,x12,x13,x14,.un]) :
  c17 ev D [.scr ns,.dat (.int i),x2,x3,x4,x5,x6,x7,x8,x9,x10,x11,x12,x13,x14,.un]:=by
 unfold c17
 walk_at "ax"
 refine ⟨ns,i,rfl,i0,i1,fun a b ρ' hd=>?_⟩
 walk_at "ax"
 walk_at "bw"
 refine ⟨a,b,rfl,hd,fun A ps crew a1 b1 ρ' hA hB hC hd1 ho=>?_⟩
 rw [a60,a1U ho]
 rw [a5l]
 refine ⟨rfl,?_⟩
 change b6s ev D [.scr ns,.dat (.int i),.ml none [.int a1,.int b1],.dat A.d,.dat (a2i ps),.dat (.list (crew.map .str)),x6,x7,x8,x9,x10,x11,x12,x13,x14,.un]
 refine law6 ev hA.ok hB.ok hB.nd ?_ hB.few hd1 fun x2 x3 x4 x5 x6 x7 x8 x9 x10 x11 x12 x13 x14=>hN _ _ _ _ _ _ _ _ _ _ _ _ _ _
 obtain ⟨p,qs,rfl⟩:=d1d hB hC
 simp
def c_law:Ct:=fun ρ P _=>∃ ns,ρ = [.scr ns] ∧ ∀ ρ',P (.dat (.bool true)) ρ'
theorem d7e (ρ:List AV) (P:RV → List AV → Prop) (PX:PXT) (h:c_law ρ P PX):ρ.length = 1:=by
 obtain ⟨_,rfl,_⟩:=h
 rfl
theorem d4m (ev:Str → f8) (ρ:List AV) (P:RV → List AV → Prop) (PX:PXT) (h:c_law ρ P PX):d3N ev { nx:=fun ρ'=>P (.dat .none) ρ',rt:=P,ex:=PX } (ρ ++ f7 (d3I.length - ρ.length) .un):=by
 have eN:d3I.length = 16:=rfl
 obtain ⟨ns,rfl,h⟩:=h
 unfold d3N
 simp only [eN]
 walk_at "ax"
 generalize hm:(if 1 < if (ns.length:Int) < 20 then (ns.length:Int) else 20 then if (ns.length:Int) < 20 then (ns.length:Int) else 20 else 1) = m
 have hm2:1 ≤ m ∧ m ≤ 20:=by
  subst hm
  split <;> split <;> omega
 refine ⟨by omega,?_⟩
 refine b6G (fun ds ρ=>(∀ d ∈ ds,∃ i,d = .int i ∧ 0 ≤ i ∧ i ≤ 1000) ∧ ∃ x1 x2 x3 x4 x5 x6 x7 x8 x9 x10 x11 x12 x13 x14,ρ = [.scr ns,x1,x2,x3,x4,x5,x6,x7,x8,x9,x10,x11,x12,x13,x14,.un]) ?_ ?_ _ _ ⟨fun d hd=>?_,_,_,_,_,_,_,_,_,_,_,_,_,_,_,rfl⟩
 ·rintro d ds ρ ⟨hds,x1,x2,x3,x4,x5,x6,x7,x8,x9,x10,x11,x12,x13,x14,rfl⟩ N hN
  obtain ⟨i,rfl,i0,i1⟩:=hds d f9
  exact law7 ev i0 i1 fun x1 x2 x3 x4 x5 x6 x7 x8 x9 x10 x11 x12 x13 x14=>hN _ ⟨fun d hd=>hds d (e7 _ hd),_,_,_,_,_,_,_,_,_,_,_,_,_,_,rfl⟩
 ·rintro ρ ⟨_,x1,x2,x3,x4,x5,x6,x7,x8,x9,x10,x11,x12,x13,x14,rfl⟩
  unfold c57
  walk_at "ax"
  exact h _
 ·obtain ⟨i,rfl,i0,i1⟩:=b29 hd
  exact ⟨i,rfl,i0,by omega⟩
theorem law_go (ns:List Int) (hl:ns.length ≤ 63) (P:RV → List AV → Prop) (PX:PXT) (h:∀ ρ',P (.dat (.bool true)) ρ'):c_law [.scr ns] P PX:=⟨ns,rfl,h⟩
end Cw
set_option maxHeartbeats 0
namespace Cw
open PySem PySem.Spec PyProof.Rows L2 Aq
theorem d3Z {K:b0}:IsiOk K "bool" := ⟨by
 intro U hU
 simp only [o9,a7y,or_false] at hU
 rcases hU with rfl | rfl | rfl | rfl | rfl | rfl | rfl <;> kernel_rfl⟩
theorem d6x {K:b0}:IsiOk K "int" := ⟨by
 intro U hU
 simp only [o9,a7y,or_false] at hU
 rcases hU with rfl | rfl | rfl | rfl | rfl | rfl | rfl <;> kernel_rfl⟩
theorem d30 {K:b0}:IsiOk K "list" := ⟨by
 intro U hU
 simp only [o9,a7y,or_false] at hU
 rcases hU with rfl | rfl | rfl | rfl | rfl | rfl | rfl <;> kernel_rfl⟩
theorem d6y {K:b0}:IsiOk K "str" := ⟨by
 intro U hU
 simp only [o9,a7y,or_false] at hU
 rcases hU with rfl | rfl | rfl | rfl | rfl | rfl | rfl <;> kernel_rfl⟩
theorem d1u {K:b0}:IsiOk K "tuple" := ⟨by
 intro U hU
 simp only [o9,a7y,or_false] at hU
 rcases hU with rfl | rfl | rfl | rfl | rfl | rfl | rfl <;> kernel_rfl⟩
section
variable {P:a2x} {w:i3} {K:b0} {mg:Str → Option f8} {base:b9M}
theorem b2f:w6 a8u ["script", "k"] (e8 (top 113)):=⟨rfl,rfl,rfl,by decide +kernel,rfl,by decide +kernel,by decide +kernel⟩
theorem c2w {f:t5} {fd:n6} (F:FnP K "_law_draws" (top 113) f fd) (gm:mg "_law_draws" = some (.ref f)) (a1q:mg "len" = none) (c3g:mg "int" = none):Fn P w K mg base CX0 1 "_law_draws" ["script", "k"] a3R:=by
 have nd:=b2f.nd
 refine Fn.mk0 (k:=0) (t:=b4Q w K) (a:=a6o) F b2f gm (F.bindsN fun _ _ _ _ _ _ us hl=>match us,hl with | [_,_],_=>rfl) b8P (fun W=>c2R W) (b69) fun cdv A outer s H E hr=>?_
 exact (f6 (a0j (i:=2) nd rfl nofun (v5 b2T d7 (pv 1)))
 (f6 (a1s (w9 a72 (pv 1) (a0f a11 (by rfl) a1q (by decide +kernel) (c6 (pv 0) d8)) (a0d _)) (k9 (a0j (i:=2) nd rfl nofun (v5 d05 (z6 n8 (pv 0) (pv 1) (fun _ _=>rfl)) (v5 b2T (v5 a3O d7 d7) (v5 a3O d7 d7))))) (k9 (a1s (w9 b67 (a0f a11 (by rfl) a1q (by decide +kernel) (c6 (pv 0) d8)) d7 (a0d _)) (k9 (a0j (i:=2) nd rfl nofun (v5 v3 (v5 d05 (z6 n8 (pv 0) (v5 d05 (pv 1) (a0f a11 (by rfl) a1q (by decide +kernel) (c6 (pv 0) d8))) (fun _ _=>rfl)) (v5 a3O d7 d7)) (v5 b2T d7 (pv 1))))) a0a)))
 (k9 (v9 (a1f (c6 (v5 b2T (pv 2) (a3o d1e (by rfl) c3g (by decide +kernel) (c6 (a5L d9X (pv 2) (v5 a3O d7 d7) (a0d _)) d8))) (c6 (v5 v3 d7 (v5 d05 (v5 v3 (v5 b2T (pv 2) d7) (v5 b2T d7 (v5 v3 (pv 1) d7))) d7)) d8)))))))
theorem b4I:w6 b0K ["draws", "many"] (e8 (top 114)):=⟨rfl,rfl,rfl,by decide +kernel,rfl,by decide +kernel,by decide +kernel⟩
theorem c4s {f:t5} {fd:n6} (F:FnP K "_law_draw" (top 114) f fd) (gm:mg "_law_draw" = some (.ref f)):Fn P w K mg base CX0 1 "_law_draw" ["draws", "many"] d5:=by
 have nd:=b4I.nd
 refine Fn.mk0 (k:=0) (t:=b7Q w K) (a:=a7G) F b4I gm (F.bindsN fun _ _ _ _ _ _ us hl=>match us,hl with | [_,_],_=>rfl) c2n (fun W=>c4R W) (b84) fun cdv A outer s H E hr=>?_
 exact (f6 (a1s (w9 b67 (z6 n8 (pv 0) d7 (fun _ _=>rfl)) d7 (a0d _)) (f6 (a0j (i:=2) nd rfl nofun (v5 d05 (z6 n8 (pv 0) d7 (fun _ _=>rfl)) (pv 1)))
 (f6 (d5m (v5 b8I (z6 n8 (pv 0) d7 (fun _ _=>rfl)) (pv 1)) (d82 (pv 0) d7 c3T))
 (k9 (v9 (pv 2))))) a0a)
 (f6 (a0j (i:=2) nd rfl nofun d7)
 (f6 (a0j (i:=3) nd rfl nofun d7)
 (f6 (ps_while a31 (w9 a72 (pv 3) (pv 1) (a0d _)) (f6 (d5m (v5 d05 (v5 b2T (z6 n8 (pv 0) d7 (fun _ _=>rfl)) d7) d7) (d82 (pv 0) d7 c3T))
 (f6 (a0j (i:=2) nd rfl nofun (v5 v3 (v5 b2T (pv 2) d7) (v5 b8I (v5 d05 (v5 b2T (z6 n8 (pv 0) d7 (fun _ _=>rfl)) (v5 v3 (v5 b8I (z6 n8 (pv 0) d7 (fun _ _=>rfl)) d7) d7)) d7) d7)))
 (k9 (a0j (i:=3) nd rfl nofun (v5 b2T (pv 3) d7))))))
 (k9 (v9 (v5 d05 (pv 2) (pv 1))))))))
theorem b2g:w6 a42 ["draws", "many"] (e8 (top 115)):=⟨rfl,rfl,rfl,by decide +kernel,rfl,by decide +kernel,by decide +kernel⟩
theorem c2x {f:t5} {fd:n6} (F:FnP K "_law_names" (top 115) f fd) (gm:mg "_law_names" = some (.ref f)) (a1o:mg "range" = none) (a3F:mg "sorted" = none) (F__law_draw:Fn P w K mg base CX0 1 "_law_draw" ["draws", "many"] d5):Fn P w K mg base CX0 2 "_law_names" ["draws", "many"] a0e:=by
 obtain ⟨a1W,a09,i5,i6,i8,i7⟩:=F__law_draw.ex
 have g5:1 ≤ 1:=by decide
 have nd:=b2g.nd
 refine Fn.mk0 (k:=1) (t:=b4R w K) (a:=a6p) F b2g gm (F.bindsN fun _ _ _ _ _ _ us hl=>match us,hl with | [_,_],_=>rfl) b8Q (fun W=>c2S W) (b7a) fun cdv A outer s H E hr=>?_
 exact (f6 (a0j (i:=2) nd rfl nofun v6)
 (f6 (a0j (i:=3) nd rfl nofun (c8t v6 (c3R (own:=[("k",6)]) (g:=(v4 6)) (tt:=c3U) (te:=(tOp (rIx K) (g9 2) (r6 (spOf K d5) [] E0 (d4 (g9 0) (d4 (tC (.int 26)) p7)))))  (by rfl) nd  (b1B (by rfl) a1o (c6 (z6 n8 (a1f (c6 d7 (c6 d7 (c6 d7 (c6 d7 d8))))) (g7 i5 hr g5 (by rfl) i6 i8 i7 (c6 (pv 0) (c6 d7 d8))) (fun _ _=>rfl)) d8)) (a2c (own:=[("k",6)]) (N:=a42) (sc:=e8 (top 115)) (by decide +kernel)) (fun _ _ _ _ _=>(a1r (i:=6) nd rfl nofun)) (fun _ _ _ _ _=>a6L) (fun _ _ _ _ _=>(z6 n8 (pv 2) (g7 i5 hr g5 (by rfl) i6 i8 i7 (c6 (pv 0) (c6 d7 d8))) (fun _ _=>rfl))))))
 (f6 (a0j (i:=4) nd rfl nofun (g7 i5 hr g5 (by rfl) i6 i8 i7 (c6 (pv 0) (c6 d7 d8))))
 (f6 (a0j (i:=5) nd rfl nofun (z6 n8 (a1f (c6 d7 (c6 d7 (c6 d7 (c6 d7 d8))))) (g7 i5 hr g5 (by rfl) i6 i8 i7 (c6 (pv 0) (c6 d7 d8))) (fun _ _=>rfl)))
 (k9 (v9 (a0f (AqS.cr_sortD hr.units) (by rfl) a3F (by decide +kernel) (c6 (c3R (own:=[("k",6)]) (g:=(v4 6)) (tt:=c3U) (te:=(tOp (a0U K) (g9 3) (tOp (rIx K) (g9 2) (tOp b7k (tOp (a0U K) (g9 4) (tOp b3E (g9 5) (g9 6))) (tC (.int 26))))))  (by rfl) nd  (b1B (by rfl) a1o (c6 (pv 1) d8)) (a2c (own:=[("k",6)]) (N:=a42) (sc:=e8 (top 115)) (by decide +kernel)) (fun _ _ _ _ _=>(a1r (i:=6) nd rfl nofun)) (fun _ _ _ _ _=>a6L) (fun _ _ _ _ _=>(v5 v3 (pv 3) (z6 n8 (pv 2) (v5 d05 (v5 v3 (pv 4) (v5 b2T (pv 5) (pv 6))) d7) (fun _ _=>rfl))))) d8))))))))
theorem a73:w6 a33 ["draws", "great"] (e8 (top 116)):=⟨rfl,rfl,rfl,by decide +kernel,rfl,by decide +kernel,by decide +kernel⟩
theorem b5f {f:t5} {fd:n6} (F:FnP K "_law_articles" (top 116) f fd) (gm:mg "_law_articles" = some (.ref f)) (a06:mg "tuple" = none) (F__law_draw:Fn P w K mg base CX0 1 "_law_draw" ["draws", "many"] d5) (F__law_names:Fn P w K mg base CX0 2 "_law_names" ["draws", "many"] a0e):Fn P w K mg base CX0 3 "_law_articles" ["draws", "great"] a03:=by
 obtain ⟨a1W,a09,i5,i6,i8,i7⟩:=F__law_draw.ex
 have g5:1 ≤ 2:=by decide
 obtain ⟨a85,a5F,a2t,a2u,a2w,a2v⟩:=F__law_names.ex
 have a2a:2 ≤ 2:=by decide
 have nd:=a73.nd
 refine Fn.mk0 (k:=2) (t:=a8R w K) (a:=a4a) F a73 gm (F.bindsN fun _ _ _ _ _ _ us hl=>match us,hl with | [_,_],_=>rfl) b22 (fun W=>b5o W) (b15) fun cdv A outer s H E hr=>?_
 exact (f6 (a0j (i:=2) nd rfl nofun (a1f d8))
 (f6 (ps_for a31 rfl (a47 (g7 a2t hr a2a (by rfl) a2u a2w a2v (c6 (pv 0) (c6 (v5 v3 d7 (g7 i5 hr g5 (by rfl) i6 i8 i7 (c6 (pv 0) (c6 d7 d8)))) d8)))) (a1r (i:=3) nd rfl nofun) (f6 (a0j (i:=4) nd rfl nofun (z6 n8 (a1f (c6 (g7 i5 hr g5 (by rfl) i6 i8 i7 (c6 (pv 0) (c6 d7 d8))) (c6 (v5 v3 d7 (g7 i5 hr g5 (by rfl) i6 i8 i7 (c6 (pv 0) (c6 d7 d8)))) (c6 d7 (c6 (g7 i5 hr g5 (by rfl) i6 i8 i7 (c6 (pv 0) (c6 (v5 v3 (pv 1) d7) d8))) d8))))) (g7 i5 hr g5 (by rfl) i6 i8 i7 (c6 (pv 0) (c6 d7 d8))) (fun _ _=>rfl)))
 (k9 (a1k (pe_bm a0z a5s a5t d81 (pv 2) (c6 (a68 (c6 (pv 3) (c6 (pv 4) (c6 (z6 n8 (a1f (c6 d7 (c6 d7 (c6 (v5 v3 d7 (g7 i5 hr g5 (by rfl) i6 i8 i7 (c6 (pv 0) (c6 d7 d8)))) (c6 (v5 v3 d7 (g7 i5 hr g5 (by rfl) i6 i8 i7 (c6 (pv 0) (c6 d7 d8)))) d8))))) (g7 i5 hr g5 (by rfl) i6 i8 i7 (c6 (pv 0) (c6 d7 d8))) (fun _ _=>rfl)) d8)))) d8))))))
 (f6 (ps_setLc (i:=5) (own:=[("name",3)]) (g:=(v4 3)) (tt:=c3U) (te:=(d5n (d4 (g9 3) (d4 (tOp (a0U K) (tC (.int 1)) (r6 (spOf K d5) [] E0 (d4 (g9 0) (d4 (tC (.int 9)) p7)))) p7))))  (by rfl) nd rfl rfl (sw_true rfl rfl rfl (by decide +kernel))  (a47 (g7 a2t hr a2a (by rfl) a2u a2w a2v (c6 (pv 0) (c6 (v5 v3 d7 (g7 i5 hr g5 (by rfl) i6 i8 i7 (c6 (pv 0) (c6 d7 d8)))) d8)))) (a2c (own:=[("name",3)]) (N:=a33) (sc:=e8 (top 116)) (by decide +kernel)) (fun _ _ _ _ _=>(a1r (i:=3) nd rfl nofun)) (fun _ _ _ _ _=>a6L) (fun _ _ _ _ _=>(a68 (c6 (pv 3) (c6 (v5 v3 d7 (g7 i5 hr g5 (by rfl) i6 i8 i7 (c6 (pv 0) (c6 d7 d8)))) d8)))))
 (f6 (a0j (i:=6) nd rfl nofun (z6 n8 (a1f (c6 d7 (c6 d7 (c6 (v5 v3 d7 (g7 i5 hr g5 (by rfl) i6 i8 i7 (c6 (pv 0) (c6 d7 d8)))) (c6 d7 d8))))) (g7 i5 hr g5 (by rfl) i6 i8 i7 (c6 (pv 0) (c6 d7 d8))) (fun _ _=>rfl)))
 (k9 (v9 (a68 (c6 (a3o a5K (by rfl) a06 (by decide +kernel) (c6 (pv 2) d8)) (c6 (a3o a5K (by rfl) a06 (by decide +kernel) (c6 (pv 5) d8)) (c6 (pv 6) d8))))))))))
theorem a6x:w6 a4z ["draws", "articles", "man", "far"] (e8 (top 117)):=⟨rfl,rfl,rfl,by decide +kernel,rfl,by decide +kernel,by decide +kernel⟩
theorem b13 {f:t5} {fd:n6} (F:FnP K "_law_turn_pages" (top 117) f fd) (gm:mg "_law_turn_pages" = some (.ref f)) (a1o:mg "range" = none) (a1q:mg "len" = none) (b5H:mg "min" = none) (F__law_draw:Fn P w K mg base CX0 1 "_law_draw" ["draws", "many"] d5):Fn P w K mg base CX0 2 "_law_turn_pages" ["draws", "articles", "man", "far"] a1J:=by
 obtain ⟨a1W,a09,i5,i6,i8,i7⟩:=F__law_draw.ex
 have g5:1 ≤ 1:=by decide
 have nd:=a6x.nd
 refine Fn.mk0 (k:=1) (t:=a7o w K) (a:=a28) F a6x gm (F.bindsN fun _ _ _ _ _ _ us hl=>match us,hl with | [_,_,_,_],_=>rfl) b00 (fun W=>b2r W) (a9M) fun cdv A outer s H E hr=>?_
 exact (f6 (a0j (i:=4) nd rfl nofun (a1f d8))
 (f6 (a0j (i:=5) nd rfl nofun (g7 i5 hr g5 (by rfl) i6 i8 i7 (c6 (pv 0) (c6 (v5 v3 d7 (v5 b8I (pv 3) d7)) d8))))
 (f6 (a0j (i:=6) nd rfl nofun a6K)
 (f6 (ps_for a31 rfl (b1B (by rfl) a1o (c6 (v5 v3 d7 (g7 i5 hr g5 (by rfl) i6 i8 i7 (c6 (pv 0) (c6 d7 d8)))) d8)) (a1r (i:=7) nd rfl nofun) (f6 (a0j (i:=8) nd rfl nofun v6)
 (f6 (a1s (a1T (pv 6)) (k9 (a0j (i:=8) nd rfl nofun (z6 n8 (a1f (c6 v6 (c6 v6 d8))) (v5 b8I (g7 i5 hr g5 (by rfl) i6 i8 i7 (c6 (pv 0) (c6 d7 d8))) d7) (fun _ _=>rfl)))) a0a)
 (f6 (a0j (i:=6) nd rfl nofun (a5L (b6m hr.units) (pv 8) v6 (a0d _)))
 (f6 (a0j (i:=9) nd rfl nofun (a68 (c6 (pv 8) (c6 (pv 2) (c6 (pv 5) d8)))))
 (f6 (a1s (a1T (pv 6)) (k9 (a0j (i:=9) nd rfl nofun (v5 v3 (pv 9) (a68 (c6 (z6 n8 (z6 n8 (z6 n8 (pv 1) d7 (fun _ _=>rfl)) (g7 i5 hr g5 (by rfl) i6 i8 i7 (c6 (pv 0) (c6 (a0f a11 (by rfl) a1q (by decide +kernel) (c6 (z6 n8 (pv 1) d7 (fun _ _=>rfl)) d8)) d8))) (fun _ _=>rfl)) d7 (fun _ _=>rfl)) d8))))) a0a)
 (f6 (a1k (pe_bm a0z a5s a5t d81 (pv 4) (c6 (pv 9) d8)))
 (k9 (a0j (i:=5) nd rfl nofun (a0f (b1M rfl) (by rfl) b5H (by decide +kernel) (c6 (v5 a3O d7 d7) (c6 (v5 v3 (v5 v3 (pv 5) d7) (g7 i5 hr g5 (by rfl) i6 i8 i7 (c6 (pv 0) (c6 (z6 n8 (a1f (c6 d7 (c6 (v5 v3 d7 (v5 b8I (pv 3) d7)) d8))) (g7 i5 hr g5 (by rfl) i6 i8 i7 (c6 (pv 0) (c6 d7 d8))) (fun _ _=>rfl)) d8)))) d8))))))))))))
 (k9 (v9 (pv 4)))))))
theorem a75:w6 a5N ["draws", "man", "bearers", "far", "great"] (e8 (top 118)):=⟨rfl,rfl,rfl,by decide +kernel,rfl,by decide +kernel,by decide +kernel⟩
theorem b5h {f:t5} {fd:n6} (F:FnP K "_law_sum_page" (top 118) f fd) (gm:mg "_law_sum_page" = some (.ref f)) (a1q:mg "len" = none) (b5H:mg "min" = none) (F__law_draw:Fn P w K mg base CX0 1 "_law_draw" ["draws", "many"] d5):Fn P w K mg base CX0 2 "_law_sum_page" ["draws", "man", "bearers", "far", "great"] a1R:=by
 obtain ⟨a1W,a09,i5,i6,i8,i7⟩:=F__law_draw.ex
 have g5:1 ≤ 1:=by decide
 have nd:=a75.nd
 refine Fn.mk0 (k:=1) (t:=a8T w K) (a:=a4d) F a75 gm (F.bindsN fun _ _ _ _ _ _ us hl=>match us,hl with | [_,_,_,_,_],_=>rfl) b24 (fun W=>b5q W) (b17) fun cdv A outer s H E hr=>?_
 exact (f6 (a0j (i:=5) nd rfl nofun (g7 i5 hr g5 (by rfl) i6 i8 i7 (c6 (pv 0) (c6 (v5 v3 (pv 3) d7) d8))))
 (f6 (a0j (i:=6) nd rfl nofun (z6 n8 (pv 2) (g7 i5 hr g5 (by rfl) i6 i8 i7 (c6 (pv 0) (c6 (a0f a11 (by rfl) a1q (by decide +kernel) (c6 (pv 2) d8)) d8))) (fun _ _=>rfl)))
 (f6 (a0j (i:=7) nd rfl nofun (z6 n8 (a1f (c6 (v5 v3 d7 (g7 i5 hr g5 (by rfl) i6 i8 i7 (c6 (pv 0) (c6 d7 d8)))) (c6 (v5 v3 d7 (g7 i5 hr g5 (by rfl) i6 i8 i7 (c6 (pv 0) (c6 d7 d8)))) (c6 (v5 v3 d7 (g7 i5 hr g5 (by rfl) i6 i8 i7 (c6 (pv 0) (c6 (pv 4) d8)))) d8)))) (g7 i5 hr g5 (by rfl) i6 i8 i7 (c6 (pv 0) (c6 d7 d8))) (fun _ _=>rfl)))
 (f6 (a0j (i:=8) nd rfl nofun (g7 i5 hr g5 (by rfl) i6 i8 i7 (c6 (pv 0) (c6 d7 d8))))
 (f6 (a1s (w9 a72 (pv 8) d7 (a0d _)) (k9 (v9 (a68 (c6 v6 (c6 (pv 1) (c6 (pv 5) (c6 (pv 7) (c6 (z6 n8 (a1f (c6 (v5 v3 d7 (g7 i5 hr g5 (by rfl) i6 i8 i7 (c6 (pv 0) (c6 d7 d8)))) (c6 (v5 v3 d7 (g7 i5 hr g5 (by rfl) i6 i8 i7 (c6 (pv 0) (c6 (pv 4) d8)))) d8))) (v5 b8I (pv 8) d7) (fun _ _=>rfl)) (c6 (pv 6) d8))))))))) a0a)
 (f6 (a1s (w9 (a3g hr.units) (pv 8) d7 (a0d _)) (k9 (v9 (a68 (c6 v6 (c6 (pv 1) (c6 (pv 5) (c6 (a0f (b1M rfl) (by rfl) b5H (by decide +kernel) (c6 (v5 a3O d7 d7) (c6 (v5 v3 (pv 5) (g7 i5 hr g5 (by rfl) i6 i8 i7 (c6 (pv 0) (c6 (z6 n8 (a1f (c6 d7 (c6 (v5 v3 d7 (v5 b8I (pv 3) d7)) d8))) (g7 i5 hr g5 (by rfl) i6 i8 i7 (c6 (pv 0) (c6 d7 d8))) (fun _ _=>rfl)) d8)))) d8))) d8))))))) a0a)
 (f6 (a1s (w9 (a3g hr.units) (pv 8) d7 (a0d _)) (k9 (v9 (a68 (c6 v6 (c6 (pv 1) (c6 (pv 5) (c6 (pv 7) d8))))))) a0a)
 (k9 (v9 (a68 (c6 (z6 n8 (a1f (c6 v6 (c6 v6 (c6 v6 d8)))) (v5 c75 (pv 8) d7) (fun _ _=>rfl)) (c6 (pv 1) (c6 (pv 5) (c6 (pv 7) (c6 (pv 6) d8)))))))))))))))
theorem a7f:w6 a5e ["draws", "many"] (e8 (top 119)):=⟨rfl,rfl,rfl,by decide +kernel,rfl,by decide +kernel,by decide +kernel⟩
theorem b3d {f:t5} {fd:n6} (F:FnP K "_law_any_order" (top 119) f fd) (gm:mg "_law_any_order" = some (.ref f)) (a1o:mg "range" = none) (F__law_draw:Fn P w K mg base CX0 1 "_law_draw" ["draws", "many"] d5):Fn P w K mg base CX0 2 "_law_any_order" ["draws", "many"] a13:=by
 obtain ⟨a1W,a09,i5,i6,i8,i7⟩:=F__law_draw.ex
 have g5:1 ≤ 1:=by decide
 have nd:=a7f.nd
 refine Fn.mk0 (k:=1) (t:=a77 w K) (a:=a3y) F a7f gm (F.bindsN fun _ _ _ _ _ _ us hl=>match us,hl with | [_,_],_=>rfl) b1W (fun W=>b3I W) (b03) fun cdv A outer s H E hr=>?_
 exact (f6 (a0j (i:=2) nd rfl nofun (a1f d8))
 (f6 (ps_for a31 rfl (b1B (by rfl) a1o (c6 (pv 1) d8)) (a1r (i:=3) nd rfl nofun) (k9 (a1k (pe_bm a0z d5g d5i mt_insert (pv 2) (c6 (g7 i5 hr g5 (by rfl) i6 i8 i7 (c6 (pv 0) (c6 (v5 v3 (pv 3) d7) d8))) (c6 (pv 3) d8))))))
 (k9 (v9 (pv 2)))))
theorem b2h:w6 a43 ["draws", "articles", "crew", "far", "great", "most"] (e8 (top 120)):=⟨rfl,rfl,rfl,by decide +kernel,rfl,by decide +kernel,by decide +kernel⟩
theorem c2y {f:t5} {fd:n6} (F:FnP K "_law_pages" (top 120) f fd) (gm:mg "_law_pages" = some (.ref f)) (a1o:mg "range" = none) (b5H:mg "min" = none) (a3F:mg "sorted" = none) (b1o:mg "set" = none) (a1q:mg "len" = none) (F__law_names:Fn P w K mg base CX0 2 "_law_names" ["draws", "many"] a0e) (F__law_turn_pages:Fn P w K mg base CX0 2 "_law_turn_pages" ["draws", "articles", "man", "far"] a1J) (F__law_draw:Fn P w K mg base CX0 1 "_law_draw" ["draws", "many"] d5) (F__law_sum_page:Fn P w K mg base CX0 2 "_law_sum_page" ["draws", "man", "bearers", "far", "great"] a1R) (F__law_any_order:Fn P w K mg base CX0 2 "_law_any_order" ["draws", "many"] a13):Fn P w K mg base CX0 3 "_law_pages" ["draws", "articles", "crew", "far", "great", "most"] a16:=by
 obtain ⟨a85,a5F,a2t,a2u,a2w,a2v⟩:=F__law_names.ex
 have a2a:2 ≤ 2:=by decide
 obtain ⟨d0r,b2G,b4a,b4n,b4r,b4p⟩:=F__law_turn_pages.ex
 have b2H:2 ≤ 2:=by decide
 obtain ⟨a1W,a09,i5,i6,i8,i7⟩:=F__law_draw.ex
 have g5:1 ≤ 2:=by decide
 obtain ⟨d26,b5K,b77,b8y,b8E,b8B⟩:=F__law_sum_page.ex
 have b5Q:2 ≤ 2:=by decide
 obtain ⟨d0T,b4d,b5A,b5R,b5X,b5U⟩:=F__law_any_order.ex
 have b4k:2 ≤ 2:=by decide
 have nd:=b2h.nd
 refine Fn.mk0 (k:=2) (t:=b4S w K) (a:=a6q) F b2h gm (F.bindsN fun _ _ _ _ _ _ us hl=>match us,hl with | [_,_,_,_,_,_],_=>rfl) b8R (fun W=>c2T W) (b7b) fun cdv A outer s H E hr=>?_
 exact (f6 (a0j (i:=6) nd rfl nofun (a1f d8))
 (f6 (a0j (i:=7) nd rfl nofun (g7 a2t hr a2a (by rfl) a2u a2w a2v (c6 (pv 0) (c6 d7 d8))))
 (f6 (ps_for a31 rfl (a47 (pv 2)) (a1r (i:=8) nd rfl nofun) (f6 (a1k (pe_bm a0z d5f d5h mt_extend (pv 6) (c6 (g7 b4a hr b2H (by rfl) b4n b4r b4p (c6 (pv 0) (c6 (pv 1) (c6 (pv 8) (c6 (pv 3) d8))))) d8)))
 (k9 (a1k (pe_bm a0z d5f d5h mt_extend (pv 6) (c6 (c3R (own:=[("k",10)]) (g:=(v4 10)) (tt:=c3U) (te:=(r6 (spOf K a1R) [] E0 (d4 (g9 0) (d4 (g9 8) (d4 (g9 7) (d4 (g9 3) (d4 (g9 4) p7)))))))  (by rfl) nd  (b1B (by rfl) a1o (c6 (g7 i5 hr g5 (by rfl) i6 i8 i7 (c6 (pv 0) (c6 (v5 v3 (pv 5) d7) d8))) d8)) (a2c (own:=[("k",10)]) (N:=a43) (sc:=e8 (top 120)) (by decide +kernel)) (fun _ _ _ _ _=>(a1r (i:=10) nd rfl nofun)) (fun _ _ _ _ _=>a6L) (fun _ _ _ _ _=>(g7 b77 hr b5Q (by rfl) b8y b8E b8B (c6 (pv 0) (c6 (pv 8) (c6 (pv 7) (c6 (pv 3) (c6 (pv 4) d8)))))))) d8))))))
 (f6 (a1s (w9 (a3g hr.units) (g7 i5 hr g5 (by rfl) i6 i8 i7 (c6 (pv 0) (c6 d7 d8))) d7 (a0d _)) (f6 (a0j (i:=9) nd rfl nofun (g7 i5 hr g5 (by rfl) i6 i8 i7 (c6 (pv 0) (c6 (v5 v3 (pv 3) d7) d8))))
 (k9 (a1k (pe_bm a0z a5s a5t d81 (pv 6) (c6 (a68 (c6 v6 (c6 (pv 9) (c6 (v5 c75 (pv 9) (g7 i5 hr g5 (by rfl) i6 i8 i7 (c6 (pv 0) (c6 (z6 n8 (a1f (c6 d7 (c6 (v5 v3 (a0f (b1M rfl) (by rfl) b5H (by decide +kernel) (c6 (pv 9) (c6 d7 d8))) d7) (c6 (v5 v3 (pv 9) d7) d8)))) (g7 i5 hr g5 (by rfl) i6 i8 i7 (c6 (pv 0) (c6 d7 d8))) (fun _ _=>rfl)) d8)))) d8)))) d8))))) a0a)
 (f6 (a0j (i:=6) nd rfl nofun (c6N rfl hr.units (pv 6) (by rfl) a3F (by rfl) b1o))
 (k9 (v9 (c3R (own:=[("k",10)]) (g:=(v4 10)) (tt:=c3U) (te:=(tOp (rIx K) (g9 6) (g9 10)))  (by rfl) nd  (a47 (g7 b5A hr b4k (by rfl) b5R b5X b5U (c6 (pv 0) (c6 (a0f a11 (by rfl) a1q (by decide +kernel) (c6 (pv 6) d8)) d8)))) (a2c (own:=[("k",10)]) (N:=a43) (sc:=e8 (top 120)) (by decide +kernel)) (fun _ _ _ _ _=>(a1r (i:=10) nd rfl nofun)) (fun _ _ _ _ _=>a6L) (fun _ _ _ _ _=>(z6 n8 (pv 6) (pv 10) (fun _ _=>rfl)))))))))))
theorem a7h:w6 a5f ["draws"] (e8 (top 121)):=⟨rfl,rfl,rfl,by decide +kernel,rfl,by decide +kernel,by decide +kernel⟩
theorem b3f {f:t5} {fd:n6} (F:FnP K "_law_near_book" (top 121) f fd) (gm:mg "_law_near_book" = some (.ref f)) (F__law_draw:Fn P w K mg base CX0 1 "_law_draw" ["draws", "many"] d5) (F__law_names:Fn P w K mg base CX0 2 "_law_names" ["draws", "many"] a0e) (F__law_articles:Fn P w K mg base CX0 3 "_law_articles" ["draws", "great"] a03) (F__law_pages:Fn P w K mg base CX0 3 "_law_pages" ["draws", "articles", "crew", "far", "great", "most"] a16):Fn P w K mg base CX0 4 "_law_near_book" ["draws"] a08:=by
 obtain ⟨a1W,a09,i5,i6,i8,i7⟩:=F__law_draw.ex
 have g5:1 ≤ 3:=by decide
 obtain ⟨a85,a5F,a2t,a2u,a2w,a2v⟩:=F__law_names.ex
 have a2a:2 ≤ 3:=by decide
 obtain ⟨b8d,a8l,a58,a6b,a6f,a6d⟩:=F__law_articles.ex
 have a5n:3 ≤ 3:=by decide
 obtain ⟨c5o,b2F,a83,a9g,a9i,a9h⟩:=F__law_pages.ex
 have a7W:3 ≤ 3:=by decide
 have nd:=a7h.nd
 refine Fn.mk0 (k:=3) (t:=a8i w K) (a:=a3B) F a7h gm (F.bindsN fun _ _ _ _ _ _ us hl=>match us,hl with | [_],_=>rfl) b1Y (fun W=>b3T W) (b05) fun cdv A outer s H E hr=>?_
 exact (f6 (a0j (i:=1) nd rfl nofun (g7 a2t hr a2a (by rfl) a2u a2w a2v (c6 (pv 0) (c6 (v5 v3 d7 (g7 i5 hr g5 (by rfl) i6 i8 i7 (c6 (pv 0) (c6 d7 d8)))) d8))))
 (f6 (a0j (i:=2) nd rfl nofun (g7 a58 hr a5n (by rfl) a6b a6f a6d (c6 (pv 0) (c6 d7 d8))))
 (k9 (v9 (a68 (c6 (pv 2) (c6 (g7 a83 hr a7W (by rfl) a9g a9i a9h (c6 (pv 0) (c6 (pv 2) (c6 (pv 1) (c6 d7 (c6 d7 (c6 d7 d8))))))) (c6 (pv 1) d8))))))))
theorem a74:w6 a5M ["draws"] (e8 (top 122)):=⟨rfl,rfl,rfl,by decide +kernel,rfl,by decide +kernel,by decide +kernel⟩
theorem b5g {f:t5} {fd:n6} (F:FnP K "_law_far_book" (top 122) f fd) (gm:mg "_law_far_book" = some (.ref f)) (F__law_draw:Fn P w K mg base CX0 1 "_law_draw" ["draws", "many"] d5) (F__law_names:Fn P w K mg base CX0 2 "_law_names" ["draws", "many"] a0e) (F__law_articles:Fn P w K mg base CX0 3 "_law_articles" ["draws", "great"] a03) (F__law_pages:Fn P w K mg base CX0 3 "_law_pages" ["draws", "articles", "crew", "far", "great", "most"] a16):Fn P w K mg base CX0 4 "_law_far_book" ["draws"] a2k:=by
 obtain ⟨a1W,a09,i5,i6,i8,i7⟩:=F__law_draw.ex
 have g5:1 ≤ 3:=by decide
 obtain ⟨a85,a5F,a2t,a2u,a2w,a2v⟩:=F__law_names.ex
 have a2a:2 ≤ 3:=by decide
 obtain ⟨b8d,a8l,a58,a6b,a6f,a6d⟩:=F__law_articles.ex
 have a5n:3 ≤ 3:=by decide
 obtain ⟨c5o,b2F,a83,a9g,a9i,a9h⟩:=F__law_pages.ex
 have a7W:3 ≤ 3:=by decide
 have nd:=a74.nd
 refine Fn.mk0 (k:=3) (t:=a8S w K) (a:=a4b) F a74 gm (F.bindsN fun _ _ _ _ _ _ us hl=>match us,hl with | [_],_=>rfl) b23 (fun W=>b5p W) (b16) fun cdv A outer s H E hr=>?_
 exact (f6 (a0j (i:=1) nd rfl nofun (g7 a2t hr a2a (by rfl) a2u a2w a2v (c6 (pv 0) (c6 (v5 v3 d7 (g7 i5 hr g5 (by rfl) i6 i8 i7 (c6 (pv 0) (c6 d7 d8)))) d8))))
 (f6 (a0j (i:=2) nd rfl nofun (z6 n8 (a1f (c6 d7 (c6 (v5 a3O d7 d7) (c6 (v5 a3O d7 d7) d8)))) (g7 i5 hr g5 (by rfl) i6 i8 i7 (c6 (pv 0) (c6 d7 d8))) (fun _ _=>rfl)))
 (f6 (a0j (i:=3) nd rfl nofun (g7 a58 hr a5n (by rfl) a6b a6f a6d (c6 (pv 0) (c6 (z6 n8 (a1f (c6 (pv 2) (c6 (v5 a3O d7 d7) d8))) (g7 i5 hr g5 (by rfl) i6 i8 i7 (c6 (pv 0) (c6 d7 d8))) (fun _ _=>rfl)) d8))))
 (f6 (a0j (i:=4) nd rfl nofun (z6 n8 (a1f (c6 d7 (c6 (v5 a3O d7 d7) (c6 (v5 a3O d7 d7) (c6 (v5 a3O d7 d7) d8))))) (g7 i5 hr g5 (by rfl) i6 i8 i7 (c6 (pv 0) (c6 d7 d8))) (fun _ _=>rfl)))
 (k9 (v9 (a68 (c6 (pv 3) (c6 (g7 a83 hr a7W (by rfl) a9g a9i a9h (c6 (pv 0) (c6 (pv 3) (c6 (pv 1) (c6 (pv 4) (c6 (pv 2) (c6 d7 d8))))))) (c6 (pv 1) d8))))))))))
theorem b4H:w6 b0J ["draws"] (e8 (top 123)):=⟨rfl,rfl,rfl,by decide +kernel,rfl,by decide +kernel,by decide +kernel⟩
theorem c4r {f:t5} {fd:n6} (F:FnP K "_law_book" (top 123) f fd) (gm:mg "_law_book" = some (.ref f)) (F__law_draw:Fn P w K mg base CX0 1 "_law_draw" ["draws", "many"] d5) (F__law_near_book:Fn P w K mg base CX0 4 "_law_near_book" ["draws"] a08) (F__law_far_book:Fn P w K mg base CX0 4 "_law_far_book" ["draws"] a2k):Fn P w K mg base CX0 5 "_law_book" ["draws"] a4G:=by
 obtain ⟨a1W,a09,i5,i6,i8,i7⟩:=F__law_draw.ex
 have g5:1 ≤ 4:=by decide
 obtain ⟨d0V,b4f,b5C,b5T,b5Z,b5W⟩:=F__law_near_book.ex
 have b4m:4 ≤ 4:=by decide
 obtain ⟨d25,b5J,b76,b8x,b8D,b8A⟩:=F__law_far_book.ex
 have b5P:4 ≤ 4:=by decide
 have nd:=b4H.nd
 refine Fn.mk0 (k:=4) (t:=b7P w K) (a:=a7E) F b4H gm (F.bindsN fun _ _ _ _ _ _ us hl=>match us,hl with | [_],_=>rfl) c2m (fun W=>c4Q W) (b83) fun cdv A outer s H E hr=>?_
 exact (f6 (a1s (w9 (a3g hr.units) (g7 i5 hr g5 (by rfl) i6 i8 i7 (c6 (pv 0) (c6 d7 d8))) d7 (a0d _)) (k9 (v9 (g7 b5C hr b4m (by rfl) b5T b5Z b5W (c6 (pv 0) d8)))) a0a)
 (k9 (v9 (g7 b76 hr b5P (by rfl) b8x b8D b8A (c6 (pv 0) d8)))))
theorem b2i:w6 a6l ["draws", "deep"] (e8 (top 124)):=⟨rfl,rfl,rfl,by decide +kernel,rfl,by decide +kernel,by decide +kernel⟩
theorem c2z {f:t5} {fd:n6} (F:FnP K "_law_thing" (top 124) f fd) (gm:mg "_law_thing" = some (.ref f)) (a1o:mg "range" = none) (a06:mg "tuple" = none) (F__law_draw:Fn P w K mg base CX0 1 "_law_draw" ["draws", "many"] d5):∀ n:Nat,Fn P w K mg base CX0 (2 + n) "_law_thing" ["draws", "deep"] (z5 n):=by
 obtain ⟨a1W,a09,i5,i6,i8,i7⟩:=F__law_draw.ex
 have nd:=b2i.nd
 intro n
 induction n with
 | zero=>exact Fn.none gm F.kp (F.bindsN fun _ _ _ _ _ _ us hl=>match us,hl with | [_,_],_=>rfl) c2t
 | succ n ih =>
 obtain ⟨b41,a7T,a24,a25,a27,a26⟩:=ih.ex
 have a2D:2 + n ≤ 2 + n:=a1i _
 have g5:1 ≤ 2 + n:=by omega
 refine Fn.mk0 (k:=2 + n) (t:=b4T w K n) (a:=a6r n) F b2i gm (F.bindsN fun _ _ _ _ _ _ us hl=>match us,hl with | [_,_],_=>rfl) (b8S n) (fun W=>c2U W) (b7c n) fun cdv A outer s H E hr=>?_
 exact (f6 (a0j (i:=2) nd rfl nofun (g7 i5 hr g5 (by rfl) i6 i8 i7 (c6 (pv 0) (c6 d7 d8))))
 (f6 (a1s (b8L (c3S (w9 a72 (pv 2) d7 (a0d _)) (b6n (w9 (a3g hr.units) (pv 1) d7 (a0d _))))) (f6 (a0j (i:=3) nd rfl nofun (a1f (c6 d7 (c6 d7 (c6 (pe_un un_neg d7) (c6 a6K (c6 a6K (c6 pe_non (c6 v6 (c6 v6 (c6 v6 (c6 v6 (c6 v6 (c6 v6 (c6 v6 (c6 (v5 a3O d7 d7) (c6 (v5 v3 (v5 a3O d7 d7) d7) d8)))))))))))))))))
 (k9 (v9 (z6 n8 (v5 v3 (pv 3) (a1f (c6 d7 (c6 d7 (c6 (v5 v3 (v5 a3O d7 d7) d7) (c6 (a68 d8) (c6 (a1f d8) d8))))))) (g7 i5 hr g5 (by rfl) i6 i8 i7 (c6 (pv 0) (c6 d7 d8))) (fun _ _=>rfl))))) a0a)
 (f6 (ps_setLc (i:=4) (own:=[("k",5)]) (g:=(v4 5)) (tt:=c3U) (te:=(r6 (spOf K (z5 n)) [] E0 (d4 (g9 0) (d4 (tOp c2M (g9 1) (tC (.int 1))) p7))))  (by rfl) nd rfl rfl (sw_true rfl rfl rfl (by decide +kernel))  (b1B (by rfl) a1o (c6 (g7 i5 hr g5 (by rfl) i6 i8 i7 (c6 (pv 0) (c6 d7 d8))) d8)) (a2c (own:=[("k",5)]) (N:=a6l) (sc:=e8 (top 124)) (by decide +kernel)) (fun _ _ _ _ _=>(a1r (i:=5) nd rfl nofun)) (fun _ _ _ _ _=>a6L) (fun _ _ _ _ _=>(g7 a24 hr a2D (by rfl) a25 a27 a26 (c6 (pv 0) (c6 (v5 c75 (pv 1) d7) d8)))))
 (k9 (v9 (z6 n8 (a1f (c6 (pv 4) (c6 (a3o a5K (by rfl) a06 (by decide +kernel) (c6 (pv 4) d8)) (c6 (a3o a5K (by rfl) a06 (by decide +kernel) (c6 (pv 4) d8)) d8)))) (v5 c75 (pv 2) d7) (fun _ _=>rfl)))))))
theorem a7i:w6 a5g ["draws", "thing", "deep"] (e8 (top 125)):=⟨rfl,rfl,rfl,by decide +kernel,rfl,by decide +kernel,by decide +kernel⟩
theorem b3g {f:t5} {fd:n6} (F:FnP K "_law_otherwise" (top 125) f fd) (gm:mg "_law_otherwise" = some (.ref f)) (a7r:mg "list" = none) (a1q:mg "len" = none) (i9:mg "isinstance" = none) (a06:mg "tuple" = none) (b1p:mg "str" = none) (a0S:IsiOk K "str") (r0:IsiOk K "tuple") (F__law_thing:Fn P w K mg base CX0 6 "_law_thing" ["draws", "deep"] (z5 4)) (F__law_draw:Fn P w K mg base CX0 1 "_law_draw" ["draws", "many"] d5):∀ n:Nat,Fn P w K mg base CX0 (7 + n) "_law_otherwise" ["draws", "thing", "deep"] (a0C n):=by
 obtain ⟨b41,a7T,a24,a25,a27,a26⟩:=F__law_thing.ex
 obtain ⟨a1W,a09,i5,i6,i8,i7⟩:=F__law_draw.ex
 have nd:=a7i.nd
 intro n
 induction n with
 | zero=>exact Fn.none gm F.kp (F.bindsN fun _ _ _ _ _ _ us hl=>match us,hl with | [_,_,_],_=>rfl) b3a
 | succ n ih =>
 obtain ⟨b5I,a7s,a5m,a5p,a5r,a5q⟩:=ih.ex
 have a4L:7 + n ≤ 7 + n:=a1i _
 have a2D:6 ≤ 7 + n:=by omega
 have g5:1 ≤ 7 + n:=by omega
 refine Fn.mk0 (k:=7 + n) (t:=a8j w K n) (a:=a3C n) F a7i gm (F.bindsN fun _ _ _ _ _ _ us hl=>match us,hl with | [_,_,_],_=>rfl) (b1Z n) (fun W=>b3U a0S r0 W) (b06 n) fun cdv A outer s H E hr=>?_
 exact (f6 (a0j (i:=3) nd rfl nofun (a3o d8X (by rfl) a7r (by decide +kernel) (c6 (pv 1) d8)))
 (f6 (a1s (w9 (a3g hr.units) (pv 3) (a1f d8) (a0d _)) (k9 (v9 (a68 (c6 (g7 a24 hr a2D (by rfl) a25 a27 a26 (c6 (pv 0) (c6 d7 d8))) d8)))) a0a)
 (f6 (a0j (i:=4) nd rfl nofun (g7 i5 hr g5 (by rfl) i6 i8 i7 (c6 (pv 0) (c6 (a0f a11 (by rfl) a1q (by decide +kernel) (c6 (pv 3) d8)) d8))))
 (f6 (a1s (b8L (pw_and (a1T (a4u (z6 n8 (pv 3) (pv 4) (fun _ _=>rfl)) (by rfl) i9 (by rfl) a06 (by decide +kernel))) (pw_and (w9 b67 (pv 2) d7 (a0d _)) (pw_and1 (w9 b67 (g7 i5 hr g5 (by rfl) i6 i8 i7 (c6 (pv 0) (c6 d7 d8))) d7 (a0d _)))))) (f6 (d5m (g7 a5m hr a4L (by rfl) a5p a5r a5q (c6 (pv 0) (c6 (z6 n8 (pv 3) (pv 4) (fun _ _=>rfl)) (c6 (v5 c75 (pv 2) d7) d8)))) (d82 (pv 3) (pv 4) c3T))
 (k9 (v9 (a3o a5K (by rfl) a06 (by decide +kernel) (c6 (pv 3) d8))))) a0a)
 (f6 (a0j (i:=5) nd rfl nofun (g7 i5 hr g5 (by rfl) i6 i8 i7 (c6 (pv 0) (c6 d7 d8))))
 (f6 (a1s (w9 (a3g hr.units) (pv 5) d7 (a0d _)) (k9 (a1k (pe_bm a0z PySem.F.slot_list_pop PySem.F.type_list_pop mt_popAt (pv 3) (c6 (pv 4) d8)))) (k9 (a1s (w9 (a3g hr.units) (pv 5) d7 (a0d _)) (k9 (a1k (pe_bm a0z d5g d5i mt_insert (pv 3) (c6 (pv 4) (c6 (z6 n8 (pv 3) (pv 4) (fun _ _=>rfl)) d8))))) (k9 (a1s (w9 (a3g hr.units) (pv 5) d7 (a0d _)) (k9 (AqS.ps_setSl (pe_revL (pe_slice c8B (pv 3) (d06 (pv 4)) (d06 (v5 v3 (pv 4) d7)))) (pv 3) (d06 (pv 4)) (d06 (v5 v3 (pv 4) d7)))) (k9 (a1s (w9 (a3g hr.units) (pv 5) d7 (a0d _)) (k9 (d5m (g7 a24 hr a2D (by rfl) a25 a27 a26 (c6 (pv 0) (c6 d7 d8))) (d82 (pv 3) (pv 4) c3T))) (k9 (a1s (w9 (a3g hr.units) (pv 5) d7 (a0d _)) (f6 (a0j (i:=6) nd rfl nofun (a1f (c6 d7 (c6 d7 (c6 (pe_un un_neg d7) (c6 d7 (c6 d7 (c6 (v5 a3O d7 d7) (c6 (v5 v3 (v5 a3O d7 d7) d7) (c6 (v5 a3O d7 d7) (c6 (v5 v3 (v5 a3O d7 d7) d7) (c6 (v5 a3O d7 d7) (c6 (v5 v3 (v5 a3O d7 d7) d7) (c6 pe_non (c6 a6K d8)))))))))))))))
 (k9 (d5m (z6 n8 (pv 6) (g7 i5 hr g5 (by rfl) i6 i8 i7 (c6 (pv 0) (c6 d7 d8))) (fun _ _=>rfl)) (d82 (pv 3) (pv 4) c3T)))) (k9 (a1s (b8L (pw_and (w9 (a3g hr.units) (pv 5) d7 (a0d _)) (pw_and1 (a1T (a4u (z6 n8 (pv 3) (pv 4) (fun _ _=>rfl)) (by rfl) i9 (by rfl) a06 (by decide +kernel)))))) (k9 (d5m (a3o d8X (by rfl) a7r (by decide +kernel) (c6 (z6 n8 (pv 3) (pv 4) (fun _ _=>rfl)) d8)) (d82 (pv 3) (pv 4) c3T))) (k9 (a1s (b8L (pw_and (w9 (a3g hr.units) (pv 5) d7 (a0d _)) (pw_and1 (a1T (a4u (z6 n8 (pv 3) (pv 4) (fun _ _=>rfl)) (by rfl) i9 (by rfl) b1p (by decide +kernel)))))) (k9 (d5m (v5 v3 (z6 n8 (pv 3) (pv 4) (fun _ _=>rfl)) (z6 n8 (a1f (c6 v6 (c6 v6 (c6 v6 (c6 v6 d8))))) (g7 i5 hr g5 (by rfl) i6 i8 i7 (c6 (pv 0) (c6 d7 d8))) (fun _ _=>rfl))) (d82 (pv 3) (pv 4) c3T))) (k9 (v9 (pv 3))))))))))))))))
 (k9 (v9 (a3o a5K (by rfl) a06 (by decide +kernel) (c6 (pv 3) d8))))))))))
theorem b7p:w6 b2V ["thing", "many"] (e8 (top 30)):=⟨rfl,rfl,rfl,by decide +kernel,rfl,by decide +kernel,by decide +kernel⟩
theorem c6H {f:t5} {fd:n6} (F:FnP K "is_tuple" (top 30) f fd) (gm:mg "is_tuple" = some (.ref f)) (i9:mg "isinstance" = none) (a06:mg "tuple" = none) (a1q:mg "len" = none) (r0:IsiOk K "tuple"):Fn P w K mg base CX0 1 "is_tuple" ["thing", "many"] a2M:=by
 have nd:=b7p.nd
 refine Fn.mk0 (k:=0) (t:=c07 w K) (a:=a9n) F b7p gm (F.bindsN fun _ _ _ _ _ _ us hl=>match us,hl with | [_,_],_=>rfl) c4i (fun W=>c6V r0 W) (c2E) fun cdv A outer s H E hr=>?_
 exact (k9 (v9 (a5c (a4u (pv 0) (by rfl) i9 (by rfl) a06 (by decide +kernel)) (b4w (a5L (a3g hr.units) (a0f a11 (by rfl) a1q (by decide +kernel) (c6 (pv 0) d8)) (pv 1) (a0d _))))))
theorem c0Y:w6 b1F ["thing"] (e8 (top 29)):=⟨rfl,rfl,rfl,by decide +kernel,rfl,by decide +kernel,by decide +kernel⟩
theorem c87 {f:t5} {fd:n6} (F:FnP K "is_name" (top 29) f fd) (gm:mg "is_name" = some (.ref f)) (i9:mg "isinstance" = none) (b1p:mg "str" = none) (a1q:mg "len" = none) (b2C:mg "all" = none) (a0S:IsiOk K "str") (b8s:∃ t,mg "LETTERS" = some (.str "abcdefghijklmnopqrstuvwxyz" t)):Fn P w K mg base CX0 1 "is_name" ["thing"] a1S:=by
 have nd:=c0Y.nd
 refine Fn.mk0 (k:=0) (t:=c47 w K) (a:=b1J) F c0Y gm (F.bindsN fun _ _ _ _ _ _ us hl=>match us,hl with | [_],_=>rfl) c6A (fun W=>c9P a0S W) (c4F) fun cdv A outer s H E hr=>?_
 exact (k9 (v9 (a5c (a4u (pv 0) (by rfl) i9 (by rfl) b1p (by decide +kernel)) (a5c (pe_chain a94 a94 d7 (a0f a11 (by rfl) a1q (by decide +kernel) (c6 (pv 0) d8)) d7) (b4w (a0f (cr_all rfl) (by rfl) b2C (by decide +kernel) (c6 (c3R (own:=[("sign",1)]) (g:=(v4 1)) (tt:=c3U) (te:=(tOp (d4q K) (g9 1) (tC (.str "abcdefghijklmnopqrstuvwxyz"))))  (by rfl) nd  (a47 (pv 0)) (a2c (own:=[("sign",1)]) (N:=b1F) (sc:=e8 (top 29)) (by decide +kernel)) (fun _ _ _ _ _=>(a1r (i:=1) nd rfl nofun)) (fun _ _ _ _ _=>a6L) (fun _ _ _ _ _=>(a5L (c0a (b1i hr)) (pv 1) (a0o (by rfl) b8s.choose_spec ⟨_,rfl⟩) (by rfl)))) d8)))))))
theorem b7o:w6 a7b ["thing", "many", "most"] (e8 (top 31)):=⟨rfl,rfl,rfl,by decide +kernel,rfl,by decide +kernel,by decide +kernel⟩
theorem c6G {f:t5} {fd:n6} (F:FnP K "are_rows" (top 31) f fd) (gm:mg "are_rows" = some (.ref f)) (i9:mg "isinstance" = none) (a06:mg "tuple" = none) (a1q:mg "len" = none) (b2C:mg "all" = none) (a1o:mg "range" = none) (r0:IsiOk K "tuple") (F_is_tuple:Fn P w K mg base CX0 1 "is_tuple" ["thing", "many"] a2M) (F_is_name:Fn P w K mg base CX0 1 "is_name" ["thing"] a1S):Fn P w K mg base CX0 2 "are_rows" ["thing", "many", "most"] a3T:=by
 obtain ⟨d0s,b8k,b4b,b4o,b4s,b4q⟩:=F_is_tuple.ex
 have b1r:1 ≤ 1:=by decide
 obtain ⟨c5q,b4g,a7q,a7u,a7w,a7v⟩:=F_is_name.ex
 have a5H:1 ≤ 1:=by decide
 have nd:=b7o.nd
 refine Fn.mk0 (k:=1) (t:=c06 w K) (a:=a9m) F b7o gm (F.bindsN fun _ _ _ _ _ _ us hl=>match us,hl with | [_,_,_],_=>rfl) c4h (fun W=>c6U r0 W) (c2D) fun cdv A outer s H E hr=>?_
 exact (f6 (a1s (b8L (c3S (a3P (a1T (a4u (pv 0) (by rfl) i9 (by rfl) a06 (by decide +kernel)))) (b6n (a3P (pt_chain a94 a94 d7 (a0f a11 (by rfl) a1q (by decide +kernel) (c6 (pv 0) d8)) (pv 2)))))) (k9 (v9 a6K)) a0a)
 (f6 (a1s (a3P (a1T (a0f (cr_all rfl) (by rfl) b2C (by decide +kernel) (c6 (c3R (own:=[("row",3)]) (g:=(v4 3)) (tt:=c3U) (te:=(b45 K (r6 (spOf K a2M) [] E0 (d4 (g9 3) (d4 (g9 1) p7))) (r6 (spOf K a1S) [] E0 (d4 (tOp (rIx K) (g9 3) (tC (.int 0))) p7))))  (by rfl) nd  (a47 (pv 0)) (a2c (own:=[("row",3)]) (N:=a7b) (sc:=e8 (top 31)) (by decide +kernel)) (fun _ _ _ _ _=>(a1r (i:=3) nd rfl nofun)) (fun _ _ _ _ _=>a6L) (fun _ _ _ _ _=>(a5c (g7 b4b hr b1r (by rfl) b4o b4s b4q (c6 (pv 3) (c6 (pv 1) d8))) (b4w (g7 a7q hr a5H (by rfl) a7u a7w a7v (c6 (z6 n8 (pv 3) d7 (fun _ _=>rfl)) d8)))))) d8)))) (k9 (v9 a6K)) a0a)
 (k9 (v9 (a0f (cr_all rfl) (by rfl) b2C (by decide +kernel) (c6 (c3R (own:=[("k",4)]) (g:=(v4 4)) (tt:=c3U) (te:=(tOp c8w (tOp (rIx K) (tOp (rIx K) (g9 0) (tOp c2M (g9 4) (tC (.int 1)))) (tC (.int 0))) (tOp (rIx K) (tOp (rIx K) (g9 0) (g9 4)) (tC (.int 0)))))  (by rfl) nd  (pi_range2 (by rfl) a1o (c6 d7 (c6 (a0f a11 (by rfl) a1q (by decide +kernel) (c6 (pv 0) d8)) d8))) (a2c (own:=[("k",4)]) (N:=a7b) (sc:=e8 (top 31)) (by decide +kernel)) (fun _ _ _ _ _=>(a1r (i:=4) nd rfl nofun)) (fun _ _ _ _ _=>a6L) (fun _ _ _ _ _=>(a5L a72 (z6 n8 (z6 n8 (pv 0) (v5 c75 (pv 4) d7) (fun _ _=>rfl)) d7 (fun _ _=>rfl)) (z6 n8 (z6 n8 (pv 0) (pv 4) (fun _ _=>rfl)) d7 (fun _ _=>rfl)) (a0d _)))) d8))))))
theorem b4L:w6 b0L ["thing", "low", "high"] (e8 (top 28)):=⟨rfl,rfl,rfl,by decide +kernel,rfl,by decide +kernel,by decide +kernel⟩
theorem c4v {f:t5} {fd:n6} (F:FnP K "is_within" (top 28) f fd) (gm:mg "is_within" = some (.ref f)) (i9:mg "isinstance" = none) (c3g:mg "int" = none) (b2D:mg "bool" = none) (a1Y:IsiOk K "bool") (b9E:IsiOk K "int"):Fn P w K mg base CX0 1 "is_within" ["thing", "low", "high"] z8:=by
 have nd:=b4L.nd
 refine Fn.mk0 (k:=0) (t:=b7Y w K) (a:=a7L) F b4L gm (F.bindsN fun _ _ _ _ _ _ us hl=>match us,hl with | [_,_,_],_=>rfl) c2o (fun W=>c4Z a1Y b9E W) (b85) fun cdv A outer s H E hr=>?_
 exact (k9 (v9 (a5c (a4u (pv 0) (by rfl) i9 (by rfl) c3g (by decide +kernel)) (a5c (pe_notT (a4u (pv 0) (by rfl) i9 (by rfl) b2D (by decide +kernel))) (b4w (pe_chain a94 a94 (pv 1) (pv 0) (pv 2)))))))
theorem a97:w6 a35 ["thing"] (e8 (top 32)):=⟨rfl,rfl,rfl,by decide +kernel,rfl,by decide +kernel,by decide +kernel⟩
theorem b8Z {f:t5} {fd:n6} (F:FnP K "is_articles" (top 32) f fd) (gm:mg "is_articles" = some (.ref f)) (b2C:mg "all" = none) (a89:∃ t,mg "MOST_RANKS" = some (.int 12 t)) (a7V:∃ t,mg "MOST_CHESTS" = some (.int 6 t)) (a3V:∃ t,mg "MOST_PENCE" = some (.int 1000000000 t)) (a6a:∃ t,mg "MOST_PART" = some (.int 1000 t)) (F_is_tuple:Fn P w K mg base CX0 1 "is_tuple" ["thing", "many"] a2M) (F_are_rows:Fn P w K mg base CX0 2 "are_rows" ["thing", "many", "most"] a3T) (F_is_within:Fn P w K mg base CX0 1 "is_within" ["thing", "low", "high"] z8):Fn P w K mg base CX0 3 "is_articles" ["thing"] a29:=by
 obtain ⟨d0s,b8k,b4b,b4o,b4s,b4q⟩:=F_is_tuple.ex
 have b1r:1 ≤ 2:=by decide
 obtain ⟨d8L,c7z,c1V,c1X,c11,c1Z⟩:=F_are_rows.ex
 have b8w:2 ≤ 2:=by decide
 obtain ⟨b8e,a86,a2C,a2E,a2G,a2F⟩:=F_is_within.ex
 have a2b:1 ≤ 2:=by decide
 have nd:=a97.nd
 refine Fn.mk0 (k:=2) (t:=b2y w K) (a:=a5y) F a97 gm (F.bindsN fun _ _ _ _ _ _ us hl=>match us,hl with | [_],_=>rfl) b6P (fun W=>b9g W) (b5l) fun cdv A outer s H E hr=>?_
 exact (f6 (a1s (a3P (a1T (g7 b4b hr b1r (by rfl) b4o b4s b4q (c6 (pv 0) (c6 d7 d8))))) (k9 (v9 a6K)) a0a)
 (f6 (a1s (b8L (c3S (a3P (a1T (g7 c1V hr b8w (by rfl) c1X c11 c1Z (c6 (z6 n8 (pv 0) d7 (fun _ _=>rfl)) (c6 d7 (c6 (a0o (by rfl) a89.choose_spec ⟨_,rfl⟩) d8)))))) (b6n (a3P (a1T (g7 c1V hr b8w (by rfl) c1X c11 c1Z (c6 (z6 n8 (pv 0) d7 (fun _ _=>rfl)) (c6 d7 (c6 (a0o (by rfl) a7V.choose_spec ⟨_,rfl⟩) d8))))))))) (k9 (v9 a6K)) a0a)
 (f6 (a1s (a3P (a1T (a0f (cr_all rfl) (by rfl) b2C (by decide +kernel) (c6 (c3R (own:=[("row",1)]) (g:=(v4 1)) (tt:=c3U) (te:=(b45 K (r6 (spOf K z8) [] E0 (d4 (tOp (rIx K) (g9 1) (tC (.int 1))) (d4 (tC (.int 0)) (d4 (tC (.int 1000000000)) p7)))) (r6 (spOf K z8) [] E0 (d4 (tOp (rIx K) (g9 1) (tC (.int 2))) (d4 (tC (.int 1)) (d4 (tC (.int 1000)) p7))))))  (by rfl) nd  (a47 (z6 n8 (pv 0) d7 (fun _ _=>rfl))) (a2c (own:=[("row",1)]) (N:=a35) (sc:=e8 (top 32)) (by decide +kernel)) (fun _ _ _ _ _=>(a1r (i:=1) nd rfl nofun)) (fun _ _ _ _ _=>a6L) (fun _ _ _ _ _=>(a5c (g7 a2C hr a2b (by rfl) a2E a2G a2F (c6 (z6 n8 (pv 1) d7 (fun _ _=>rfl)) (c6 d7 (c6 (a0o (by rfl) a3V.choose_spec ⟨_,rfl⟩) d8)))) (b4w (g7 a2C hr a2b (by rfl) a2E a2G a2F (c6 (z6 n8 (pv 1) d7 (fun _ _=>rfl)) (c6 d7 (c6 (a0o (by rfl) a6a.choose_spec ⟨_,rfl⟩) d8)))))))) d8)))) (k9 (v9 a6K)) a0a)
 (k9 (v9 (a5c (a0f (cr_all rfl) (by rfl) b2C (by decide +kernel) (c6 (c3R (own:=[("row",1)]) (g:=(v4 1)) (tt:=c3U) (te:=(r6 (spOf K z8) [] E0 (d4 (tOp (rIx K) (g9 1) (tC (.int 1))) (d4 (tC (.int 1)) (d4 (tC (.int 1000)) p7)))))  (by rfl) nd  (a47 (z6 n8 (pv 0) d7 (fun _ _=>rfl))) (a2c (own:=[("row",1)]) (N:=a35) (sc:=e8 (top 32)) (by decide +kernel)) (fun _ _ _ _ _=>(a1r (i:=1) nd rfl nofun)) (fun _ _ _ _ _=>a6L) (fun _ _ _ _ _=>(g7 a2C hr a2b (by rfl) a2E a2G a2F (c6 (z6 n8 (pv 1) d7 (fun _ _=>rfl)) (c6 d7 (c6 (a0o (by rfl) a6a.choose_spec ⟨_,rfl⟩) d8)))))) d8)) (b4w (g7 a2C hr a2b (by rfl) a2E a2G a2F (c6 (z6 n8 (pv 0) d7 (fun _ _=>rfl)) (c6 d7 (c6 (a0o (by rfl) a6a.choose_spec ⟨_,rfl⟩) d8)))))))))))
theorem a76:w6 a5O ["articles"] (e8 (top 33)):=⟨rfl,rfl,rfl,by decide +kernel,rfl,by decide +kernel,by decide +kernel⟩
theorem b5i {f:t5} {fd:n6} (F:FnP K "need_articles" (top 33) f fd) (gm:mg "need_articles" = some (.ref f)) (a3U:mg "NoArticles" = some (.ref (a0J K "NoArticles"))) (a3W:PySem.W.excIn K (a0J K "NoArticles") He.veBase "ValueError.__new__" = true ∧ a2h K (.ref (a0J K "NoArticles")) = true ∧ d54 K (.ref (a0J K "NoArticles")) (.type "BaseException") = some true ∧ PySem.W.typeIn K (.ref (a0J K "NoArticles")) = some (.type "type")) (F_is_articles:Fn P w K mg base CX0 3 "is_articles" ["thing"] a29):Fn P w K mg base (y3 P w) 4 "need_articles" ["articles"] (a04 (evK K)):=by
 obtain ⟨d4X,b9u,c28,c3w,c3C,c3z⟩:=F_is_articles.ex
 have b9F:3 ≤ 3:=by decide
 have nd:=a76.nd
 refine Fn.mkN (k:=3) (t:=fun W=>a80 w K W (evK K)) (a:=a4f (evK K)) F a76 gm (F.bindsN fun _ _ _ _ _ _ us hl=>match us,hl with | [_],_=>rfl) (b26 (evK K)) (fun W=>b5x W) (b19 (evK K)) fun cdv A outer s H E hr=>?_
 exact (k9 (a1s (a3P (a1T (g7 c28 hr b9F (by rfl) c3w c3C c3z (c6 (pv 0) d8)))) (k9 (L2N.ps_raise rfl (r4 rfl rfl rfl rfl) (L2N.pmk_own d3o a3W.1 a3U a3W.2.1 (raises_own a3W.2.2.1 a3W.2.2.2) (by rfl)))) a0a))
theorem c4N:w6 c14 ["thing"] (e8 (top 41)):=⟨rfl,rfl,rfl,by decide +kernel,rfl,by decide +kernel,by decide +kernel⟩
theorem d1T {f:t5} {fd:n6} (F:FnP K "is_day" (top 41) f fd) (gm:mg "is_day" = some (.ref f)) (b4j:∃ t,mg "MOST_DAY" = some (.int 1000000000000 t)) (F_is_within:Fn P w K mg base CX0 1 "is_within" ["thing", "low", "high"] z8):Fn P w K mg base CX0 2 "is_day" ["thing"] a3E:=by
 obtain ⟨b8e,a86,a2C,a2E,a2G,a2F⟩:=F_is_within.ex
 have a2b:1 ≤ 1:=by decide
 have nd:=c4N.nd
 refine Fn.mk0 (k:=1) (t:=c8E w K) (a:=b52) F c4N gm (F.bindsN fun _ _ _ _ _ _ us hl=>match us,hl with | [_],_=>rfl) c85 (fun W=>d2i W) (c6P) fun cdv A outer s H E hr=>?_
 exact (k9 (v9 (g7 a2C hr a2b (by rfl) a2E a2G a2F (c6 (pv 0) (c6 d7 (c6 (a0o (by rfl) b4j.choose_spec ⟨_,rfl⟩) d8))))))
theorem a98:w6 a7B ["page"] (e8 (top 42)):=⟨rfl,rfl,rfl,by decide +kernel,rfl,by decide +kernel,by decide +kernel⟩
theorem b80 {f:t5} {fd:n6} (F:FnP K "is_sum_page" (top 42) f fd) (gm:mg "is_sum_page" = some (.ref f)) (a3V:∃ t,mg "MOST_PENCE" = some (.int 1000000000 t)) (a9a:∃ t,mg "MOST_TIMES" = some (.int 1000000 t)) (F_is_within:Fn P w K mg base CX0 1 "is_within" ["thing", "low", "high"] z8) (F_is_name:Fn P w K mg base CX0 1 "is_name" ["thing"] a1S):Fn P w K mg base CX0 2 "is_sum_page" ["page"] a3a:=by
 obtain ⟨b8e,a86,a2C,a2E,a2G,a2F⟩:=F_is_within.ex
 have a2b:1 ≤ 1:=by decide
 obtain ⟨c5q,b4g,a7q,a7u,a7w,a7v⟩:=F_is_name.ex
 have a5H:1 ≤ 1:=by decide
 have nd:=a98.nd
 refine Fn.mk0 (k:=1) (t:=b2z w K) (a:=a5z) F a98 gm (F.bindsN fun _ _ _ _ _ _ us hl=>match us,hl with | [_],_=>rfl) b6Q (fun W=>b9h W) (b5m) fun cdv A outer s H E hr=>?_
 exact (f6 (a1s (a3P (a1T (g7 a2C hr a2b (by rfl) a2E a2G a2F (c6 (z6 n8 (pv 0) d7 (fun _ _=>rfl)) (c6 d7 (c6 (a0o (by rfl) a3V.choose_spec ⟨_,rfl⟩) d8)))))) (k9 (v9 a6K)) a0a)
 (f6 (a1s (w9 (a3g hr.units) (z6 n8 (pv 0) d7 (fun _ _=>rfl)) v6 (a0d _)) (k9 (v9 (a5c (g7 a2C hr a2b (by rfl) a2E a2G a2F (c6 (z6 n8 (pv 0) d7 (fun _ _=>rfl)) (c6 d7 (c6 (a0o (by rfl) a9a.choose_spec ⟨_,rfl⟩) d8)))) (b4w (g7 a7q hr a5H (by rfl) a7u a7w a7v (c6 (z6 n8 (pv 0) d7 (fun _ _=>rfl)) d8)))))) a0a)
 (k9 (v9 (pe_orT (a5L (a3g hr.units) (z6 n8 (pv 0) d7 (fun _ _=>rfl)) v6 (a0d _)) (b4w (g7 a7q hr a5H (by rfl) a7u a7w a7v (c6 (z6 n8 (pv 0) d7 (fun _ _=>rfl)) d8))))))))
theorem c0Z:w6 b1G ["articles", "thing"] (e8 (top 43)):=⟨rfl,rfl,rfl,by decide +kernel,rfl,by decide +kernel,by decide +kernel⟩
theorem c88 {f:t5} {fd:n6} (F:FnP K "is_page" (top 43) f fd) (gm:mg "is_page" = some (.ref f)) (i9:mg "isinstance" = none) (a06:mg "tuple" = none) (a1q:mg "len" = none) (b1p:mg "str" = none) (a0S:IsiOk K "str") (r0:IsiOk K "tuple") (b8G:KTab K w (a0J K "LENGTHS") [("joins",4),("ranked",4),("leaves",3),("away",4),("advance",5),("home",6),("slops",5),("fine",4),("lost",3)]) (a2H:c8S K (a0J K "TURNS") ["joins", "ranked", "leaves"]) (b8l:mg "LENGTHS" = some (.ref (a0J K "LENGTHS"))) (c7G:mg "TURNS" = some (.ref (a0J K "TURNS"))) (F_need_articles:Fn P w K mg base (y3 P w) 4 "need_articles" ["articles"] (a04 (evK K))) (F_is_day:Fn P w K mg base CX0 2 "is_day" ["thing"] a3E) (F_is_name:Fn P w K mg base CX0 1 "is_name" ["thing"] a1S) (F_is_sum_page:Fn P w K mg base CX0 2 "is_sum_page" ["page"] a3a):Fn P w K mg base (y3 P w) 5 "is_page" ["articles", "thing"] (a5V (evK K)):=by
 obtain ⟨b8f,a8m,a59,a6c,a6g,a6e⟩:=F_need_articles.ex
 have a5o:4 ≤ 4:=by decide
 obtain ⟨f_is_day,d3b,b6a,b6b,b6d,b6c⟩:=F_is_day.ex
 have b2I:2 ≤ 4:=by decide
 obtain ⟨c5q,b4g,a7q,a7u,a7w,a7v⟩:=F_is_name.ex
 have a5H:1 ≤ 4:=by decide
 obtain ⟨d4Y,b9v,c29,c3x,c3D,c3A⟩:=F_is_sum_page.ex
 have b9G:2 ≤ 4:=by decide
 have nd:=c0Z.nd
 refine Fn.mkN (k:=4) (t:=fun W=>c48 w K W (evK K)) (a:=b1K (evK K)) F c0Z gm (F.bindsN fun _ _ _ _ _ _ us hl=>match us,hl with | [_,_],_=>rfl) (c6B (evK K)) (fun W=>c9Q a0S r0 a2H W) (c4G (evK K)) fun cdv A outer s H E hr=>?_
 exact (f6 (a1k (a0r a59 hr a5o (by rfl) a6c a6g a6e (r4 rfl rfl rfl rfl) (c6 (pv 0) d8)))
 (f6 (a1s (b8L (c3S (a3P (a1T (a4u (pv 1) (by rfl) i9 (by rfl) a06 (by decide +kernel)))) (c3S (w9 a72 (a0f a11 (by rfl) a1q (by decide +kernel) (c6 (pv 1) d8)) d7 (a0d _)) (b6n (a3P (a1T (a4u (z6 n8 (pv 1) d7 (fun _ _=>rfl)) (by rfl) i9 (by rfl) b1p (by decide +kernel)))))))) (k9 (v9 a6K)) a0a)
 (f6 (a1s (w9 (b6m hr.units) (d4k b8G (a0o (v:=.ref (a0J K "LENGTHS")) (by rfl) b8l rfl) (z6 n8 (pv 1) d7 (fun _ _=>rfl)) d7 ⟨by rfl,by rfl,by rfl,by rfl⟩) (a0f a11 (by rfl) a1q (by decide +kernel) (c6 (pv 1) d8)) (a0d _)) (k9 (v9 a6K)) a0a)
 (f6 (a1s (w9 (a3g hr.units) (z6 n8 (pv 1) d7 (fun _ _=>rfl)) v6 (a0d _)) (k9 (v9 (a5c (g7 b6a hr b2I (by rfl) b6b b6d b6c (c6 (z6 n8 (pv 1) d7 (fun _ _=>rfl)) d8)) (a5c (g7 b6a hr b2I (by rfl) b6b b6d b6c (c6 (z6 n8 (pv 1) d7 (fun _ _=>rfl)) d8)) (b4w (a5L a94 (z6 n8 (pv 1) d7 (fun _ _=>rfl)) (z6 n8 (pv 1) d7 (fun _ _=>rfl)) (a0d _))))))) a0a)
 (f6 (a1s (b8L (c3S (a3P (a1T (g7 a7q hr a5H (by rfl) a7u a7w a7v (c6 (z6 n8 (pv 1) d7 (fun _ _=>rfl)) d8)))) (b6n (a3P (a1T (g7 b6a hr b2I (by rfl) b6b b6d b6c (c6 (z6 n8 (pv 1) d7 (fun _ _=>rfl)) d8))))))) (k9 (v9 a6K)) a0a)
 (f6 (a1s (w9 (a3g hr.units) (z6 n8 (pv 1) d7 (fun _ _=>rfl)) v6 (a0d _)) (k9 (v9 a6K)) a0a)
 (f6 (a1s (w9 (a3g hr.units) (z6 n8 (pv 1) d7 (fun _ _=>rfl)) v6 (a0d _)) (k9 (v9 (a5c (g7 b6a hr b2I (by rfl) b6b b6d b6c (c6 (z6 n8 (pv 1) d7 (fun _ _=>rfl)) d8)) (b4w (a5L a94 (z6 n8 (pv 1) d7 (fun _ _=>rfl)) (z6 n8 (pv 1) d7 (fun _ _=>rfl)) (a0d _)))))) a0a)
 (f6 (a1s (w9 (c0a (b1i hr)) (z6 n8 (pv 1) d7 (fun _ _=>rfl)) (a0o (v:=.ref (a0J K "TURNS")) (by rfl) c7G rfl) (by rfl)) (k9 (v9 (a5L (c0a (b1i hr)) (z6 n8 (pv 1) d7 (fun _ _=>rfl)) (c3R (own:=[("row",2)]) (g:=(v4 2)) (tt:=c3U) (te:=(tOp (rIx K) (g9 2) (tC (.int 0))))  (by rfl) nd  (a47 (z6 n8 (pv 0) d7 (fun _ _=>rfl))) (a2c (own:=[("row",2)]) (N:=b1G) (sc:=e8 (top 43)) (by decide +kernel)) (fun _ _ _ _ _=>(a1r (i:=2) nd rfl nofun)) (fun _ _ _ _ _=>a6L) (fun _ _ _ _ _=>(z6 n8 (pv 2) d7 (fun _ _=>rfl)))) (by rfl)))) a0a)
 (k9 (v9 (g7 c29 hr b9G (by rfl) c3x c3D c3A (c6 (pv 1) d8))))))))))))
theorem b4J:w6 a6m ["articles", "thing"] (e8 (top 44)):=⟨rfl,rfl,rfl,by decide +kernel,rfl,by decide +kernel,by decide +kernel⟩
theorem c4t {f:t5} {fd:n6} (F:FnP K "are_pages" (top 44) f fd) (gm:mg "are_pages" = some (.ref f)) (i9:mg "isinstance" = none) (a7r:mg "list" = none) (a1q:mg "len" = none) (b2C:mg "all" = none) (b1o:mg "set" = none) (a5u:IsiOk K "list") (a88:∃ t,mg "MOST_PAGES" = some (.int 200 t)) (F_need_articles:Fn P w K mg base (y3 P w) 4 "need_articles" ["articles"] (a04 (evK K))) (F_is_page:Fn P w K mg base (y3 P w) 5 "is_page" ["articles", "thing"] (a5V (evK K))):Fn P w K mg base (y3 P w) 6 "are_pages" ["articles", "thing"] (a17 (evK K)):=by
 obtain ⟨b8f,a8m,a59,a6c,a6g,a6e⟩:=F_need_articles.ex
 have a5o:4 ≤ 5:=by decide
 obtain ⟨f_is_page,d0v,d20,d3h,d3l,d3j⟩:=F_is_page.ex
 have d0E:5 ≤ 5:=by decide
 have nd:=b4J.nd
 refine Fn.mkN (k:=5) (t:=fun W=>b4U w K W (evK K)) (a:=a6s (evK K)) F b4J gm (F.bindsN fun _ _ _ _ _ _ us hl=>match us,hl with | [_,_],_=>rfl) (b8T (evK K)) (fun W=>c2V a5u W) (b7d (evK K)) fun cdv A outer s H E hr=>?_
 exact (f6 (a1k (a0r a59 hr a5o (by rfl) a6c a6g a6e (r4 rfl rfl rfl rfl) (c6 (pv 0) d8)))
 (f6 (a1s (b8L (c3S (a3P (a1T (a4u (pv 1) (by rfl) i9 (by rfl) a7r (by decide +kernel)))) (b6n (w9 b67 (a0f a11 (by rfl) a1q (by decide +kernel) (c6 (pv 1) d8)) (a0o (by rfl) a88.choose_spec ⟨_,rfl⟩) (a0d _))))) (k9 (v9 a6K)) a0a)
 (k9 (v9 (a5c (a0f (cr_all rfl) (by rfl) b2C (by decide +kernel) (c6 (c3R (own:=[("page",2)]) (g:=(v4 2)) (tt:=c3U) (te:=(r6 (spOf K (a5V (evK K))) [] E0 (d4 (g9 0) (d4 (g9 2) p7))))  (by rfl) nd  (a47 (pv 1)) (a2c (own:=[("page",2)]) (N:=a6m) (sc:=e8 (top 44)) (by decide +kernel)) (fun _ _ _ _ _=>(a1r (i:=2) nd rfl nofun)) (fun _ _ _ _ _=>a6L) (fun _ _ _ _ _=>(b14 d20 hr d0E (by rfl) d3h d3l d3j (c6 (pv 0) (c6 (pv 2) d8))))) d8)) (b4w (a5L (a3g hr.units) (c0b rfl hr.units (pv 1) (by rfl) a1q (by rfl) b1o) (a0f a11 (by rfl) a1q (by decide +kernel) (c6 (pv 1) d8)) (a0d _))))))))
theorem a96:w6 a7z ["thing", "low", "high"] (e8 (top 126)):=⟨rfl,rfl,rfl,by decide +kernel,rfl,by decide +kernel,by decide +kernel⟩
theorem b8Y {f:t5} {fd:n6} (F:FnP K "_law_within" (top 126) f fd) (gm:mg "_law_within" = some (.ref f)) (i9:mg "isinstance" = none) (c3g:mg "int" = none) (b2D:mg "bool" = none) (a1Y:IsiOk K "bool") (b9E:IsiOk K "int"):Fn P w K mg base CX0 1 "_law_within" ["thing", "low", "high"] a0m:=by
 have nd:=a96.nd
 refine Fn.mk0 (k:=0) (t:=b2w w K) (a:=a5w) F a96 gm (F.bindsN fun _ _ _ _ _ _ us hl=>match us,hl with | [_,_,_],_=>rfl) b6N (fun W=>b9e a1Y b9E W) (b5j) fun cdv A outer s H E hr=>?_
 exact (k9 (v9 (a5c (a4u (pv 0) (by rfl) i9 (by rfl) c3g (by decide +kernel)) (a5c (pe_notT (a4u (pv 0) (by rfl) i9 (by rfl) b2D (by decide +kernel))) (a5c (a5L a94 (pv 1) (pv 0) (a0d _)) (b4w (a5L a94 (pv 0) (pv 2) (a0d _))))))))
theorem a8J:w6 a4M ["thing"] (e8 (top 127)):=⟨rfl,rfl,rfl,by decide +kernel,rfl,by decide +kernel,by decide +kernel⟩
theorem b60 {f:t5} {fd:n6} (F:FnP K "_law_is_name" (top 127) f fd) (gm:mg "_law_is_name" = some (.ref f)) (i9:mg "isinstance" = none) (b1p:mg "str" = none) (a1q:mg "len" = none) (a0S:IsiOk K "str"):Fn P w K mg base CX0 1 "_law_is_name" ["thing"] a1z:=by
 have nd:=a8J.nd
 refine Fn.mk0 (k:=0) (t:=b0h w K) (a:=a4P) F a8J gm (F.bindsN fun _ _ _ _ _ _ us hl=>match us,hl with | [_],_=>rfl) b49 (fun W=>b7B a0S W) (b3h) fun cdv A outer s H E hr=>?_
 exact (f6 (a1s (b8L (c3S (a3P (a1T (a4u (pv 0) (by rfl) i9 (by rfl) b1p (by decide +kernel)))) (c3S (w9 a72 (a0f a11 (by rfl) a1q (by decide +kernel) (c6 (pv 0) d8)) d7 (a0d _)) (b6n (w9 b67 (a0f a11 (by rfl) a1q (by decide +kernel) (c6 (pv 0) d8)) d7 (a0d _)))))) (k9 (v9 a6K)) a0a)
 (k9 (v9 (a5L (a3g hr.units) (c3R (own:=[("sign",1)]) (g:=(v4 1)) (tt:=(a1e (tOp (c2L K) (g9 1) (tC (.str "abcdefghijklmnopqrstuvwxyz"))))) (te:=(g9 1))  (by rfl) nd  (a47 (pv 0)) (a2c (own:=[("sign",1)]) (N:=a4M) (sc:=e8 (top 127)) (by decide +kernel)) (fun _ _ _ _ _=>(a1r (i:=1) nd rfl nofun)) (fun _ _ _ _ _=>(d57 (w9 (d1U (b1i hr)) (pv 1) v6 (by rfl)))) (fun _ _ _ _ _=>(pv 1))) (a1f d8) (a0d _)))))
theorem a8K:w6 a4N ["articles", "thing"] (e8 (top 128)):=⟨rfl,rfl,rfl,by decide +kernel,rfl,by decide +kernel,by decide +kernel⟩
theorem b61 {f:t5} {fd:n6} (F:FnP K "_law_is_page" (top 128) f fd) (gm:mg "_law_is_page" = some (.ref f)) (i9:mg "isinstance" = none) (a06:mg "tuple" = none) (b1p:mg "str" = none) (a1q:mg "len" = none) (a0S:IsiOk K "str") (r0:IsiOk K "tuple") (F__law_within:Fn P w K mg base CX0 1 "_law_within" ["thing", "low", "high"] a0m) (F__law_is_name:Fn P w K mg base CX0 1 "_law_is_name" ["thing"] a1z):Fn P w K mg base CX0 2 "_law_is_page" ["articles", "thing"] a2d:=by
 obtain ⟨d4U,b9t,a3b,a3c,a3e,a3d⟩:=F__law_within.ex
 have a2P:1 ≤ 1:=by decide
 obtain ⟨d3u,b8g,b0s,b0x,b0D,b0A⟩:=F__law_is_name.ex
 have a9b:1 ≤ 1:=by decide
 have nd:=a8K.nd
 refine Fn.mk0 (k:=1) (t:=b0i w K) (a:=a4Q) F a8K gm (F.bindsN fun _ _ _ _ _ _ us hl=>match us,hl with | [_,_],_=>rfl) b5a (fun W=>b7C a0S r0 W) (b3i) fun cdv A outer s H E hr=>?_
 exact (f6 (a0j (i:=2) nd rfl nofun (pe_disp (b2U v6 d7 (b2U v6 d7 (b2U v6 d7 (b2U v6 d7 (b2U v6 d7 (b2U v6 d7 (b2U v6 d7 (b2U v6 d7 (b2U v6 d7 pps_nil))))))))) (by rfl) (by rfl) (by simp) (by decide)))
 (f6 (a1s (b8L (c3S (a3P (a1T (a4u (pv 1) (by rfl) i9 (by rfl) a06 (by decide +kernel)))) (c3S (w9 (a3g hr.units) (pv 1) (a68 d8) (a0d _)) (b6n (a3P (a1T (a4u (z6 n8 (pv 1) d7 (fun _ _=>rfl)) (by rfl) i9 (by rfl) b1p (by decide +kernel)))))))) (k9 (v9 a6K)) a0a)
 (f6 (a0j (i:=3) nd rfl nofun (z6 n8 (pv 1) d7 (fun _ _=>rfl)))
 (f6 (a1s (b8L (c3S (pt_cmp (pc_dnotin (hu_of hr) (pv 3) (pv 2))) (b6n (w9 (b6m hr.units) (a0f a11 (by rfl) a1q (by decide +kernel) (c6 (pv 1) d8)) (pe_dget (hu_of hr) (pv 2) (pv 3) (fun _ _=>rfl)) (a0d _))))) (k9 (v9 a6K)) a0a)
 (f6 (a1s (w9 (a3g hr.units) (pv 3) v6 (a0d _)) (k9 (v9 (a5c (g7 a3b hr a2P (by rfl) a3c a3e a3d (c6 (z6 n8 (pv 1) d7 (fun _ _=>rfl)) (c6 d7 (c6 (v5 a3O d7 d7) d8)))) (b4w (g7 a3b hr a2P (by rfl) a3c a3e a3d (c6 (z6 n8 (pv 1) d7 (fun _ _=>rfl)) (c6 d7 (c6 (z6 n8 (pv 1) d7 (fun _ _=>rfl)) d8)))))))) a0a)
 (f6 (a1s (b8L (c3S (a3P (a1T (g7 b0s hr a9b (by rfl) b0x b0D b0A (c6 (z6 n8 (pv 1) d7 (fun _ _=>rfl)) d8)))) (b6n (a3P (a1T (g7 a3b hr a2P (by rfl) a3c a3e a3d (c6 (z6 n8 (pv 1) d7 (fun _ _=>rfl)) (c6 d7 (c6 (v5 a3O d7 d7) d8))))))))) (k9 (v9 a6K)) a0a)
 (f6 (a1s (w9 (c0a (b1i hr)) (pv 3) (a68 (c6 v6 (c6 v6 d8))) (by rfl)) (k9 (v9 (a5L (b6m hr.units) (c3R (own:=[("row",4)]) (g:=(v4 4)) (tt:=(a1e (tOp (c5O K) (tOp (rIx K) (g9 4) (tC (.int 0))) (tOp (rIx K) (g9 1) (tC (.int 3)))))) (te:=(g9 4))  (by rfl) nd  (a47 (z6 n8 (pv 0) d7 (fun _ _=>rfl))) (a2c (own:=[("row",4)]) (N:=a4N) (sc:=e8 (top 128)) (by decide +kernel)) (fun _ _ _ _ _=>(a1r (i:=4) nd rfl nofun)) (fun _ _ _ _ _=>(d57 (w9 (a3g hr.units) (z6 n8 (pv 4) d7 (fun _ _=>rfl)) (z6 n8 (pv 1) d7 (fun _ _=>rfl)) (a0d _)))) (fun _ _ _ _ _=>(pv 4))) (a1f d8) (a0d _)))) a0a)
 (f6 (a1s (w9 (a3g hr.units) (pv 3) v6 (a0d _)) (k9 (v9 (g7 a3b hr a2P (by rfl) a3c a3e a3d (c6 (z6 n8 (pv 1) d7 (fun _ _=>rfl)) (c6 (z6 n8 (pv 1) d7 (fun _ _=>rfl)) (c6 (v5 a3O d7 d7) d8)))))) a0a)
 (f6 (a1s (b8L (pw_and (w9 (c0a (b1i hr)) (pv 3) (a68 (c6 v6 (c6 v6 (c6 v6 (c6 v6 d8))))) (by rfl)) (pw_and1 (a3P (a1T (g7 a3b hr a2P (by rfl) a3c a3e a3d (c6 (z6 n8 (pv 1) d7 (fun _ _=>rfl)) (c6 d7 (c6 (v5 a3O d7 d7) d8))))))))) (k9 (v9 a6K)) a0a)
 (f6 (a1s (b8L (pw_and (w9 (a3g hr.units) (pv 3) v6 (a0d _)) (pw_and1 (a3P (a1T (g7 a3b hr a2P (by rfl) a3c a3e a3d (c6 (z6 n8 (pv 1) d7 (fun _ _=>rfl)) (c6 d7 (c6 (v5 a3O d7 d7) d8))))))))) (k9 (v9 a6K)) a0a)
 (k9 (v9 (pe_orT (a5L (c0a (b1i hr)) (pv 3) (a68 (c6 v6 (c6 v6 d8))) (by rfl)) (b4w (g7 b0s hr a9b (by rfl) b0x b0D b0A (c6 (z6 n8 (pv 1) (pe_un un_neg d7) (fun _ _=>rfl)) d8))))))))))))))))
theorem a7g:w6 a3x ["articles", "thing"] (e8 (top 129)):=⟨rfl,rfl,rfl,by decide +kernel,rfl,by decide +kernel,by decide +kernel⟩
theorem b3e {f:t5} {fd:n6} (F:FnP K "_law_are_pages" (top 129) f fd) (gm:mg "_law_are_pages" = some (.ref f)) (i9:mg "isinstance" = none) (a7r:mg "list" = none) (a1q:mg "len" = none) (b1o:mg "set" = none) (a5u:IsiOk K "list") (F__law_is_page:Fn P w K mg base CX0 2 "_law_is_page" ["articles", "thing"] a2d):Fn P w K mg base CX0 3 "_law_are_pages" ["articles", "thing"] a14:=by
 obtain ⟨d3v,b8h,b9m,b9I,b9K,b9J⟩:=F__law_is_page.ex
 have b8t:2 ≤ 2:=by decide
 have nd:=a7g.nd
 refine Fn.mk0 (k:=2) (t:=a78 w K) (a:=a3z) F a7g gm (F.bindsN fun _ _ _ _ _ _ us hl=>match us,hl with | [_,_],_=>rfl) b1X (fun W=>b3J a5u W) (b04) fun cdv A outer s H E hr=>?_
 exact (f6 (a1s (b8L (c3S (a3P (a1T (a4u (pv 1) (by rfl) i9 (by rfl) a7r (by decide +kernel)))) (b6n (w9 b67 (a0f a11 (by rfl) a1q (by decide +kernel) (c6 (pv 1) d8)) d7 (a0d _))))) (k9 (v9 a6K)) a0a)
 (f6 (a1s (w9 (b6m hr.units) (c3R (own:=[("page",2)]) (g:=(v4 2)) (tt:=(c77 (a8Q K (r6 (spOf K a2d) [] E0 (d4 (g9 0) (d4 (g9 2) p7)))))) (te:=(g9 2))  (by rfl) nd  (a47 (pv 1)) (a2c (own:=[("page",2)]) (N:=a3x) (sc:=e8 (top 129)) (by decide +kernel)) (fun _ _ _ _ _=>(a1r (i:=2) nd rfl nofun)) (fun _ _ _ _ _=>(d57 (a3P (a1T (g7 b9m hr b8t (by rfl) b9I b9K b9J (c6 (pv 0) (c6 (pv 2) d8))))))) (fun _ _ _ _ _=>(pv 2))) (a1f d8) (a0d _)) (k9 (v9 a6K)) a0a)
 (k9 (v9 (a5L (a3g hr.units) (c0b rfl hr.units (pv 1) (by rfl) a1q (by rfl) b1o) (a0f a11 (by rfl) a1q (by decide +kernel) (c6 (pv 1) d8)) (a0d _))))))
theorem b2k:w6 a7C ["articles", "pages"] (e8 (top 45)):=⟨rfl,rfl,rfl,by decide +kernel,rfl,by decide +kernel,by decide +kernel⟩
theorem c2B {f:t5} {fd:n6} (F:FnP K "need_pages" (top 45) f fd) (gm:mg "need_pages" = some (.ref f)) (a7t:mg "NoPages" = some (.ref (a0J K "NoPages"))) (a7x:PySem.W.excIn K (a0J K "NoPages") He.veBase "ValueError.__new__" = true ∧ a2h K (.ref (a0J K "NoPages")) = true ∧ d54 K (.ref (a0J K "NoPages")) (.type "BaseException") = some true ∧ PySem.W.typeIn K (.ref (a0J K "NoPages")) = some (.type "type")) (F_are_pages:Fn P w K mg base (y3 P w) 6 "are_pages" ["articles", "thing"] (a17 (evK K))):Fn P w K mg base (y3 P w) 7 "need_pages" ["articles", "pages"] (v8 (evK K)):=by
 obtain ⟨c7t,b42,b1m,b1s,b1w,b1u⟩:=F_are_pages.ex
 have a9d:6 ≤ 6:=by decide
 have nd:=b2k.nd
 refine Fn.mkN (k:=6) (t:=fun W=>b2A w K W (evK K)) (a:=a5A (evK K)) F b2k gm (F.bindsN fun _ _ _ _ _ _ us hl=>match us,hl with | [_,_],_=>rfl) (b6R (evK K)) (fun W=>b9i W) (b5n (evK K)) fun cdv A outer s H E hr=>?_
 exact (k9 (a1s (a3P (a1T (a0r b1m hr a9d (by rfl) b1s b1w b1u (r4 rfl rfl rfl rfl) (c6 (pv 0) (c6 (pv 1) d8))))) (k9 (L2N.ps_raise rfl (r4 rfl rfl rfl rfl) (L2N.pmk_own d3o a7x.1 a7t a7x.2.1 (raises_own a7x.2.2.1 a7x.2.2.2) (by rfl)))) a0a))
theorem c4M:w6 b6p ["articles", "pages"] (e8 (top 58)):=⟨rfl,rfl,rfl,by decide +kernel,rfl,by decide +kernel,by decide +kernel⟩
theorem d1S {f:t5} {fd:n6} (F:FnP K "faults" (top 58) f fd) (gm:mg "faults" = some (.ref f)) (F_need_pages:Fn P w K mg base (y3 P w) 7 "need_pages" ["articles", "pages"] (v8 (evK K))):Fn P w K mg base (y3 P w) 8 "faults" ["articles", "pages"] (a5U (evK K)):=by
 obtain ⟨a6G,a4m,a1B,a1C,a1E,a1D⟩:=F_need_pages.ex
 have a1g:7 ≤ 7:=by decide
 have nd:=c4M.nd
 refine Fn.mkN (k:=7) (t:=fun W=>c46 w K W (evK K)) (a:=b1I (evK K)) F c4M gm (F.bindsN fun _ _ _ _ _ _ us hl=>match us,hl with | [_,_],_=>rfl) (c6z (evK K)) (fun W=>c9O W) (c4E (evK K)) fun cdv A outer s H E hr=>?_
 exact (f6 (a1k (a0r a1B hr a1g (by rfl) a1C a1E a1D (r4 rfl rfl rfl rfl) (c6 (pv 0) (c6 (pv 1) d8))))
 a4v)
theorem b7q:w6 a9k ["pages"] (e8 (top 46)):=⟨rfl,rfl,rfl,by decide +kernel,rfl,by decide +kernel,by decide +kernel⟩
theorem c6I {f:t5} {fd:n6} (F:FnP K "names_in" (top 46) f fd) (gm:mg "names_in" = some (.ref f)) (a3F:mg "sorted" = none) (b1o:mg "set" = none):Fn P w K mg base CX0 1 "names_in" ["pages"] a4H:=by
 have nd:=b7q.nd
 refine Fn.mk0 (k:=0) (t:=c08 w K) (a:=a9o) F b7q gm (F.bindsN fun _ _ _ _ _ _ us hl=>match us,hl with | [_],_=>rfl) c4j (fun W=>c6W W) (c2F) fun cdv A outer s H E hr=>?_
 exact (k9 (v9 (c0c rfl hr.units (c3R (own:=[("page",1)]) (g:=(v4 1)) (tt:=(a1e (tOp (rNeD K) (tOp (rIx K) (g9 1) (tC (.int 0))) (tC (.str "lost"))))) (te:=(tOp (rIx K) (g9 1) (tC (.int 1))))  (by rfl) nd  (a47 (pv 0)) (a2c (own:=[("page",1)]) (N:=a9k) (sc:=e8 (top 46)) (by decide +kernel)) (fun _ _ _ _ _=>(a1r (i:=1) nd rfl nofun)) (fun _ _ _ _ _=>(d57 (w9 (b6m hr.units) (z6 n8 (pv 1) d7 (fun _ _=>rfl)) v6 (a0d _)))) (fun _ _ _ _ _=>(z6 n8 (pv 1) d7 (fun _ _=>rfl)))) (by rfl) a3F (by rfl) b1o)))
theorem d5T:w6 d59 ["articles", "pages"] (e8 (top 47)):=⟨rfl,rfl,rfl,by decide +kernel,rfl,by decide +kernel,by decide +kernel⟩
theorem d9W {f:t5} {fd:n6} (F:FnP K "men" (top 47) f fd) (gm:mg "men" = some (.ref f)) (F_need_pages:Fn P w K mg base (y3 P w) 7 "need_pages" ["articles", "pages"] (v8 (evK K))) (F_names_in:Fn P w K mg base CX0 1 "names_in" ["pages"] a4H):Fn P w K mg base (y3 P w) 8 "men" ["articles", "pages"] (b2X (evK K)):=by
 obtain ⟨a6G,a4m,a1B,a1C,a1E,a1D⟩:=F_need_pages.ex
 have a1g:7 ≤ 7:=by decide
 obtain ⟨d8M,c7A,d0h,d0G,d0M,d0J⟩:=F_names_in.ex
 have c7Q:1 ≤ 7:=by decide
 have nd:=d5T.nd
 refine Fn.mkN (k:=7) (t:=fun W=>e0c w K W (evK K)) (a:=d3O (evK K)) F d5T gm (F.bindsN fun _ _ _ _ _ _ us hl=>match us,hl with | [_,_],_=>rfl) (d7f (evK K)) (fun W=>d99 W) (d4n (evK K)) fun cdv A outer s H E hr=>?_
 exact (f6 (a1k (a0r a1B hr a1g (by rfl) a1C a1E a1D (r4 rfl rfl rfl rfl) (c6 (pv 0) (c6 (pv 1) d8))))
 (k9 (v9 (g7 d0h hr c7Q (by rfl) d0G d0M d0J (c6 (pv 1) d8)))))
theorem b4K:w6 a8v ["articles", "pages", "day"] (e8 (top 50)):=⟨rfl,rfl,rfl,by decide +kernel,rfl,by decide +kernel,by decide +kernel⟩
theorem c4u {f:t5} {fd:n6} (F:FnP K "chests_at" (top 50) f fd) (gm:mg "chests_at" = some (.ref f)) (F_need_pages:Fn P w K mg base (y3 P w) 7 "need_pages" ["articles", "pages"] (v8 (evK K))):Fn P w K mg base (y3 P w) 8 "chests_at" ["articles", "pages", "day"] (a2p (evK K)):=by
 obtain ⟨a6G,a4m,a1B,a1C,a1E,a1D⟩:=F_need_pages.ex
 have a1g:7 ≤ 7:=by decide
 have nd:=b4K.nd
 refine Fn.mkN (k:=7) (t:=fun W=>b4X w K W (evK K)) (a:=a6t (evK K)) F b4K gm (F.bindsN fun _ _ _ _ _ _ us hl=>match us,hl with | [_,_,_],_=>rfl) (b8U (evK K)) (fun W=>c2Y W) (b7e (evK K)) fun cdv A outer s H E hr=>?_
 exact (f6 (a1k (a0r a1B hr a1g (by rfl) a1C a1E a1D (r4 rfl rfl rfl rfl) (c6 (pv 0) (c6 (pv 1) d8))))
 a4v)
theorem b7r:w6 b0M ["articles", "pages", "man"] (e8 (top 59)):=⟨rfl,rfl,rfl,by decide +kernel,rfl,by decide +kernel,by decide +kernel⟩
theorem c6J {f:t5} {fd:n6} (F:FnP K "need_man" (top 59) f fd) (gm:mg "need_man" = some (.ref f)) (F_need_pages:Fn P w K mg base (y3 P w) 7 "need_pages" ["articles", "pages"] (v8 (evK K))):Fn P w K mg base (y3 P w) 8 "need_man" ["articles", "pages", "man"] (o8 (evK K)):=by
 obtain ⟨a6G,a4m,a1B,a1C,a1E,a1D⟩:=F_need_pages.ex
 have a1g:7 ≤ 7:=by decide
 have nd:=b7r.nd
 refine Fn.mkN (k:=7) (t:=fun W=>b7Z w K W (evK K)) (a:=a7M (evK K)) F b7r gm (F.bindsN fun _ _ _ _ _ _ us hl=>match us,hl with | [_,_,_],_=>rfl) (c2p (evK K)) (fun W=>c40 W) (b86 (evK K)) fun cdv A outer s H E hr=>?_
 exact (f6 (a1k (a0r a1B hr a1g (by rfl) a1C a1E a1D (r4 rfl rfl rfl rfl) (c6 (pv 0) (c6 (pv 1) d8))))
 a4v)
theorem b7s:w6 b0N ["articles", "pages", "man"] (e8 (top 62)):=⟨rfl,rfl,rfl,by decide +kernel,rfl,by decide +kernel,by decide +kernel⟩
theorem c6K {f:t5} {fd:n6} (F:FnP K "on_books" (top 62) f fd) (gm:mg "on_books" = some (.ref f)) (F_need_man:Fn P w K mg base (y3 P w) 8 "need_man" ["articles", "pages", "man"] (o8 (evK K))):Fn P w K mg base (y3 P w) 9 "on_books" ["articles", "pages", "man"] (a3J (evK K)):=by
 obtain ⟨a2O,a1X,a0u,a0v,a0x,a0w⟩:=F_need_man.ex
 have a0i:8 ≤ 8:=by decide
 have nd:=b7s.nd
 refine Fn.mkN (k:=8) (t:=fun W=>b70 w K W (evK K)) (a:=a7N (evK K)) F b7s gm (F.bindsN fun _ _ _ _ _ _ us hl=>match us,hl with | [_,_,_],_=>rfl) (c2q (evK K)) (fun W=>c41 W) (b87 (evK K)) fun cdv A outer s H E hr=>?_
 exact (f6 (a1k (a0r a0u hr a0i (by rfl) a0v a0x a0w (r4 rfl rfl rfl rfl) (c6 (pv 0) (c6 (pv 1) (c6 (pv 2) d8)))))
 a4v)
theorem b4O:w6 a8y ["articles", "pages", "man"] (e8 (top 68)):=⟨rfl,rfl,rfl,by decide +kernel,rfl,by decide +kernel,by decide +kernel⟩
theorem c4y {f:t5} {fd:n6} (F:FnP K "paid_days" (top 68) f fd) (gm:mg "paid_days" = some (.ref f)) (F_need_man:Fn P w K mg base (y3 P w) 8 "need_man" ["articles", "pages", "man"] (o8 (evK K))):Fn P w K mg base (y3 P w) 9 "paid_days" ["articles", "pages", "man"] (a22 (evK K)):=by
 obtain ⟨a2O,a1X,a0u,a0v,a0x,a0w⟩:=F_need_man.ex
 have a0i:8 ≤ 8:=by decide
 have nd:=b4O.nd
 refine Fn.mkN (k:=8) (t:=fun W=>b40 w K W (evK K)) (a:=a6w (evK K)) F b4O gm (F.bindsN fun _ _ _ _ _ _ us hl=>match us,hl with | [_,_,_],_=>rfl) (b8X (evK K)) (fun W=>c21 W) (b7h (evK K)) fun cdv A outer s H E hr=>?_
 exact (f6 (a1k (a0r a0u hr a0i (by rfl) a0v a0x a0w (r4 rfl rfl rfl rfl) (c6 (pv 0) (c6 (pv 1) (c6 (pv 2) d8)))))
 a4v)
theorem b2j:w6 a7A ["articles", "pages", "man"] (e8 (top 100)):=⟨rfl,rfl,rfl,by decide +kernel,rfl,by decide +kernel,by decide +kernel⟩
theorem c2A {f:t5} {fd:n6} (F:FnP K "first_over" (top 100) f fd) (gm:mg "first_over" = some (.ref f)) (F_need_man:Fn P w K mg base (y3 P w) 8 "need_man" ["articles", "pages", "man"] (o8 (evK K))):Fn P w K mg base (y3 P w) 9 "first_over" ["articles", "pages", "man"] (a2A (evK K)):=by
 obtain ⟨a2O,a1X,a0u,a0v,a0x,a0w⟩:=F_need_man.ex
 have a0i:8 ≤ 8:=by decide
 have nd:=b2j.nd
 refine Fn.mkN (k:=8) (t:=fun W=>b2x w K W (evK K)) (a:=a5x (evK K)) F b2j gm (F.bindsN fun _ _ _ _ _ _ us hl=>match us,hl with | [_,_,_],_=>rfl) (b6O (evK K)) (fun W=>b9f W) (b5k (evK K)) fun cdv A outer s H E hr=>?_
 exact (f6 (a1k (a0r a0u hr a0i (by rfl) a0v a0x a0w (r4 rfl rfl rfl rfl) (c6 (pv 0) (c6 (pv 1) (c6 (pv 2) d8)))))
 a4v)
theorem c4L:w6 b6o ["articles", "pages", "man", "day"] (e8 (top 78)):=⟨rfl,rfl,rfl,by decide +kernel,rfl,by decide +kernel,by decide +kernel⟩
theorem d1R {f:t5} {fd:n6} (F:FnP K "earned" (top 78) f fd) (gm:mg "earned" = some (.ref f)) (F_need_man:Fn P w K mg base (y3 P w) 8 "need_man" ["articles", "pages", "man"] (o8 (evK K))):Fn P w K mg base (y3 P w) 9 "earned" ["articles", "pages", "man", "day"] (a5T (evK K)):=by
 obtain ⟨a2O,a1X,a0u,a0v,a0x,a0w⟩:=F_need_man.ex
 have a0i:8 ≤ 8:=by decide
 have nd:=c4L.nd
 refine Fn.mkN (k:=8) (t:=fun W=>c45 w K W (evK K)) (a:=b1H (evK K)) F c4L gm (F.bindsN fun _ _ _ _ _ _ us hl=>match us,hl with | [_,_,_,_],_=>rfl) (c6y (evK K)) (fun W=>c9N W) (c4D (evK K)) fun cdv A outer s H E hr=>?_
 exact (f6 (a1k (a0r a0u hr a0i (by rfl) a0v a0x a0w (r4 rfl rfl rfl rfl) (c6 (pv 0) (c6 (pv 1) (c6 (pv 2) d8)))))
 a4v)
theorem d5R:w6 d08 ["articles", "pages", "man", "day"] (e8 (top 79)):=⟨rfl,rfl,rfl,by decide +kernel,rfl,by decide +kernel,by decide +kernel⟩
theorem d9U {f:t5} {fd:n6} (F:FnP K "had" (top 79) f fd) (gm:mg "had" = some (.ref f)) (F_need_man:Fn P w K mg base (y3 P w) 8 "need_man" ["articles", "pages", "man"] (o8 (evK K))):Fn P w K mg base (y3 P w) 9 "had" ["articles", "pages", "man", "day"] (b6v (evK K)):=by
 obtain ⟨a2O,a1X,a0u,a0v,a0x,a0w⟩:=F_need_man.ex
 have a0i:8 ≤ 8:=by decide
 have nd:=d5R.nd
 refine Fn.mkN (k:=8) (t:=fun W=>d5U w K W (evK K)) (a:=c79 (evK K)) F d5R gm (F.bindsN fun _ _ _ _ _ _ us hl=>match us,hl with | [_,_,_,_],_=>rfl) (d4c (evK K)) (fun W=>d7A W) (d1Y (evK K)) fun cdv A outer s H E hr=>?_
 exact (f6 (a1k (a0r a0u hr a0i (by rfl) a0v a0x a0w (r4 rfl rfl rfl rfl) (c6 (pv 0) (c6 (pv 1) (c6 (pv 2) d8)))))
 a4v)
theorem d2f:w6 c51 ["articles", "pages", "man", "day"] (e8 (top 80)):=⟨rfl,rfl,rfl,by decide +kernel,rfl,by decide +kernel,by decide +kernel⟩
theorem d7k {f:t5} {fd:n6} (F:FnP K "left" (top 80) f fd) (gm:mg "left" = some (.ref f)) (F_need_man:Fn P w K mg base (y3 P w) 8 "need_man" ["articles", "pages", "man"] (o8 (evK K))):Fn P w K mg base (y3 P w) 9 "left" ["articles", "pages", "man", "day"] (b0W (evK K)):=by
 obtain ⟨a2O,a1X,a0u,a0v,a0x,a0w⟩:=F_need_man.ex
 have a0i:8 ≤ 8:=by decide
 have nd:=d2f.nd
 refine Fn.mkN (k:=8) (t:=fun W=>d2w w K W (evK K)) (a:=c18 (evK K)) F d2f gm (F.bindsN fun _ _ _ _ _ _ us hl=>match us,hl with | [_,_,_,_],_=>rfl) (d1F (evK K)) (fun W=>d4E W) (c9b (evK K)) fun cdv A outer s H E hr=>?_
 exact (f6 (a1k (a0r a0u hr a0i (by rfl) a0v a0x a0w (r4 rfl rfl rfl rfl) (c6 (pv 0) (c6 (pv 1) (c6 (pv 2) d8)))))
 a4v)
theorem b4N:w6 a8x ["articles", "pages", "man", "day"] (e8 (top 83)):=⟨rfl,rfl,rfl,by decide +kernel,rfl,by decide +kernel,by decide +kernel⟩
theorem c4x {f:t5} {fd:n6} (F:FnP K "next_sent" (top 83) f fd) (gm:mg "next_sent" = some (.ref f)) (F_need_man:Fn P w K mg base (y3 P w) 8 "need_man" ["articles", "pages", "man"] (o8 (evK K))):Fn P w K mg base (y3 P w) 9 "next_sent" ["articles", "pages", "man", "day"] (a21 (evK K)):=by
 obtain ⟨a2O,a1X,a0u,a0v,a0x,a0w⟩:=F_need_man.ex
 have a0i:8 ≤ 8:=by decide
 have nd:=b4N.nd
 refine Fn.mkN (k:=8) (t:=fun W=>b4Z w K W (evK K)) (a:=a6v (evK K)) F b4N gm (F.bindsN fun _ _ _ _ _ _ us hl=>match us,hl with | [_,_,_,_],_=>rfl) (b8W (evK K)) (fun W=>c20 W) (b7g (evK K)) fun cdv A outer s H E hr=>?_
 exact (f6 (a1k (a0r a0u hr a0i (by rfl) a0v a0x a0w (r4 rfl rfl rfl rfl) (c6 (pv 0) (c6 (pv 1) (c6 (pv 2) d8)))))
 a4v)
theorem c00:w6 b2W ["articles", "pages", "man", "day"] (e8 (top 81)):=⟨rfl,rfl,rfl,by decide +kernel,rfl,by decide +kernel,by decide +kernel⟩
theorem c89 {f:t5} {fd:n6} (F:FnP K "sent_on" (top 81) f fd) (gm:mg "sent_on" = some (.ref f)) (F_need_man:Fn P w K mg base (y3 P w) 8 "need_man" ["articles", "pages", "man"] (o8 (evK K))):Fn P w K mg base (y3 P w) 9 "sent_on" ["articles", "pages", "man", "day"] (a4I (evK K)):=by
 obtain ⟨a2O,a1X,a0u,a0v,a0x,a0w⟩:=F_need_man.ex
 have a0i:8 ≤ 8:=by decide
 have nd:=c00.nd
 refine Fn.mkN (k:=8) (t:=fun W=>c09 w K W (evK K)) (a:=a9p (evK K)) F c00 gm (F.bindsN fun _ _ _ _ _ _ us hl=>match us,hl with | [_,_,_,_],_=>rfl) (c4l (evK K)) (fun W=>c6X W) (c2G (evK K)) fun cdv A outer s H E hr=>?_
 exact (f6 (a1k (a0r a0u hr a0i (by rfl) a0v a0x a0w (r4 rfl rfl rfl rfl) (c6 (pv 0) (c6 (pv 1) (c6 (pv 2) d8)))))
 a4v)
theorem d2g:w6 c52 ["articles", "pages", "man", "day"] (e8 (top 98)):=⟨rfl,rfl,rfl,by decide +kernel,rfl,by decide +kernel,by decide +kernel⟩
theorem d7l {f:t5} {fd:n6} (F:FnP K "room" (top 98) f fd) (gm:mg "room" = some (.ref f)) (F_need_man:Fn P w K mg base (y3 P w) 8 "need_man" ["articles", "pages", "man"] (o8 (evK K))):Fn P w K mg base (y3 P w) 9 "room" ["articles", "pages", "man", "day"] (b0X (evK K)):=by
 obtain ⟨a2O,a1X,a0u,a0v,a0x,a0w⟩:=F_need_man.ex
 have a0i:8 ≤ 8:=by decide
 have nd:=d2g.nd
 refine Fn.mkN (k:=8) (t:=fun W=>d2x w K W (evK K)) (a:=c19 (evK K)) F d2g gm (F.bindsN fun _ _ _ _ _ _ us hl=>match us,hl with | [_,_,_,_],_=>rfl) (d1H (evK K)) (fun W=>d4F W) (c9c (evK K)) fun cdv A outer s H E hr=>?_
 exact (f6 (a1k (a0r a0u hr a0i (by rfl) a0v a0x a0w (r4 rfl rfl rfl rfl) (c6 (pv 0) (c6 (pv 1) (c6 (pv 2) d8)))))
 a4v)
theorem b7t:w6 b0O ["articles", "pages", "man", "day"] (e8 (top 91)):=⟨rfl,rfl,rfl,by decide +kernel,rfl,by decide +kernel,by decide +kernel⟩
theorem c6L {f:t5} {fd:n6} (F:FnP K "paid_off" (top 91) f fd) (gm:mg "paid_off" = some (.ref f)) (F_need_man:Fn P w K mg base (y3 P w) 8 "need_man" ["articles", "pages", "man"] (o8 (evK K))):Fn P w K mg base (y3 P w) 9 "paid_off" ["articles", "pages", "man", "day"] (a3K (evK K)):=by
 obtain ⟨a2O,a1X,a0u,a0v,a0x,a0w⟩:=F_need_man.ex
 have a0i:8 ≤ 8:=by decide
 have nd:=b7t.nd
 refine Fn.mkN (k:=8) (t:=fun W=>b71 w K W (evK K)) (a:=a7O (evK K)) F b7t gm (F.bindsN fun _ _ _ _ _ _ us hl=>match us,hl with | [_,_,_,_],_=>rfl) (c2r (evK K)) (fun W=>c42 W) (b88 (evK K)) fun cdv A outer s H E hr=>?_
 exact (f6 (a1k (a0r a0u hr a0i (by rfl) a0v a0x a0w (r4 rfl rfl rfl rfl) (c6 (pv 0) (c6 (pv 1) (c6 (pv 2) d8)))))
 a4v)
theorem b0a:w6 a6O ["articles", "pages", "man", "pence"] (e8 (top 84)):=⟨rfl,rfl,rfl,by decide +kernel,rfl,by decide +kernel,by decide +kernel⟩
theorem b82 {f:t5} {fd:n6} (F:FnP K "when_earned" (top 84) f fd) (gm:mg "when_earned" = some (.ref f)) (F_need_man:Fn P w K mg base (y3 P w) 8 "need_man" ["articles", "pages", "man"] (o8 (evK K))):Fn P w K mg base (y3 P w) 9 "when_earned" ["articles", "pages", "man", "pence"] (a2N (evK K)):=by
 obtain ⟨a2O,a1X,a0u,a0v,a0x,a0w⟩:=F_need_man.ex
 have a0i:8 ≤ 8:=by decide
 have nd:=b0a.nd
 refine Fn.mkN (k:=8) (t:=fun W=>b0r w K W (evK K)) (a:=a4V (evK K)) F b0a gm (F.bindsN fun _ _ _ _ _ _ us hl=>match us,hl with | [_,_,_,_],_=>rfl) (b5d (evK K)) (fun W=>b7M W) (b3m (evK K)) fun cdv A outer s H E hr=>?_
 exact (f6 (a1k (a0r a0u hr a0i (by rfl) a0v a0x a0w (r4 rfl rfl rfl rfl) (c6 (pv 0) (c6 (pv 1) (c6 (pv 2) d8)))))
 a4v)
theorem b4M:w6 a8w ["articles", "one", "other", "man"] (e8 (top 102)):=⟨rfl,rfl,rfl,by decide +kernel,rfl,by decide +kernel,by decide +kernel⟩
theorem c4w {f:t5} {fd:n6} (F:FnP K "need_both" (top 102) f fd) (gm:mg "need_both" = some (.ref f)) (F_need_pages:Fn P w K mg base (y3 P w) 7 "need_pages" ["articles", "pages"] (v8 (evK K))):Fn P w K mg base (y3 P w) 8 "need_both" ["articles", "one", "other", "man"] (a18 (evK K)):=by
 obtain ⟨a6G,a4m,a1B,a1C,a1E,a1D⟩:=F_need_pages.ex
 have a1g:7 ≤ 7:=by decide
 have nd:=b4M.nd
 refine Fn.mkN (k:=7) (t:=fun W=>b4Y w K W (evK K)) (a:=a6u (evK K)) F b4M gm (F.bindsN fun _ _ _ _ _ _ us hl=>match us,hl with | [_,_,_,_],_=>rfl) (b8V (evK K)) (fun W=>c2Z W) (b7f (evK K)) fun cdv A outer s H E hr=>?_
 exact (f6 (a1k (a0r a1B hr a1g (by rfl) a1C a1E a1D (r4 rfl rfl rfl rfl) (c6 (pv 0) (c6 (pv 1) d8))))
 (f6 (a1k (a0r a1B hr a1g (by rfl) a1C a1E a1D (r4 rfl rfl rfl rfl) (c6 (pv 0) (c6 (pv 2) d8))))
 a4v))
theorem a8O:w6 a5P ["articles", "one", "other", "man"] (e8 (top 105)):=⟨rfl,rfl,rfl,by decide +kernel,rfl,by decide +kernel,by decide +kernel⟩
theorem b65 {f:t5} {fd:n6} (F:FnP K "ranks_unlike" (top 105) f fd) (gm:mg "ranks_unlike" = some (.ref f)) (F_need_both:Fn P w K mg base (y3 P w) 8 "need_both" ["articles", "one", "other", "man"] (a18 (evK K))):Fn P w K mg base (y3 P w) 9 "ranks_unlike" ["articles", "one", "other", "man"] (a0p (evK K)):=by
 obtain ⟨c7v,b43,b1n,b1t,b1x,b1v⟩:=F_need_both.ex
 have a9f:8 ≤ 8:=by decide
 have nd:=a8O.nd
 refine Fn.mkN (k:=8) (t:=fun W=>a81 w K W (evK K)) (a:=a4g (evK K)) F a8O gm (F.bindsN fun _ _ _ _ _ _ us hl=>match us,hl with | [_,_,_,_],_=>rfl) (b27 (evK K)) (fun W=>b5y W) (b2a (evK K)) fun cdv A outer s H E hr=>?_
 exact (f6 (a1k (a0r b1n hr a9f (by rfl) b1t b1x b1v (r4 rfl rfl rfl rfl) (c6 (pv 0) (c6 (pv 1) (c6 (pv 2) (c6 (pv 3) d8))))))
 a4v)
theorem a99:w6 a6N ["articles", "one", "other", "man"] (e8 (top 109)):=⟨rfl,rfl,rfl,by decide +kernel,rfl,by decide +kernel,by decide +kernel⟩
theorem b81 {f:t5} {fd:n6} (F:FnP K "sums_unlike" (top 109) f fd) (gm:mg "sums_unlike" = some (.ref f)) (F_need_both:Fn P w K mg base (y3 P w) 8 "need_both" ["articles", "one", "other", "man"] (a18 (evK K))):Fn P w K mg base (y3 P w) 9 "sums_unlike" ["articles", "one", "other", "man"] (a00 (evK K)):=by
 obtain ⟨c7v,b43,b1n,b1t,b1x,b1v⟩:=F_need_both.ex
 have a9f:8 ≤ 8:=by decide
 have nd:=a99.nd
 refine Fn.mkN (k:=8) (t:=fun W=>b0q w K W (evK K)) (a:=a4U (evK K)) F a99 gm (F.bindsN fun _ _ _ _ _ _ us hl=>match us,hl with | [_,_,_,_],_=>rfl) (b5c (evK K)) (fun W=>b7L W) (b3l (evK K)) fun cdv A outer s H E hr=>?_
 exact (f6 (a1k (a0r b1n hr a9f (by rfl) b1t b1x b1v (r4 rfl rfl rfl rfl) (c6 (pv 0) (c6 (pv 1) (c6 (pv 2) (c6 (pv 3) d8))))))
 a4v)
theorem a8N:w6 a34 ["articles", "one", "other", "man"] (e8 (top 110)):=⟨rfl,rfl,rfl,by decide +kernel,rfl,by decide +kernel,by decide +kernel⟩
theorem b64 {f:t5} {fd:n6} (F:FnP K "first_unlike" (top 110) f fd) (gm:mg "first_unlike" = some (.ref f)) (F_ranks_unlike:Fn P w K mg base (y3 P w) 9 "ranks_unlike" ["articles", "one", "other", "man"] (a0p (evK K))):Fn P w K mg base (y3 P w) 10 "first_unlike" ["articles", "one", "other", "man"] (a0N (evK K)):=by
 obtain ⟨a62,a87,a4W,a4X,a4Z,a4Y⟩:=F_ranks_unlike.ex
 have a4n:9 ≤ 9:=by decide
 have nd:=a8N.nd
 refine Fn.mkN (k:=9) (t:=fun W=>a8U w K W (evK K)) (a:=a4e (evK K)) F a8N gm (F.bindsN fun _ _ _ _ _ _ us hl=>match us,hl with | [_,_,_,_],_=>rfl) (b25 (evK K)) (fun W=>b5r W) (b18 (evK K)) fun cdv A outer s H E hr=>?_
 exact (f6 (ps_setLc (i:=4) (own:=[("row",5)]) (g:=(v4 5)) (tt:=c3U) (te:=(tOp (rIx K) (g9 5) (tC (.int 0))))  (by rfl) nd rfl rfl (sw_true rfl rfl rfl (by decide +kernel))  (a47 (pe_slice c8B (a0r a4W hr a4n (by rfl) a4X a4Z a4Y (r4 rfl rfl rfl rfl) (c6 (pv 0) (c6 (pv 1) (c6 (pv 2) (c6 (pv 3) d8))))) po_none (d06 d7))) (a2c (own:=[("row",5)]) (N:=a34) (sc:=e8 (top 110)) (by decide +kernel)) (fun _ _ _ _ _=>(a1r (i:=5) nd rfl nofun)) (fun _ _ _ _ _=>a6L) (fun _ _ _ _ _=>(z6 n8 (pv 5) d7 (fun _ _=>rfl))))
 a4v)
theorem b2e:w6 a8t ["door", "articles", "pages", "good"] (e8 (top 131)):=⟨rfl,rfl,rfl,by decide +kernel,rfl,by decide +kernel,by decide +kernel⟩
theorem c2v {f:t5} {fd:n6} (F:FnP K "_law_asked" (top 131) f fd) (gm:mg "_law_asked" = some (.ref f)) (F_faults:Fn P w K mg base (y3 P w) 8 "faults" ["articles", "pages"] (a5U (evK K))) (F_men:Fn P w K mg base (y3 P w) 8 "men" ["articles", "pages"] (b2X (evK K))) (F_chests_at:Fn P w K mg base (y3 P w) 8 "chests_at" ["articles", "pages", "day"] (a2p (evK K))) (F_on_books:Fn P w K mg base (y3 P w) 9 "on_books" ["articles", "pages", "man"] (a3J (evK K))) (F_paid_days:Fn P w K mg base (y3 P w) 9 "paid_days" ["articles", "pages", "man"] (a22 (evK K))) (F_first_over:Fn P w K mg base (y3 P w) 9 "first_over" ["articles", "pages", "man"] (a2A (evK K))) (F_earned:Fn P w K mg base (y3 P w) 9 "earned" ["articles", "pages", "man", "day"] (a5T (evK K))) (F_had:Fn P w K mg base (y3 P w) 9 "had" ["articles", "pages", "man", "day"] (b6v (evK K))) (F_left:Fn P w K mg base (y3 P w) 9 "left" ["articles", "pages", "man", "day"] (b0W (evK K))) (F_next_sent:Fn P w K mg base (y3 P w) 9 "next_sent" ["articles", "pages", "man", "day"] (a21 (evK K))) (F_sent_on:Fn P w K mg base (y3 P w) 9 "sent_on" ["articles", "pages", "man", "day"] (a4I (evK K))) (F_room:Fn P w K mg base (y3 P w) 9 "room" ["articles", "pages", "man", "day"] (b0X (evK K))) (F_paid_off:Fn P w K mg base (y3 P w) 9 "paid_off" ["articles", "pages", "man", "day"] (a3K (evK K))) (F_when_earned:Fn P w K mg base (y3 P w) 9 "when_earned" ["articles", "pages", "man", "pence"] (a2N (evK K))) (F_ranks_unlike:Fn P w K mg base (y3 P w) 9 "ranks_unlike" ["articles", "one", "other", "man"] (a0p (evK K))) (F_sums_unlike:Fn P w K mg base (y3 P w) 9 "sums_unlike" ["articles", "one", "other", "man"] (a00 (evK K))) (F_first_unlike:Fn P w K mg base (y3 P w) 10 "first_unlike" ["articles", "one", "other", "man"] (a0N (evK K))):Fn P w K mg base (y3 P w) 11 "_law_asked" ["door", "articles", "pages", "good"] (a3Q (evK K)):=by
 obtain ⟨d4W,d3a,d4P,d44,d5a,d47⟩:=F_faults.ex
 have d3g:8 ≤ 10:=by decide
 obtain ⟨f_men,d50,d4Q,d45,d5b,d48⟩:=F_men.ex
 have c8I:8 ≤ 10:=by decide
 obtain ⟨c7u,c5s,b78,b8z,b8F,b8C⟩:=F_chests_at.ex
 have b44:8 ≤ 10:=by decide
 obtain ⟨d0t,c7B,d0i,d0H,d0N,d0K⟩:=F_on_books.ex
 have c7R:9 ≤ 10:=by decide
 obtain ⟨c7x,c5u,c7k,c7V,c71,c7Y⟩:=F_paid_days.ex
 have c5E:9 ≤ 10:=by decide
 obtain ⟨c5p,c3j,c5g,c5H,c5N,c5K⟩:=F_first_over.ex
 have c3v:9 ≤ 10:=by decide
 obtain ⟨d4V,d29,d4O,d43,d49,d46⟩:=F_earned.ex
 have d3f:9 ≤ 10:=by decide
 obtain ⟨f_had,fd_had,G_had,m_had,p_had,n_had⟩:=F_had.ex
 have lv_had:9 ≤ 10:=by decide
 obtain ⟨f_left,d8f,G_left,m_left,p_left,n_left⟩:=F_left.ex
 have d8i:9 ≤ 10:=by decide
 obtain ⟨c7w,c5t,c7j,c7U,c70,c7X⟩:=F_next_sent.ex
 have c5D:9 ≤ 10:=by decide
 obtain ⟨d27,d0w,d21,d3i,d3m,d3k⟩:=F_sent_on.ex
 have d0F:9 ≤ 10:=by decide
 obtain ⟨f_room,d8g,G_room,m_room,p_room,n_room⟩:=F_room.ex
 have d8j:9 ≤ 10:=by decide
 obtain ⟨d0u,c7C,d0j,d0I,d0O,d0L⟩:=F_paid_off.ex
 have c7S:9 ≤ 10:=by decide
 obtain ⟨d4Z,b9x,c3a,c3y,c3E,c3B⟩:=F_when_earned.ex
 have b9H:9 ≤ 10:=by decide
 obtain ⟨a62,a87,a4W,a4X,a4Z,a4Y⟩:=F_ranks_unlike.ex
 have a4n:9 ≤ 10:=by decide
 obtain ⟨b2E,b9w,b2B,b2J,b2L,b2K⟩:=F_sums_unlike.ex
 have b0w:9 ≤ 10:=by decide
 obtain ⟨b0v,b8j,b0u,b0z,b0F,b0C⟩:=F_first_unlike.ex
 have a9e:10 ≤ 10:=by decide
 have nd:=b2e.nd
 refine Fn.mkN (k:=10) (t:=fun W=>b4P w K W (evK K)) (a:=a6n (evK K)) F b2e gm (F.bindsN fun _ _ _ _ _ _ us hl=>match us,hl with | [_,_,_,_],_=>rfl) (b8O (evK K)) (fun W=>c2Q W) (b68 (evK K)) fun cdv A outer s H E hr=>?_
 exact (f6 (a1s (w9 a72 (pv 0) d7 (a0d _)) (k9 (v9 (pe_ifExp (w9 a72 (pv 0) d7 (a0d _)) (c4C (.cons d4P d3g d5a d47 (.cons d4Q c8I d5b d48 (.cons b78 b44 b8F b8C .nil))) hr (c6 (a0o (v:=.ref d4W) (by rfl) d44 rfl) (c6 (a0o (v:=.ref f_men) (by rfl) d45 rfl) (c6 (a0o (v:=.ref c7u) (by rfl) b8z rfl) d8))) (fun _ _ _ h=>h) (by simp) (pv 0) (fun _ _ _ _ e k=>⟨_,by simpa using e,k⟩) (fun _ _=>rfl) (r4 rfl rfl rfl rfl) (c6 (pv 1) (c6 (pv 2) d8))) (a0r b78 hr b44 (by rfl) b8z b8F b8C (r4 rfl rfl rfl rfl) (c6 (pv 1) (c6 (pv 2) (c6 d7 d8))))))) a0a)
 (f6 (a1s (w9 a72 (pv 0) d7 (a0d _)) (k9 (v9 (c4C (.cons d0i c7R d0N d0K (.cons c7k c5E c71 c7Y (.cons c5g c3v c5N c5K .nil))) hr (c6 (a0o (v:=.ref d0t) (by rfl) d0H rfl) (c6 (a0o (v:=.ref c7x) (by rfl) c7V rfl) (c6 (a0o (v:=.ref c5p) (by rfl) c5H rfl) d8))) (fun _ _ _ h=>h) (by simp) (v5 c75 (pv 0) d7) (fun _ _ _ _ e k=>⟨_,e,_,_,rfl,rfl,by simpa using k⟩) (fun _ _=>rfl) (r4 rfl rfl rfl rfl) (c6 (pv 1) (c6 (pv 2) (c6 v6 d8)))))) a0a)
 (f6 (a1s (w9 a72 (pv 0) d7 (a0d _)) (k9 (v9 (c4C (.cons d4O d3f d49 d46 (.cons G_had lv_had p_had n_had (.cons G_left d8i p_left n_left (.cons c7j c5D c70 c7X (.cons d21 d0F d3m d3k (.cons G_room d8j p_room n_room (.cons d0j c7S d0O d0L .nil))))))) hr (c6 (a0o (v:=.ref d4V) (by rfl) d43 rfl) (c6 (a0o (v:=.ref f_had) (by rfl) m_had rfl) (c6 (a0o (v:=.ref f_left) (by rfl) m_left rfl) (c6 (a0o (v:=.ref c7w) (by rfl) c7U rfl) (c6 (a0o (v:=.ref d27) (by rfl) d3i rfl) (c6 (a0o (v:=.ref f_room) (by rfl) m_room rfl) (c6 (a0o (v:=.ref d0u) (by rfl) d0I rfl) d8))))))) (fun _ _ _ h=>h) (by simp) (v5 c75 (pv 0) d7) (fun _ _ _ _ e k=>⟨_,e,_,_,rfl,rfl,by simpa using k⟩) (fun _ _=>rfl) (r4 rfl rfl rfl rfl) (c6 (pv 1) (c6 (pv 2) (c6 v6 (c6 d7 d8))))))) a0a)
 (f6 (a1s (w9 (a3g hr.units) (pv 0) d7 (a0d _)) (k9 (v9 (a0r c3a hr b9H (by rfl) c3y c3E c3B (r4 rfl rfl rfl rfl) (c6 (pv 1) (c6 (pv 2) (c6 v6 (c6 d7 d8))))))) a0a)
 (f6 (a1s (w9 a72 (pv 0) d7 (a0d _)) (k9 (v9 (c4C (.cons a4W a4n a4Z a4Y (.cons b2B b0w b2L b2K (.cons b0u a9e b0F b0C .nil))) hr (c6 (a0o (v:=.ref a62) (by rfl) a4X rfl) (c6 (a0o (v:=.ref b2E) (by rfl) b2J rfl) (c6 (a0o (v:=.ref b0v) (by rfl) b0z rfl) d8))) (fun _ _ _ h=>h) (by simp) (v5 c75 (pv 0) d7) (fun _ _ _ _ e k=>⟨_,e,_,_,rfl,rfl,by simpa using k⟩) (fun _ _=>rfl) (r4 rfl rfl rfl rfl) (c6 (pv 1) (c6 (pv 2) (c6 (pv 3) (c6 v6 d8))))))) a0a)
 (k9 (v9 (c4C (.cons a4W a4n a4Z a4Y (.cons b2B b0w b2L b2K (.cons b0u a9e b0F b0C .nil))) hr (c6 (a0o (v:=.ref a62) (by rfl) a4X rfl) (c6 (a0o (v:=.ref b2E) (by rfl) b2J rfl) (c6 (a0o (v:=.ref b0v) (by rfl) b0z rfl) d8))) (fun _ _ _ h=>h) (by simp) (v5 c75 (pv 0) d7) (fun _ _ _ _ e k=>⟨_,e,_,_,rfl,rfl,by simpa using k⟩) (fun _ _=>rfl) (r4 rfl rfl rfl rfl) (c6 (pv 1) (c6 (pv 3) (c6 (pv 2) (c6 v6 d8))))))))))))
theorem a8L:w6 a3q ["e"] (e8 (top 112)):=⟨rfl,rfl,rfl,by decide +kernel,rfl,by decide +kernel,by decide +kernel⟩
theorem b62 {f:t5} {fd:n6} (F:FnP K "_law_kind_of" (top 112) f fd) (gm:mg "_law_kind_of" = some (.ref f)) (i9:mg "isinstance" = none) (a84:mg "ValueError" = none) (a1o:mg "range" = none) (kt:d38 K kNs kYs = true) (c3l:mg "NoPage" = some (.ref (a0J K "NoPage"))) (c7D:mg "NoMan" = some (.ref (a0J K "NoMan"))) (a3U:mg "NoArticles" = some (.ref (a0J K "NoArticles"))) (c3k:mg "Faulty" = some (.ref (a0J K "Faulty"))) (c7F:mg "NoSum" = some (.ref (a0J K "NoSum"))) (c7E:mg "NoRow" = some (.ref (a0J K "NoRow"))) (c3m:mg "NoRank" = some (.ref (a0J K "NoRank"))) (a7t:mg "NoPages" = some (.ref (a0J K "NoPages"))) (b8m:mg "TooMany" = some (.ref (a0J K "TooMany"))) (a7U:mg "NothingLeft" = some (.ref (a0J K "NothingLeft"))) (b4h:mg "NotThere" = some (.ref (a0J K "NotThere"))) (c3n:mg "NoText" = some (.ref (a0J K "NoText"))) (c7H:mg "Twice" = some (.ref (a0J K "Twice"))) (b8n:mg "TooMuch" = some (.ref (a0J K "TooMuch"))):FnE P w K mg base 1 "_law_kind_of" ["e"] (KindT K kNs):=by
 have nd:=a8L.nd
 refine FnE.mk0 (k:=0) (B:=kBs K) (t:=fun v bs=>b0j w K v bs) (a:=fun v bs=>a4R v bs) F a8L gm (F.bindsN fun _ _ _ _ _ _ us hl=>match us,hl with | [_],_=>rfl) (fun W v bs=>b7D W) (fun D v z hT ρ P PX h=>?_) fun cdv A outer s H p D z hT hot1 hz hr=>?_
 ·obtain ⟨x,hx,rfl,rfl⟩:=hT.ex
  exact b3j v x hx _ (fun y hy=>d5B kt hx hy) ρ P PX h
 obtain ⟨x,hx,rfl,rfl⟩:=hT.ex
 have hf:∃ vs,p.2.data = .fields vs:=⟨_,hot1.2.choose_spec.1⟩
 have hot:L2H.HotC (L2H.cxH CX0 P w K mg base a3q "_law_kind_of" (e8 (top 112)) f cdv A outer s H E0 p):=⟨p,hot1,n3 p⟩
 exact (f6 (a0j (i:=1) nd rfl nofun (a1f (c6 (a50 (n3 _) (a2B kt hx) hz hf (a3L kt hx (y := "Faulty") (by decide)) (c:=.ref (a0J K "Faulty")) (fun u hu=>a4o hu (a4h (by decide +kernel)).symm) (pv 0) (a0o (v:=.ref (a0J K "Faulty")) (by rfl) c3k rfl) (by rfl) i9) (c6 (a50 (n3 _) (a2B kt hx) hz hf (a3L kt hx (y := "NoArticles") (by decide)) (c:=.ref (a0J K "NoArticles")) (fun u hu=>a4o hu (a4h (by decide +kernel)).symm) (pv 0) (a0o (v:=.ref (a0J K "NoArticles")) (by rfl) a3U rfl) (by rfl) i9) (c6 (a50 (n3 _) (a2B kt hx) hz hf (a3L kt hx (y := "NoMan") (by decide)) (c:=.ref (a0J K "NoMan")) (fun u hu=>a4o hu (a4h (by decide +kernel)).symm) (pv 0) (a0o (v:=.ref (a0J K "NoMan")) (by rfl) c7D rfl) (by rfl) i9) (c6 (a50 (n3 _) (a2B kt hx) hz hf (a3L kt hx (y := "NoPage") (by decide)) (c:=.ref (a0J K "NoPage")) (fun u hu=>a4o hu (a4h (by decide +kernel)).symm) (pv 0) (a0o (v:=.ref (a0J K "NoPage")) (by rfl) c3l rfl) (by rfl) i9) d8))))))
 (f6 (a0j (i:=1) nd rfl nofun (v5 v3 (pv 1) (a1f (c6 (a50 (n3 _) (a2B kt hx) hz hf (a3L kt hx (y := "NoPages") (by decide)) (c:=.ref (a0J K "NoPages")) (fun u hu=>a4o hu (a4h (by decide +kernel)).symm) (pv 0) (a0o (v:=.ref (a0J K "NoPages")) (by rfl) a7t rfl) (by rfl) i9) (c6 (a50 (n3 _) (a2B kt hx) hz hf (a3L kt hx (y := "NoRank") (by decide)) (c:=.ref (a0J K "NoRank")) (fun u hu=>a4o hu (a4h (by decide +kernel)).symm) (pv 0) (a0o (v:=.ref (a0J K "NoRank")) (by rfl) c3m rfl) (by rfl) i9) (c6 (a50 (n3 _) (a2B kt hx) hz hf (a3L kt hx (y := "NoRow") (by decide)) (c:=.ref (a0J K "NoRow")) (fun u hu=>a4o hu (a4h (by decide +kernel)).symm) (pv 0) (a0o (v:=.ref (a0J K "NoRow")) (by rfl) c7E rfl) (by rfl) i9) (c6 (a50 (n3 _) (a2B kt hx) hz hf (a3L kt hx (y := "NoSum") (by decide)) (c:=.ref (a0J K "NoSum")) (fun u hu=>a4o hu (a4h (by decide +kernel)).symm) (pv 0) (a0o (v:=.ref (a0J K "NoSum")) (by rfl) c7F rfl) (by rfl) i9) d8)))))))
 (f6 (a0j (i:=1) nd rfl nofun (v5 v3 (pv 1) (a1f (c6 (a50 (n3 _) (a2B kt hx) hz hf (a3L kt hx (y := "NoText") (by decide)) (c:=.ref (a0J K "NoText")) (fun u hu=>a4o hu (a4h (by decide +kernel)).symm) (pv 0) (a0o (v:=.ref (a0J K "NoText")) (by rfl) c3n rfl) (by rfl) i9) (c6 (a50 (n3 _) (a2B kt hx) hz hf (a3L kt hx (y := "NotThere") (by decide)) (c:=.ref (a0J K "NotThere")) (fun u hu=>a4o hu (a4h (by decide +kernel)).symm) (pv 0) (a0o (v:=.ref (a0J K "NotThere")) (by rfl) b4h rfl) (by rfl) i9) (c6 (a50 (n3 _) (a2B kt hx) hz hf (a3L kt hx (y := "NothingLeft") (by decide)) (c:=.ref (a0J K "NothingLeft")) (fun u hu=>a4o hu (a4h (by decide +kernel)).symm) (pv 0) (a0o (v:=.ref (a0J K "NothingLeft")) (by rfl) a7U rfl) (by rfl) i9) (c6 (a50 (n3 _) (a2B kt hx) hz hf (a3L kt hx (y := "TooMany") (by decide)) (c:=.ref (a0J K "TooMany")) (fun u hu=>a4o hu (a4h (by decide +kernel)).symm) (pv 0) (a0o (v:=.ref (a0J K "TooMany")) (by rfl) b8m rfl) (by rfl) i9) d8)))))))
 (f6 (a0j (i:=1) nd rfl nofun (v5 v3 (pv 1) (a1f (c6 (a50 (n3 _) (a2B kt hx) hz hf (a3L kt hx (y := "TooMuch") (by decide)) (c:=.ref (a0J K "TooMuch")) (fun u hu=>a4o hu (a4h (by decide +kernel)).symm) (pv 0) (a0o (v:=.ref (a0J K "TooMuch")) (by rfl) b8n rfl) (by rfl) i9) (c6 (a50 (n3 _) (a2B kt hx) hz hf (a3L kt hx (y := "Twice") (by decide)) (c:=.ref (a0J K "Twice")) (fun u hu=>a4o hu (a4h (by decide +kernel)).symm) (pv 0) (a0o (v:=.ref (a0J K "Twice")) (by rfl) c7H rfl) (by rfl) i9) (c6 (a50 (n3 _) (a2B kt hx) hz hf (a3L kt hx (y := "ValueError") (by decide)) (c:=.ty "ValueError") (fun u hu=>a4o hu d9d.symm) (pv 0) (pe_bltn (v:=.ty "ValueError") (by rfl) a84 (by decide +kernel) rfl) (by rfl) i9) d8))))))
 (f6 (a0j (i:=2) nd rfl nofun (a1f (c6 v6 (c6 v6 (c6 v6 (c6 v6 (c6 v6 (c6 v6 (c6 v6 (c6 v6 (c6 v6 (c6 v6 d8))))))))))))
 (f6 (a0j (i:=2) nd rfl nofun (v5 v3 (pv 2) (a1f (c6 v6 (c6 v6 (c6 v6 (c6 v6 (c6 v6 d8))))))))
 (k9 (v9 (c8t v6 (AqH.pe_lcH (own:=[("k",3)]) (g:=(v4 3)) (tt:=(a8Q K (tOp (rIx K) (g9 1) (g9 3)))) (te:=(tOp (rIx K) (g9 2) (g9 3)))  hot nd  (L2H.pi_range1H (by rfl) a1o (c6 d7 d8)) (a2c (own:=[("k",3)]) (N:=a3q) (sc:=e8 (top 112)) (by decide +kernel)) (fun _ _ _ _ _=>(a1r (i:=3) nd rfl nofun)) (fun _ _ _ _ _=>(d57 (a1T (z6 n8 (pv 1) (pv 3) (fun _ _=>rfl))))) (fun _ _ _ _ _=>(z6 n8 (pv 2) (pv 3) (fun _ _=>rfl)))))))))))))
theorem a8M:w6 a6M ["door", "articles", "pages", "good"] (e8 (top 132)):=⟨rfl,rfl,rfl,by decide +kernel,rfl,by decide +kernel,by decide +kernel⟩
theorem b63 {f:t5} {fd:n6} (F:FnP K "_law_refusal" (top 132) f fd) (gm:mg "_law_refusal" = some (.ref f)) (kt:d38 K kNs kYs = true) (b1q:mg "WageError" = some (.ref (a0J K "WageError"))) (F__law_asked:Fn P w K mg base (y3 P w) 11 "_law_asked" ["door", "articles", "pages", "good"] (a3Q (evK K))) (a61:FnE P w K mg base 1 "_law_kind_of" ["e"] (KindT K kNs)):Fn P w K mg base CX0 12 "_law_refusal" ["door", "articles", "pages", "good"] a1A:=by
 obtain ⟨d5Y,c3h,c5e,c5F,c5L,c5I⟩:=F__law_asked.ex
 have c3t:11 ≤ 11:=by decide
 have b8u:1 ≤ 11:=by decide
 have nd:=a8M.nd
 refine Fn.mk0 (k:=11) (t:=b0n w K (evK K)) (a:=a4T (evK K)) F a8M gm (F.bindsN fun _ _ _ _ _ _ us hl=>match us,hl with | [_,_,_,_],_=>rfl) b5b (fun W=>b7H (ev:=evK K) (fun x hx=>d39 kt (x:=x) hx) W) (b3k (evK K)) fun cdv A outer s H E hr=>?_
 exact (f6 (a0j (i:=4) nd rfl nofun v6)
 (f6 (d7p (i:=5) rfl rfl nd rfl rfl ⟨rfl,by decide,.inl b1q⟩ (fun W pn xe tk po=>(k9 (a1k (a0r c5e hr c3t (by rfl) c5F c5L c5I tk (c6 (pv 0) (c6 (pv 1) (c6 (pv 2) (c6 (pv 3) d8)))))))) (fun a oe cls d pn hz hf=>(k9 (a0j (i:=4) nd rfl nofun (d4l a61 hr b8u hz hf (by rfl) (pv 5))))))
 (k9 (v9 (pv 4)))))
theorem b7n:w6 a9j ["pages"] (e8 (top 130)):=⟨rfl,rfl,rfl,by decide +kernel,rfl,by decide +kernel,by decide +kernel⟩
theorem c6F {f:t5} {fd:n6} (F:FnP K "_law_men" (top 130) f fd) (gm:mg "_law_men" = some (.ref f)) (a3F:mg "sorted" = none) (b1o:mg "set" = none):Fn P w K mg base CX0 1 "_law_men" ["pages"] a3S:=by
 have nd:=b7n.nd
 refine Fn.mk0 (k:=0) (t:=c05 w K) (a:=a9l) F b7n gm (F.bindsN fun _ _ _ _ _ _ us hl=>match us,hl with | [_],_=>rfl) c4g (fun W=>c6T W) (c2C) fun cdv A outer s H E hr=>?_
 exact (k9 (v9 (c0c rfl hr.units (c3R (own:=[("page",1)]) (g:=(v4 1)) (tt:=(a1e (tOp (rNeD K) (tOp (rIx K) (g9 1) (tC (.int 0))) (tC (.str "lost"))))) (te:=(tOp (rIx K) (g9 1) (tC (.int 1))))  (by rfl) nd  (a47 (pv 0)) (a2c (own:=[("page",1)]) (N:=a9j) (sc:=e8 (top 130)) (by decide +kernel)) (fun _ _ _ _ _=>(a1r (i:=1) nd rfl nofun)) (fun _ _ _ _ _=>(d57 (w9 (b6m hr.units) (z6 n8 (pv 1) d7 (fun _ _=>rfl)) v6 (a0d _)))) (fun _ _ _ _ _=>(z6 n8 (pv 1) d7 (fun _ _=>rfl)))) (by rfl) a3F (by rfl) b1o)))
theorem d5S:w6 d3I ["script"] (e8 (top 133)):=⟨rfl,rfl,rfl,by decide +kernel,rfl,by decide +kernel,by decide +kernel⟩
theorem d9V {f:t5} {fd:n6} (F:FnP K "law" (top 133) f fd) (gm:mg "law" = some (.ref f)) (a1q:mg "len" = none) (b5H:mg "min" = none) (d8d:mg "max" = none) (a1o:mg "range" = none) (a06:mg "tuple" = none) (i9:mg "isinstance" = none) (b2D:mg "bool" = none) (a7r:mg "list" = none) (a1Y:IsiOk K "bool") (F__law_draws:Fn P w K mg base CX0 1 "_law_draws" ["script", "k"] a3R) (F__law_book:Fn P w K mg base CX0 5 "_law_book" ["draws"] a4G) (F__law_draw:Fn P w K mg base CX0 1 "_law_draw" ["draws", "many"] d5) (F__law_otherwise:Fn P w K mg base CX0 10 "_law_otherwise" ["draws", "thing", "deep"] (a0C 3)) (F__law_thing:Fn P w K mg base CX0 6 "_law_thing" ["draws", "deep"] (z5 4)) (F_are_pages:Fn P w K mg base (y3 P w) 6 "are_pages" ["articles", "thing"] (a17 (evK K))) (F__law_are_pages:Fn P w K mg base CX0 3 "_law_are_pages" ["articles", "thing"] a14) (F__law_refusal:Fn P w K mg base CX0 12 "_law_refusal" ["door", "articles", "pages", "good"] a1A) (F_men:Fn P w K mg base (y3 P w) 8 "men" ["articles", "pages"] (b2X (evK K))) (F__law_men:Fn P w K mg base CX0 1 "_law_men" ["pages"] a3S):FnOk P w K mg base CX0 13 f fd ["script"] (spOf K c_law):=by
 obtain ⟨d5Z,c3i,c5f,c5G,c5M,c5J⟩:=F__law_draws.ex
 have c3u:1 ≤ 12:=by decide
 obtain ⟨d8e,c5r,c7i,c7T,c7Z,c7W⟩:=F__law_book.ex
 have c5C:5 ≤ 12:=by decide
 obtain ⟨a1W,a09,i5,i6,i8,i7⟩:=F__law_draw.ex
 have g5:1 ≤ 12:=by decide
 obtain ⟨b5I,a7s,a5m,a5p,a5r,a5q⟩:=F__law_otherwise.ex
 have a4L:10 ≤ 12:=by decide
 obtain ⟨b41,a7T,a24,a25,a27,a26⟩:=F__law_thing.ex
 have a2D:6 ≤ 12:=by decide
 obtain ⟨c7t,b42,b1m,b1s,b1w,b1u⟩:=F_are_pages.ex
 have a9d:6 ≤ 12:=by decide
 obtain ⟨d0U,b4e,b5B,b5S,b5Y,b5V⟩:=F__law_are_pages.ex
 have b4l:3 ≤ 12:=by decide
 obtain ⟨d3w,b8i,b0t,b0y,b0E,b0B⟩:=F__law_refusal.ex
 have a9c:12 ≤ 12:=by decide
 obtain ⟨f_men,d50,d4Q,d45,d5b,d48⟩:=F_men.ex
 have c8I:8 ≤ 12:=by decide
 obtain ⟨d8K,c7y,c1U,c1W,c10,c1Y⟩:=F__law_men.ex
 have b8v:1 ≤ 12:=by decide
 have nd:=d5S.nd
 refine okLaw (k:=12) (t:=e0b w K (evK K)) (a:=d3N (evK K)) F d5S d7e (fun W=>d98 a1Y W) (d4m (evK K)) fun cdv A outer s H E hr=>?_
 exact (f6 (ps_for a31 rfl (b1B (by rfl) a1o (c6 (a0f (d1f rfl) (by rfl) d8d (by decide +kernel) (c6 d7 (c6 (a0f (b1M rfl) (by rfl) b5H (by decide +kernel) (c6 d7 (c6 (a0f a11 (by rfl) a1q (by decide +kernel) (c6 (pv 0) d8)) d8))) d8))) d8)) (a1r (i:=1) nd rfl nofun) (f6 (a0j (i:=2) nd rfl nofun (g7 c5f hr c3u (by rfl) c5G c5M c5J (c6 (pv 0) (c6 (pv 1) d8))))
 (f6 (d5m (g7 c7i hr c5C (by rfl) c7T c7Z c7W (c6 (pv 2) d8)) (pg_tup rfl (pgs_cons (a1r (i:=3) nd rfl nofun) (pgs_cons (a1r (i:=4) nd rfl nofun) (pgs_cons (a1r (i:=5) nd rfl nofun) pgs_nil)))))
 (f6 (a0j (i:=6) nd rfl nofun (g7 i5 hr g5 (by rfl) i6 i8 i7 (c6 (pv 2) (c6 (a0f a11 (by rfl) a1q (by decide +kernel) (c6 (pv 4) d8)) d8))))
 (f6 (a0j (i:=7) nd rfl nofun (v5 v3 (v5 v3 (pe_slice c8B (pv 4) po_none (d06 (pv 6))) (a1f (c6 (g7 a5m hr a4L (by rfl) a5p a5r a5q (c6 (pv 2) (c6 (z6 n8 (pv 4) (pv 6) (fun _ _=>rfl)) (c6 d7 d8)))) d8))) (pe_slice c8B (pv 4) (d06 (v5 v3 (pv 6) d7)) po_none)))
 (f6 (ps_setLc (i:=8) (own:=[("j",15)]) (g:=(v4 15)) (tt:=c3U) (te:=(d5n (d4 (tC (.str "fine")) (d4 (tC (.str "ann")) (d4 (tOp (a0U K) (tC (.int 7)) (g9 15)) (d4 (tC (.int 3)) p7))))))  (by rfl) nd rfl rfl (sw_true rfl rfl rfl (by decide +kernel))  (b1B (by rfl) a1o (c6 (v5 v3 d7 (g7 i5 hr g5 (by rfl) i6 i8 i7 (c6 (pv 2) (c6 d7 d8)))) d8)) (a2c (own:=[("j",15)]) (N:=d3I) (sc:=e8 (top 133)) (by decide +kernel)) (fun _ _ _ _ _=>(a1r (i:=15) nd rfl nofun)) (fun _ _ _ _ _=>a6L) (fun _ _ _ _ _=>(a68 (c6 v6 (c6 v6 (c6 (v5 v3 d7 (pv 15)) (c6 d7 d8)))))))
 (f6 (a0j (i:=9) nd rfl nofun (a1f (c6 (pv 4) (c6 (pv 7) (c6 (v5 v3 (pv 4) (a1f (c6 (z6 n8 (pv 4) (pv 6) (fun _ _=>rfl)) d8))) (c6 (a3o a5K (by rfl) a06 (by decide +kernel) (c6 (pv 4) d8)) (c6 (a1f d8) (c6 (pv 8) (c6 (g7 a24 hr a2D (by rfl) a25 a27 a26 (c6 (pv 2) (c6 d7 d8))) (c6 (a1f (c6 (g7 a24 hr a2D (by rfl) a25 a27 a26 (c6 (pv 2) (c6 d7 d8))) d8)) d8))))))))))
 (f6 (ps_for a31 rfl (a47 (pv 9)) (a1r (i:=10) nd rfl nofun) (f6 (a0j (i:=11) nd rfl nofun (b14 b1m hr a9d (by rfl) b1s b1w b1u (c6 (pv 3) (c6 (pv 10) d8))))
 (f6 (a1s (b8L (c3S (a3P (a1T (a4u (pv 11) (by rfl) i9 (by rfl) b2D (by decide +kernel)))) (b6n (w9 (b6m hr.units) (pv 11) (g7 b5B hr b4l (by rfl) b5S b5Y b5V (c6 (pv 3) (c6 (pv 10) d8))) (a0d _))))) (k9 (v9 a6K)) a0a)
 (k9 (a1s (a3P (a1T (pv 11))) (f6 (a0j (i:=12) nd rfl nofun (g7 i5 hr g5 (by rfl) i6 i8 i7 (c6 (pv 2) (c6 d7 d8))))
 (f6 (a1s (w9 (b6m hr.units) (g7 b0t hr a9c (by rfl) b0y b0E b0B (c6 (pv 12) (c6 (pv 3) (c6 (pv 10) (c6 (pv 4) d8))))) v6 (a0d _)) (k9 (v9 a6K)) a0a)
 (k9 (a1s (w9 (b6m hr.units) (g7 b0t hr a9c (by rfl) b0y b0E b0B (c6 (pv 12) (c6 pe_non (c6 (pv 10) (c6 (pv 4) d8))))) v6 (a0d _)) (k9 (v9 a6K)) a0a)))) a0a)))))
 (f6 (a0j (i:=13) nd rfl nofun (a3o d8X (by rfl) a7r (by decide +kernel) (c6 (pv 4) d8)))
 (f6 (a0j (i:=14) nd rfl nofun (b14 d4Q hr c8I (by rfl) d45 d5b d48 (c6 (pv 3) (c6 (pv 13) d8))))
 (f6 (a1s (b8L (c3S (w9 (b6m hr.units) (pv 14) (g7 c1U hr b8v (by rfl) c1W c10 c1Y (c6 (pv 4) d8)) (a0d _)) (b6n (w9 (b6m hr.units) (pv 13) (pv 4) (a0d _))))) (k9 (v9 a6K)) a0a)
 (f6 (a1k (pe_bm a0z a5s a5t d81 (pv 14) (c6 v6 d8)))
 (k9 (a1s (w9 (b6m hr.units) (b14 d4Q hr c8I (by rfl) d45 d5b d48 (c6 (pv 3) (c6 (pv 13) d8))) (g7 c1U hr b8v (by rfl) c1W c10 c1Y (c6 (pv 4) d8)) (a0d _)) (k9 (v9 a6K)) a0a))))))))))))))
 (k9 (v9 a6K)))
end
theorem facts {P:a2x} {w:i3} {K:b0} {h:b9M} {mg:Str → Option f8} {f:t5} (X:K.In h) (G:h.Ns mainGlobals mg) (hfa:mg ("law" : Str) = some (.ref f)) (c:He.SaysT fa fn ts w K) (kx:exK K = true) :
  ∃ fd:n6,(∀ (s:a0h) (v:f8),BindsTo s fd ⟨[v],[]⟩ [("script",v)]) ∧ ∀ base:b9M,K.In base → base.Ns mainGlobals mg → FnOk P w K mg base CX0 13 f fd ["script"] (spOf K c_law):=by
 have kl:∀ b ∈ exL K,b = true:=fun b hb=>t0.mp kx b hb
 have kt:d38 K kNs kYs = true:=kl _ (w8 (i:=0) rfl)
 have a2H:=d4a (kl _ (w8 (i:=1) rfl))
 have b8G:=d7c (tab:=[("joins",4),("ranked",4),("leaves",3),("away",4),("advance",5),("home",6),("slops",5),("fine",4),("lost",3)]) (SaysT.tab c (i:=0) rfl) (kl _ (w8 (i:=2) rfl))
 have c:He.SaysD fa fn K:=congrArg b2R c
 obtain ⟨c3i,c5i⟩:=c.def_ 0 (d:=b4z) rfl
 obtain ⟨a09,c7m⟩:=c.def_ 1 (d:=b6x) rfl
 obtain ⟨a5F,c5j⟩:=c.def_ 2 (d:=b4A) rfl
 obtain ⟨a8l,b79⟩:=c.def_ 3 (d:=a8C) rfl
 obtain ⟨b2G,b4c⟩:=c.def_ 4 (d:=a7c) rfl
 obtain ⟨b5K,b8b⟩:=c.def_ 5 (d:=a8E) rfl
 obtain ⟨b4d,b5D⟩:=c.def_ 6 (d:=a7Y) rfl
 obtain ⟨b2F,c5k⟩:=c.def_ 7 (d:=b4B) rfl
 obtain ⟨b4f,b5F⟩:=c.def_ 8 (d:=a70) rfl
 obtain ⟨b5J,b8a⟩:=c.def_ 9 (d:=a8D) rfl
 obtain ⟨c5r,c7l⟩:=c.def_ 10 (d:=b6w) rfl
 obtain ⟨a7T,c5l⟩:=c.def_ 11 (d:=b4C) rfl
 obtain ⟨a7s,b5G⟩:=c.def_ 12 (d:=a71) rfl
 obtain ⟨b8k,d0m⟩:=c.def_ 13 (d:=b9X) rfl
 obtain ⟨b4g,d22⟩:=c.def_ 14 (d:=c30) rfl
 obtain ⟨c7z,d0l⟩:=c.def_ 15 (d:=b9W) rfl
 obtain ⟨a86,c7p⟩:=c.def_ 16 (d:=b6A) rfl
 obtain ⟨b9u,c3c⟩:=c.def_ 17 (d:=b1O) rfl
 obtain ⟨a8m,b8c⟩:=c.def_ 18 (d:=a8F) rfl
 obtain ⟨d3b,d4T⟩:=c.def_ 19 (d:=c8c) rfl
 obtain ⟨b9v,c3d⟩:=c.def_ 20 (d:=b1P) rfl
 obtain ⟨d0v,d23⟩:=c.def_ 21 (d:=c31) rfl
 obtain ⟨b42,c7n⟩:=c.def_ 22 (d:=b6y) rfl
 obtain ⟨b9t,c3b⟩:=c.def_ 23 (d:=b1N) rfl
 obtain ⟨b8g,b9n⟩:=c.def_ 24 (d:=a9Y) rfl
 obtain ⟨b8h,b9o⟩:=c.def_ 25 (d:=a9Z) rfl
 obtain ⟨b4e,b5E⟩:=c.def_ 26 (d:=a7Z) rfl
 obtain ⟨a4m,c5n⟩:=c.def_ 27 (d:=b4E) rfl
 obtain ⟨d3a,d4S⟩:=c.def_ 28 (d:=c8b) rfl
 obtain ⟨c7A,d0n⟩:=c.def_ 29 (d:=b9Y) rfl
 obtain ⟨d50,P_men⟩:=c.def_ 30 (d:=d9h) rfl
 obtain ⟨c5s,c7o⟩:=c.def_ 31 (d:=b6z) rfl
 obtain ⟨a1X,d0o⟩:=c.def_ 32 (d:=b9Z) rfl
 obtain ⟨c7B,d0p⟩:=c.def_ 33 (d:=b90) rfl
 obtain ⟨c5u,c7s⟩:=c.def_ 34 (d:=b6D) rfl
 obtain ⟨c3j,c5m⟩:=c.def_ 35 (d:=b4D) rfl
 obtain ⟨d29,d4R⟩:=c.def_ 36 (d:=c8a) rfl
 obtain ⟨fd_had,P_had⟩:=c.def_ 37 (d:=d9f) rfl
 obtain ⟨d8f,P_left⟩:=c.def_ 38 (d:=d5r) rfl
 obtain ⟨c5t,c7r⟩:=c.def_ 39 (d:=b6C) rfl
 obtain ⟨d0w,d24⟩:=c.def_ 40 (d:=c32) rfl
 obtain ⟨d8g,P_room⟩:=c.def_ 41 (d:=d5s) rfl
 obtain ⟨c7C,d0q⟩:=c.def_ 42 (d:=b91) rfl
 obtain ⟨b9x,c3f⟩:=c.def_ 43 (d:=b1R) rfl
 obtain ⟨b43,c7q⟩:=c.def_ 44 (d:=b6B) rfl
 obtain ⟨a87,b9s⟩:=c.def_ 45 (d:=a93) rfl
 obtain ⟨b9w,c3e⟩:=c.def_ 46 (d:=b1Q) rfl
 obtain ⟨b8j,b9r⟩:=c.def_ 47 (d:=a92) rfl
 obtain ⟨c3h,c5h⟩:=c.def_ 48 (d:=b4y) rfl
 obtain ⟨d28,b9p⟩:=c.def_ 49 (d:=a90) rfl
 obtain ⟨b8i,b9q⟩:=c.def_ 50 (d:=a91) rfl
 obtain ⟨c7y,d0k⟩:=c.def_ 51 (d:=b9V) rfl
 obtain ⟨fd_law,P_law⟩:=c.def_ 52 (d:=d9g) rfl
 have c5w:=m6 X G (c.fact 0 (f:=.glo "_law_draws") rfl)
 have c7J:=m6 X G (c.fact 1 (f:=.glo "_law_draw") rfl)
 have c5x:=m6 X G (c.fact 2 (f:=.glo "_law_names") rfl)
 have b8o:=m6 X G (c.fact 3 (f:=.glo "_law_articles") rfl)
 have b4i:=m6 X G (c.fact 4 (f:=.glo "_law_turn_pages") rfl)
 have b8q:=m6 X G (c.fact 5 (f:=.glo "_law_sum_page") rfl)
 have b5L:=m6 X G (c.fact 6 (f:=.glo "_law_any_order") rfl)
 have c5y:=m6 X G (c.fact 7 (f:=.glo "_law_pages") rfl)
 have b5N:=m6 X G (c.fact 8 (f:=.glo "_law_near_book") rfl)
 have b8p:=m6 X G (c.fact 9 (f:=.glo "_law_far_book") rfl)
 have c7I:=m6 X G (c.fact 10 (f:=.glo "_law_book") rfl)
 have c5z:=m6 X G (c.fact 11 (f:=.glo "_law_thing") rfl)
 have b5O:=m6 X G (c.fact 12 (f:=.glo "_law_otherwise") rfl)
 have d0z:=m6 X G (c.fact 13 (f:=.glo "is_tuple") rfl)
 have d3c:=m6 X G (c.fact 14 (f:=.glo "is_name") rfl)
 have d0y:=m6 X G (c.fact 15 (f:=.glo "are_rows") rfl)
 have c7M:=m6 X G (c.fact 16 (f:=.glo "is_within") rfl)
 have c3p:=m6 X G (c.fact 17 (f:=.glo "is_articles") rfl)
 have b8r:=m6 X G (c.fact 18 (f:=.glo "need_articles") rfl)
 have d42:=m6 X G (c.fact 19 (f:=.glo "is_day") rfl)
 have c3q:=m6 X G (c.fact 20 (f:=.glo "is_sum_page") rfl)
 have d3d:=m6 X G (c.fact 21 (f:=.glo "is_page") rfl)
 have c7K:=m6 X G (c.fact 22 (f:=.glo "are_pages") rfl)
 have c3o:=m6 X G (c.fact 23 (f:=.glo "_law_within") rfl)
 have b9y:=m6 X G (c.fact 24 (f:=.glo "_law_is_name") rfl)
 have b9z:=m6 X G (c.fact 25 (f:=.glo "_law_is_page") rfl)
 have b5M:=m6 X G (c.fact 26 (f:=.glo "_law_are_pages") rfl)
 have c5B:=m6 X G (c.fact 27 (f:=.glo "need_pages") rfl)
 have d41:=m6 X G (c.fact 28 (f:=.glo "faults") rfl)
 have d0A:=m6 X G (c.fact 29 (f:=.glo "names_in") rfl)
 have g_men:=m6 X G (c.fact 30 (f:=.glo "men") rfl)
 have c7L:=m6 X G (c.fact 31 (f:=.glo "chests_at") rfl)
 have d0B:=m6 X G (c.fact 32 (f:=.glo "need_man") rfl)
 have d0C:=m6 X G (c.fact 33 (f:=.glo "on_books") rfl)
 have c7P:=m6 X G (c.fact 34 (f:=.glo "paid_days") rfl)
 have c5A:=m6 X G (c.fact 35 (f:=.glo "first_over") rfl)
 have d40:=m6 X G (c.fact 36 (f:=.glo "earned") rfl)
 have g_had:=m6 X G (c.fact 37 (f:=.glo "had") rfl)
 have g_left:=m6 X G (c.fact 38 (f:=.glo "left") rfl)
 have c7O:=m6 X G (c.fact 39 (f:=.glo "next_sent") rfl)
 have d3e:=m6 X G (c.fact 40 (f:=.glo "sent_on") rfl)
 have g_room:=m6 X G (c.fact 41 (f:=.glo "room") rfl)
 have d0D:=m6 X G (c.fact 42 (f:=.glo "paid_off") rfl)
 have c3s:=m6 X G (c.fact 43 (f:=.glo "when_earned") rfl)
 have c7N:=m6 X G (c.fact 44 (f:=.glo "need_both") rfl)
 have b9D:=m6 X G (c.fact 45 (f:=.glo "ranks_unlike") rfl)
 have c3r:=m6 X G (c.fact 46 (f:=.glo "sums_unlike") rfl)
 have b9C:=m6 X G (c.fact 47 (f:=.glo "first_unlike") rfl)
 have c5v:=m6 X G (c.fact 48 (f:=.glo "_law_asked") rfl)
 have b9A:=m6 X G (c.fact 49 (f:=.glo "_law_kind_of") rfl)
 have b9B:=m6 X G (c.fact 50 (f:=.glo "_law_refusal") rfl)
 have d0x:=m6 X G (c.fact 51 (f:=.glo "_law_men") rfl)
 have g_law:=m6 X G (c.fact 52 (f:=.glo "law") rfl)
 have a1q:=a2I X G (c.fact 53 (f:=.free "len") rfl)
 have c3g:=a2I X G (c.fact 54 (f:=.free "int") rfl)
 have a1o:=a2I X G (c.fact 55 (f:=.free "range") rfl)
 have a3F:=a2I X G (c.fact 56 (f:=.free "sorted") rfl)
 have a06:=a2I X G (c.fact 57 (f:=.free "tuple") rfl)
 have b5H:=a2I X G (c.fact 58 (f:=.free "min") rfl)
 have b1o:=a2I X G (c.fact 59 (f:=.free "set") rfl)
 have a7r:=a2I X G (c.fact 60 (f:=.free "list") rfl)
 have i9:=a2I X G (c.fact 61 (f:=.free "isinstance") rfl)
 have b1p:=a2I X G (c.fact 62 (f:=.free "str") rfl)
 have b2C:=a2I X G (c.fact 63 (f:=.free "all") rfl)
 have b2D:=a2I X G (c.fact 64 (f:=.free "bool") rfl)
 have a84:=a2I X G (c.fact 65 (f:=.free "ValueError") rfl)
 have d8d:=a2I X G (c.fact 66 (f:=.free "max") rfl)
 have a3U:=m6 X G (c.fact 67 (f:=.glo "NoArticles") rfl)
 have b8l:=m6 X G (c.fact 68 (f:=.glo "LENGTHS") rfl)
 have c7G:=m6 X G (c.fact 69 (f:=.glo "TURNS") rfl)
 have a7t:=m6 X G (c.fact 70 (f:=.glo "NoPages") rfl)
 have c3l:=m6 X G (c.fact 71 (f:=.glo "NoPage") rfl)
 have c7D:=m6 X G (c.fact 72 (f:=.glo "NoMan") rfl)
 have c3k:=m6 X G (c.fact 73 (f:=.glo "Faulty") rfl)
 have c7F:=m6 X G (c.fact 74 (f:=.glo "NoSum") rfl)
 have c7E:=m6 X G (c.fact 75 (f:=.glo "NoRow") rfl)
 have c3m:=m6 X G (c.fact 76 (f:=.glo "NoRank") rfl)
 have b8m:=m6 X G (c.fact 77 (f:=.glo "TooMany") rfl)
 have a7U:=m6 X G (c.fact 78 (f:=.glo "NothingLeft") rfl)
 have b4h:=m6 X G (c.fact 79 (f:=.glo "NotThere") rfl)
 have c3n:=m6 X G (c.fact 80 (f:=.glo "NoText") rfl)
 have c7H:=m6 X G (c.fact 81 (f:=.glo "Twice") rfl)
 have b8n:=m6 X G (c.fact 82 (f:=.glo "TooMuch") rfl)
 have b1q:=m6 X G (c.fact 83 (f:=.glo "WageError") rfl)
 have a3W:=He.exc_ok (c.fact 84 (f:=.exc "NoArticles") rfl)
 have a7x:=He.exc_ok (c.fact 85 (f:=.exc "NoPages") rfl)
 have b8s:=He.str_ok X G (c.fact 86 (f:=.str "LETTERS" "abcdefghijklmnopqrstuvwxyz") rfl)
 have a89:=b6f X G (c.fact 87 (f:=.int "MOST_RANKS" 12) rfl)
 have a7V:=b6f X G (c.fact 88 (f:=.int "MOST_CHESTS" 6) rfl)
 have a3V:=b6f X G (c.fact 89 (f:=.int "MOST_PENCE" 1000000000) rfl)
 have a6a:=b6f X G (c.fact 90 (f:=.int "MOST_PART" 1000) rfl)
 have b4j:=b6f X G (c.fact 91 (f:=.int "MOST_DAY" 1000000000000) rfl)
 have a9a:=b6f X G (c.fact 92 (f:=.int "MOST_TIMES" 1000000) rfl)
 have a88:=b6f X G (c.fact 93 (f:=.int "MOST_PAGES" 200) rfl)
 have a1Y:=d3Z (K:=K)
 have b9E:=d6x (K:=K)
 have a5u:=d30 (K:=K)
 have a0S:=d6y (K:=K)
 have r0:=d1u (K:=K)
 have e:=hfa.symm.trans g_law
 cases e
 have b:=FunD.bindsA (ps:=["script"]) P_law fun _ _ _ _ _ _ us hl=>match us,hl with | [_],_=>rfl
 refine ⟨fd_law,fun s v=>b s [v] rfl,fun base _ _=>?_⟩
 have F__law_draws:=c2w (P:=P) (w:=w) (base:=base) c5i c5w a1q c3g
 have F__law_draw:=c4s (P:=P) (w:=w) (base:=base) c7m c7J
 have F__law_names:=c2x c5j c5x a1o a3F F__law_draw
 have F__law_articles:=b5f b79 b8o a06 F__law_draw F__law_names
 have F__law_turn_pages:=b13 b4c b4i a1o a1q b5H F__law_draw
 have F__law_sum_page:=b5h b8b b8q a1q b5H F__law_draw
 have F__law_any_order:=b3d b5D b5L a1o F__law_draw
 have F__law_pages:=c2y c5k c5y a1o b5H a3F b1o a1q F__law_names F__law_turn_pages F__law_draw F__law_sum_page F__law_any_order
 have F__law_near_book:=b3f b5F b5N F__law_draw F__law_names F__law_articles F__law_pages
 have F__law_far_book:=b5g b8a b8p F__law_draw F__law_names F__law_articles F__law_pages
 have F__law_book:=c4r c7l c7I F__law_draw F__law_near_book F__law_far_book
 have F__law_thing:=c2z c5l c5z a1o a06 F__law_draw 4
 have F__law_otherwise:=b3g b5G b5O a7r a1q i9 a06 b1p a0S r0 F__law_thing F__law_draw 3
 have F_is_tuple:=c6H (P:=P) (w:=w) (base:=base) d0m d0z i9 a06 a1q r0
 have F_is_name:=c87 (P:=P) (w:=w) (base:=base) d22 d3c i9 b1p a1q b2C a0S b8s
 have F_are_rows:=c6G d0l d0y i9 a06 a1q b2C a1o r0 F_is_tuple F_is_name
 have F_is_within:=c4v (P:=P) (w:=w) (base:=base) c7p c7M i9 c3g b2D a1Y b9E
 have F_is_articles:=b8Z c3c c3p b2C a89 a7V a3V a6a F_is_tuple F_are_rows F_is_within
 have F_need_articles:=b5i b8c b8r a3U a3W F_is_articles
 have F_is_day:=d1T d4T d42 b4j F_is_within
 have F_is_sum_page:=b80 c3d c3q a3V a9a F_is_within F_is_name
 have F_is_page:=c88 d23 d3d i9 a06 a1q b1p a0S r0 b8G a2H b8l c7G F_need_articles F_is_day F_is_name F_is_sum_page
 have F_are_pages:=c4t c7n c7K i9 a7r a1q b2C b1o a5u a88 F_need_articles F_is_page
 have F__law_within:=b8Y (P:=P) (w:=w) (base:=base) c3b c3o i9 c3g b2D a1Y b9E
 have F__law_is_name:=b60 (P:=P) (w:=w) (base:=base) b9n b9y i9 b1p a1q a0S
 have F__law_is_page:=b61 b9o b9z i9 a06 b1p a1q a0S r0 F__law_within F__law_is_name
 have F__law_are_pages:=b3e b5E b5M i9 a7r a1q b1o a5u F__law_is_page
 have F_need_pages:=c2B c5n c5B a7t a7x F_are_pages
 have F_faults:=d1S d4S d41 F_need_pages
 have F_names_in:=c6I (P:=P) (w:=w) (base:=base) d0n d0A a3F b1o
 have F_men:=d9W P_men g_men F_need_pages F_names_in
 have F_chests_at:=c4u c7o c7L F_need_pages
 have F_need_man:=c6J d0o d0B F_need_pages
 have F_on_books:=c6K d0p d0C F_need_man
 have F_paid_days:=c4y c7s c7P F_need_man
 have F_first_over:=c2A c5m c5A F_need_man
 have F_earned:=d1R d4R d40 F_need_man
 have F_had:=d9U P_had g_had F_need_man
 have F_left:=d7k P_left g_left F_need_man
 have F_next_sent:=c4x c7r c7O F_need_man
 have F_sent_on:=c89 d24 d3e F_need_man
 have F_room:=d7l P_room g_room F_need_man
 have F_paid_off:=c6L d0q d0D F_need_man
 have F_when_earned:=b82 c3f c3s F_need_man
 have F_need_both:=c4w c7q c7N F_need_pages
 have F_ranks_unlike:=b65 b9s b9D F_need_both
 have F_sums_unlike:=b81 c3e c3r F_need_both
 have F_first_unlike:=b64 b9r b9C F_ranks_unlike
 have F__law_asked:=c2v c5h c5v F_faults F_men F_chests_at F_on_books F_paid_days F_first_over F_earned F_had F_left F_next_sent F_sent_on F_room F_paid_off F_when_earned F_ranks_unlike F_sums_unlike F_first_unlike
 have a61:=b62 (P:=P) (w:=w) (base:=base) b9p b9A i9 a84 a1o kt c3l c7D a3U c3k c7F c7E c3m a7t b8m a7U b4h c3n c7H b8n
 have F__law_refusal:=b63 b9q b9B kt b1q F__law_asked a61
 have F__law_men:=c6F (P:=P) (w:=w) (base:=base) d0k d0x a3F b1o
 exact d9V P_law g_law a1q b5H d8d a1o a06 i9 b2D a7r a1Y F__law_draws F__law_book F__law_draw F__law_otherwise F__law_thing F_are_pages F__law_are_pages F__law_refusal F_men F__law_men
end Cw
end
open PySem PySem.W PySem.Calls PyProof.Rows
theorem PySem.Challenge.cw_crewpay_k04_what_are_pages_holds : PySem.Challenge.rw_crewpay_k04_what_are_pages.Holds := by
 refine Cw.early ?_
 refine L2.walk_ofE (l:=PySem.Challenge.rw_crewpay_k04_what_are_pages) (n:=63) (k:=13) (x := "script") (CX:=L2.CX0) rfl (by decide) (by kernel_rfl) ⟨rfl,by decide,by decide⟩ ?F (fun _ _ _ _ z=>z)
 intro w mg fa h Y G hmg0
 obtain ⟨K,KX,c,kx⟩:=Y
 have hmg:mg ("law" : PySem.Str) = some (.ref fa):=by
  have e:(a0K (a6H PySem.Challenge.rw_crewpay_k04_what_are_pages).prog 133).name = ("law" : PySem.Str):=Cw.fin_n
  rw [← e]
  exact hmg0
 obtain ⟨fd,hb,hF⟩:=Cw.facts (P:=(PySem.Challenge.rw_crewpay_k04_what_are_pages).prog) (w:=w) KX G hmg c kx
 exact ⟨K,fd,Aq.spOf K Cw.c_law,KX,hb,fun H a ns hl _ hS=>Aq.law_start hS fun P PX h=>Cw.law_go ns hl P PX h,hF⟩

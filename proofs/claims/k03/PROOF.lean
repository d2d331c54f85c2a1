import PyProof.Rows.All
import Wide.All
import OpenK.AllK
import Wide.FinOn
import HandS.HeadHook1
import HandS.HeadHook2
import HandS.HeadHook3
import HandS.HeadHook4
import HandS.ExcInit
import KE.KStateDown
import Lean
import HandS.Base
import HandS.Call
import HandS.Ends
import HandS.More
import HandS.Words
import HandS.WordsExc
import HandS.Defaults
import HandS.Head0
import HandS.Head1
import HandS.Head2
import HandS.HeadEnd
import PySem.Challenge.RW_crewpay_k03_what_is_a_page
import HandS.ForMost
import HandS.Set
import HandS.SetFor
import HandS.ForExc
import HandS.Flow
import HandS.IsInst
import HandS.Wide
import HandS.WideBits
import HandS.TupAny
import HandS.Deep
import HandS.SortInts
import HandS.CallSlots
import KE.SortData
import HandS.Style
import HandS.HotCalls
import HandS.ExcCtx
import HandS.ExcIs
import HandS.TupSets
import KE.KDictCopyH
import HandS.Conv
import KE.GoesMore
import HandS.Iter
import HandS.Codes
set_option Elab.async false
set_option linter.all false
set_option maxRecDepth 100000
set_option maxHeartbeats 3200000
open PySem.W renaming Frag → b0, view → a0L, dataLe → a1s, EachIs → a1T, AllAlike → a2h, keepIn → a4w, exmOne → a6e, kitOne → a6f, boot_heap → b0n, openGood → b2W, SharedT → b4c, recOk → c0n, nsIn → c3t, xlAt → c3u, Sortable → c35, dataKind → c5F, sortingHeap → c5V, findIn → c7Y, keyToksAll → c86, Hook → d2p, dataKind_inv → d2u
open L2 renaming pa_cons → c6, tCons → d3, pe_int → d6, pa_nil → d8, pss_cons → f8, tVar → i3, defScope → i4, pss_one → j6, ix_seq → n6, tNil → p7, tCall → r8, pe_op → t4, pe_str → t5, gName → t8, pe_ix → v9, ps_ret → w4, pe_callB → y5, ps_set → z4, pt_cmpR → z6, pss_nil → a0d, nomark → a0i, defBody → a0r, FnScope → a0B, upd_same → a0C, defArgs → a0N, pg_name → a0O, pe_lst → a02, tSeq → a1a, call_len → a1v, ps_if → a1F, pe_glob → a1H, tTest → a1L, pe_tup → a1U, upd_ne → a1V, op_pow → a13, pt_not → a14, tNext → a2k, op_eqD → a2R, blkOk_by → a2U, ne_of_none → a26, tAsg → a27, St → a3j, pe_callTy → a3H, tRet → a3I, wp_if_neg → a4x, pe_andT → a4E, wipe_length → a4F, pe_cmpR → a5d, pe_bl → a5I, Same → a5K, tIfS → a6k, ps_expr → a6O, pts_nil → a6P, call_tuple_of → a7E, keyIs_shape → a7L, pw_or1 → a9n, rest → a9o, tLst → b0j, pi_range1 → b0o, mixKind → b1s, op_mulW → b1t, pps_cons → b1u, pw_or → b1v, pe_one → b2X, tAndT → b3k, op_fdivW → b55, pgs_cons → b56, tTup → b57, liveOf → b61, tNot → b8X, keyIs → c0s, ps_for → c0t, set_list → c0u, wp_if_pos → c0v, rEqD → c1V, tDrop → c17, tYes → c18, mt_append → c5S, op_mod → c5T, pe_lc → c5U, oAt_set_ne → c87, op_neD → c88, ps_asg → c89, wipe → c9a, po_some → c9P, pw_and1 → c9Q, rAppend → c9R, CallR → d2g, call_list_of → d2s, iRng1 → d2v, pe_bm → d2w, pg_sub → d2x, pw_and → d2y
open PySem renaming PyData → c8, wpAny_bind → e9, World → i6, wpAny_pure → j7, sizeLine → k8, Value → m6, Addr → v4, FuncData → w8, starEach → z5, Shared → z7, wpAny_holding → a1w, sizeLine_eq → a1I, Program → a2q, Paired → a22, wpAny → a3J, wpAny_setState_of → a31, SetTable → a5c, model → a55, scanBound → a7M, cLine → a82, wpAny_storeSet_of → b0p, importedModules → b4e, compEnvC → b54, Around → b6Y, wpAny_seqItems → b62, Heap → b8V, cellsFrom → c0q, compareOp → c0r, OsState → c12, fits_of_scanBound → c15, ofAClassStatement → c16, wpAny_rule → c19, setAddHashed → c3v, wpAny_forIn_list → c36, Reads → c5Q, codeAny_builtin → c5R, intText? → c7Z, wpAny_listPart → c71, ReadsAll → c9M, eval → c9O, backTo → d2r, codeAny_mono → d2t, wpAny_eqIsQuiet_tuple → d2z, wpAny_typeOf → d2A
open List renaming mem_cons_self → e6, mem_map → e7, mem_cons_of_mem → e8, replicate → g5, map_cons → i8, getElem?_eq_some_iff → j2, length_map → j3, getElem?_set_ne → j4, getElem?_eq_getElem → j5, getElem?_set_self → j8, mem_singleton_self → m9, all_eq_true → n3, mem_cons → n8, length_set → o8, getElem?_eq_none → s0, length_cons → v6, mem_of_getElem? → v7, mem_append → v8, map_map → w7, getElem?_map → z8, mem_append_left → a0o, append_nil → a1b, nil_append → a1c, nodup_cons → a1d, range → a1j, mem_map_of_mem → a1p, length_append → a2i, mem_append_right → a2j, getElem?_append_left → a2p, pairwise_map → a2y, mem_range → a25, find?_cons → a3G, mem_of_mem_take → a37, getElem_of_mem → a4B, map_congr_left → a4C, mem_nil_iff → a6N, mem_of_mem_drop → a7f, length → a7K, getD_eq_getElem?_getD → a80, getElem?_append_right → a81, all_map → a9l, mem_singleton → a9m, filterMap_cons_some → b0k, getElem?_replicate → b1q, length_take → b2V, length_singleton → b4b, nodup_nil → b6Z, mergeSort_perm → b8W, any_cons → c0j, pairwise_cons → c0k, ext_getElem? → c1Z, size_toArray → c10, filter_cons → c3Z, getElem_mem → c30, length_drop → c31, not_mem_nil → c32, take_length → c33, mem_filter → c5M, perm_append_singleton → c7L, drop_eq_getElem_cons → c7X, getElem?_cons_succ → c9J, getElem?_cons_zero → c9K, drop_eq_nil_of_le → d1S, length_filter_le → d2j, map_nil → d2k, singleton_append → d2l, take_append_drop → d2m
open PySem.PyData renaming eqv → i7, int → m7, str → v5, strOk → a0j, bool → a0v, eqvAll → a0V, depth → a01, canLay0 → a09, depthAll → a1f, canLayAll0 → a1W, tuple → a2Q, list → c5P
open Bool renaming and_eq_true → m5, true_and → y0, false_eq_true → z9, false_and → a08, not_true → a5b, and_false → a9K, not_eq_true → b2T, false_ne_true → c0i, eq_iff_iff → c5K, not_false → c7U, and_eq_true_iff → d3H
open PySem.Str renaming ofString → m8, ofString → a0q, ofString_eq_toList → a5L, length → c14
open He renaming glo_ok → n9, ga → a0F, DefD → a0Y, free_ok → a2g, int_ok → b4a
open PySem.Heap renaming get?_push_of_some → r6, get?_push_size → a0Z, size_push → a6d, lt_size → a6h, SameBut → a9k
open Option.some renaming inj → r9, injEq → a0g
open Array renaming length_toList → t7, getElem?_toList → a6g, all_eq_true' → c0h, getD_eq_getD_getElem? → c5J
open PySem.SetTable renaming bits → y3, grown → a0z, below → a1t, turns → a1u, sizeAbove → a3r, insertAt → c13, Probe → c70, fill → c9N
open PySem.F renaming plainAttrs_list → a0a, called_set → a1G, slot_list_append → a2z, type_list_append → a2A, slot_list_extend → c81, slot_list_insert → c82, type_list_extend → c83, type_list_insert → c84, slot_dict_get → d2n
open Nat renaming le_trans → a0f, le_refl → a1e, zero_le → a4D, ne_of_lt → a6i, lt_succ_of_lt → b0l, le_of_eq → c3s, le_add_right → c34, le_succ → c5N, lt_succ_iff → c5O, add_le_add_right → d3I
open PySem.SeqAt renaming shaped → a0k
open Option renaming map_some → a0l, map_eq_none_iff → d1T
open HandSHeadRun renaming topDef → a0u, looksF → a7I, RunEq → a9i, seenQ → a9j
open Int renaming emod_lt_of_pos → a0K, emod_nonneg → a1y, toNat_natCast → c1X, le_trans → d2h
open PySem.PassesOwn renaming never → a0M
open PySem.Value renaming ref → a1z, type → c85
open Prod.mk renaming injEq → a2S
open Prod renaming snd → a2T, fst → b1r
open Eq renaming trans → a3Z
open PyProof.Rows renaming sortedHeap → a30, seqObj → a6j
open PyProof.Rows.F renaming plain_set_update_loop → a4v, entry_set_update_loop → b60
open PySem.W.OpenLaw renaming row → a54
open PySem.Heap.SameBut renaming update → a7J
open L2.PW renaming pt → b0m
open L2N renaming CX → b2U, takes_of → d2i
open L2.V renaming ref → b4d
open PySem.Paired renaming length → c0l
open PySem.W.KFB renaming if_not → c0m
open PySem.Txt renaming join → c0o
open L2.Vals renaming ref1 → c0p
open List.Pairwise renaming nil → c1Y
open PySem.Obj renaming putSet → c11
open PySem.Builtin.List renaming listSubscript? → c5L, listAllItems → c7V, listSameRef → c8Z
open PySem.Calls renaming call_function_entry → c7W
open Char renaming toNat → c80
open PySem.W.Sortable renaming others → c9L
open PySem.SetTable.layClean renaming free → d1U
open PySem.W.Frag.In renaming keeps → d2o
open PySem.SeqAt.ReadsAll renaming length → d2q
open PySem.Around renaming under_plainId → d3G
namespace Aq
open PySem PySem.Spec PyProof.Rows L2 Da
section
open He
def kNs:List Str:=["NoArticles", "NoMan", "NoPage", "NoPages", "NoRank", "NoRow", "NoSum", "NoText", "NotThere", "NothingLeft", "TooMany", "Twice"]
def kYs:List Str:=["Faulty", "NoArticles", "NoMan", "NoPage", "NoPages", "NoRank", "NoRow", "NoSum", "NoText", "NotThere", "NothingLeft", "TooMany", "TooMuch", "Twice", "ValueError"]
abbrev evK (K:b0):Str → m6:=fun x=>.ref (a0F K x)
def excB (K:b0) (x:Str):Bool :=
 eqO (c7Y K (.ref (ga K x)) "__getattribute__") (some (some (.builtin "BaseException.__getattribute__"))) &&
 (eqO (c7Y K (.ref (ga K x)) "__getattr__") (some none) &&
 (decide (PySem.W.subIn K (.ref (ga K x)) (.type "BaseException") = some true) &&
 (PySem.W.hasDictIn K (ga K x) &&
 (eqO (c7Y K (.ref (ga K x)) "__class__") (some (some (.builtin "object.__class__"))) &&
 (eqO (PySem.W.specialIn K (.builtin "object.__class__") "__get__") (some (some (.builtin "getset_descriptor.__get__"))) &&
 (decide (PySem.W.takesIn K (.builtin "object.__class__") = some true) &&
 decide (PySem.W.mroIn K (ga K x) (.type "object") = some true)))))))
def cvK (K:b0) (y:Str):m6:=if y = "ValueError" then .type "ValueError" else .ref (ga K y)
def c8m (K:b0) (ns ys:List Str):Bool:=ns.all fun x=>excB K x && (decide (a6e K (.ref (ga K x)) (.ref (ga K "WageError")) = some true) && ys.all fun y=>decide (a6f K (.ref (ga K x)) (cvK K y) = some (x == y || y == "ValueError")))
def b5o (tab:List (Str × Int)) (z:Str):Option Int:=(tab.find? fun p=>decide (p.1 = z)).map (·.2)
def tabB (K:b0) (a:v4) (tab:List (Str × Int)):Bool:=tab.all fun q=>match c3t K a q.1,b5o tab q.1 with
 | some (some (.int u _)),some i=>decide (u = i)
 | _,_=>false
def c8P:List Str → List m6 → Bool
 | [],[]=>true
 | x :: xs,.str y _ :: vs=>decide (y = x) && c8P xs vs
 | _,_=>false
def d0V (K:b0) (a:v4) (xs:List Str):Bool:=match K.lookup a with
 | some ⟨.type c,_,.seq its _,_⟩=>decide (c = "tuple") && (c8P xs its.toList && decide (its.size ≤ 100))
 | _=>false
def obsF (n:Nat) (fa:List Fa) (fn:List DefD) (ts:List Tab) (ex:b0 → Bool) (g:v4 → Option Obj):Bool × AlT:=(ex (frG g (asD g n)),obsTG n fa fn ts g)
def hookF (n:Nat) (fa:List Fa) (fn:List DefD) (ts:List Tab) (ex:b0 → Bool):d2p where
 α:=Bool × AlT
 obs:=fun s=>obsF n fa fn ts ex s.heap.get?
 val:=fun w=>(true,valT fn ts w)
 says:=fun w h=>∃ K:b0,K.In h ∧ SaysT fa fn ts w K ∧ ex K = true
 of:=fun _ _ e=>⟨_,frG_in,congrArg a2T e,congrArg b1r e⟩
 keeps:=fun _ _ _ ⟨K,hK,c⟩ k=>⟨K,d2o hK k,c⟩
theorem obsF_eq {n:Nat} {fa:List Fa} {fn:List DefD} {ts:List Tab} {ex:b0 → Bool} {g:v4 → Option Obj} {s:z7} (h:∀ a,g a = s.heap.get? a):obsF n fa fn ts ex g = (hookF n fa fn ts ex).obs s:=by
 have e:g = s.heap.get?:=funext h
 rw [e] <;> rfl
end
end Aq
namespace Aq
open PySem PySem.Spec PyProof.Rows L2 Da
end Aq
namespace Aq
open PySem PySem.Spec PyProof.Rows L2
end Aq
set_option maxHeartbeats 0
namespace Aq
open PySem PySem.Spec PyProof.Rows L2 Da
section
open He
/-- as hookF, over written addresses -/
def obsL (as:List v4) (fa:List Fa) (fn:List DefD) (ts:List Tab) (ex:b0 → Bool) (g:v4 → Option Obj):Bool × AlT:=(ex (frG g as),obsT fa fn ts (frG g as))
def d2R (as:List v4) (fa:List Fa) (fn:List DefD) (ts:List Tab) (ex:b0 → Bool):d2p where
 α:=Bool × AlT
 obs:=fun s=>obsL as fa fn ts ex s.heap.get?
 val:=fun w=>(true,valT fn ts w)
 says:=fun w h=>∃ K:b0,K.In h ∧ SaysT fa fn ts w K ∧ ex K = true
 of:=fun _ _ e=>⟨_,frG_in,congrArg a2T e,congrArg b1r e⟩
 keeps:=fun _ _ _ ⟨K,hK,c⟩ k=>⟨K,d2o hK k,c⟩
theorem d00 {as:List v4} {fa:List Fa} {fn:List DefD} {ts:List Tab} {ex:b0 → Bool} {g:v4 → Option Obj} {s:z7} (h:∀ a,g a = s.heap.get? a):obsL as fa fn ts ex g = (d2R as fa fn ts ex).obs s:=by
 have e:g = s.heap.get?:=funext h
 rw [e] <;> rfl
theorem d3p {σ:Type} {E:Option σ} {k:σ → b0} {fa:List Fa} {fn:List DefD} {ts:List Tab} {ex:b0 → Bool} {w:i6} (h1:E.map (fun s=>(ex (k s),fa.all fun f=>f.ok (k s))) = some (true,true))
  (h2:E.map (fun s=>(fn.all fun d=>d.ok (k s),fn.map fun d=>fnW (k s) d.at_,ts.map fun t=>dicW (k s) (t.1 (k s)))) = some (true,fn.map DefD.val,ts.map fun t=>some (keysIn w.params t.2))):E.map (fun s=>(ex (k s),obsT fa fn ts (k s))) = some (true,valT fn ts w):=by
 cases E with
 | none=>cases h1
 | some s =>
  simp only [a0l,a0g,a2S] at h1 h2
  unfold obsT obsD valT valD
  rw [a0l,h1.1,h1.2,h2.1,h2.2.1,h2.2.2]
  rfl
end
end Aq
namespace Cw
open PySem PySem.Spec PyProof.Rows L2 Aq
def top (i:Nat):Stmt:=PySem.Challenge.pw_crewpay_k03_what_is_a_page.main.body.getD i (.Pass ⟨0,0,0,0⟩)
def nm0:List Str:=["WageError", "NoArticles", "NoPages", "NoPage", "NoRank", "NoSum", "NoMan", "Faulty", "TooMuch", "Twice", "TooMany", "NotThere", "NothingLeft", "NoText", "NoRow", "MOST_RANKS", "MOST_CHESTS", "MOST_PENCE", "MOST_PART", "LETTERS", "is_within", "is_name", "is_tuple", "are_rows", "is_articles", "need_articles", "MOST_DAY", "MOST_TIMES", "MOST_PAGES", "LENGTHS"]
def nm1:List Str:=["TURNS", "is_day", "is_sum_page", "is_page", "are_pages", "_law_kind_of", "_law_draws", "_law_draw", "_law_names", "_law_articles", "_law_turn_pages", "_law_sum_page", "_law_any_order", "_law_pages", "_law_near_book", "_law_far_book", "_law_book", "_law_thing", "_law_otherwise", "_law_within", "_law_is_name", "_law_is_page", "_law_named_rows", "_law_is_articles", "_law_edges", "_law_refused"]
def names:List Str:=nm0 ++ nm1
def b2Z:a0Y:=⟨("_law_draws",none), "_law_draws", "_law_draws",a0N (top 40),a0r (top 40),i4 (top 40),[],[]⟩
def b4n:a0Y:=⟨("_law_draw",none), "_law_draw", "_law_draw",a0N (top 41),a0r (top 41),i4 (top 41),[],[]⟩
def b21:a0Y:=⟨("_law_names",none), "_law_names", "_law_names",a0N (top 42),a0r (top 42),i4 (top 42),[],[]⟩
def a7S:a0Y:=⟨("_law_articles",none), "_law_articles", "_law_articles",a0N (top 43),a0r (top 43),i4 (top 43),[],[]⟩
def a6o:a0Y:=⟨("_law_turn_pages",none), "_law_turn_pages", "_law_turn_pages",a0N (top 44),a0r (top 44),i4 (top 44),[],[]⟩
def a7U:a0Y:=⟨("_law_sum_page",none), "_law_sum_page", "_law_sum_page",a0N (top 45),a0r (top 45),i4 (top 45),[],[]⟩
def a7g:a0Y:=⟨("_law_any_order",none), "_law_any_order", "_law_any_order",a0N (top 46),a0r (top 46),i4 (top 46),[],[]⟩
def b22:a0Y:=⟨("_law_pages",none), "_law_pages", "_law_pages",a0N (top 47),a0r (top 47),i4 (top 47),[],[]⟩
def a7h:a0Y:=⟨("_law_near_book",none), "_law_near_book", "_law_near_book",a0N (top 48),a0r (top 48),i4 (top 48),[],[]⟩
def a7T:a0Y:=⟨("_law_far_book",none), "_law_far_book", "_law_far_book",a0N (top 49),a0r (top 49),i4 (top 49),[],[]⟩
def b4m:a0Y:=⟨("_law_book",none), "_law_book", "_law_book",a0N (top 50),a0r (top 50),i4 (top 50),[],[]⟩
def b20:a0Y:=⟨("_law_edges",none), "_law_edges", "_law_edges",a0N (top 58),a0r (top 58),i4 (top 58),[],[]⟩
def b23:a0Y:=⟨("_law_thing",none), "_law_thing", "_law_thing",a0N (top 51),a0r (top 51),i4 (top 51),[],[]⟩
def a7i:a0Y:=⟨("_law_otherwise",none), "_law_otherwise", "_law_otherwise",a0N (top 52),a0r (top 52),i4 (top 52),[],[]⟩
def b65:a0Y:=⟨("is_tuple",none), "is_tuple", "is_tuple",a0N (top 24),a0r (top 24),i4 (top 24),[],[]⟩
def c0B:a0Y:=⟨("is_name",none), "is_name", "is_name",a0N (top 23),a0r (top 23),i4 (top 23),[],[]⟩
def b64:a0Y:=⟨("are_rows",none), "are_rows", "are_rows",a0N (top 25),a0r (top 25),i4 (top 25),[],[]⟩
def b4p:a0Y:=⟨("is_within",none), "is_within", "is_within",a0N (top 22),a0r (top 22),i4 (top 22),[],[]⟩
def b0w:a0Y:=⟨("is_articles",none), "is_articles", "is_articles",a0N (top 26),a0r (top 26),i4 (top 26),[],[]⟩
def a7V:a0Y:=⟨("need_articles",none), "need_articles", "need_articles",a0N (top 27),a0r (top 27),i4 (top 27),[],[]⟩
def c3x:a0Y:=⟨("is_day",none), "is_day", "is_day",a0N (top 34),a0r (top 34),i4 (top 34),[],[]⟩
def b0x:a0Y:=⟨("is_sum_page",none), "is_sum_page", "is_sum_page",a0N (top 35),a0r (top 35),i4 (top 35),[],[]⟩
def c0C:a0Y:=⟨("is_page",none), "is_page", "is_page",a0N (top 36),a0r (top 36),i4 (top 36),[],[]⟩
def b0v:a0Y:=⟨("_law_within",none), "_law_within", "_law_within",a0N (top 53),a0r (top 53),i4 (top 53),[],[]⟩
def a9p:a0Y:=⟨("_law_is_name",none), "_law_is_name", "_law_is_name",a0N (top 54),a0r (top 54),i4 (top 54),[],[]⟩
def a9q:a0Y:=⟨("_law_is_page",none), "_law_is_page", "_law_is_page",a0N (top 55),a0r (top 55),i4 (top 55),[],[]⟩
def a6n:a0Y:=⟨("_law_named_rows",none), "_law_named_rows", "_law_named_rows",a0N (top 56),a0r (top 56),i4 (top 56),[],[]⟩
def a5S:a0Y:=⟨("_law_is_articles",none), "_law_is_articles", "_law_is_articles",a0N (top 57),a0r (top 57),i4 (top 57),[],[]⟩
def b4o:a0Y:=⟨("are_pages",none), "are_pages", "are_pages",a0N (top 37),a0r (top 37),i4 (top 37),[],[]⟩
def a9r:a0Y:=⟨("_law_kind_of",none), "_law_kind_of", "_law_kind_of",a0N (top 39),a0r (top 39),i4 (top 39),[],[]⟩
def a9s:a0Y:=⟨("_law_refused",none), "_law_refused", "_law_refused",a0N (top 59),a0r (top 59),i4 (top 59),[],[]⟩
def d2L:a0Y:=⟨("law",none), "law", "law",a0N (top 60),a0r (top 60),i4 (top 60),[],[]⟩
def fn:List a0Y:=[b2Z,b4n,b21,a7S,a6o,a7U,a7g,b22,a7h,a7T,b4m,b20,b23,a7i,b65,c0B,b64,b4p,b0w,a7V,c3x,b0x,c0C,b0v,a9p,a9q,a6n,a5S,b4o,a9r,a9s,d2L]
def fa:List He.Fa:=[.glo "_law_draws",.glo "_law_draw",.glo "_law_names",.glo "_law_articles",.glo "_law_turn_pages",.glo "_law_sum_page",.glo "_law_any_order",.glo "_law_pages",.glo "_law_near_book",.glo "_law_far_book",.glo "_law_book",.glo "_law_edges",.glo "_law_thing",.glo "_law_otherwise",.glo "is_tuple",.glo "is_name",.glo "are_rows",.glo "is_within",.glo "is_articles",.glo "need_articles",.glo "is_day",.glo "is_sum_page",.glo "is_page",.glo "_law_within",.glo "_law_is_name",.glo "_law_is_page",.glo "_law_named_rows",.glo "_law_is_articles",.glo "are_pages",.glo "_law_kind_of",.glo "_law_refused",.glo "law",.free "len",.free "int",.free "range",.free "sorted",.free "tuple",.free "min",.free "set",.free "list",.free "isinstance",.free "str",.free "all",.free "bool",.free "ValueError",.free "max",.glo "NoArticles",.glo "LENGTHS",.glo "TURNS",.glo "NoPage",.glo "NoMan",.glo "Faulty",.glo "NoSum",.glo "NoRow",.glo "NoRank",.glo "NoPages",.glo "TooMany",.glo "NothingLeft",.glo "NotThere",.glo "NoText",.glo "Twice",.glo "TooMuch",.glo "WageError",.exc "NoArticles",.str "LETTERS" "abcdefghijklmnopqrstuvwxyz",.int "MOST_RANKS" 12,.int "MOST_CHESTS" 6,.int "MOST_PENCE" 1000000000,.int "MOST_PART" 1000,.int "MOST_DAY" 1000000000000,.int "MOST_TIMES" 1000000,.int "MOST_PAGES" 200]
abbrev R:PySem.W.OpenRow:=PySem.W.OpenLaw.row PySem.Challenge.rw_crewpay_k03_what_is_a_page
def exL (K:b0):List Bool:=[c8m K kNs kYs,d0V K (a0F K "TURNS") ["joins", "ranked", "leaves"],tabB K (a0F K "LENGTHS") [("joins",4),("ranked",4),("leaves",3),("away",4),("advance",5),("home",6),("slops",5),("fine",4),("lost",3)]]
def exK:b0 → Bool:=fun K=>(exL K).all id
def ts:List He.Tab:=[(fun K=>a0F K "LENGTHS",["joins", "ranked", "leaves", "away", "advance", "home", "slops", "fine", "lost"])]
def asB:List v4:=List.range' 210 200
def asM:List v4:=[0,2,4,6,22,23,24,25,35,36,37,47,48,49,59,60,61,71,72,73,83,84,85,95,96,97,112,113,114,115,116,131,132,133,134,135,145,146,147,157,158,159,169,170,171,181,182,183,193,194]
def asN:List v4:=[195,205,206,207]
def asL:List v4:=3 :: (asB ++ (asM ++ asN))
section
open PySem.W PySem.Calls
theorem fin_e:opening R.prog = plainProg R.prog.main.scope.names:=by kernel_rfl
theorem fin_f:∀ s,fenceModules? R.prog s = some s:=fun s=>by kernel_rfl
theorem fin_d:defOf (view R.prog [60]) R.name = some (a0u R.prog 60,[]):=by kernel_rfl
theorem fin_p:R.prog.theDef R.name = some ((a0u R.prog 60).params,(a0u R.prog 60).body,(a0u R.prog 60).scope):=by kernel_rfl
theorem fin_k:kwWritten? (a0u R.prog 60).params.kwonlyargs (a0u R.prog 60).params.kw_defaults = some []:=by kernel_rfl
theorem d2M:chainsOk (view R.prog [60]) = true:=by decide +kernel
theorem d2N:opensWell R.prog = true:=by decide +kernel
theorem d2O:(frees R.toRowW && R.within.isEmpty) = true:=by decide +kernel
theorem fin_o:(chainsOk (view R.prog [60]) && opensWell R.prog && (frees R.toRowW && R.within.isEmpty)) = true:=d3H.mpr ⟨d3H.mpr ⟨d2M,d2N⟩,d2O⟩
theorem fin_b:R.prog.bare:=⟨rfl,rfl,rfl,rfl,rfl,by decide +kernel⟩
theorem fin_n:(a0u R.prog 60).name = ("law" : PySem.Str):=by kernel_rfl
end
abbrev hk:d2p:=d2R asL fa fn ts exK
def kS (s:b4c):b0:=He.frG (HandSHeadRun.getT s) asL
def ob (s:b4c):Bool × He.AlT:=(exK (kS s),He.obsT fa fn ts (kS s))
theorem ob_eq (s:b4c):ob s = hk.obs s.abs:=by
 have e:=d00 (as:=asL) (fa:=fa) (fn:=fn) (ts:=ts) (ex:=exK) (HandSHeadRun.getT_eq s)
 rw [← e]
 unfold ob obsL kS
 rfl
noncomputable def c5G (b:Bool) (w:i6) (os:c12):Option b4c:=HandSHeadRun.endF (HandSHeadRun.stepQ (HandSHeadRun.denQ HandSHeadRun.tabQ) R.prog (w.withFollow "special-get-raises" b)) 20000 R.prog (w.withFollow "special-get-raises" b) os
theorem c9A {b:Bool} {w:i6} {os:c12} (h1:(c5G b w os).map (fun s=>(a7I R.prog (b0n (w.withFollow "special-get-raises" b).params) s.abs,a9j (a0L R.prog [60]) names (b4e R.prog.main.body) (fun s=>c3u (a0L R.prog [60]) [] s && c0n R.toRowW.records s) s.abs)) = some (true,b2W (a0L R.prog [60]) names))
  (h2:(c5G b w os).map (fun s=>(exK (kS s),fa.all fun f=>f.ok (kS s))) = some (true,true)) (h3:(c5G b w os).map (fun s=>(fn.all fun d=>d.ok (kS s),fn.map fun d=>He.fnW (kS s) d.at_,ts.map fun t=>He.dicW (kS s) (t.1 (kS s)))) = some (true,fn.map He.DefD.val,ts.map fun t=>some (He.keysIn (w.withFollow "special-get-raises" b).params t.2))) :
  (c5G b w os).map (fun s=>(a7I R.prog (b0n (w.withFollow "special-get-raises" b).params) s.abs,a9j (a0L R.prog [60]) names (b4e R.prog.main.body) (fun s=>c3u (a0L R.prog [60]) [] s && c0n R.toRowW.records s) s.abs,ob s)) = some (true,b2W (a0L R.prog [60]) names,(true,He.valT fn ts (w.withFollow "special-get-raises" b))):=by
 have h4:=d3p (E:=c5G b w os) (k:=kS) (fa:=fa) (fn:=fn) (ts:=ts) (ex:=exK) (w:=w.withFollow "special-get-raises" b) h2 h3
 generalize c5G b w os = E at h1 h4 ⊢
 cases E with
 | none=>cases h1
 | some s =>
  rw [a0l] at h1 h4 ⊢
  have h1:=r9 h1
  have h4:ob s = _:=r9 h4
  rw [h4,(Prod.mk.inj h1).1,(Prod.mk.inj h1).2]
theorem c42 (w:i6) (os:c12):(c5G false w os).map (fun s=>(a7I R.prog (b0n (w.withFollow "special-get-raises" false).params) s.abs,a9j (a0L R.prog [60]) names (b4e R.prog.main.body) (fun s=>c3u (a0L R.prog [60]) [] s && c0n R.toRowW.records s) s.abs)) = some (true,b2W (a0L R.prog [60]) names):=by
 kernel_rfl
theorem c43 (w:i6) (os:c12):(c5G false w os).map (fun s=>(exK (kS s),fa.all fun f=>f.ok (kS s))) = some (true,true):=by
 kernel_rfl
theorem c44 (w:i6) (os:c12):(c5G false w os).map (fun s=>(fn.all fun d=>d.ok (kS s),fn.map fun d=>He.fnW (kS s) d.at_,ts.map fun t=>He.dicW (kS s) (t.1 (kS s)))) = some (true,fn.map He.DefD.val,ts.map fun t=>some (He.keysIn (w.withFollow "special-get-raises" false).params t.2)):=by
 kernel_rfl
theorem c6S (w:i6):a9i R (a0L R.prog [60]) hk ob 20000 names (w.withFollow "special-get-raises" false):=fun os=>c9A (c42 w os) (c43 w os) (c44 w os)
theorem c6P (w:i6) (os:c12):(c5G true w os).map (fun s=>(a7I R.prog (b0n (w.withFollow "special-get-raises" true).params) s.abs,a9j (a0L R.prog [60]) names (b4e R.prog.main.body) (fun s=>c3u (a0L R.prog [60]) [] s && c0n R.toRowW.records s) s.abs)) = some (true,b2W (a0L R.prog [60]) names):=by
 kernel_rfl
theorem c6Q (w:i6) (os:c12):(c5G true w os).map (fun s=>(exK (kS s),fa.all fun f=>f.ok (kS s))) = some (true,true):=by
 kernel_rfl
theorem c6R (w:i6) (os:c12):(c5G true w os).map (fun s=>(fn.all fun d=>d.ok (kS s),fn.map fun d=>He.fnW (kS s) d.at_,ts.map fun t=>He.dicW (kS s) (t.1 (kS s)))) = some (true,fn.map He.DefD.val,ts.map fun t=>some (He.keysIn (w.withFollow "special-get-raises" true).params t.2)):=by
 kernel_rfl
theorem c8C (w:i6):a9i R (a0L R.prog [60]) hk ob 20000 names (w.withFollow "special-get-raises" true):=fun os=>c9A (c6P w os) (c6Q w os) (c6R w os)
theorem run (w:i6):a9i R (a0L R.prog [60]) hk ob 20000 names w:=PySem.W.byRow2 "special-get-raises" (P:=fun w=>a9i R (a0L R.prog [60]) hk ob 20000 names w) c6S c8C w
end Cw
section
open PySem PySem.W PySem.Calls PyProof.Rows
theorem Cw.early (hc:WalkO (view (a54 PySem.Challenge.rw_crewpay_k03_what_is_a_page).prog [60]) Cw.names (XL (view (a54 PySem.Challenge.rw_crewpay_k03_what_is_a_page).prog [60]) []) Cw.hk.says (a54 PySem.Challenge.rw_crewpay_k03_what_is_a_page).toRowW (a0u (a54 PySem.Challenge.rw_crewpay_k03_what_is_a_page).prog 60) [] fun f vs=>PySem.call f vs):PySem.Challenge.rw_crewpay_k03_what_is_a_page.Holds:=by
 w_on; o_law
 refine HandSHeadRun.head_any (r:=a54 PySem.Challenge.rw_crewpay_k03_what_is_a_page) (q:=view (a54 PySem.Challenge.rw_crewpay_k03_what_is_a_page).prog [60]) (H:=Cw.hk) (ob:=Cw.ob) (M:=20000) (loose:=Cw.names) (d:=a0u (a54 PySem.Challenge.rw_crewpay_k03_what_is_a_page).prog 60) (kwd:=[]) Cw.ob_eq
  Cw.fin_e Cw.fin_f Cw.run Cw.fin_d Cw.fin_p Cw.fin_k (by rfl) (by assumption) Cw.fin_o Cw.fin_b ?hw ?hc
 case hw=>w_witness2
 case hc=>exact hc
end
set_option maxHeartbeats 3200000
namespace AqS
open PySem PySem.Calls PyProof.Rows L2
/-- a new set's object -/
abbrev fresh (w:i6):Obj:={ cls:=.type "set",dict:=none,data:=.set #[] 0 (.fresh 0 0 (!w.params.followText "set-order")) }
section
variable {P:a2q} {w:i6} {A:b6Y} {E:m6 → z7 → Prop}
/-- J i h: the set at S holds what i addings gave -/
structure Adds (P:a2q) (w:i6) (u:Nat) (h0:b8V) (S:v4) (its:List m6) (J:Nat → b8V → Prop):Prop where
 keep:∀ i h h',J i h → (∀ o,h.get? S = some o → h'.get? S = some o) → (∀ b o,h0.get? b = some o → h'.get? b = some o) → J i h'
 add:∀ (A':b6Y) (E':m6 → z7 → Prop) (i:Nat) (s':z7) (v:m6) (Q:Bool → z7 → Prop),A'.units < u → its[i]? = some v → J i s'.heap → (∀ b o,h0.get? b = some o → s'.heap.get? b = some o) →
  (∀ b h' tk,s'.toks ≤ tk → a9k S s'.heap h' → J (i + 1) h' → Q b { s' with heap:=h',toks:=tk }) → a3J (a55 P w) A' (setAdd S v) Q E' s'
theorem c8T {I:v4} {fp wr:List v4} {G:Array GenState → Array GenState → Prop} {n:Nat} {Pv:Nat → m6 → Prop} {St:Nat → z7 → Prop} {R:Result → z7 → Prop} {u:Nat} {its:List m6} {J:Nat → b8V → Prop} {h0:b8V} {S:v4}
  (Wk:WalksS P w A.in1 I fp wr G n Pv St) (hSf:S ∉ fp) (hn:n = its.length) (hval:∀ i v,Pv i v → its[i]? = some v) (a:Adds P w u h0 S its J) (hS0:h0.get? S = none) (hw0:∀ b ∈ wr,h0.get? b = none) (hu:A.in1.units < u) :
  ∀ (k i:Nat) (s:z7),n - i = k → i ≤ n → St i s → (∀ b o,h0.get? b = some o → s.heap.get? b = some o) → J i s.heap →
   (∀ s',Moved (S :: wr) G s s' → J n s'.heap → (∀ b o,h0.get? b = some o → s'.heap.get? b = some o) → R (.ok (.ret .none)) s') →
   codeAny (a55 P w) A (.builtin "set.update.loop" ⟨[.ref S,.ref I],[]⟩) R s:=by
 have hSw:S ∉ wr:=fun h=>hSf (Wk.sub _ h)
 have hsub:∀ b ∈ wr,b ∈ S :: wr:=fun b hb=>e8 _ hb
 have kp:∀ {s s':z7},Moved wr G s s' → (∀ b o,h0.get? b = some o → s.heap.get? b = some o) → ∀ b o,h0.get? b = some o → s'.heap.get? b = some o:=fun hm q b o e =>
  hm.heap b o (fun hb=>by rw [hw0 b hb] at e; cases e) (q b o e)
 intro k
 induction k with
 | zero =>
  intro i s hk hi hst hkp hJ hR
  obtain rfl:i = n:=by omega
  refine c5R b60 ?_
  rw [d3G a4v _]
  show a3J _ A.in1 (pyNext (.ref I) >>= _) _ _ s
  refine e9 (Wk.done s _ _ hst fun s1 hm=>?_)
  show a3J _ A.in1 (ret Value.none) _ _ s1
  have q:=kp hm hkp
  exact j7 (hR s1 (hm.mono hsub) (a.keep i _ _ hJ (fun o e=>hm.heap S o hSw e) q) q)
 | succ k ih =>
  intro i s hk hi hst hkp hJ hR
  have hlt:i < n:=by omega
  refine c5R b60 ?_
  rw [d3G a4v _]
  show a3J _ A.in1 (pyNext (.ref I) >>= _) _ _ s
  refine e9 (Wk.item i s _ _ hlt hst fun v s1 hP hst1 hm=>?_)
  have hv:=hval i v hP
  have q:=kp hm hkp
  have J1:J i s1.heap:=a.keep i _ _ hJ (fun o e=>hm.heap S o hSw e) q
  show a3J _ A.in1 (holding [v] (setAdd S v) >>= _) _ _ s1
  refine e9 (a1w ?_)
  refine a.add A.in1 _ i s1 v _ hu hv J1 q fun b h2 tk htk hsb J2=>?_
  have q2:∀ b o,h0.get? b = some o → h2.get? b = some o:=fun b o e=>(hsb.2 b (fun z=>by rw [z,hS0] at e; cases e)).trans (q b o e)
  refine j7 ⟨plainId_quiet a4v _,ih (i + 1) _ (by omega) hlt (Wk.frame _ s1 _ _ hst1 htk fun b hb o e=>?_) q2 J2 fun s3 hm3 J3 q3=>?_⟩
  ·rw [hsb.2 b (fun h:b = S=>hSf (by rw [← h]; exact hb))]; exact e
  ·refine hR s3 (Moved.trans Wk.gtrans ((hm.mono hsub).then_heap htk fun b o hb e=>?_) hm3) J3 q3
   rw [hsb.2 b (fun h:b = S=>hb (by rw [h]; exact e6))]; exact e
/-- set(xs) -/
theorem call_set {s:z7} {l:v4} {its:List m6} {J:Nat → b8V → Prop} {u:Nat} {Q:m6 → z7 → Prop} (hh:A.handled = none) (hl:s.heap.IsList l its.toArray) (a:Adds P w u s.heap s.heap.objs.size its J) (hu:A.units + 3 < u)
  (start:∀ h,h.get? s.heap.objs.size = some (fresh w) → (∀ b o,s.heap.get? b = some o → h.get? b = some o) → J 0 h)
  (hq:∀ (h':b8V) (tk:Nat),J its.length h' → (∀ b o,s.heap.get? b = some o → h'.get? b = some o) → Q (.ref s.heap.objs.size) { s with heap:=h',toks:=tk }) :
  a3J (a55 P w) A (call (.type "set") [.ref l]) Q E s:=by
 obtain ⟨c,tl,hmro⟩:=a1G.mro
 have hmade:=a1G.made
 have hsub:=a1G.sub
 refine wpAny_call (codeAny_of_tree ?_)
 show a3J _ _ (callAny (.type "set") _) _ _ _
 refine j7 ⟨Code.quiet_builtin _ (by decide +kernel),c5R PySem.F.entry_type_call ?_⟩
 rw [Around.under_plain (weight_type_call_type "set" [.ref l] []) rfl]
 have k1:=a1G.notType
 have k2:=a1G.canCreate
 have k3:=PySem.F.typeCall_set_1 (.ref l)
 repeat (any_goals (first | assumption | wp_step))
 refine d2t (code_set_led1 (.ref l) (E:=E) (Q₁:=fun obj s₁=>obj = .ref s.heap.objs.size ∧ s₁ = { s with heap:=s.heap.push (fresh w) }) ⟨rfl,rfl⟩) fun r s₁ hr=>?_
 cases r with
 | error e=>exact hr
 | ok fl =>
  cases fl with
  | ret obj =>
   obtain ⟨rfl,rfl⟩:=hr
   have hS:(s.heap.push (fresh w)).get? s.heap.objs.size = some (fresh w):=a0Z _ rfl
   have hT:Shared.TypeIs { s with heap:=s.heap.push (fresh w) } (.ref s.heap.objs.size) "set" := ⟨_,hS,rfl⟩
   have k4:=a1G.init.lookup
   have k5:=a1G.init.bind (.ref s.heap.objs.size)
   repeat (any_goals (first | assumption | wp_step))
   refine d2t (codeAny_call_builtin (R:=wants (fun r s₂=>r = .none ∧ ∃ h' tk,s₂ = { s with heap:=h',toks:=tk } ∧ J its.length h' ∧ (∀ b o,s.heap.get? b = some o → h'.get? b = some o)) E) a1G.init.plain PySem.F.entry_set_init (check_set_init_1 hT ?_)) fun r₂ s₂ hr₂=>?_
   ·obtain ⟨ol,hol,hcl,nl,hdl⟩:=hl
    obtain ⟨ocls,odict,odata,oslots⟩:=ol
    simp only at hcl hdl
    subst hcl; subst hdl
    have hol':(s.heap.push (fresh w)).get? l = some { cls:=.type "list",dict:=odict,data:=.seq its.toArray nl,slots:=oslots }:=r6 _ hol
    have m1:=PySem.F.sub_list_set
    have m2:=PySem.F.sub_list_frozenset
    have m3:(c85 "list" == c85 "dict") = false:=by decide
    have hl1:(s.heap.push (fresh w)).IsList l its.toArray:=⟨_,hol',rfl,nl,rfl⟩
    unfold Builtin.«set.__init__» noKeywords Builtin.Frozenset.updateFrom
    generalize hPI:pyIter = PI
    wp_walk
    subst hPI
    refine wpAny_pyIter_list hl1 ?_
    refine e9 (wpAny_runValue ?_)
    have hlS:l < s.heap.objs.size:=a6h hol
    have hh3:A.in1.in1.in1.handled = none:=by simp [hh]
    have hneI:l ≠ (s.heap.push (fresh w)).objs.size:=by
     rw [a6d]; exact a6i (b0l hlS)
    have hSf:s.heap.objs.size ∉ [(s.heap.push (fresh w)).objs.size,l]:=by
     rw [a6d]; simp only [n8,a9m,c32,or_false,not_or]
     exact ⟨a6i (Nat.lt_succ_self _),Nat.ne_of_gt hlS⟩
    have none_of:∀ b,s.heap.objs.size ≤ b → s.heap.get? b = none:=fun b hb=>by
     cases q:s.heap.get? b with
     | none=>rfl
     | some o=>exact absurd (Nat.lt_of_lt_of_le (a6h q) hb) (Nat.lt_irrefl _)
    refine c8T ((Walks.list hh3 _ l hneI its.toArray).toS) hSf (by simp) (fun i v hv=>by simpa using hv) a (none_of _ (a1e _)) (fun b hb=>none_of b (by
      rw [a9m.mp hb,a6d]
      exact c5N _)) hu (its.toArray.size - 0) 0 _ (by omega) (a4D _)
     ⟨⟨_,a0Z _ rfl,rfl,rfl⟩,(hl1.push _)⟩ (fun b o e=>r6 _ (r6 _ e)) ?hS0 ?hR
    case hS0 =>
     exact start _ (r6 _ hS) fun b o e=>r6 _ (r6 _ e)
    case hR =>
     intro s' hm hJ hkp
     obtain ⟨h',g2,d',tk',os'⟩:=s'
     have eg:g2 = s.gens:=hm.gens
     have ed:d' = s.drawn:=hm.drawn
     have eo:os' = s.os:=hm.os
     subst eg; subst ed; subst eo
     show a3J _ _ _ _ _ _
     refine j7 ?_
     show a3J _ _ (ret Value.none) _ _ _
     have hJ':J its.length h':=by simpa using hJ
     exact j7 ⟨rfl,h',tk',rfl,hJ',hkp⟩
   ·cases r₂ with
    | error e=>exact hr₂
    | ok fl₂ =>
     cases fl₂ with
     | ret r =>
      obtain ⟨rfl,h',tk,rfl,hJ,hk'⟩:=hr₂
      repeat (any_goals (first | assumption | wp_step))
      exact hq _ _ hJ hk'
     | _=>exact hr₂.elim
  | _=>exact hr.elim
end
end AqS
set_option maxHeartbeats 2000000
namespace Aq
open PySem L2
def kD:Key → c8
 | .inl i=>.int i
 | .inr x=>.str x
mutual
inductive Dr (K:b0) (F:Hp):V → c8 → Prop
 | non:Dr K F .non .none
 | bl (b:Bool):Dr K F (.bl b) (.bool b)
 | int (i:Int):Dr K F (.int i) (.int i)
 | str (x:Str):Dr K F (.str x) (.str x)
 | lst {a:v4} {xs:List V} {ds:List c8}:F a = some (.lst xs) → DrAll K F xs ds → Dr K F (.ref a) (.list ds)
 | tup {a:v4} {xs:List V} {ds:List c8}:SqT K F a xs → DrAll K F xs ds → Dr K F (.ref a) (.tuple ds)
 | dic {a:v4} {kvs:List (Key × V)} {es:List (c8 × c8)}:F a = some (.dK kvs) → DrKV K F kvs es → Dr K F (.ref a) (.dict es)
inductive DrAll (K:b0) (F:Hp):List V → List c8 → Prop
 | nil:DrAll K F [] []
 | cons {v:V} {vs:List V} {d:c8} {ds:List c8}:Dr K F v d → DrAll K F vs ds → DrAll K F (v :: vs) (d :: ds)
inductive DrKV (K:b0) (F:Hp):List (Key × V) → List (c8 × c8) → Prop
 | nil:DrKV K F [] []
 | cons {k:Key} {v:V} {vs:List (Key × V)} {d:c8} {ds:List (c8 × c8)}:Dr K F v d → DrKV K F vs ds → DrKV K F ((k,v) :: vs) ((kD k,d) :: ds)
end
theorem b6r {K:b0} {F F':Hp} {a:v4} {xs:List V} (e:a5K F F') (h:SqT K F a xs):SqT K F' a xs:=by
 rcases h with (h | ⟨o,h⟩) | h
 ·exact .inl (.inl (e _ _ h))
 ·exact .inl (.inr ⟨o,e _ _ h⟩)
 ·exact .inr h
section
variable {K:b0} {F F' H:Hp}
mutual
theorem Dr.mono (e:a5K F F'):∀ (d:c8) (v:V),Dr K F v d → Dr K F' v d
 | .none,_,h=>by cases h; exact .non
 | .bool b,_,h=>by cases h; exact .bl b
 | .int i,_,h=>by cases h; exact .int i
 | .str x,_,h=>by cases h; exact .str x
 | .list ds,_,h=>by
  cases h with
  | lst h1 h2=>exact .lst (e _ _ h1) (DrAll.mono e ds _ h2)
 | .tuple ds,_,h=>by
  cases h with
  | tup h1 h2=>exact .tup (b6r e h1) (DrAll.mono e ds _ h2)
 | .dict es,_,h=>by
  cases h with
  | dic h1 h2=>exact .dic (e _ _ h1) (DrKV.mono e es _ h2)
theorem DrAll.mono (e:a5K F F'):∀ (ds:List c8) (vs:List V),DrAll K F vs ds → DrAll K F' vs ds
 | [],_,h=>by cases h; exact .nil
 | d :: ds,_,h=>by
  cases h with
  | cons h1 h2=>exact .cons (Dr.mono e d _ h1) (DrAll.mono e ds _ h2)
theorem DrKV.mono (e:a5K F F'):∀ (es:List (c8 × c8)) (kvs:List (Key × V)),DrKV K F kvs es → DrKV K F' kvs es
 | [],_,h=>by cases h; exact .nil
 | (_,d) :: es,_,h=>by
  cases h with
  | cons h1 h2=>exact .cons (Dr.mono e d _ h1) (DrKV.mono e es _ h2)
end
mutual
def noDic:c8 → Bool
 | .list ds=>noDics ds
 | .tuple ds=>noDics ds
 | .dict _=>false
 | _=>true
def noDics:List c8 → Bool
 | []=>true
 | d :: ds=>noDic d && noDics ds
end
mutual
theorem Dr.dp:∀ (d:c8) (v:V),Dr K F v d → noDic d = true → Dp K F v d
 | .none,_,h,_=>by cases h; exact .non
 | .bool b,_,h,_=>by cases h; exact .bl b
 | .int i,_,h,_=>by cases h; exact .int i
 | .str x,_,h,_=>by cases h; exact .str x
 | .list ds,_,h,n=>by
  cases h with
  | lst h1 h2=>exact .lst (.of h1) (DrAll.dp ds _ h2 (by rw [noDic] at n; exact n))
 | .tuple ds,_,h,n=>by
  cases h with
  | tup h1 h2=>exact .tup h1 (DrAll.dp ds _ h2 (by rw [noDic] at n; exact n))
 | .dict es,_,h,n=>by rw [noDic] at n; cases n
theorem DrAll.dp:∀ (ds:List c8) (vs:List V),DrAll K F vs ds → noDics ds = true → DpAll K F vs ds
 | [],_,h,_=>by cases h; exact .nil
 | d :: ds,_,h,n=>by
  rw [noDics,m5] at n
  cases h with
  | cons h1 h2=>exact .cons (Dr.dp d _ h1 n.1) (DrAll.dp ds _ h2 n.2)
end
theorem DrAll.length:∀ {vs:List V} {ds:List c8},DrAll K F vs ds → vs.length = ds.length
 | _,_,.nil=>rfl
 | _,_,.cons _ t=>by rw [v6,v6,DrAll.length t]
theorem DrAll.at:∀ {vs:List V} {ds:List c8} {i:Nat} {d:c8},DrAll K F vs ds → ds[i]? = some d → ∃ v,vs[i]? = some v ∧ Dr K F v d
 | _,_,_,_,.nil,e=>by simp at e
 | _,_,0,_,.cons h _,e=>by simp at e; subst e; exact ⟨_,rfl,h⟩
 | _,_,i + 1,d,.cons _ t,e=>by
  obtain ⟨v,h1,h2⟩:=DrAll.at (i:=i) (d:=d) t (by simpa using e)
  exact ⟨v,by simpa using h1,h2⟩
theorem DrAll.append:∀ {vs ws:List V} {ds es:List c8},DrAll K F vs ds → DrAll K F ws es → DrAll K F (vs ++ ws) (ds ++ es)
 | _,_,_,_,.nil,s=>s
 | _,_,_,_,.cons r t,s=>.cons r (DrAll.append t s)
theorem DrAll.take:∀ {vs:List V} {ds:List c8} (n:Nat),DrAll K F vs ds → DrAll K F (vs.take n) (ds.take n)
 | _,_,0,_=>.nil
 | _,_,_ + 1,.nil=>.nil
 | _,_,n + 1,.cons r t=>.cons r (DrAll.take n t)
theorem DrAll.drop:∀ {vs:List V} {ds:List c8} (n:Nat),DrAll K F vs ds → DrAll K F (vs.drop n) (ds.drop n)
 | _,_,0,r=>r
 | _,_,_ + 1,.nil=>.nil
 | _,_,n + 1,.cons _ t=>DrAll.drop n t
theorem DrAll.set {x:V} {d:c8} (r:Dr K F x d):∀ {vs:List V} {ds:List c8} (i:Nat),DrAll K F vs ds → DrAll K F (vs.set i x) (ds.set i d)
 | _,_,_,.nil=>.nil
 | _,_,0,.cons _ t=>.cons r t
 | _,_,i + 1,.cons q t=>.cons q (DrAll.set r i t)
theorem DrAll.one {v:V} {d:c8} (h:Dr K F v d):DrAll K F [v] [d]:=.cons h .nil
theorem DrAll.reverse:∀ {vs:List V} {ds:List c8},DrAll K F vs ds → DrAll K F vs.reverse ds.reverse
 | _,_,.nil=>.nil
 | _,_,.cons r t=>by
  rw [List.reverse_cons,List.reverse_cons]
  exact (DrAll.reverse t).append (.one r)
theorem DrAll.eraseIdx:∀ {vs:List V} {ds:List c8} (i:Nat),DrAll K F vs ds → DrAll K F (vs.eraseIdx i) (ds.eraseIdx i)
 | _,_,_,.nil=>.nil
 | _,_,0,.cons _ t=>t
 | _,_,i + 1,.cons q t=>.cons q (DrAll.eraseIdx i t)
theorem DrAll.ints_of:∀ {vs:List V} (ns:List Int),DrAll K F vs (ns.map m7) → vs = ns.map V.int
 | _,[],h=>by cases h; rfl
 | _,n :: ns,h=>by
  cases h with
  | cons h1 h2 =>
   cases h1
   rw [DrAll.ints_of ns h2]
   rfl
theorem DrAll.strs_of:∀ {vs:List V} (ns:List Str),DrAll K F vs (ns.map v5) → vs = ns.map V.str
 | _,[],h=>by cases h; rfl
 | _,n :: ns,h=>by
  cases h with
  | cons h1 h2 =>
   cases h1
   rw [DrAll.strs_of ns h2]
   rfl
theorem DrAll.bls_of:∀ {vs:List V} (ns:List Bool),DrAll K F vs (ns.map a0v) → vs = ns.map V.bl
 | _,[],h=>by cases h; rfl
 | _,n :: ns,h=>by
  cases h with
  | cons h1 h2 =>
   cases h1
   rw [DrAll.bls_of ns h2]
   rfl
end
/-- a dict whose keys are tuples -/
def c9S (K:b0) (F:Hp):List (List Key × V) → List (List Key × c8) → Prop:=a22 fun p q=>p.1 = q.1 ∧ Dr K F p.2 q.2
theorem c9S.mono {K:b0} {F F':Hp} (e:a5K F F') {kvs:List (List Key × V)} {es:List (List Key × c8)} (h:c9S K F kvs es):c9S K F' kvs es:=Paired.mapP h fun _ _ z=>⟨z.1,Dr.mono e _ _ z.2⟩
inductive NK where
 | ins (c:Str)
 | dic
 | lst
inductive OT where
 | dat (d:c8)
 | nod (a:v4) (k:NK) (ns:List Str) (cs:List OT)
def c4a (K:b0) (H:Hp) (a:v4) (ns:List Str) (vs:List V):NK → Prop
 | .ins c=>∃ dx,H a = some (.ins (a0F K c) dx (ns.zip vs)) ∧ ns.length = vs.length
 | .dic=>H a = some (.dK ((ns.map Sum.inr).zip vs)) ∧ ns.length = vs.length
 | .lst=>H a = some (.lst vs)
mutual
inductive TrOk (K:b0) (F H:Hp):OT → V → Prop
 | dat {d:c8} {v:V}:Dr K F v d → TrOk K F H (.dat d) v
 | nod {a:v4} {k:NK} {ns:List Str} {cs:List OT} {vs:List V}:c4a K H a ns vs k → TrsOk K F H cs vs → TrOk K F H (.nod a k ns cs) (.ref a)
inductive TrsOk (K:b0) (F H:Hp):List OT → List V → Prop
 | nil:TrsOk K F H [] []
 | cons {t:OT} {ts:List OT} {v:V} {vs:List V}:TrOk K F H t v → TrsOk K F H ts vs → TrsOk K F H (t :: ts) (v :: vs)
end
mutual
def OT.foot:OT → List v4
 | .dat _=>[]
 | .nod a _ _ cs=>a :: OT.foots cs
def OT.foots:List OT → List v4
 | []=>[]
 | t :: ts=>t.foot ++ OT.foots ts
end
section
variable {K:b0} {F F' H H':Hp}
theorem c4a.mono {a:v4} {ns:List Str} {vs:List V} {k:NK} (h:∀ u,H a = some u → H' a = some u) (n:c4a K H a ns vs k):c4a K H' a ns vs k:=by
 cases k with
 | ins c=>obtain ⟨dx,e,l⟩:=n; exact ⟨dx,h _ e,l⟩
 | dic=>exact ⟨h _ n.1,n.2⟩
 | lst=>exact h _ n
theorem c4a.ex {a:v4} {ns:List Str} {vs:List V} {k:NK} (n:c4a K H a ns vs k):∃ u,H a = some u:=by
 cases k with
 | ins c=>obtain ⟨dx,e,l⟩:=n; exact ⟨_,e⟩
 | dic=>exact ⟨_,n.1⟩
 | lst=>exact ⟨_,n⟩
mutual
theorem TrOk.mono (e:a5K F F'):∀ (t:OT) (v:V),(∀ l ∈ t.foot,∀ u,H l = some u → H' l = some u) → TrOk K F H t v → TrOk K F' H' t v
 | .dat d,v,_,h=>by
  cases h with
  | dat h=>exact .dat (h.mono e)
 | .nod a k ns cs,v,q,h=>by
  cases h with
  | nod n hs=>exact .nod (n.mono (q a (by rw [OT.foot]; exact e6))) (TrsOk.mono e cs _ (fun l hl=>q l (by rw [OT.foot]; exact e8 _ hl)) hs)
theorem TrsOk.mono (e:a5K F F'):∀ (ts:List OT) (vs:List V),(∀ l ∈ OT.foots ts,∀ u,H l = some u → H' l = some u) → TrsOk K F H ts vs → TrsOk K F' H' ts vs
 | [],_,_,h=>by cases h; exact .nil
 | t :: ts,_,q,h=>by
  cases h with
  | cons h1 h2=>exact .cons (TrOk.mono e t _ (fun l hl=>q l (by rw [OT.foots]; exact a0o _ hl)) h1) (TrsOk.mono e ts _ (fun l hl=>q l (by rw [OT.foots]; exact a2j _ hl)) h2)
end
mutual
theorem TrOk.ex:∀ (t:OT) (v:V),TrOk K F H t v → ∀ l ∈ t.foot,∃ u,H l = some u
 | .dat d,v,h,l,hl=>by rw [OT.foot] at hl; simp at hl
 | .nod a k ns cs,v,h,l,hl=>by
  rw [OT.foot] at hl
  cases h with
  | nod n hs =>
   rcases n8.mp hl with rfl | hl
   ·exact n.ex
   ·exact TrsOk.ex cs _ hs l hl
theorem TrsOk.ex:∀ (ts:List OT) (vs:List V),TrsOk K F H ts vs → ∀ l ∈ OT.foots ts,∃ u,H l = some u
 | [],_,h,l,hl=>by rw [OT.foots] at hl; simp at hl
 | t :: ts,_,h,l,hl=>by
  rw [OT.foots] at hl
  cases h with
  | cons h1 h2 =>
   rcases v8.mp hl with hl | hl
   ·exact TrOk.ex t _ h1 l hl
   ·exact TrsOk.ex ts _ h2 l hl
end
end
/-- what a locked dict holds -/
abbrev LkD:=List (c8 × c8) ⊕ List (List Key × c8)
inductive AV where
 /-- anything -/
 | un
 | dat (d:c8)
 /-- a list of one's own; p: handed in as the p-th of these -/
 | ml (p:Option Nat) (ds:List c8)
 | mdk (p:Option Nat) (es:List (c8 × c8))
 /-- the script -/
 | scr (ns:List Int)
 /-- a dict of one's own whose keys are tuples -/
 | mdt (p:Option Nat) (es:List (List Key × c8))
 /-- just this value -/
 | opq (v:V)
 /-- a tree of things of one's own -/
 | tr (p:Option Nat) (t:OT)
 /-- a dict of one's own, locked for a walk -/
 | lk (u:LkD)
def LkOk (K:b0) (F:Hp):LkD → HO → Prop
 | .inl es,w=>∃ kvs,w = .dK kvs ∧ DrKV K F kvs es
 | .inr es,w=>∃ kvs,w = .dT kvs ∧ c9S K F kvs es
/-- the entry of a def -/
structure C0 where
 F0:Hp
 H0:Hp
 M0:List v4
def b3l (C:C0) (p:Option Nat) (l:v4):Prop:=match p with
 | none=>C.H0 l = none
 | some j=>C.M0[j]? = some l
def Slot (K:b0) (C:C0) (F H:Hp):AV → Option V → Prop
 | .un,_=>True
 | .dat d,o=>∃ v,o = some v ∧ Dr K F v d
 | .ml p ds,o=>∃ l xs,o = some (.ref l) ∧ F l = none ∧ H l = some (.lst xs) ∧ DrAll K F xs ds ∧ b3l C p l
 | .mdk p es,o=>∃ l kvs,o = some (.ref l) ∧ F l = none ∧ H l = some (.dK kvs) ∧ DrKV K F kvs es ∧ b3l C p l
 | .scr ns,o=>∃ a,o = some (.ref a) ∧ SqL K F a (ns.map V.int)
 | .mdt p es,o=>∃ l kvs,o = some (.ref l) ∧ F l = none ∧ H l = some (.dT kvs) ∧ c9S K F kvs es ∧ b3l C p l
 | .opq v,o=>o = some v
 | .lk u,o=>∃ l ob w,o = some (.ref l) ∧ F l = some (.frz ob w) ∧ LkOk K F u w
 | .tr p t,o=>∃ a,o = some (.ref a) ∧ TrOk K F H t (.ref a) ∧ (∀ l ∈ t.foot,F l = none ∧ (l ∈ C.M0 ∨ C.H0 l = none)) ∧ t.foot.Nodup ∧ a ∈ t.foot ∧ b3l C p a
def AV.isMut:AV → Bool
 | .ml _ _=>true
 | .mdk _ _=>true
 | .mdt _ _=>true
 | .tr _ _=>true
 | _=>false
/-- the addresses within a tree -/
def AV.inn:AV → List v4
 | .tr _ t=>t.foot
 | _=>[]
def AV.isOwn:AV → Bool
 | .ml _ _=>true
 | .mdk _ _=>true
 | _=>false
theorem AV.isOwn_mut {a:AV} (h:a.isOwn = true):a.isMut = true:=by cases a <;> first | rfl | cases h
theorem AV.isOwn_inn {a:AV} (h:a.isOwn = true):a.inn = []:=by cases a <;> first | rfl | cases h
/-- a slot's thing owns an address -/
def c37 (a:AV) (o:Option (Option V)) (l:v4):Prop:=(a.isMut = true ∧ o = some (some (.ref l))) ∨ l ∈ a.inn
def a12 (σ:a3j) (ρ:List AV) (i:Nat) (l:v4):Prop:=∃ a,ρ[i]? = some a ∧ c37 a σ[i]? l
theorem a12.mk {σ:a3j} {ρ:List AV} {i:Nat} {l:v4} {a:AV} (h:ρ[i]? = some a) (m:a.isMut = true) (q:σ[i]? = some (some (.ref l))):a12 σ ρ i l:=⟨a,h,.inl ⟨m,q⟩⟩
/-- what is not changed owns nothing -/
theorem c37.mut {a:AV} {o:Option (Option V)} {l:v4} (h:c37 a o l):a.isMut = true:=by
 rcases h with h | h
 ·exact h.1
 ·cases a <;> first | rfl | simp [AV.inn] at h
theorem a12.mut {σ:a3j} {ρ:List AV} {i:Nat} {l:v4} {a:AV} (h:a12 σ ρ i l) (e:ρ[i]? = some a):a.isMut = true:=by
 obtain ⟨b,eb,f⟩:=h
 rw [e] at eb
 cases eb
 exact f.mut
structure Rep (K:b0) (C:C0) (F H:Hp) (σ:a3j) (ρ:List AV):Prop where
 len:σ.length = ρ.length
 sub:a5K F H
 gr:a5K C.F0 F
 keep:∀ b o,C.H0 b = some o → b ∉ C.M0 → H b = some o
 there:∀ b o,C.H0 b = some o → ∃ o',H b = some o'
 nw:∀ b o,C.H0 b = some o → C.F0 b = none → F b = none
 mf:∀ l ∈ C.M0,C.F0 l = none ∧ ∃ o,C.H0 l = some o
 tp:∀ q xs,H q = some (.tup xs) → F q = some (.tup xs)
 slot:∀ (i:Nat) (a:AV),ρ[i]? = some a → ∃ o,σ[i]? = some o ∧ Slot K C F H a o
 apart:∀ (i j:Nat) (l:v4),i ≠ j → a12 σ ρ i l → a12 σ ρ j l → False
/-- an expression's answer -/
inductive RV where
 | dat (d:c8)
 /-- what the i-th slot holds, borrowed -/
 | bor (i:Nat)
 /-- a new thing of one's own -/
 | own (a:AV)
 /-- a tuple of a new list of one's own and a thing -/
 | tupO (ds:List c8) (d:c8)
def a57 (K:b0) (C:C0) (F H:Hp) (σ:a3j) (ρ:List AV) (v:V):RV → Prop
 | .dat d=>Dr K F v d
 | .bor i=>σ[i]? = some (some v) ∧ ∃ a,ρ[i]? = some a
 | .own a=>∃ l,v = .ref l ∧ a.isOwn = true ∧ Slot K C F H a (some v) ∧ C.H0 l = none ∧ ∀ i,a12 σ ρ i l → False
 | .tupO ds d=>∃ t l u xs,v = .ref t ∧ F t = some (.tup [.ref l,u]) ∧ F l = none ∧ H l = some (.lst xs) ∧ DrAll K F xs ds ∧ Dr K F u d ∧ C.H0 l = none ∧ ∀ i,a12 σ ρ i l → False
/-- nothing new -/
def RV.old:RV → Prop
 | .dat _=>True
 | .bor _=>True
 | _=>False
/-- what is read there -/
def AV.look:AV → Option c8
 | .dat d=>some d
 | .ml _ ds=>some (.list ds)
 | .mdk _ es=>some (.dict es)
 | .scr _=>none
 | .mdt _ _=>none
 | .opq _=>none
 | .lk _=>none
 | .un=>none
 | .tr _ _=>none
def RV.look (r:RV) (ρ:List AV):Option c8:=match r with
 | .dat d=>some d
 | .bor i=>(ρ[i]?).bind AV.look
 | .own a=>a.look
 | .tupO _ _=>none
/-- a thing that may be read as d -/
def Lk (K:b0) (F H:Hp) (v:V) (d:c8):Prop :=
 Dr K F v d ∨ (∃ l xs ds,v = .ref l ∧ d = .list ds ∧ H l = some (.lst xs) ∧ DrAll K F xs ds) ∨ (∃ l kvs es,v = .ref l ∧ d = .dict es ∧ H l = some (.dK kvs) ∧ DrKV K F kvs es)
section
variable {K:b0} {C:C0} {F F' H H':Hp} {σ:a3j} {ρ:List AV} {v:V} {r:RV} {d:c8}
theorem Slot.lk {a:AV} (s:a5K F H) (h:Slot K C F H a (some v)) (e:a.look = some d):Lk K F H v d:=by
 cases a with
 | un=>cases e
 | dat d' =>
  obtain ⟨w,e1,h1⟩:=h
  cases e1
  cases e
  exact .inl h1
 | ml p ds =>
  obtain ⟨l,xs,e1,_,h1,h2,_⟩:=h
  cases e1
  cases e
  exact .inr (.inl ⟨l,xs,ds,rfl,rfl,h1,h2⟩)
 | mdk p es =>
  obtain ⟨l,xs,e1,_,h1,h2,_⟩:=h
  cases e1
  cases e
  exact .inr (.inr ⟨l,xs,es,rfl,rfl,h1,h2⟩)
 | scr ns=>cases e
 | mdt p es=>cases e
 | opq v=>cases e
 | lk u=>cases e
 | tr p t=>cases e
theorem a57.lk (R:Rep K C F H σ ρ) (h:a57 K C F H σ ρ v r) (e:r.look ρ = some d):Lk K F H v d:=by
 cases r with
 | dat d' =>
  cases e
  exact .inl h
 | bor i =>
  obtain ⟨e1,a,ea⟩:=h
  obtain ⟨o,eo,hs⟩:=R.slot i a ea
  rw [e1] at eo
  cases eo
  have e2:(ρ[i]?).bind AV.look = some d:=e
  rw [ea] at e2
  exact hs.lk R.sub e2
 | own a =>
  obtain ⟨l,rfl,_,hs,_⟩:=h
  exact hs.lk R.sub e
 | tupO ds d=>cases e
theorem Lk.list {ds:List c8} (s:a5K F H) (h:Lk K F H v (.list ds)):∃ l xs,v = .ref l ∧ H l = some (.lst xs) ∧ DrAll K F xs ds:=by
 rcases h with h | ⟨l,xs,ds',e1,e2,h1,h2⟩ | ⟨_,_,_,_,e,_⟩
 ·cases h with
  | lst h1 h2=>exact ⟨_,_,rfl,s _ _ h1,h2⟩
 ·cases e2
  exact ⟨l,xs,e1,h1,h2⟩
 ·cases e
theorem Lk.tuple {ds:List c8} (s:a5K F H) (h:Lk K F H v (.tuple ds)):∃ l xs,v = .ref l ∧ SqT K H l xs ∧ DrAll K F xs ds:=by
 rcases h with h | ⟨l,xs,ds',e1,e2,h1,h2⟩ | ⟨_,_,_,_,e,_⟩
 ·cases h with
  | tup h1 h2=>exact ⟨_,_,rfl,b6r s h1,h2⟩
 ·cases e2
 ·cases e
theorem Lk.int {i:Int} (h:Lk K F H v (.int i)):v = .int i:=by
 rcases h with h | ⟨l,xs,ds',e1,e2,h1,h2⟩ | ⟨_,_,_,_,e,_⟩
 ·cases h; rfl
 ·cases e2
 ·cases e
theorem Lk.str {i:Str} (h:Lk K F H v (.str i)):v = .str i:=by
 rcases h with h | ⟨l,xs,ds',e1,e2,h1,h2⟩ | ⟨_,_,_,_,e,_⟩
 ·cases h; rfl
 ·cases e2
 ·cases e
theorem Lk.bool {i:Bool} (h:Lk K F H v (.bool i)):v = .bl i:=by
 rcases h with h | ⟨l,xs,ds',e1,e2,h1,h2⟩ | ⟨_,_,_,_,e,_⟩
 ·cases h; rfl
 ·cases e2
 ·cases e
theorem Lk.none (h:Lk K F H v .none):v = .non:=by
 rcases h with h | ⟨l,xs,ds',e1,e2,h1,h2⟩ | ⟨_,_,_,_,e,_⟩
 ·cases h; rfl
 ·cases e2
 ·cases e
theorem Lk.dp (s:a5K F H) (h:Lk K F H v d) (n:noDic d = true):Dp K H v d:=by
 rcases h with h | ⟨l,xs,ds',e1,e2,h1,h2⟩ | ⟨_,_,_,_,e,_⟩
 ·exact Dr.dp d v (h.mono s) n
 ·subst e1 e2
  exact .lst (.of h1) (DrAll.dp _ _ (h2.mono s) (by rw [noDic] at n; exact n))
 ·subst e
  rw [noDic] at n
  cases n
end
end Aq
namespace Aq
open PySem L2
section
variable {K:b0} {C:C0} {F F' H H':Hp} {σ:a3j} {ρ:List AV} {v:V} {r:RV} {d:c8}
theorem LkOk.mono {u:LkD} {w:HO} (e:a5K F F') (h:LkOk K F u w):LkOk K F' u w:=by
 cases u with
 | inl es=>obtain ⟨kvs,e1,h1⟩:=h; exact ⟨kvs,e1,h1.mono e⟩
 | inr es=>obtain ⟨kvs,e1,h1⟩:=h; exact ⟨kvs,e1,h1.mono e⟩
theorem Slot.mono {a:AV} {o:Option V} (e:a5K F F') (k:∀ l u,c37 a (some o) l → H l = some u → H' l = some u) (n:∀ l,c37 a (some o) l → F l = none → F' l = none) (h:Slot K C F H a o):Slot K C F' H' a o:=by
 have ft:∀ l,o = some (.ref l) → a.isMut = true → c37 a (some o) l:=fun l e m=>.inl ⟨m,by rw [e]⟩
 cases a with
 | un=>trivial
 | dat d=>obtain ⟨v,e1,h1⟩:=h; exact ⟨v,e1,h1.mono e⟩
 | ml p ds=>obtain ⟨l,xs,e1,h0,h1,h2,h3⟩:=h; exact ⟨l,xs,e1,n l (ft l e1 rfl) h0,k l _ (ft l e1 rfl) h1,h2.mono e,h3⟩
 | mdk p ds=>obtain ⟨l,xs,e1,h0,h1,h2,h3⟩:=h; exact ⟨l,xs,e1,n l (ft l e1 rfl) h0,k l _ (ft l e1 rfl) h1,h2.mono e,h3⟩
 | mdt p ds=>obtain ⟨l,xs,e1,h0,h1,h2,h3⟩:=h; exact ⟨l,xs,e1,n l (ft l e1 rfl) h0,k l _ (ft l e1 rfl) h1,h2.mono e,h3⟩
 | scr ns=>obtain ⟨l,e1,h1⟩:=h; exact ⟨l,e1,e.seq h1⟩
 | opq v=>exact h
 | lk u=>obtain ⟨l,ob,w,e1,h1,h2⟩:=h; exact ⟨l,ob,w,e1,e _ _ h1,h2.mono e⟩
 | tr p t =>
  obtain ⟨b,e1,h1,h2,h3,h4,h5⟩:=h
  exact ⟨b,e1,TrOk.mono e t _ (fun l hl u=>k l u (.inr hl)) h1,fun l hl=>⟨n l (.inr hl) (h2 l hl).1,(h2 l hl).2⟩,h3,h4,h5⟩
theorem Slot.mutF {a:AV} {o:Option V} {l:v4} (h:Slot K C F H a o) (f:c37 a (some o) l):F l = none ∧ ∃ u,H l = some u:=by
 cases a with
 | un=>cases f.mut
 | dat d=>cases f.mut
 | ml p ds =>
  obtain ⟨l',xs,e1,h0,h1,_⟩:=h
  rcases f with ⟨_,q⟩ | q
  ·cases e1; cases q; exact ⟨h0,_,h1⟩
  ·simp [AV.inn] at q
 | mdk p ds =>
  obtain ⟨l',xs,e1,h0,h1,_⟩:=h
  rcases f with ⟨_,q⟩ | q
  ·cases e1; cases q; exact ⟨h0,_,h1⟩
  ·simp [AV.inn] at q
 | mdt p ds =>
  obtain ⟨l',xs,e1,h0,h1,_⟩:=h
  rcases f with ⟨_,q⟩ | q
  ·cases e1; cases q; exact ⟨h0,_,h1⟩
  ·simp [AV.inn] at q
 | scr ns=>cases f.mut
 | opq v=>cases f.mut
 | lk u=>cases f.mut
 | tr p t =>
  obtain ⟨b,e1,h1,h2,h3,h4,h5⟩:=h
  have hl:l ∈ t.foot:=by
   rcases f with ⟨_,q⟩ | q
   ·cases e1; cases q; exact h4
   ·exact q
  exact ⟨(h2 l hl).1,TrOk.ex t _ h1 l hl⟩
theorem Slot.whose {a:AV} {o:Option V} {l:v4} (h:Slot K C F H a o) (f:c37 a (some o) l):l ∈ C.M0 ∨ C.H0 l = none:=by
 have g:∀ p,b3l C p l → l ∈ C.M0 ∨ C.H0 l = none:=fun p z=>by
  cases p with
  | none=>exact .inr z
  | some j=>exact .inl (v7 z)
 cases a with
 | un=>cases f.mut
 | dat d=>cases f.mut
 | ml p ds =>
  obtain ⟨l',xs,e1,h0,h1,_,h3⟩:=h
  rcases f with ⟨_,q⟩ | q
  ·cases e1; cases q; exact g p h3
  ·simp [AV.inn] at q
 | mdk p ds =>
  obtain ⟨l',xs,e1,h0,h1,_,h3⟩:=h
  rcases f with ⟨_,q⟩ | q
  ·cases e1; cases q; exact g p h3
  ·simp [AV.inn] at q
 | mdt p ds =>
  obtain ⟨l',xs,e1,h0,h1,_,h3⟩:=h
  rcases f with ⟨_,q⟩ | q
  ·cases e1; cases q; exact g p h3
  ·simp [AV.inn] at q
 | scr ns=>cases f.mut
 | opq v=>cases f.mut
 | lk u=>cases f.mut
 | tr p t =>
  obtain ⟨b,e1,h1,h2,h3,h4,h5⟩:=h
  have hl:l ∈ t.foot:=by
   rcases f with ⟨_,q⟩ | q
   ·cases e1; cases q; exact h4
   ·exact q
  exact (h2 l hl).2
theorem Rep.mutF {i:Nat} {l:v4} (R:Rep K C F H σ ρ) (m:a12 σ ρ i l):F l = none ∧ ∃ u,H l = some u:=by
 obtain ⟨a,e,f⟩:=m
 obtain ⟨o,eo,hs⟩:=R.slot i a e
 rw [eo] at f
 exact hs.mutF f
theorem Rep.mutW {i:Nat} {l:v4} (R:Rep K C F H σ ρ) (m:a12 σ ρ i l):l ∈ C.M0 ∨ C.H0 l = none:=by
 obtain ⟨a,e,f⟩:=m
 obtain ⟨o,eo,hs⟩:=R.slot i a e
 rw [eo] at f
 exact hs.whose f
/-- an address that no slot owns becomes frozen as it stands -/
theorem Rep.freezeAt {l:v4} {u:HO} (R:Rep K C F H σ ρ) (hF:F l = none) (hH:H l = some u) (h0:C.H0 l = none) (ha:∀ i,a12 σ ρ i l → False):Rep K C (upd F l u) H σ ρ ∧ a5K F (upd F l u):=by
 have s:a5K F (upd F l u):=fun b o e=>by rw [a1V (a26 e hF)]; exact e
 refine ⟨⟨R.len,fun b o e=>?_,R.gr.trans s,R.keep,R.there,fun b o e n=>?_,R.mf,fun q xs e=>s _ _ (R.tp q xs e),fun i a e=>?_,R.apart⟩,s⟩
 ·by_cases hb:b = l
  ·subst hb; rw [a0C] at e; cases e; exact hH
  ·rw [a1V hb] at e; exact R.sub _ _ e
 ·have hb:b ≠ l:=a26 e h0
  rw [a1V hb]; exact R.nw b o e n
 ·obtain ⟨o,eo,hs⟩:=R.slot i a e
  refine ⟨o,eo,hs.mono s (fun l u f h=>h) (fun l' f h=>?_)⟩
  have hl:l' ≠ l:=fun z=>by
   subst z
   exact ha i ⟨a,e,by rw [eo]; exact f⟩
  rw [a1V hl]; exact h
def RV.hold:RV → RV
 | .own (.ml _ ds)=>.dat (.list ds)
 | .own (.mdk _ es)=>.dat (.dict es)
 | .tupO ds d=>.dat (.tuple [.list ds,d])
 | r=>r
theorem a2r (R:Rep K C F H σ ρ) (h:a57 K C F H σ ρ v r):∃ F',Rep K C F' H σ ρ ∧ a5K F F' ∧ a57 K C F' H σ ρ v r.hold ∧ RV.old r.hold:=by
 cases r with
 | dat d=>exact ⟨F,R,.refl _,h,trivial⟩
 | bor i=>exact ⟨F,R,.refl _,h,trivial⟩
 | own a =>
  obtain ⟨l,rfl,m,hs,h0,ha⟩:=h
  cases a with
  | un=>cases m
  | dat d=>cases m
  | scr d=>cases m
  | opq v=>cases m
  | lk u=>cases m
  | tr p t=>cases m
  | ml p ds =>
   obtain ⟨l',xs,e1,hF,h1,h2,h3⟩:=hs
   cases e1
   obtain ⟨R',s⟩:=R.freezeAt hF h1 h0 ha
   exact ⟨_,R',s,.lst a0C (h2.mono s),trivial⟩
  | mdk p ds =>
   obtain ⟨l',xs,e1,hF,h1,h2,h3⟩:=hs
   cases e1
   obtain ⟨R',s⟩:=R.freezeAt hF h1 h0 ha
   exact ⟨_,R',s,.dic a0C (h2.mono s),trivial⟩
  | mdt p ds=>cases m
 | tupO ds d =>
  obtain ⟨t,l,u,xs,rfl,ht,hF,h1,h2,h3,h0,ha⟩:=h
  obtain ⟨R',s⟩:=R.freezeAt hF h1 h0 ha
  exact ⟨_,R',s,.tup (.inl (.inl (s _ _ ht))) (.cons (.lst a0C (h2.mono s)) (.cons (h3.mono s) .nil)),trivial⟩
/-- a new object is laid and frozen -/
theorem Rep.laidF {p:v4} {u:HO} (R:Rep K C F H σ ρ) (hp:H p = none):Rep K C (upd F p u) (upd H p u) σ ρ ∧ a5K F (upd F p u):=by
 have hF:F p = none:=R.sub.free hp
 have s:a5K F (upd F p u):=fun b o e=>by rw [a1V (a26 e hF)]; exact e
 have sH:a5K H (upd H p u):=fun b o e=>by rw [a1V (a26 e hp)]; exact e
 have h0:C.H0 p = none:=by
  cases q:C.H0 p with
  | none=>rfl
  | some o=>obtain ⟨o',e⟩:=R.there p o q; rw [e] at hp; cases hp
 refine ⟨⟨R.len,fun b o e=>?_,R.gr.trans s,fun b o e n=>sH _ _ (R.keep b o e n),fun b o e=>?_,fun b o e n=>?_,R.mf,fun q xs e=>?_,fun i a e=>?_,R.apart⟩,s⟩
 ·by_cases hb:b = p
  ·subst hb; rw [a0C] at e ⊢; exact e
  ·rw [a1V hb] at e ⊢; exact R.sub _ _ e
 ·obtain ⟨o',e'⟩:=R.there b o e
  exact ⟨o',sH _ _ e'⟩
 ·rw [a1V (a26 e h0)]; exact R.nw b o e n
 ·by_cases hq:q = p
  ·subst hq; rw [a0C] at e ⊢; exact e
  ·rw [a1V hq] at e ⊢; exact R.tp q xs e
 ·obtain ⟨o,eo,hs⟩:=R.slot i a e
  refine ⟨o,eo,hs.mono s (fun l u f h=>sH _ _ h) (fun l' f h=>?_)⟩
  have hl:l' ≠ p:=fun z=>by
   subst z
   obtain ⟨_,w,q⟩:=hs.mutF f
   rw [hp] at q; cases q
  rw [a1V hl]; exact h
/-- a new object of one's own -/
theorem Rep.laidM {p:v4} {u:HO} (R:Rep K C F H σ ρ) (hp:H p = none) (hu:∀ xs,u ≠ .tup xs:=by intro _ z; cases z):Rep K C F (upd H p u) σ ρ ∧ F p = none ∧ C.H0 p = none ∧ ∀ i,a12 σ ρ i p → False:=by
 have hF:F p = none:=R.sub.free hp
 have sH:a5K H (upd H p u):=fun b o e=>by rw [a1V (a26 e hp)]; exact e
 have h0:C.H0 p = none:=by
  cases q:C.H0 p with
  | none=>rfl
  | some o=>obtain ⟨o',e⟩:=R.there p o q; rw [e] at hp; cases hp
 have tpn:∀ q xs,upd H p u q = some (.tup xs) → F q = some (.tup xs):=fun q xs e=>by
  by_cases hq:q = p
  ·subst hq; rw [a0C] at e; exact (hu xs (r9 e)).elim
  ·rw [a1V hq] at e; exact R.tp q xs e
 refine ⟨⟨R.len,R.sub.trans sH,R.gr,fun b o e n=>sH _ _ (R.keep b o e n),fun b o e=>?_,R.nw,R.mf,tpn,fun i a e=>?_,R.apart⟩,hF,h0,fun i m=>?_⟩
 ·obtain ⟨o',e'⟩:=R.there b o e
  exact ⟨o',sH _ _ e'⟩
 ·obtain ⟨o,eo,hs⟩:=R.slot i a e
  exact ⟨o,eo,hs.mono (.refl _) (fun l u f h=>sH _ _ h) fun l' f h=>h⟩
 ·obtain ⟨_,w,q⟩:=R.mutF m
  rw [hp] at q; cases q
/-- a slot's own thing changes at one of its addresses -/
theorem Rep.changeAt {i:Nat} {a a':AV} {o:Option V} {l:v4} {u:HO} (R:Rep K C F H σ ρ) (hi:ρ[i]? = some a) (ho:σ[i]? = some o) (hl:c37 a (some o) l) (hsub:∀ l',c37 a' (some o) l' → c37 a (some o) l')
  (new:Slot K C F (upd H l u) a' o) (hu:∀ xs,u ≠ .tup xs:=by intro _ z; cases z):Rep K C F (upd H l u) σ (ρ.set i a'):=by
 have tpn:∀ q xs,upd H l u q = some (.tup xs) → F q = some (.tup xs):=fun q xs e=>by
  by_cases hq:q = l
  ·subst hq; rw [a0C] at e; exact (hu xs (r9 e)).elim
  ·rw [a1V hq] at e; exact R.tp q xs e
 have him:i < ρ.length:=(j2.mp hi).1
 have hma:a12 σ ρ i l:=⟨a,hi,by rw [ho]; exact hl⟩
 obtain ⟨hF,w0,hw0⟩:=R.mutF hma
 have hwh:=R.mutW hma
 refine ⟨by rw [o8]; exact R.len,fun b o e=>?_,R.gr,fun b o e n=>?_,fun b o e=>?_,R.nw,R.mf,tpn,fun j b e=>?_,fun j k l' hne h1 h2=>?_⟩
 ·rw [a1V (a26 e hF)]; exact R.sub _ _ e
 ·have hb:b ≠ l:=fun z=>by
   subst z
   rcases hwh with z | z
   ·exact n z
   ·rw [z] at e; cases e
  rw [a1V hb]; exact R.keep b o e n
 ·by_cases hb:b = l
  ·subst hb; exact ⟨_,a0C⟩
  ·obtain ⟨o',e'⟩:=R.there b o e
   exact ⟨o',by rw [a1V hb]; exact e'⟩
 ·by_cases hj:i = j
  ·subst hj
   rw [j8 him] at e
   cases e
   exact ⟨_,ho,new⟩
  ·rw [j4 hj] at e
   obtain ⟨o',eo,hs'⟩:=R.slot j b e
   refine ⟨o',eo,hs'.mono (.refl _) (fun l' u' f h=>?_) fun l' f h=>h⟩
   have hl':l' ≠ l:=fun z=>by
    subst z
    exact R.apart i j l' hj hma ⟨b,e,by rw [eo]; exact f⟩
   rw [a1V hl']; exact h
 ·have back:∀ n l',a12 σ (ρ.set i a') n l' → a12 σ ρ n l':=fun n l' ⟨b,e,f⟩=>by
   by_cases hn:i = n
   ·subst hn
    rw [j8 him] at e
    cases e
    rw [ho] at f
    exact ⟨a,hi,by rw [ho]; exact hsub l' f⟩
   ·rw [j4 hn] at e; exact ⟨b,e,f⟩
  exact R.apart j k l' hne (back j l' h1) (back k l' h2)
/-- a slot's own thing changes -/
theorem Rep.change {i:Nat} {a a':AV} {l:v4} {u:HO} (R:Rep K C F H σ ρ) (hi:ρ[i]? = some a) (hm:a.isMut = true) (hm':a'.isMut = true) (hl:σ[i]? = some (some (.ref l)))
  (new:Slot K C F (upd H l u) a' (some (.ref l))) (hu:∀ xs,u ≠ .tup xs:=by intro _ z; cases z) (hn:a'.inn = []:=by rfl):Rep K C F (upd H l u) σ (ρ.set i a') :=
 R.changeAt hi hl (.inl ⟨hm,rfl⟩) (fun l' f=>by
  rcases f with ⟨_,q⟩ | q
  ·exact .inl ⟨hm,q⟩
  ·rw [hn] at q; simp at q) new hu
/-- a name is given a value -/
theorem Rep.setD {i:Nat} {v:V} {d:c8} (R:Rep K C F H σ ρ) (h:Dr K F v d):Rep K C F H (σ.set i (some v)) (ρ.set i (.dat d)):=by
 refine ⟨by rw [o8,o8]; exact R.len,R.sub,R.gr,R.keep,R.there,R.nw,R.mf,R.tp,fun j b e=>?_,fun j k l' hne h1 h2=>?_⟩
 ·by_cases hj:i = j
  ·subst hj
   by_cases hi:i < ρ.length
   ·rw [j8 hi] at e
    cases e
    exact ⟨some v,by rw [j8 (by rw [R.len]; exact hi)],v,rfl,h⟩
   ·rw [s0 (by rw [o8]; omega)] at e; cases e
  ·rw [j4 hj] at e
   obtain ⟨o,eo,hs⟩:=R.slot j b e
   exact ⟨o,by rw [j4 hj]; exact eo,hs⟩
 ·have back:∀ n l',a12 (σ.set i (some v)) (ρ.set i (.dat d)) n l' → a12 σ ρ n l':=fun n l' ⟨b,e,f⟩=>by
   by_cases hn:i = n
   ·subst hn
    by_cases hi:i < ρ.length
    ·rw [j8 hi] at e; cases e; cases f.mut
    ·rw [s0 (by rw [o8]; omega)] at e; cases e
   ·rw [j4 hn] at e f; exact ⟨b,e,f⟩
  exact R.apart j k l' hne (back j l' h1) (back k l' h2)
theorem Rep.setT {i:Nat} {l:v4} {a:AV} (R:Rep K C F H σ ρ) (h:Slot K C F H a (some (.ref l))) (ha:∀ l' i,c37 a (some (some (.ref l))) l' → a12 σ ρ i l' → False):Rep K C F H (σ.set i (some (.ref l))) (ρ.set i a):=by
 refine ⟨by rw [o8,o8]; exact R.len,R.sub,R.gr,R.keep,R.there,R.nw,R.mf,R.tp,fun j b e=>?_,fun j k l' hne h1 h2=>?_⟩
 ·by_cases hj:i = j
  ·subst hj
   by_cases hi:i < ρ.length
   ·rw [j8 hi] at e
    cases e
    exact ⟨_,by rw [j8 (by rw [R.len]; exact hi)],h⟩
   ·rw [s0 (by rw [o8]; omega)] at e; cases e
  ·rw [j4 hj] at e
   obtain ⟨o,eo,hs⟩:=R.slot j b e
   exact ⟨o,by rw [j4 hj]; exact eo,hs⟩
 ·have back:∀ n l',a12 (σ.set i (some (.ref l))) (ρ.set i a) n l' → (i ≠ n ∧ a12 σ ρ n l') ∨ (i = n ∧ c37 a (some (some (.ref l))) l'):=fun n l' ⟨b,e,f⟩=>by
   by_cases hn:i = n
   ·subst hn
    by_cases hi:i < ρ.length
    ·rw [j8 hi] at e
     rw [j8 (by rw [R.len]; exact hi)] at f
     cases e
     exact .inr ⟨rfl,f⟩
    ·rw [s0 (by rw [o8]; omega)] at e; cases e
   ·rw [j4 hn] at e f; exact .inl ⟨hn,b,e,f⟩
  rcases back j l' h1 with ⟨n1,m1⟩ | ⟨n1,m1⟩
  ·rcases back k l' h2 with ⟨n2,m2⟩ | ⟨n2,m2⟩
   ·exact R.apart j k l' hne m1 m2
   ·exact ha l' j m2 m1
  ·rcases back k l' h2 with ⟨n2,m2⟩ | ⟨n2,m2⟩
   ·exact ha l' k m1 m2
   ·exact hne (n1.symm.trans n2)
theorem Rep.setM {i:Nat} {l:v4} {a:AV} (R:Rep K C F H σ ρ) (h:Slot K C F H a (some (.ref l))) (ha:∀ i,a12 σ ρ i l → False) (hn:a.inn = []:=by rfl):Rep K C F H (σ.set i (some (.ref l))) (ρ.set i a) :=
 R.setT h fun l' j f m=>by
  rcases f with ⟨_,q⟩ | q
  ·cases q; exact ha j m
  ·rw [hn] at q; simp at q
/-- a slot is forgotten -/
theorem Rep.forget {i:Nat} {o:Option V} (R:Rep K C F H σ ρ):Rep K C F H (σ.set i o) (ρ.set i .un):=by
 refine ⟨by rw [o8,o8]; exact R.len,R.sub,R.gr,R.keep,R.there,R.nw,R.mf,R.tp,fun j b e=>?_,fun j k l' hne h1 h2=>?_⟩
 ·by_cases hj:i = j
  ·subst hj
   by_cases hi:i < ρ.length
   ·rw [j8 hi] at e
    cases e
    exact ⟨o,by rw [j8 (by rw [R.len]; exact hi)],trivial⟩
   ·rw [s0 (by rw [o8]; omega)] at e; cases e
  ·rw [j4 hj] at e
   obtain ⟨o,eo,hs⟩:=R.slot j b e
   exact ⟨o,by rw [j4 hj]; exact eo,hs⟩
 ·have back:∀ n l',a12 (σ.set i o) (ρ.set i .un) n l' → a12 σ ρ n l':=fun n l' ⟨b,e,f⟩=>by
   by_cases hn:i = n
   ·subst hn
    by_cases hi:i < ρ.length
    ·rw [j8 hi] at e; cases e; cases f.mut
    ·rw [s0 (by rw [o8]; omega)] at e; cases e
   ·rw [j4 hn] at e f; exact ⟨b,e,f⟩
  exact R.apart j k l' hne (back j l' h1) (back k l' h2)
/-- only what is known is forgotten -/
theorem Rep.unA {i:Nat} (R:Rep K C F H σ ρ):Rep K C F H σ (ρ.set i .un):=by
 refine ⟨by rw [o8]; exact R.len,R.sub,R.gr,R.keep,R.there,R.nw,R.mf,R.tp,fun j b e=>?_,fun j k l' hne h1 h2=>?_⟩
 ·by_cases hj:i = j
  ·subst hj
   by_cases hi:i < ρ.length
   ·rw [j8 hi] at e
    cases e
    obtain ⟨o,eo,_⟩:=R.slot i _ (j5 hi)
    exact ⟨o,eo,trivial⟩
   ·rw [s0 (by rw [o8]; omega)] at e; cases e
  ·rw [j4 hj] at e
   exact R.slot j b e
 ·have back:∀ n l',a12 σ (ρ.set i .un) n l' → a12 σ ρ n l':=fun n l' ⟨b,e,f⟩=>by
   by_cases hn:i = n
   ·subst hn
    by_cases hi:i < ρ.length
    ·rw [j8 hi] at e; cases e; cases f.mut
    ·rw [s0 (by rw [o8]; omega)] at e; cases e
   ·rw [j4 hn] at e; exact ⟨b,e,f⟩
  exact R.apart j k l' hne (back j l' h1) (back k l' h2)
/-- a slot's own local thing is frozen -/
def AV.frozen:AV → Option c8
 | .ml none ds=>some (.list ds)
 | .mdk none es=>some (.dict es)
 | _=>none
theorem Rep.freezeSlot {i:Nat} {a:AV} {d:c8} {v:V} (R:Rep K C F H σ ρ) (hi:ρ[i]? = some a) (hz:a.frozen = some d) (hv:σ[i]? = some (some v)):∃ F',Rep K C F' H σ (ρ.set i (.dat d)) ∧ a5K F F' ∧ Dr K F' v d:=by
 obtain ⟨o,eo,hs⟩:=R.slot i a hi
 rw [hv] at eo
 cases eo
 have R1:Rep K C F H σ (ρ.set i .un):=R.unA
 have fin:∀ {F':Hp},Rep K C F' H σ (ρ.set i .un) → a5K F F' → Dr K F' v d → ∃ F',Rep K C F' H σ (ρ.set i (.dat d)) ∧ a5K F F' ∧ Dr K F' v d:=fun {F'} R' s' hd=>by
  have R2:=R'.setD (i:=i) hd
  have e1:σ.set i (some v) = σ:=by
   refine c1Z fun n=>?_
   by_cases hn:i = n
   ·subst hn
    rw [j8 (j2.mp hv).1,hv]
   ·rw [j4 hn]
  rw [e1,List.set_set] at R2
  exact ⟨F',R2,s',hd⟩
 have noMut:∀ l,v = .ref l → a.isMut = true → ∀ j,a12 σ (ρ.set i .un) j l → False:=fun l e m j ⟨b,eb,f⟩=>by
  by_cases hn:i = j
  ·subst hn
   rw [j8 (j2.mp hi).1] at eb
   cases eb; cases f.mut
  ·rw [j4 hn] at eb
   exact R.apart i j l hn (.mk hi m (by rw [hv,e])) ⟨b,eb,f⟩
 cases a with
 | un=>cases hz
 | dat d'=>cases hz
 | scr d'=>cases hz
 | opq v=>cases hz
 | lk u=>cases hz
 | tr p t=>cases hz
 | ml p ds =>
  cases p with
  | some j=>cases hz
  | none =>
   cases hz
   obtain ⟨l',xs,e1,hF,h1,h2,h3⟩:=hs
   cases e1
   obtain ⟨R',s⟩:=R1.freezeAt hF h1 h3 (noMut l' rfl rfl)
   exact fin R' s (.lst a0C (h2.mono s))
 | mdk p ds =>
  cases p with
  | some j=>cases hz
  | none =>
   cases hz
   obtain ⟨l',xs,e1,hF,h1,h2,h3⟩:=hs
   cases e1
   obtain ⟨R',s⟩:=R1.freezeAt hF h1 h3 (noMut l' rfl rfl)
   exact fin R' s (.dic a0C (h2.mono s))
 | mdt p ds=>cases p <;> cases hz
end
abbrev PXT:=m6 → Option (Str × c8) → List AV → Prop
abbrev AEx:=List AV → PXT → (RV → List AV → Prop) → Prop
abbrev ATx:=List AV → PXT → (Bool → List AV → Prop) → Prop
abbrev AAx:=List AV → PXT → (List RV → List AV → Prop) → Prop
structure AEnds where
 nx:List AV → Prop
 rt:RV → List AV → Prop
 bk:List AV → Prop:=fun _=>False
 ct:List AV → Prop:=fun _=>False
 ex:PXT
abbrev ASt:=AEnds → List AV → Prop
def XOk (K:b0) (F H:Hp) (p:Option (Str × c8)) (d:Option v4):Prop:=match p with
 | none=>d = none
 | some (f,x)=>∃ dd v,d = some dd ∧ F dd = some (.xd [(f,v)]) ∧ Dr K F v x
def XS (K:b0) (C:C0) (W:WX) (PX:PXT):Prop:=∀ F' H' σ' ρ' cls p d,Rep K C F' H' σ' ρ' → XOk K F' H' p d → PX cls p ρ' → W cls d σ' H'
def ES (K:b0) (W:WX) (te:TE) (a:AEx):Prop:=∀ C ρ PX P F H σ Q,Rep K C F H σ ρ → a ρ PX P → XS K C W PX →
 (∀ v F' H' r ρ',Rep K C F' H' σ ρ' → a5K F F' → a57 K C F' H' σ ρ' v r → P r ρ' → Q v H') → te σ H Q
def TSd (K:b0) (W:WX) (te:TT) (a:ATx):Prop:=∀ C ρ PX P F H σ Q,Rep K C F H σ ρ → a ρ PX P → XS K C W PX →
 (∀ b F' H' ρ',Rep K C F' H' σ ρ' → a5K F F' → P b ρ' → Q b H') → te σ H Q
def c3w (K:b0) (C:C0) (F H:Hp) (σ:a3j) (ρ:List AV):List V → List RV → Prop:=a22 fun v r=>a57 K C F H σ ρ v r ∧ RV.old r
def AS0 (K:b0) (W:WX) (te:TA) (a:AAx):Prop:=∀ C ρ PX P F H σ Q,Rep K C F H σ ρ → a ρ PX P → XS K C W PX →
 (∀ vs F' H' rs ρ',Rep K C F' H' σ ρ' → a5K F F' → c3w K C F' H' σ ρ' vs rs → P rs ρ' → Q vs H') → te σ H Q
def SS (K:b0) (W:WX) (ts:TS) (a:ASt):Prop:=∀ C D ρ F H σ (D':Ends),Rep K C F H σ ρ → a D ρ → XS K C W D.ex →
 (∀ F' H' σ' ρ',Rep K C F' H' σ' ρ' → a5K F F' → D.nx ρ' → D'.nx σ' H') → (∀ F' H' σ' ρ',Rep K C F' H' σ' ρ' → a5K F F' → D.bk ρ' → D'.bk σ' H') → (∀ F' H' σ' ρ',Rep K C F' H' σ' ρ' → a5K F F' → D.ct ρ' → D'.ct σ' H') →
 (∀ v F' H' σ' ρ' r,Rep K C F' H' σ' ρ' → a5K F F' → a57 K C F' H' σ' ρ' v r → D.rt r ρ' → D'.rt v H') → ts D' σ H
def W0:WX:=fun _ _ _ _=>False
def X0:PXT:=fun _ _ _=>False
theorem xs0 {K:b0} {C:C0} {W:WX}:XS K C W X0:=fun _ _ _ _ _ _ _ _ _ h=>h.elim
def C0.add (C:C0) (D:v4) (o:HO):C0:={ C with H0:=upd C.H0 D o }
theorem Rep.guard {K:b0} {C:C0} {F H:Hp} {σ:a3j} {ρ:List AV} {D:v4} {o:HO} (R:Rep K C F H σ ρ) (hH:H D = some o) (hF:F D = none) (h0:C.H0 D = none) (hm:∀ i,a12 σ ρ i D → False):Rep K (C.add D o) F H σ ρ:=by
 have hM:∀ l ∈ C.M0,l ≠ D:=fun l hl z=>by
  subst z
  obtain ⟨_,u,e⟩:=R.mf l hl
  rw [h0] at e; cases e
 refine ⟨R.len,R.sub,R.gr,fun b u e n=>?_,fun b u e=>?_,fun b u e n=>?_,fun l hl=>?_,R.tp,fun i a e=>?_,R.apart⟩
 ·by_cases hb:b = D
  ·subst hb
   have e':upd C.H0 b o b = some u:=e
   rw [a0C] at e'; cases e'; exact hH
  ·have e':upd C.H0 D o b = some u:=e
   rw [a1V hb] at e'; exact R.keep b u e' n
 ·by_cases hb:b = D
  ·subst hb; exact ⟨o,hH⟩
  ·have e':upd C.H0 D o b = some u:=e
   rw [a1V hb] at e'; exact R.there b u e'
 ·by_cases hb:b = D
  ·subst hb; exact hF
  ·have e':upd C.H0 D o b = some u:=e
   rw [a1V hb] at e'; exact R.nw b u e' n
 ·obtain ⟨h1,u,e⟩:=R.mf l hl
  exact ⟨h1,u,by show upd C.H0 D o l = some u; rw [a1V (hM l hl)]; exact e⟩
 ·obtain ⟨w,eo,hs⟩:=R.slot i a e
  refine ⟨w,eo,?_⟩
  have wh:∀ p l,b3l C p l → l ≠ D → b3l (C.add D o) p l:=fun p l z n=>by
   cases p with
   | none =>
    show upd C.H0 D o l = none
    rw [a1V n]; exact z
   | some j=>exact z
  cases a with
  | un=>trivial
  | dat d=>exact hs
  | scr ns=>exact hs
  | opq v=>exact hs
  | lk u=>exact hs
  | ml p ds =>
   obtain ⟨l,xs,e1,h1,h2,h3,h4⟩:=hs
   refine ⟨l,xs,e1,h1,h2,h3,wh p l h4 fun z=>?_⟩
   subst z
   exact hm i (.mk e rfl (by rw [eo,e1]))
  | mdk p ds =>
   obtain ⟨l,xs,e1,h1,h2,h3,h4⟩:=hs
   refine ⟨l,xs,e1,h1,h2,h3,wh p l h4 fun z=>?_⟩
   subst z
   exact hm i (.mk e rfl (by rw [eo,e1]))
  | mdt p ds =>
   obtain ⟨l,xs,e1,h1,h2,h3,h4⟩:=hs
   refine ⟨l,xs,e1,h1,h2,h3,wh p l h4 fun z=>?_⟩
   subst z
   exact hm i (.mk e rfl (by rw [eo,e1]))
  | tr p t =>
   obtain ⟨b,e1,h1,h2,h3,h4,h5⟩:=hs
   have nD:∀ l ∈ t.foot,l ≠ D:=fun l hl z=>by
    subst z
    exact hm i ⟨_,e,.inr hl⟩
   refine ⟨b,e1,h1,fun l hl=>⟨(h2 l hl).1,?_⟩,h3,h4,wh p b h5 (nD b h4)⟩
   rcases (h2 l hl).2 with z | z
   ·exact .inl z
   ·refine .inr ?_
    show upd C.H0 D o l = none
    rw [a1V (nD l hl)]; exact z
theorem Slot.unadd {K:b0} {C:C0} {F H:Hp} {D:v4} {o:HO} {a:AV} {w:Option V} (h0:C.H0 D = none) (hs:Slot K (C.add D o) F H a w):Slot K C F H a w:=by
 have wh:∀ p l,b3l (C.add D o) p l → b3l C p l:=fun p l z=>by
  cases p with
  | none =>
   have z':upd C.H0 D o l = none:=z
   have n:l ≠ D:=fun y=>by subst y; rw [a0C] at z'; cases z'
   rw [a1V n] at z'; exact z'
  | some j=>exact z
 cases a with
 | un=>trivial
 | dat d=>exact hs
 | scr ns=>exact hs
 | opq v=>exact hs
 | lk u=>exact hs
 | ml p ds =>
  obtain ⟨l,xs,e1,h1,h2,h3,h4⟩:=hs
  exact ⟨l,xs,e1,h1,h2,h3,wh p l h4⟩
 | mdk p ds =>
  obtain ⟨l,xs,e1,h1,h2,h3,h4⟩:=hs
  exact ⟨l,xs,e1,h1,h2,h3,wh p l h4⟩
 | mdt p ds =>
  obtain ⟨l,xs,e1,h1,h2,h3,h4⟩:=hs
  exact ⟨l,xs,e1,h1,h2,h3,wh p l h4⟩
 | tr p t =>
  obtain ⟨b,e1,h1,h2,h3,h4,h5⟩:=hs
  refine ⟨b,e1,h1,fun l hl=>⟨(h2 l hl).1,?_⟩,h3,h4,wh p b h5⟩
  rcases (h2 l hl).2 with z | z
  ·exact .inl z
  ·refine .inr ?_
   have z':upd C.H0 D o l = none:=z
   have n:l ≠ D:=fun y=>by subst y; rw [a0C] at z'; cases z'
   rw [a1V n] at z'; exact z'
theorem Rep.unguard {K:b0} {C:C0} {F H:Hp} {σ:a3j} {ρ:List AV} {D:v4} {o:HO} (h0:C.H0 D = none) (hM:D ∉ C.M0) (hF0:C.F0 D = none) (R:Rep K (C.add D o) F H σ ρ):Rep K C F H σ ρ ∧ H D = some o ∧ F D = none ∧ ∀ i,a12 σ ρ i D → False:=by
 have up:∀ b u,C.H0 b = some u → (C.add D o).H0 b = some u:=fun b u e=>by
  show upd C.H0 D o b = some u
  rw [a1V (a26 e h0)]; exact e
 have me:(C.add D o).H0 D = some o:=a0C
 refine ⟨⟨R.len,R.sub,R.gr,fun b u e n=>R.keep b u (up b u e) n,fun b u e=>R.there b u (up b u e),fun b u e n=>R.nw b u (up b u e) n,fun l hl=>?_,R.tp,fun i a e=>?_,R.apart⟩,R.keep D o me hM,R.nw D o me hF0,fun i m=>?_⟩
 ·obtain ⟨h1,u,e⟩:=R.mf l hl
  refine ⟨h1,u,?_⟩
  have n:l ≠ D:=fun z=>hM (by subst z; exact hl)
  have e':upd C.H0 D o l = some u:=e
  rw [a1V n] at e'; exact e'
 ·obtain ⟨w,eo,hs⟩:=R.slot i a e
  exact ⟨w,eo,hs.unadd h0⟩
 ·rcases R.mutW m with z | z
  ·exact hM z
  ·rw [me] at z; cases z
end Aq
namespace Aq
open PySem L2
variable {K:b0} {W:WX}
def i9 (i:Nat):AEx:=fun ρ _ P=>match ρ[i]? with
 | some (.dat d)=>P (.dat d) ρ
 | some (.ml none ds)=>P (.bor i) ρ ∨ P (.dat (.list ds)) (ρ.set i (.dat (.list ds)))
 | some (.mdk none es)=>P (.bor i) ρ ∨ P (.dat (.dict es)) (ρ.set i (.dat (.dict es)))
 | some (.ml (some _) _)=>P (.bor i) ρ
 | some (.mdk (some _) _)=>P (.bor i) ρ
 | some (.scr _)=>P (.bor i) ρ
 | some (.opq _)=>P (.bor i) ρ
 | some (.mdt _ _)=>P (.bor i) ρ
 | _=>False
theorem c9 {i:Nat}:ES K W (i3 i) (i9 i):=by
 intro C ρ PX P F H σ Q R h _ k
 unfold i9 at h
 have bor:∀ a:AV,ρ[i]? = some a → (∀ o,Slot K C F H a o → ∃ v,o = some v) → P (.bor i) ρ → i3 i σ H Q:=fun a ea hv hp=>by
  obtain ⟨o,eo,hs⟩:=R.slot i a ea
  obtain ⟨v,rfl⟩:=hv o hs
  exact ⟨v,eo,k v F H (.bor i) ρ R (.refl _) ⟨eo,a,ea⟩ hp⟩
 have frz:∀ (a:AV) (d:c8),ρ[i]? = some a → a.frozen = some d → (∀ o,Slot K C F H a o → ∃ v,o = some v) → P (.dat d) (ρ.set i (.dat d)) → i3 i σ H Q:=fun a d ea hz hv hp=>by
  obtain ⟨o,eo,hs⟩:=R.slot i a ea
  obtain ⟨v,rfl⟩:=hv o hs
  obtain ⟨F',R',s',hd⟩:=R.freezeSlot ea hz eo
  exact ⟨v,eo,k v F' H (.dat d) _ R' s' hd hp⟩
 split at h
 ·rename_i d e
  obtain ⟨o,eo,v,rfl,hd⟩:=R.slot i _ e
  exact ⟨v,eo,k v F H (.dat d) ρ R (.refl _) hd h⟩
 ·rename_i ds e
  have hv:∀ o,Slot K C F H (.ml none ds) o → ∃ v,o = some v:=fun o ⟨l,xs,e1,_⟩=>⟨_,e1⟩
  rcases h with h | h
  ·exact bor _ e hv h
  ·exact frz _ _ e rfl hv h
 ·rename_i ds e
  have hv:∀ o,Slot K C F H (.mdk none ds) o → ∃ v,o = some v:=fun o ⟨l,xs,e1,_⟩=>⟨_,e1⟩
  rcases h with h | h
  ·exact bor _ e hv h
  ·exact frz _ _ e rfl hv h
 ·rename_i j ds e
  exact bor _ e (fun o ⟨l,xs,e1,_⟩=>⟨_,e1⟩) h
 ·rename_i j ds e
  exact bor _ e (fun o ⟨l,xs,e1,_⟩=>⟨_,e1⟩) h
 ·rename_i ns e
  exact bor _ e (fun o ⟨l,e1,_⟩=>⟨_,e1⟩) h
 ·rename_i v e
  exact bor _ e (fun o e1=>⟨_,e1⟩) h
 ·rename_i v es e
  exact bor _ e (fun o ⟨l,xs,e1,_⟩=>⟨_,e1⟩) h
 ·exact h.elim
def aC (d:c8):AEx:=fun ρ _ P=>P (.dat d) ρ
theorem es_c {v:V} {d:c8} (hd:∀ F,Dr K F v d):ES K W (tC v) (aC d):=fun C ρ PX P F H σ Q R h _ k=>k v F H (.dat d) ρ R (.refl _) (hd F) h
theorem d5 {i:Int}:ES K W (tC (.int i)) (aC (.int i)):=es_c fun _=>.int i
theorem t6 {i:Str}:ES K W (tC (.str i)) (aC (.str i)):=es_c fun _=>.str i
theorem a3E {i:Bool}:ES K W (tC (.bl i)) (aC (.bool i)):=es_c fun _=>.bl i
theorem c9f:ES K W (tC .non) (aC .none):=es_c fun _=>.non
theorem a57.stay {C:C0} {F F' H H':Hp} {σ:a3j} {ρ ρ':List AV} {v:V} {r:RV} (s:a5K F F') (R':Rep K C F' H' σ ρ') (n:RV.old r) (h:a57 K C F H σ ρ v r):a57 K C F' H' σ ρ' v r:=by
 cases r with
 | dat d=>exact Dr.mono s d v h
 | bor i =>
  obtain ⟨e,a,_⟩:=h
  have hi:i < ρ'.length:=by rw [← R'.len]; exact (j2.mp e).1
  exact ⟨e,_,j5 hi⟩
 | own a=>exact n.elim
 | tupO ds d=>exact n.elim
def a0J (o:Option c8) (k:c8 → Prop):Prop:=match o with
 | some d=>k d
 | none=>False
theorem a0c {o:Option c8} {k:c8 → Prop} (h:a0J o k):∃ d,o = some d ∧ k d:=by
 unfold a0J at h
 split at h
 ·exact ⟨_,rfl,h⟩
 ·exact h.elim
def p8:AAx:=fun ρ _ P=>P [] ρ
def d4 (a:AEx) (b:AAx):AAx:=fun ρ PX P=>a ρ PX fun r ρ1=>b ρ1 PX fun rs ρ2=>P (r.hold :: rs) ρ2
theorem d9:AS0 K W p7 p8:=fun C ρ PX P F H σ Q R h _ k=>k [] F H [] ρ R (.refl _) .nil h
theorem c7 {te:TE} {t:TA} {a:AEx} {b:AAx} (ha:ES K W te a) (hb:AS0 K W t b):AS0 K W (d3 te t) (d4 a b):=fun C ρ PX P F H σ Q R h xs k =>
 ha C ρ PX _ F H σ _ R h xs fun v F1 H1 r ρ1 R1 s1 o1 p1=>by
  obtain ⟨F2,R2,s2,o2,n2⟩:=a2r R1 o1
  refine hb C ρ1 PX _ F2 H1 σ _ R2 p1 xs fun vs F3 H3 rs ρ3 R3 s3 o3 p3=>?_
  exact k (v :: vs) F3 H3 (r.hold :: rs) ρ3 R3 ((s1.trans s2).trans s3) (.cons ⟨o2.stay s3 R3 n2,n2⟩ o3) p3
inductive Out where
 | dat (d:c8)
 | newL (ds:List c8)
 | newT (ds:List c8)
def Out.rv:Out → RV
 | .dat d=>.dat d
 | .newL ds=>.own (.ml none ds)
 | .newT ds=>.dat (.tuple ds)
structure OutS (K:b0) (F H:Hp) (Pd:Out → Prop) (Q:VK):Prop where
 dat:∀ z d,Dr K F z d → Pd (.dat d) → Q z H
 newL:∀ p xs ds,H p = none → DrAll K F xs ds → Pd (.newL ds) → Q (.ref p) (upd H p (.lst xs))
 newT:∀ p xs ds,H p = none → DrAll K F xs ds → Pd (.newT ds) → Q (.ref p) (upd H p (.tup xs))
theorem c8t {C:C0} {F H:Hp} {σ:a3j} {ρ:List AV} {P:RV → List AV → Prop} {Q:VK} (R:Rep K C F H σ ρ) (k:∀ v F' H' r,Rep K C F' H' σ ρ → a5K F F' → a57 K C F' H' σ ρ v r → P r ρ → Q v H'):OutS K F H (fun o=>P o.rv ρ) Q where
 dat:=fun z d hd hp=>k z F H (.dat d) R (.refl _) hd hp
 newL:=fun p xs ds hn hd hp=>by
  obtain ⟨R',hF,h0,hm⟩:=R.laidM (u:=.lst xs) hn
  exact k (.ref p) F _ (.own (.ml none ds)) R' (.refl _) ⟨p,rfl,rfl,⟨p,xs,rfl,hF,a0C,hd,h0⟩,h0,hm⟩ hp
 newT:=fun p xs ds hn hd hp=>by
  obtain ⟨R',s⟩:=R.laidF (u:=.tup xs) hn
  exact k (.ref p) _ _ (.dat (.tuple ds)) R' s (.tup (.of a0C) (hd.mono s)) hp
def DOp:=c8 → c8 → (Out → Prop) → Prop
def R2S (K:b0) (r:R2) (g:DOp):Prop:=∀ F H x y d e Pd Q,a5K F H → Lk K F H x d → Lk K F H y e → g d e Pd → OutS K F H Pd Q → r x y H Q
def aOp (g:DOp) (a b:AEx):AEx:=fun ρ PX P=>a ρ PX fun r1 ρ1=>b ρ1 PX fun r2 ρ2=>a0J (r1.hold.look ρ2) fun d=>a0J (r2.look ρ2) fun e=>g d e fun o=>P o.rv ρ2
theorem f6 {r:R2} {g:DOp} {ta tb:TE} {a b:AEx} (hr:R2S K r g) (ha:ES K W ta a) (hb:ES K W tb b):ES K W (tOp r ta tb) (aOp g a b):=fun C ρ PX P F H σ Q R h xs k =>
 ha C ρ PX _ F H σ _ R h xs fun v F1 H1 r1 ρ1 R1 s1 o1 p1=>by
  obtain ⟨F2,R2,s2,o2,n2⟩:=a2r R1 o1
  refine hb C ρ1 PX _ F2 H1 σ _ R2 p1 xs fun u F3 H3 r2 ρ3 R3 s3 o3 p3=>?_
  obtain ⟨d,ed,p3⟩:=a0c p3
  obtain ⟨e,ee,p3⟩:=a0c p3
  exact hr F3 H3 v u d e _ Q R3.sub ((o2.stay s3 R3 n2).lk R3 ed) (o3.lk R3 ee) p3 (c8t R3 fun v' F' H' r' R' s' o' p'=>k v' F' H' r' ρ3 R' (((s1.trans s2).trans s3).trans s') o' p')
def DUn:=c8 → (Out → Prop) → Prop
def U1S (K:b0) (r:V → Hp → VK → Prop) (g:DUn):Prop:=∀ F H x d Pd Q,a5K F H → Lk K F H x d → g d Pd → OutS K F H Pd Q → r x H Q
def aUn (g:DUn) (a:AEx):AEx:=fun ρ PX P=>a ρ PX fun r1 ρ1=>a0J (r1.look ρ1) fun d=>g d fun o=>P o.rv ρ1
theorem c99 {r:V → Hp → VK → Prop} {g:DUn} {ta:TE} {a:AEx} (hr:U1S K r g) (ha:ES K W ta a):ES K W (tUn r ta) (aUn g a):=fun C ρ PX P F H σ Q R h xs k =>
 ha C ρ PX _ F H σ _ R h xs fun v F1 H1 r1 ρ1 R1 s1 o1 p1=>by
  obtain ⟨d,ed,p1⟩:=a0c p1
  exact hr F1 H1 v d _ Q R1.sub (o1.lk R1 ed) p1 (c8t R1 fun v' F' H' r' R' s' o' p'=>k v' F' H' r' ρ1 R' (s1.trans s') o' p')
def d1f (o:Out) (k:Bool → Prop):Prop:=match o with
 | .dat (.bool b)=>k b
 | _=>False
def c0w (g g':DOp) (a b c:AEx):AEx:=fun ρ PX P=>a ρ PX fun r1 ρ1=>b ρ1 PX fun r2 ρ2=>a0J (r1.hold.look ρ2) fun d=>a0J (r2.hold.look ρ2) fun e=>g d e fun o=>d1f o fun k =>
 if k = true then c ρ2 PX fun r3 ρ3=>a0J (r2.hold.look ρ3) fun e'=>a0J (r3.look ρ3) fun f=>g' e' f fun o'=>P o'.rv ρ3 else P (.dat (.bool false)) ρ2
theorem b88 {r r':R2} {g g':DOp} {ta tb tc:TE} {a b c:AEx} (hr:R2S K r g) (hr':R2S K r' g') (ha:ES K W ta a) (hb:ES K W tb b) (hc:ES K W tc c):ES K W (tChain r r' ta tb tc) (c0w g g' a b c):=fun C ρ PX P F H σ Q R h xs k =>
 ha C ρ PX _ F H σ _ R h xs fun v F1 H1 r1 ρ1 R1 s1 o1 p1=>by
  obtain ⟨F2,R2,s2,o2,n2⟩:=a2r R1 o1
  refine hb C ρ1 PX _ F2 H1 σ _ R2 p1 xs fun u F3 H3 r2 ρ3 R3 s3 o3 p3=>?_
  obtain ⟨d,ed,p3⟩:=a0c p3
  obtain ⟨e,ee,p3⟩:=a0c p3
  obtain ⟨F4,R4,s4,o4,n4⟩:=a2r R3 o3
  have s24:=s3.trans s4
  refine hr F4 H3 v u d e _ _ R4.sub ((o2.stay s24 R4 n2).lk R4 ed) (o4.lk R4 ee) p3 ⟨fun z dd hz pd=>?_,fun p xs ds hn hd pd=>pd.elim,fun p xs ds hn hd pd=>pd.elim⟩
  cases dd with
  | bool bb =>
   cases hz
   refine ⟨bb,rfl,?_⟩
   cases bb with
   | true =>
    refine hc C ρ3 PX _ F4 H3 σ _ R4 pd xs fun w F5 H5 r3 ρ5 R5 s5 o5 p5=>?_
    obtain ⟨e',ee',p5⟩:=a0c p5
    obtain ⟨f,ef,p5⟩:=a0c p5
    exact hr' F5 H5 u w e' f _ Q R5.sub ((o4.stay s5 R5 n4).lk R5 ee') (o5.lk R5 ef) p5 (c8t R5 fun v' F' H' r' R' s' o' p'=>k v' F' H' r' ρ5 R' ((((s1.trans s2).trans s24).trans s5).trans s') o' p')
   | false=>exact k (.bl false) F4 H3 (.dat (.bool false)) ρ3 R4 ((s1.trans s2).trans s24) (.bl false) pd
  | _=>exact pd.elim
def b4Y:List RV → Option (List c8)
 | []=>some []
 | .dat d :: rs=>(b4Y rs).map (d :: ·)
 | _ :: _=>none
def a24 (o:Option (List c8)) (k:List c8 → Prop):Prop:=match o with
 | some d=>k d
 | none=>False
theorem a4h {o:Option (List c8)} {k:List c8 → Prop} (h:a24 o k):∃ d,o = some d ∧ k d:=by
 unfold a24 at h
 split at h
 ·exact ⟨_,rfl,h⟩
 ·exact h.elim
theorem a6q {C:C0} {F H:Hp} {σ:a3j} {ρ:List AV}:∀ {vs:List V} {rs:List RV} {ds:List c8},c3w K C F H σ ρ vs rs → b4Y rs = some ds → DrAll K F vs ds
 | _,_,_,.nil,e=>by cases e; exact .nil
 | _,.dat d :: rs,ds,.cons h t,e=>by
  unfold b4Y at e
  cases q:b4Y rs with
  | none=>rw [q] at e; cases e
  | some l =>
   rw [q] at e
   cases e
   exact .cons h.1 (a6q t q)
 | _,.bor i :: rs,ds,.cons h t,e=>by cases e
 | _,.own i :: rs,ds,.cons h t,e=>by cases e
def a7H (a:AAx):AEx:=fun ρ PX P=>a ρ PX fun rs ρ1=>a24 (b4Y rs) fun ds=>ds.length ≤ k8 ∧ P (.dat (.tuple ds)) ρ1
theorem a1l {t:TA} {a:AAx} (ha:AS0 K W t a):ES K W (b57 t) (a7H a):=fun C ρ PX P F H σ Q R h xs k =>
 ha C ρ PX _ F H σ _ R h xs fun vs F1 H1 rs ρ1 R1 s1 o1 p1=>by
  obtain ⟨ds,e,z,p1⟩:=a4h p1
  have hd:=a6q o1 e
  refine ⟨by rw [hd.length]; exact z,fun p hp=>?_⟩
  obtain ⟨R',s'⟩:=R1.laidF (u:=.tup vs) hp
  exact k (.ref p) _ _ (.dat (.tuple ds)) ρ1 R' (s1.trans s') (Dr.tup (.of a0C) (hd.mono s')) p1
def a5J (a:AAx):AEx:=fun ρ PX P=>a ρ PX fun rs ρ1=>a24 (b4Y rs) fun ds=>ds.length ≤ k8 ∧ P (.own (.ml none ds)) ρ1
theorem a0x {t:TA} {a:AAx} (ha:AS0 K W t a):ES K W (b0j t) (a5J a):=fun C ρ PX P F H σ Q R h xs k =>
 ha C ρ PX _ F H σ _ R h xs fun vs F1 H1 rs ρ1 R1 s1 o1 p1=>by
  obtain ⟨ds,e,z,p1⟩:=a4h p1
  have hd:=a6q o1 e
  refine ⟨by rw [hd.length]; exact z,fun p hp=>?_⟩
  exact (c8t R1 (P:=P) (Q:=Q) fun v' F' H' r' R' s' o' p'=>k v' F' H' r' ρ1 R' (s1.trans s') o' p').newL p vs ds hp hd p1
def b3p (ρ:List AV):List RV → Option (List c8)
 | []=>some []
 | r :: rs=>match r.look ρ,b3p ρ rs with
  | some d,some ds=>some (d :: ds)
  | _,_=>none
abbrev c72 (K:b0) (F H:Hp):List V → List c8 → Prop:=a22 fun v d=>Lk K F H v d
theorem c09 {C:C0} {F H:Hp} {σ:a3j} {ρ:List AV} (R:Rep K C F H σ ρ):∀ {vs:List V} {rs:List RV} {ds:List c8},c3w K C F H σ ρ vs rs → b3p ρ rs = some ds → c72 K F H vs ds
 | _,_,_,.nil,e=>by cases e; exact .nil
 | _,r :: rs,ds,.cons h t,e=>by
  unfold b3p at e
  cases q1:r.look ρ with
  | none=>rw [q1] at e; cases e
  | some d =>
   cases q:b3p ρ rs with
   | none=>rw [q1,q] at e; cases e
   | some l =>
    rw [q1,q] at e
    cases e
    exact .cons (h.1.lk R q1) (c09 R t q)
def DCl:=List c8 → (Out → Prop) → Prop
def R1S (K:b0) (r:List V → Hp → VK → Prop) (g:DCl):Prop:=∀ F H vs ds Pd Q,a5K F H → c72 K F H vs ds → g ds Pd → OutS K F H Pd Q → r vs H Q
def aCB (g:DCl) (a:AAx):AEx:=fun ρ PX P=>a ρ PX fun rs ρ1=>a24 (b3p ρ1 rs) fun ds=>g ds fun o=>P o.rv ρ1
theorem a10 {r:List V → Hp → VK → Prop} {g:DCl} {t:TA} {a:AAx} (hr:R1S K r g) (ha:AS0 K W t a):ES K W (tCB r t) (aCB g a):=fun C ρ PX P F H σ Q R h xs k =>
 ha C ρ PX _ F H σ _ R h xs fun vs F1 H1 rs ρ1 R1 s1 o1 p1=>by
  obtain ⟨ds,e,p1⟩:=a4h p1
  exact hr F1 H1 vs ds _ Q R1.sub (c09 R1 o1 e) p1 (c8t R1 fun v' F' H' r' R' s' o' p'=>k v' F' H' r' ρ1 R' (s1.trans s') o' p')
def c1W (d:c8) (k:Bool → Prop):Prop:=match d with
 | .none=>k false
 | .bool b=>k b
 | .int i=>k (i != 0)
 | .str s=>s.length ≤ k8 ∧ k ((s.length:Int) != 0)
 | .list ds=>k (!ds.isEmpty)
 | .tuple ds=>k (!ds.isEmpty)
 | .dict es=>k (!es.isEmpty)
theorem b69 {F:Hp} {vs:List V} {ds:List c8} (h:DrAll K F vs ds):vs.isEmpty = ds.isEmpty:=by
 cases h <;> rfl
theorem c0K {F:Hp} {vs:List (Key × V)} {ds:List (c8 × c8)} (h:DrKV K F vs ds):vs.isEmpty = ds.isEmpty:=by
 cases h <;> rfl
theorem b9K {F H:Hp} {v:V} {d:c8} {k:Bool → Prop} (s:a5K F H) (h:Lk K F H v d) (t:c1W d k):∃ b,TruV K v H b ∧ k b:=by
 cases d with
 | none=>rw [h.none]; exact ⟨false,rfl,t⟩
 | bool b=>rw [h.bool]; exact ⟨b,rfl,t⟩
 | int i=>rw [h.int]; exact ⟨_,rfl,t⟩
 | str i=>rw [h.str]; exact ⟨_,⟨t.1,rfl⟩,t.2⟩
 | list ds =>
  obtain ⟨l,xs,rfl,h1,h2⟩:=h.list s
  exact ⟨_,.inl ⟨xs,.of h1,rfl⟩,by rw [b69 h2]; exact t⟩
 | tuple ds =>
  obtain ⟨l,xs,rfl,h1,h2⟩:=h.tuple s
  exact ⟨_,.inr (.inl ⟨xs,h1,rfl⟩),by rw [b69 h2]; exact t⟩
 | dict es =>
  rcases h with h | ⟨l,xs,ds',e1,e2,h1,h2⟩ | ⟨l,kvs,es',e1,e2,h1,h2⟩
  ·cases h with
   | dic h1 h2=>exact ⟨_,.inr (.inr ⟨_,s _ _ h1,rfl⟩),by rw [c0K h2]; exact t⟩
  ·cases e2
  ·cases e2
   subst e1
   exact ⟨_,.inr (.inr ⟨_,h1,rfl⟩),by rw [c0K h2]; exact t⟩
def a6M (K:b0) (ta:TE):TT:=fun σ H Q=>ta σ H fun x H'=>∃ k,TruV K x H' k ∧ Q k H'
def a6U (a:AEx):ATx:=fun ρ PX P=>a ρ PX fun r ρ1=>a0J (r.look ρ1) fun d=>c1W d fun b=>P b ρ1
theorem a04 {ta:TE} {a:AEx} (ha:ES K W ta a):TSd K W (a6M K ta) (a6U a):=fun C ρ PX P F H σ Q R h xs k =>
 ha C ρ PX _ F H σ _ R h xs fun v F1 H1 r1 ρ1 R1 s1 o1 p1=>by
  obtain ⟨d,ed,p1⟩:=a0c p1
  obtain ⟨b,hb,p1⟩:=b9K R1.sub (o1.lk R1 ed) p1
  exact ⟨b,hb,k b F1 H1 ρ1 R1 s1 p1⟩
def c73 (a b:ATx):ATx:=fun ρ PX P=>a ρ PX fun c ρ1=>if c = true then b ρ1 PX P else P false ρ1
def aOr (a b:ATx):ATx:=fun ρ PX P=>a ρ PX fun c ρ1=>if c = true then P true ρ1 else b ρ1 PX P
def a8F (a:ATx):ATx:=fun ρ PX P=>a ρ PX fun c ρ1=>P (!c) ρ1
theorem b5p {t u:TT} {a b:ATx} (ha:TSd K W t a) (hb:TSd K W u b):TSd K W (tAnd t u) (c73 a b):=fun C ρ PX P F H σ Q R h xs k =>
 ha C ρ PX _ F H σ _ R h xs fun c F1 H1 ρ1 R1 s1 p1=>by
  cases c with
  | true=>exact hb C ρ1 PX P F1 H1 σ Q R1 p1 xs fun c F2 H2 ρ2 R2 s2 p2=>k c F2 H2 ρ2 R2 (s1.trans s2) p2
  | false=>exact k false F1 H1 ρ1 R1 s1 p1
theorem a6b {t u:TT} {a b:ATx} (ha:TSd K W t a) (hb:TSd K W u b):TSd K W (tOr t u) (aOr a b):=fun C ρ PX P F H σ Q R h xs k =>
 ha C ρ PX _ F H σ _ R h xs fun c F1 H1 ρ1 R1 s1 p1=>by
  cases c with
  | false=>exact hb C ρ1 PX P F1 H1 σ Q R1 p1 xs fun c F2 H2 ρ2 R2 s2 p2=>k c F2 H2 ρ2 R2 (s1.trans s2) p2
  | true=>exact k true F1 H1 ρ1 R1 s1 p1
theorem a1r {t:TT} {a:ATx} (ha:TSd K W t a):TSd K W (b8X t) (a8F a):=fun C ρ PX P F H σ Q R h xs k =>
 ha C ρ PX _ F H σ _ R h xs fun c F1 H1 ρ1 R1 s1 p1=>k (!c) F1 H1 ρ1 R1 s1 p1
def a6T (a b:AEx):AEx:=fun ρ PX P=>a ρ PX fun r ρ1=>a0J (r.hold.look ρ1) fun d=>c1W d fun c=>if c = true then b ρ1 PX P else P r.hold ρ1
def aOrT (a b:AEx):AEx:=fun ρ PX P=>a ρ PX fun r ρ1=>a0J (r.hold.look ρ1) fun d=>c1W d fun c=>if c = true then P r.hold ρ1 else b ρ1 PX P
def c76 (a:AEx):AEx:=fun ρ PX P=>a ρ PX fun r ρ1=>a0J (r.look ρ1) fun d=>c1W d fun c=>P (.dat (.bool (!c))) ρ1
theorem a2G {ta tb:TE} {a b:AEx} (ha:ES K W ta a) (hb:ES K W tb b):ES K W (b3k K ta tb) (a6T a b):=fun C ρ PX P F H σ Q R h xs k =>
 ha C ρ PX _ F H σ _ R h xs fun v F1 H1 r ρ1 R1 s1 o1 p1=>by
  obtain ⟨F2,R2,s2,o2,n2⟩:=a2r R1 o1
  obtain ⟨d,ed,p1⟩:=a0c p1
  obtain ⟨c,hc,p1⟩:=b9K R2.sub (o2.lk R2 ed) p1
  refine ⟨c,hc,?_⟩
  cases c with
  | true=>exact hb C ρ1 PX P F2 H1 σ Q R2 p1 xs fun v F3 H3 r3 ρ3 R3 s3 o3 p3=>k v F3 H3 r3 ρ3 R3 ((s1.trans s2).trans s3) o3 p3
  | false=>exact k v F2 H1 r.hold ρ1 R2 (s1.trans s2) o2 p1
theorem c9g {ta tb:TE} {a b:AEx} (ha:ES K W ta a) (hb:ES K W tb b):ES K W (tOrT K ta tb) (aOrT a b):=fun C ρ PX P F H σ Q R h xs k =>
 ha C ρ PX _ F H σ _ R h xs fun v F1 H1 r ρ1 R1 s1 o1 p1=>by
  obtain ⟨F2,R2,s2,o2,n2⟩:=a2r R1 o1
  obtain ⟨d,ed,p1⟩:=a0c p1
  obtain ⟨c,hc,p1⟩:=b9K R2.sub (o2.lk R2 ed) p1
  refine ⟨c,hc,?_⟩
  cases c with
  | false=>exact hb C ρ1 PX P F2 H1 σ Q R2 p1 xs fun v F3 H3 r3 ρ3 R3 s3 o3 p3=>k v F3 H3 r3 ρ3 R3 ((s1.trans s2).trans s3) o3 p3
  | true=>exact k v F2 H1 r.hold ρ1 R2 (s1.trans s2) o2 p1
theorem c59 {ta:TE} {a:AEx} (ha:ES K W ta a):ES K W (tNotT K ta) (c76 a):=fun C ρ PX P F H σ Q R h xs k =>
 ha C ρ PX _ F H σ _ R h xs fun v F1 H1 r ρ1 R1 s1 o1 p1=>by
  obtain ⟨d,ed,p1⟩:=a0c p1
  obtain ⟨c,hc,p1⟩:=b9K R1.sub (o1.lk R1 ed) p1
  exact ⟨c,hc,k (.bl (!c)) F1 H1 (.dat (.bool (!c))) ρ1 R1 s1 (.bl _) p1⟩
end Aq
namespace Aq
open PySem L2
variable {K:b0} {W:WX}
def a1D:ASt:=fun D ρ=>D.nx ρ
def a0I (a b:ASt):ASt:=fun D ρ=>a { D with nx:=b D } ρ
theorem y4:SS K W a2k a1D:=fun C D ρ F H σ D' R h _ n _ _ _=>n F H σ ρ R (.refl _) h
theorem m4 {t u:TS} {a b:ASt} (ha:SS K W t a) (hb:SS K W u b):SS K W (a1a t u) (a0I a b):=fun C D ρ F H σ D' R h xs n bk ct rt =>
 ha C { D with nx:=b D } ρ F H σ { D' with nx:=u D' } R h xs
  (fun F1 H1 σ1 ρ1 R1 s1 p1=>hb C D ρ1 F1 H1 σ1 D' R1 p1 xs (fun F2 H2 σ2 ρ2 R2 s2 p2=>n F2 H2 σ2 ρ2 R2 (s1.trans s2) p2) (fun F2 H2 σ2 ρ2 R2 s2 p2=>bk F2 H2 σ2 ρ2 R2 (s1.trans s2) p2) (fun F2 H2 σ2 ρ2 R2 s2 p2=>ct F2 H2 σ2 ρ2 R2 (s1.trans s2) p2)
   fun v F2 H2 σ2 ρ2 r2 R2 s2 o2 p2=>rt v F2 H2 σ2 ρ2 r2 R2 (s1.trans s2) o2 p2) bk ct rt
def a9a (a:AEx):ASt:=fun D ρ=>a ρ D.ex fun _ ρ1=>D.nx ρ1
theorem a3X {te:TE} {a:AEx} (ha:ES K W te a):SS K W (c17 te) (a9a a):=fun C D ρ F H σ D' R h xs n _ _ _ =>
 ha C ρ D.ex _ F H σ _ R h xs fun v F1 H1 r ρ1 R1 s1 o1 p1=>n F1 H1 σ ρ1 R1 s1 p1
/-- what is handed back: a local list that is borrowed becomes the asker's own -/
def d14 (r:RV) (ρ:List AV) (k:RV → List AV → Prop):Prop:=match r with
 | .bor i=>(match ρ[i]? with
  | some (.ml none ds)=>k (.own (.ml none ds)) (ρ.set i .un)
  | some (.mdk none ds)=>k (.own (.mdk none ds)) (ρ.set i .un)
  | _=>False)
 | r=>k r ρ
theorem d1c {C:C0} {F H:Hp} {σ:a3j} {ρ:List AV} {v:V} {r:RV} {k:RV → List AV → Prop} (R:Rep K C F H σ ρ) (h:a57 K C F H σ ρ v r) (p:d14 r ρ k):∃ r' ρ',Rep K C F H σ ρ' ∧ a57 K C F H σ ρ' v r' ∧ k r' ρ':=by
 have go:∀ (i:Nat) (a:AV),σ[i]? = some (some v) → ρ[i]? = some a → a.isOwn = true → (∀ l,Slot K C F H a (some (.ref l)) → C.H0 l = none) → (∃ l,v = .ref l) → k (.own a) (ρ.set i .un) → ∃ r' ρ',Rep K C F H σ ρ' ∧ a57 K C F H σ ρ' v r' ∧ k r' ρ':=fun i a ev ea m h0 ⟨l,el⟩ q=>by
  subst el
  obtain ⟨o,eo,hs⟩:=R.slot i a ea
  rw [ev] at eo
  cases eo
  refine ⟨.own a,_,R.unA (i:=i),⟨l,rfl,m,hs,h0 l hs,fun j ⟨b,eb,f⟩=>?_⟩,q⟩
  by_cases hn:i = j
  ·subst hn
   rw [j8 (j2.mp ea).1] at eb
   cases eb; cases f.mut
  ·rw [j4 hn] at eb
   exact R.apart i j l hn (.mk ea (AV.isOwn_mut m) ev) ⟨b,eb,f⟩
 cases r with
 | dat d=>exact ⟨_,_,R,h,p⟩
 | own a=>exact ⟨_,_,R,h,p⟩
 | tupO ds d=>exact ⟨_,_,R,h,p⟩
 | bor i =>
  obtain ⟨ev,_⟩:=h
  have p':(match ρ[i]? with
   | some (.ml none ds)=>k (.own (.ml none ds)) (ρ.set i .un)
   | some (.mdk none ds)=>k (.own (.mdk none ds)) (ρ.set i .un)
   | _=>False):=p
  split at p'
  ·rename_i ds e
   obtain ⟨o,eo,l,xs,e1,hs⟩:=R.slot i _ e
   rw [ev] at eo
   cases eo
   cases e1
   exact go i _ ev e rfl (fun l' ⟨l2,xs2,e2,_,_,_,h3⟩=>by cases e2; exact h3) ⟨l,rfl⟩ p'
  ·rename_i ds e
   obtain ⟨o,eo,l,xs,e1,hs⟩:=R.slot i _ e
   rw [ev] at eo
   cases eo
   cases e1
   exact go i _ ev e rfl (fun l' ⟨l2,xs2,e2,_,_,_,h3⟩=>by cases e2; exact h3) ⟨l,rfl⟩ p'
  ·exact p'.elim
def a2w (a:AEx):ASt:=fun D ρ=>a ρ D.ex fun r ρ1=>d14 r ρ1 D.rt
theorem t9 {te:TE} {a:AEx} (ha:ES K W te a):SS K W (a3I te) (a2w a):=fun C D ρ F H σ D' R h xs _ _ _ rt =>
 ha C ρ D.ex _ F H σ _ R h xs fun v F1 H1 r ρ1 R1 s1 o1 p1=>by
  obtain ⟨r',ρ',R',o',p'⟩:=d1c R1 o1 p1
  exact rt v F1 H1 σ ρ' r' R' s1 o' p'
def sRetN:ASt:=fun D ρ=>D.rt (.dat .none) ρ
def sIf (c:ATx) (a b:ASt):ASt:=fun D ρ=>c ρ D.ex fun k ρ1=>if k = true then a D ρ1 else b D ρ1
theorem a06 {c:TT} {t u:TS} {cc:ATx} {a b:ASt} (hc:TSd K W c cc) (ha:SS K W t a) (hb:SS K W u b):SS K W (a6k c t u) (sIf cc a b):=fun C D ρ F H σ D' R h xs n bk ct rt =>
 hc C ρ D.ex _ F H σ _ R h xs fun k F1 H1 ρ1 R1 s1 p1=>by
  cases k with
  | true=>exact ha C D ρ1 F1 H1 σ D' R1 p1 xs (fun F2 H2 σ2 ρ2 R2 s2 p2=>n F2 H2 σ2 ρ2 R2 (s1.trans s2) p2) (fun F2 H2 σ2 ρ2 R2 s2 p2=>bk F2 H2 σ2 ρ2 R2 (s1.trans s2) p2) (fun F2 H2 σ2 ρ2 R2 s2 p2=>ct F2 H2 σ2 ρ2 R2 (s1.trans s2) p2) fun v F2 H2 σ2 ρ2 r2 R2 s2 o2 p2=>rt v F2 H2 σ2 ρ2 r2 R2 (s1.trans s2) o2 p2
  | false=>exact hb C D ρ1 F1 H1 σ D' R1 p1 xs (fun F2 H2 σ2 ρ2 R2 s2 p2=>n F2 H2 σ2 ρ2 R2 (s1.trans s2) p2) (fun F2 H2 σ2 ρ2 R2 s2 p2=>bk F2 H2 σ2 ρ2 R2 (s1.trans s2) p2) (fun F2 H2 σ2 ρ2 R2 s2 p2=>ct F2 H2 σ2 ρ2 R2 (s1.trans s2) p2) fun v F2 H2 σ2 ρ2 r2 R2 s2 o2 p2=>rt v F2 H2 σ2 ρ2 r2 R2 (s1.trans s2) o2 p2
def d3q:ASt:=fun D ρ=>D.bk ρ
def sCont:ASt:=fun D ρ=>D.ct ρ
def setR (i:Nat) (r:RV) (ρ:List AV) (k:List AV → Prop):Prop:=match r with
 | .dat d=>k (ρ.set i (.dat d))
 | .own a=>k (ρ.set i a)
 | .bor _=>False
 | .tupO _ _=>False
def a2I (i:Nat) (a:AEx):ASt:=fun D ρ=>a ρ D.ex fun r ρ1=>setR i r ρ1 D.nx
theorem w3 {i:Nat} {te:TE} {a:AEx} (ha:ES K W te a):SS K W (a27 te (t8 i)) (a2I i a):=fun C D ρ F H σ D' R h xs n _ _ _ =>
 ha C ρ D.ex _ F H σ _ R h xs fun v F1 H1 r ρ1 R1 s1 o1 p1=>by
  cases r with
  | dat d=>exact n F1 H1 _ _ (R1.setD o1) s1 p1
  | own a =>
   obtain ⟨l,rfl,m,hs,h0,hm⟩:=o1
   exact n F1 H1 _ _ (R1.setM hs hm (AV.isOwn_inn m)) s1 p1
  | bor j=>exact p1.elim
  | tupO _ _=>exact p1.elim
abbrev ATg:=c8 → List AV → (List AV → Prop) → Prop
abbrev c7M:=List c8 → List AV → (List AV → Prop) → Prop
def c5W (js:List Nat) (σ σ':a3j):Prop:=σ'.length = σ.length ∧ ∀ i,i ∉ js → σ'[i]? = σ[i]?
def GS (K:b0) (js:List Nat) (t:TG) (g:ATg):Prop:=∀ C ρ F H σ v d P Q,Rep K C F H σ ρ → Dr K F v d → g d ρ P → (∀ σ' ρ',c5W js σ σ' → Rep K C F H σ' ρ' → P ρ' → Q σ' H) → t v σ H Q
def GSs (K:b0) (js:List Nat) (t:TGs) (g:c7M):Prop:=∀ C ρ F H σ vs ds P Q,Rep K C F H σ ρ → DrAll K F vs ds → g ds ρ P → (∀ σ' ρ',c5W js σ σ' → Rep K C F H σ' ρ' → P ρ' → Q σ' H) → t vs σ H Q
def gN (i:Nat):ATg:=fun d ρ k=>k (ρ.set i (.dat d))
def c6e:c7M:=fun ds ρ k=>match ds with
 | []=>k ρ
 | _=>False
def a9t (t:ATg) (u:c7M):c7M:=fun ds ρ k=>match ds with
 | d :: ds=>t d ρ fun ρ1=>u ds ρ1 k
 | []=>False
def gT (n:Nat) (t:c7M):ATg:=fun d ρ k=>match d with
 | .tuple ds=>ds.length = n ∧ t ds ρ k
 | _=>False
theorem a0p {i:Nat}:GS K [i] (t8 i) (gN i):=fun C ρ F H σ v d P Q R hd h k=>k _ _ ⟨o8,fun j hj=>j4 (fun e=>hj (by simp [e]))⟩ (R.setD hd) h
theorem c6f:GSs K [] gNil c6e:=fun C ρ F H σ vs ds P Q R hd h k=>by
 cases hd with
 | nil=>exact ⟨rfl,k _ _ ⟨rfl,fun _ _=>rfl⟩ R h⟩
 | cons _ _=>exact h.elim
theorem a7Y {js ks:List Nat} {t:TG} {u:TGs} {g:ATg} {gs:c7M} (h1:GS K js t g) (h2:GSs K ks u gs):GSs K (js ++ ks) (gCons t u) (a9t g gs):=fun C ρ F H σ vs ds P Q R hd h k=>by
 cases hd with
 | nil=>exact h.elim
 | cons d1 d2=>exact ⟨_,_,rfl,h1 C ρ F H σ _ _ _ _ R d1 h fun σ1 ρ1 o1 R1 p1=>h2 C ρ1 F H σ1 _ _ P Q R1 d2 p1 fun σ2 ρ2 o2 R2 p2 =>
   k σ2 ρ2 ⟨o2.1.trans o1.1,fun i hi=>(o2.2 i fun z=>hi (a2j _ z)).trans (o1.2 i fun z=>hi (a0o _ z))⟩ R2 p2⟩
theorem c6g {js:List Nat} {n:Nat} {t:TGs} {g:c7M} (h1:GSs K js t g):GS K js (gTup K n t) (gT n g):=fun C ρ F H σ v d P Q R hd h k=>by
 cases d with
 | tuple ds =>
  obtain ⟨e,h⟩:=h
  cases hd with
  | tup q1 q2=>exact ⟨_,_,rfl,b6r R.sub q1,by rw [q2.length]; exact e,h1 C ρ F H σ _ _ P Q R q2 h k⟩
 | _=>exact h.elim
def sAsg (a:AEx) (g:ATg):ASt:=fun D ρ=>a ρ D.ex fun r ρ1=>match r.hold with
 | .dat d=>g d ρ1 D.nx
 | _=>False
theorem d3v {js:List Nat} {te:TE} {t:TG} {a:AEx} {g:ATg} (ha:ES K W te a) (hg:GS K js t g):SS K W (a27 te t) (sAsg a g):=fun C D ρ F H σ D' R h xs n _ _ _ =>
 ha C ρ D.ex _ F H σ _ R h xs fun v F1 H1 r ρ1 R1 s1 o1 p1=>by
  obtain ⟨F2,R2,s2,o2,n2⟩:=a2r R1 o1
  cases e:r.hold with
  | dat d =>
   rw [e] at o2
   simp only [e] at p1
   exact hg C ρ1 F2 H1 σ v d D.nx _ R2 o2 p1 fun σ3 ρ3 _ R3 p3=>n F2 H1 σ3 ρ3 R3 (s1.trans s2) p3
  | bor j=>simp only [e] at p1
  | own j=>simp only [e] at p1
  | tupO _ _=>simp only [e] at p1
/-- a, b = x, y -/
def sPar (i j:Nat) (a:AAx):ASt:=fun D ρ=>a ρ D.ex fun rs ρ1=>a24 (b4Y rs) fun ds=>match ds with
 | [d,e]=>D.nx ((ρ1.set i (.dat d)).set j (.dat e))
 | _=>False
def c9B (c:ATx) (b:ASt):ASt:=fun D ρ=>∃ I:Nat → List AV → Prop,(∃ m,I m ρ) ∧ ∀ m ρ,I m ρ → c ρ D.ex fun k ρ1=>if k = true then b { D with nx:=fun ρ'=>∃ m',m' < m ∧ I m' ρ',ct:=fun ρ'=>∃ m',m' < m ∧ I m' ρ',bk:=D.nx } ρ1 else D.nx ρ1
theorem c8O {c:TT} {t:TS} {cc:ATx} {b:ASt} (hc:TSd K W c cc) (hb:SS K W t b):SS K W (tWhile c t) (c9B cc b):=fun C D ρ F H σ D' R h xs n bk ct rt=>by
 obtain ⟨I,⟨m0,i0⟩,step⟩:=h
 refine ⟨fun m σ' H'=>∃ F' ρ',Rep K C F' H' σ' ρ' ∧ a5K F F' ∧ I m ρ',⟨m0,F,ρ,R,.refl _,i0⟩,fun m σ1 H1 ⟨F1,ρ1,R1,s1,i1⟩=>?_⟩
 refine hc C ρ1 D.ex _ F1 H1 σ1 _ R1 (step m ρ1 i1) xs fun k F2 H2 ρ2 R2 s2 p2=>?_
 cases k with
 | true =>
  refine ⟨fun σ' H'=>∃ F' ρ',Rep K C F' H' σ' ρ' ∧ a5K F F' ∧ ∃ m',m' < m ∧ I m' ρ',fun σ' H' ⟨F',ρ',R',s',m',lt,i'⟩=>⟨m',lt,F',ρ',R',s',i'⟩,?_⟩
  have s12:=s1.trans s2
  exact hb C _ ρ2 F2 H2 σ1 _ R2 p2 xs (fun F3 H3 σ3 ρ3 R3 s3 p3=>⟨F3,ρ3,R3,s12.trans s3,p3⟩) (fun F3 H3 σ3 ρ3 R3 s3 p3=>n F3 H3 σ3 ρ3 R3 (s12.trans s3) p3) (fun F3 H3 σ3 ρ3 R3 s3 p3=>⟨F3,ρ3,R3,s12.trans s3,p3⟩)
   fun v F3 H3 σ3 ρ3 r3 R3 s3 o3 p3=>rt v F3 H3 σ3 ρ3 r3 R3 (s12.trans s3) o3 p3
 | false=>exact n F2 H2 σ1 ρ2 R2 (s1.trans s2) p2
/-- a walk over data -/
structure Wk (K:b0) (F:Hp) (J:It) (ds:List c8):Prop where
 go:∀ F' H' i,a5K F F' → a5K F' H' → i < ds.length → J.go i H'
 stop:∀ F' H' i,a5K F F' → a5K F' H' → ds.length ≤ i → J.stop i H'
 yld:∀ C F' H' σ ρ i x H3 d,Rep K C F' H' σ ρ → a5K F F' → ds[i]? = some d → J.yld i H' x H3 → ∃ F3,Rep K C F3 H3 σ ρ ∧ a5K F' F3 ∧ Dr K F3 x d ∧ a5K H' H3
abbrev AIt:=List AV → PXT → (List c8 → List AV → Prop) → Prop
def IS (K:b0) (W:WX) (wi:TI) (ai:AIt):Prop:=∀ C ρ PX P F H σ R',Rep K C F H σ ρ → ai ρ PX P → XS K C W PX → (∀ J F' H' ds ρ',Rep K C F' H' σ ρ' → a5K F F' → Wk K F' J ds → P ds ρ' → R' J H') → wi σ H R'
def b1y (g:ATg) (b:ASt) (D:AEnds):List c8 → List AV → Prop
 | [],ρ=>D.nx ρ
 | d :: ds,ρ=>g d ρ fun ρ1=>b { D with nx:=b1y g b D ds,ct:=b1y g b D ds,bk:=D.nx } ρ1
def c45 (ai:AIt) (g:ATg) (b:ASt):ASt:=fun D ρ=>ai ρ D.ex fun ds ρ1=>b1y g b D ds ρ1
theorem a8e {js:List Nat} {wi:TI} {t:TG} {tb:TS} {ai:AIt} {g:ATg} {b:ASt} (hi:IS K W wi ai) (hg:GS K js t g) (hb:SS K W tb b):SS K W (tFor wi t tb) (c45 ai g b):=fun C D ρ F H σ D' R h xs n bk ct rt =>
 hi C ρ D.ex _ F H σ _ R h xs fun J F1 H1 ds ρ1 R1 s1 wk p1=>by
  refine ⟨fun i m σ' H'=>∃ F' ρ',Rep K C F' H' σ' ρ' ∧ a5K F1 F' ∧ m = ds.length - i ∧ i ≤ ds.length ∧ b1y g b D (ds.drop i) ρ',⟨_,F1,ρ1,R1,.refl _,rfl,a4D _,p1⟩,?_⟩
  rintro i m σ2 H2 ⟨F2,ρ2,R2,s2,rfl,hle,p2⟩
  by_cases hlt:i < ds.length
  ·have e1:ds.drop i = ds[i] :: ds.drop (i + 1):=c7X hlt
   rw [e1] at p2
   refine .inr ⟨wk.go F2 H2 i s2 R2.sub hlt,fun σ' H'=>∃ F' ρ',Rep K C F' H' σ' ρ' ∧ a5K F1 F' ∧ b1y g b D (ds.drop (i + 1)) ρ',fun σ' H' ⟨F',ρ',R',s',p'⟩=>⟨ds.length - (i + 1),by omega,F',ρ',R',s',rfl,hlt,p'⟩,fun x H3 hy=>?_⟩
   obtain ⟨F3,R3,s3,hd,_⟩:=wk.yld C F2 H2 σ2 ρ2 i x H3 ds[i] R2 s2 (j5 hlt) hy
   refine hg C ρ2 F3 H3 σ2 x ds[i] _ _ R3 hd p2 fun σ4 ρ4 _ R4 p4=>?_
   have s13:=s2.trans s3
   exact hb C _ ρ4 F3 H3 σ4 _ R4 p4 xs (fun F5 H5 σ5 ρ5 R5 s5 p5=>⟨F5,ρ5,R5,s13.trans s5,p5⟩) (fun F5 H5 σ5 ρ5 R5 s5 p5=>n F5 H5 σ5 ρ5 R5 (s1.trans (s13.trans s5)) p5) (fun F5 H5 σ5 ρ5 R5 s5 p5=>⟨F5,ρ5,R5,s13.trans s5,p5⟩)
    fun v F5 H5 σ5 ρ5 r5 R5 s5 o5 p5=>rt v F5 H5 σ5 ρ5 r5 R5 (s1.trans (s13.trans s5)) o5 p5
  ·have e:ds.drop i = []:=d1S (by omega)
   rw [e] at p2
   exact .inl ⟨wk.stop F2 H2 i s2 R2.sub (by omega),n F2 H2 σ2 ρ2 R2 (s1.trans s2) p2⟩
theorem d1g {F:Hp} {a:v4} {xs:List V} {ds:List c8} (h:F a = some (.lst xs)) (hd:DrAll K F xs ds):Wk K F (Itl K a) ds where
 go:=fun F' H' i s s' hi=>by
  have hi':i < xs.length:=by rw [hd.length]; exact hi
  exact ⟨xs,xs[i],.of (s' _ _ (s _ _ h)),j5 hi'⟩
 stop:=fun F' H' i s s' hi=>⟨xs,.of (s' _ _ (s _ _ h)),by rw [hd.length]; exact hi⟩
 yld:=fun C F' H' σ ρ i x H3 d R s e ⟨e3,hx⟩=>by
  subst e3
  have q:=hx xs (.of (R.sub _ _ (s _ _ h)))
  obtain ⟨v,ev,hv⟩:=hd.at e
  rw [q] at ev
  cases ev
  exact ⟨F',R,.refl _,hv.mono s,.refl _⟩
theorem d3F {F:Hp} {a:v4} {xs:List V} {ds:List c8} (h:SqT K F a xs) (hd:DrAll K F xs ds):Wk K F (Itt K a) ds where
 go:=fun F' H' i s s' hi=>by
  have hi':i < xs.length:=by rw [hd.length]; exact hi
  exact ⟨xs,xs[i],b6r (s.trans s') h,j5 hi'⟩
 stop:=fun F' H' i s s' hi=>⟨xs,b6r (s.trans s') h,by rw [hd.length]; exact hi⟩
 yld:=fun C F' H' σ ρ i x H3 d R s e ⟨e3,hx⟩=>by
  subst e3
  have q:=hx xs (b6r (s.trans R.sub) h)
  obtain ⟨v,ev,hv⟩:=hd.at e
  rw [q] at ev
  cases ev
  exact ⟨F',R,.refl _,hv.mono s,.refl _⟩
/-- range(n), range(m, n) -/
def rng (lo:Int) (n:Nat):List c8:=(a1j n).map fun (i:Nat)=>m7 (lo + (i:Int))
theorem c9E {F:Hp} {lo:Int} {n:Nat}:Wk K F (Itr lo n) (rng lo n) where
 go:=fun F' H' i s s' hi=>by
  have q:i < n:=by simpa [rng] using hi
  exact q
 stop:=fun F' H' i s s' hi=>by
  have q:n ≤ i:=by simpa [rng] using hi
  exact q
 yld:=fun C F' H' σ ρ i x H3 d R s e ⟨e3,hx⟩=>by
  subst e3 hx
  have q:d = .int (lo + (i:Int)):=by
   unfold rng at e
   rw [z8] at e
   cases z:(a1j n)[i]? with
   | none=>rw [z] at e; cases e
   | some j =>
    rw [z] at e
    obtain ⟨hj,ej⟩:=j2.mp z
    rw [List.getElem_range] at ej
    subst ej
    exact (r9 e).symm
  subst q
  exact ⟨F',R,.refl _,.int _,.refl _⟩
def b4f (a:AAx):AIt:=fun ρ PX P=>a ρ PX fun rs ρ1=>a24 (b4Y rs) fun ds=>match ds with
 | [.int j]=>(-(2 ^ 62) ≤ j ∧ j < 2 ^ 62) ∧ P (rng 0 j.toNat) ρ1
 | _=>False
def c9X (a:AAx):AIt:=fun ρ PX P=>a ρ PX fun rs ρ1=>a24 (b4Y rs) fun ds=>match ds with
 | [.int i,.int j]=>(-(2 ^ 62) ≤ i ∧ i < 2 ^ 62 ∧ -(2 ^ 62) ≤ j ∧ j < 2 ^ 62) ∧ P (rng i (j - i).toNat) ρ1
 | _=>False
theorem a67 {t:TA} {a:AAx} (ha:AS0 K W t a):IS K W (d2v t) (b4f a):=fun C ρ PX P F H σ R' R h xs k =>
 ha C ρ PX _ F H σ _ R h xs fun vs F1 H1 rs ρ1 R1 s1 o1 p1=>by
  obtain ⟨ds,e,p1⟩:=a4h p1
  have hd:=a6q o1 e
  split at p1
  ·rename_i j
   cases hd with
   | cons h1 h2 =>
    cases h1
    cases h2
    exact ⟨j,rfl,p1.1.1,p1.1.2,k _ F1 H1 _ ρ1 R1 s1 c9E p1.2⟩
  ·exact p1.elim
theorem d0e {t:TA} {a:AAx} (ha:AS0 K W t a):IS K W (iRng2 t) (c9X a):=fun C ρ PX P F H σ R' R h xs k =>
 ha C ρ PX _ F H σ _ R h xs fun vs F1 H1 rs ρ1 R1 s1 o1 p1=>by
  obtain ⟨ds,e,p1⟩:=a4h p1
  have hd:=a6q o1 e
  split at p1
  ·rename_i i j
   cases hd with
   | cons h1 h2 =>
    cases h2 with
    | cons h2 h3 =>
     cases h1
     cases h2
     cases h3
     exact ⟨i,j,rfl,p1.1,k _ F1 H1 _ ρ1 R1 s1 c9E p1.2⟩
  ·exact p1.elim
end Aq
namespace Aq
open PySem L2
variable {K:b0} {W:WX}
def a3q (ρ:List AV):List Nat → List AV
 | []=>ρ
 | v :: vs=>(a3q ρ vs).set v .un
theorem a8T (ρ:List AV):∀ (vs:List Nat) (i:Nat) (a:AV),i ∈ vs → (a3q ρ vs)[i]? = some a → a = .un
 | [],i,a,h,_=>by simp at h
 | v :: vs,i,a,h,e=>by
  unfold a3q at e
  by_cases hv:v = i
  ·subst hv
   by_cases hl:v < (a3q ρ vs).length
   ·rw [j8 hl] at e; exact (r9 e).symm
   ·rw [s0 (by rw [o8]; omega)] at e; cases e
  ·rw [j4 hv] at e
   refine a8T ρ vs i a ?_ e
   rcases n8.mp h with z | z
   ·exact absurd z.symm hv
   ·exact z
theorem Rep.wiped {C:C0} {F H:Hp} {σ:a3j} {ρ:List AV} (R:Rep K C F H σ ρ):∀ vs,Rep K C F H (c9a σ vs) (a3q ρ vs)
 | []=>R
 | v :: vs=>(Rep.wiped R vs).forget
theorem a7a {σ:a3j}:∀ {vs:List Nat} {i:Nat},i ∉ vs → (c9a σ vs)[i]? = σ[i]?
 | [],_,_=>rfl
 | v :: vs,i,h=>by
  unfold c9a
  have hv:v ≠ i:=fun z=>h (by rw [z]; exact e6)
  rw [j4 hv]
  exact a7a fun z=>h (e8 _ z)
theorem a8p {σ:a3j}:∀ {vs:List Nat} {i:Nat},i ∈ vs → i < σ.length → (c9a σ vs)[i]? = some none
 | [],_,h,_=>by simp at h
 | v :: vs,i,h,hl=>by
  unfold c9a
  by_cases hv:v = i
  ·subst hv
   rw [j8 (by rw [a4F]; exact hl)]
  ·rw [j4 hv]
   rcases n8.mp h with z | z
   ·exact absurd z.symm hv
   ·exact a8p z hl
theorem c7h {js vs:List Nat} {σ σ':a3j} (o:c5W js σ σ') (h:∀ j ∈ js,j ∈ vs):c9a σ' vs = c9a σ vs:=by
 refine c1Z fun i=>?_
 by_cases hi:i ∈ vs
 ·by_cases hl:i < σ.length
  ·rw [a8p hi (by rw [o.1]; exact hl),a8p hi hl]
  ·rw [s0 (by rw [a4F,o.1]; omega),s0 (by rw [a4F]; omega)]
 ·rw [a7a hi,a7a hi]
  exact o.2 i fun z=>hi (h i z)
theorem c7i {σ:a3j} {vs:List Nat}:c9a (c9a σ vs) vs = c9a σ vs:=by
 refine c1Z fun i=>?_
 by_cases hi:i ∈ vs
 ·by_cases hl:i < σ.length
  ·rw [a8p hi (by rw [a4F]; exact hl),a8p hi hl]
  ·rw [s0 (by rw [a4F,a4F]; omega),s0 (by rw [a4F]; omega)]
 ·rw [a7a hi]
theorem Rep.unwipe {C:C0} {F H:Hp} {σ:a3j} {ρ:List AV} {vs:List Nat} (R:Rep K C F H (c9a σ vs) ρ) (hu:∀ i a,i ∈ vs → ρ[i]? = some a → a = .un):Rep K C F H σ ρ:=by
 have hl:σ.length = ρ.length:=by rw [← R.len,a4F]
 refine ⟨hl,R.sub,R.gr,R.keep,R.there,R.nw,R.mf,R.tp,fun i a e=>?_,fun i j l hne h1 h2=>?_⟩
 ·by_cases hi:i ∈ vs
  ·have:=hu i a hi e
   subst this
   have hlt:i < σ.length:=by rw [hl]; exact (j2.mp e).1
   exact ⟨_,j5 hlt,trivial⟩
  ·obtain ⟨o,eo,hs⟩:=R.slot i a e
   rw [a7a hi] at eo
   exact ⟨o,eo,hs⟩
 ·have back:∀ n l',a12 σ ρ n l' → a12 (c9a σ vs) ρ n l':=fun n l' ⟨b,e,f⟩=>by
   by_cases hn:n ∈ vs
   ·have:=hu n b hn e
    subst this
    cases f.mut
   ·exact ⟨b,e,by rw [a7a hn]; exact f⟩
  exact R.apart i j l hne (back i l h1) (back j l h2)
/-- an object that nobody here knows changes -/
theorem Rep.outside {C:C0} {F H:Hp} {σ:a3j} {ρ:List AV} {D:v4} {o:HO} (R:Rep K C F H σ ρ) (hF:F D = none) (h0:C.H0 D = none) (hm:∀ i,a12 σ ρ i D → False) (hu:∀ xs,o ≠ .tup xs:=by intro _ z; cases z):Rep K C F (upd H D o) σ ρ:=by
 have tpn:∀ q xs,upd H D o q = some (.tup xs) → F q = some (.tup xs):=fun q xs e=>by
  by_cases hq:q = D
  ·subst hq; rw [a0C] at e; exact (hu xs (r9 e)).elim
  ·rw [a1V hq] at e; exact R.tp q xs e
 refine ⟨R.len,fun b u e=>?_,R.gr,fun b u e n=>?_,fun b u e=>?_,R.nw,R.mf,tpn,fun i a e=>?_,R.apart⟩
 ·rw [a1V (a26 e hF)]; exact R.sub _ _ e
 ·rw [a1V (a26 e h0)]; exact R.keep b u e n
 ·obtain ⟨u',e'⟩:=R.there b u e
  exact ⟨u',by rw [a1V (a26 e h0)]; exact e'⟩
 ·obtain ⟨w,eo,hs⟩:=R.slot i a e
  refine ⟨w,eo,hs.mono (.refl _) (fun l u f h=>?_) fun l f h=>h⟩
  have hl:l ≠ D:=fun z=>by
   subst z
   exact hm i ⟨a,e,by rw [eo]; exact f⟩
  rw [a1V hl]; exact h
def c4n (vs:List Nat) (g:ATg) (tt:ATx) (a:AEx) (P:RV → List AV → Prop):List c8 → List c8 → List AV → Prop
 | [],acc,ρ=>P (.own (.ml none acc)) ρ
 | d :: ds,acc,ρ=>g d ρ fun ρ1=>tt ρ1 X0 fun k ρ2=>if k = true then a ρ2 X0 fun r ρ3=>(match r.hold with
   | .dat e=>acc.length < k8 ∧ c4n vs g tt a P ds (acc ++ [e]) (a3q ρ3 vs)
   | _=>False) else c4n vs g tt a P ds acc (a3q ρ2 vs)
def aLc (ai:AIt) (vs:List Nat) (g:ATg) (tt:ATx) (a:AEx):AEx:=fun ρ PX P=>ai ρ PX fun ds ρ1=>c4n vs g tt a P ds [] (a3q ρ1 vs)
def c0f:ATx:=fun ρ _ P=>P true ρ
theorem a52:TSd K W c18 c0f:=fun C ρ PX P F H σ Q R h _ k=>k true F H ρ R (.refl _) h
theorem a7X {js vs:List Nat} {wi:TI} {t:TG} {tt:TT} {te:TE} {ai:AIt} {g:ATg} {ta:ATx} {a:AEx} (hi:IS K W wi ai) (hg:GS K js t g) (ht:TSd K W0 tt ta) (he:ES K W0 te a) (hj:∀ j ∈ js,j ∈ vs):ES K W (tLc wi t tt te vs) (aLc ai vs g ta a):=fun C ρ PX P F H σ Q R h xs k =>
 hi C ρ PX _ F H σ _ R h xs fun J F1 H1 ds ρ1 R1 s1 wk p1=>by
  intro D hD
  have h0:C.H0 D = none:=by
   cases q:C.H0 D with
   | none=>rfl
   | some o=>obtain ⟨o',e⟩:=R1.there D o q; rw [e] at hD; cases hD
  have hM:D ∉ C.M0:=fun z=>by
   obtain ⟨_,u,e⟩:=R1.mf D z
   rw [h0] at e; cases e
  obtain ⟨R1',hF1,_,hm1⟩:=R1.laidM (u:=.lst []) hD
  have hF0:C.F0 D = none:=R1.gr.free hF1
  refine ⟨fun i m H'=>∃ F' ρ' accV acc,Rep K C F' H' (c9a σ vs) ρ' ∧ a5K F1 F' ∧ m = ds.length - i ∧ i ≤ ds.length ∧ (∀ i a,i ∈ vs → ρ'[i]? = some a → a = .un) ∧ H' D = some (.lst accV) ∧ F' D = none ∧ (∀ j,a12 (c9a σ vs) ρ' j D → False) ∧ DrAll K F' accV acc ∧ c4n vs g ta a P (ds.drop i) acc ρ',?_,?_⟩
  ·refine ⟨_,F1,a3q ρ1 vs,[],[],R1'.wiped vs,.refl _,rfl,a4D _,a8T ρ1 vs,a0C,hF1,fun j mj=>?_,.nil,p1⟩
   obtain ⟨_,u,e⟩:=(R1.wiped vs).mutF mj
   rw [hD] at e; cases e
  ·rintro i m H2 ⟨F2,ρ2,accV,acc,R2,s2,rfl,hle,hu2,hD2,hF2,hm2,hd2,p2⟩
   by_cases hlt:i < ds.length
   ·have e1:ds.drop i = ds[i] :: ds.drop (i + 1):=c7X hlt
    rw [e1] at p2
    have G2:=R2.guard (o:=.lst accV) hD2 hF2 h0 hm2
    refine .inr ⟨wk.go F2 H2 i s2 R2.sub hlt,fun H'=>∃ F' ρ' accV acc,Rep K C F' H' (c9a σ vs) ρ' ∧ a5K F1 F' ∧ (∀ i a,i ∈ vs → ρ'[i]? = some a → a = .un) ∧ H' D = some (.lst accV) ∧ F' D = none ∧ (∀ j,a12 (c9a σ vs) ρ' j D → False) ∧ DrAll K F' accV acc ∧ c4n vs g ta a P (ds.drop (i + 1)) acc ρ',
     fun H' ⟨F',ρ',accV,acc,R',s',hu',hD',hF',hm',hd',p'⟩=>⟨ds.length - (i + 1),by omega,F',ρ',accV,acc,R',s',rfl,hlt,hu',hD',hF',hm',hd',p'⟩,fun x H3 hy=>?_⟩
    obtain ⟨F3,R3,s3,hd3,_⟩:=wk.yld _ F2 H2 _ ρ2 i x H3 ds[i] G2 s2 (j5 hlt) hy
    refine hg _ ρ2 F3 H3 _ x ds[i] _ _ R3 hd3 p2 fun σ4 ρ4 o4 R4 p4=>?_
    have ew:c9a σ4 vs = c9a σ vs:=(c7h o4 hj).trans c7i
    refine ⟨ew,?_⟩
    refine ht _ ρ4 X0 _ F3 H3 σ4 _ R4 p4 xs0 fun b F5 H5 ρ5 R5 s5 p5=>?_
    have s15:=(s2.trans s3).trans s5
    cases b with
    | true =>
     refine he _ ρ5 X0 _ F5 H5 σ4 _ R5 p5 xs0 fun y F6 H6 r ρ6 R6 s6 o6 p6=>?_
     obtain ⟨F7,R7,s7,o7,n7⟩:=a2r R6 o6
     cases er:r.hold with
     | dat e =>
      rw [er] at o7
      simp only [er] at p6
      obtain ⟨R8,hD8,hF8,hm8⟩:=Rep.unguard h0 hM hF0 R7
      have s17:=(s15.trans s6).trans s7
      have len:accV.length < k8:=by rw [hd2.length]; exact p6.1
      have W8:=R8.wiped vs
      rw [ew] at W8
      have hm9:∀ j,a12 (c9a σ vs) (a3q ρ6 vs) j D → False:=fun j ⟨b,eb,f⟩=>by
       have hjv:j ∉ vs:=fun z=>by
        have:=a8T ρ6 vs j b z eb
        subst this
        cases f.mut
       have eb':ρ6[j]? = some b:=by
        have aux:∀ ws:List Nat,j ∉ ws → (a3q ρ6 ws)[j]? = ρ6[j]?:=fun ws=>by
         induction ws with
         | nil=>exact fun _=>rfl
         | cons w ws ih =>
          intro hn
          unfold a3q
          rw [j4 (fun z=>hn (by rw [z]; exact e6))]
          exact ih fun z=>hn (e8 _ z)
        rw [aux vs hjv] at eb
        exact eb
       refine hm8 j ⟨b,eb',?_⟩
       rw [← ew,a7a hjv] at f
       exact f
      exact ⟨accV,hD8,len,F7,a3q ρ6 vs,accV ++ [y],acc ++ [e],W8.outside hF8 h0 hm9,s17,a8T ρ6 vs,a0C,hF8,hm9,((hd2.mono (((s3.trans s5).trans s6).trans s7)).append (.one o7)),p6.2⟩
     | bor j=>simp only [er] at p6
     | own j=>simp only [er] at p6
     | tupO _ _=>simp only [er] at p6
    | false =>
     obtain ⟨R8,hD8,hF8,hm8⟩:=Rep.unguard h0 hM hF0 R5
     have W8:=R8.wiped vs
     rw [ew] at W8
     refine ⟨F5,a3q ρ5 vs,accV,acc,W8,s15,a8T ρ5 vs,hD8,hF8,fun j ⟨b,eb,f⟩=>?_,hd2.mono (s3.trans s5),p5⟩
     have hjv:j ∉ vs:=fun z=>by
      have:=a8T ρ5 vs j b z eb
      subst this
      cases f.mut
     have aux:∀ ws:List Nat,j ∉ ws → (a3q ρ5 ws)[j]? = ρ5[j]?:=fun ws=>by
      induction ws with
      | nil=>exact fun _=>rfl
      | cons w ws ih =>
       intro hn
       unfold a3q
       rw [j4 (fun z=>hn (by rw [z]; exact e6))]
       exact ih fun z=>hn (e8 _ z)
     rw [aux vs hjv] at eb
     refine hm8 j ⟨b,eb,?_⟩
     rw [← ew,a7a hjv] at f
     exact f
   ·have e:ds.drop i = []:=d1S (by omega)
    rw [e] at p2
    refine .inl ⟨wk.stop F2 H2 i s2 R2.sub (by omega),?_⟩
    refine k (.ref D) F2 H2 (.own (.ml none acc)) ρ2 (R2.unwipe hu2) (s1.trans s2) ⟨D,rfl,rfl,⟨D,accV,rfl,hF2,hD2,hd2,h0⟩,h0,fun j ⟨b,eb,f⟩=>?_⟩ p2
    have hjv:j ∉ vs:=fun z=>by
     have:=hu2 j b z eb
     subst this
     cases f.mut
    exact hm2 j ⟨b,eb,by rw [a7a hjv]; exact f⟩
end Aq
namespace Aq
open PySem L2
variable {K:b0} {W:WX}
abbrev Ct:=List AV → (RV → List AV → Prop) → PXT → Prop
def spOf (K:b0) (c:Ct):Sp:=fun vs H Q E=>∃ F M ρ P PX,Rep K ⟨F,H,M⟩ F H (vs.map some) ρ ∧ c ρ P PX ∧
 (∀ v F' H' σ' ρ' r,Rep K ⟨F,H,M⟩ F' H' σ' ρ' → a57 K ⟨F,H,M⟩ F' H' σ' ρ' v r → P r ρ' → Q v H') ∧
 (∀ F' H' σ' ρ' cls p d,Rep K ⟨F,H,M⟩ F' H' σ' ρ' → XOk K F' H' p d → PX cls p ρ' → E cls d H')
theorem b0W {c:Ct} {n:Nat} (hc:∀ ρ P PX,c ρ P PX → ρ.length = n) {vs:List V} {H:Hp} {Q:VK} {E:XK} (h:spOf K c vs H Q E):vs.length = n:=by
 obtain ⟨F,M,ρ,P,PX,R,h,_⟩:=h
 have:=R.len
 rw [j3] at this
 rw [this,hc ρ P PX h]
/-- further slots, not yet given -/
theorem Rep.more {C:C0} {F H:Hp} {σ:a3j} {ρ:List AV} (R:Rep K C F H σ ρ) (n:Nat):Rep K C F H (σ ++ g5 n none) (ρ ++ g5 n .un):=by
 refine ⟨by simp [R.len],R.sub,R.gr,R.keep,R.there,R.nw,R.mf,R.tp,fun i a e=>?_,fun i j l hne h1 h2=>?_⟩
 ·by_cases hi:i < ρ.length
  ·rw [a2p hi] at e
   obtain ⟨o,eo,hs⟩:=R.slot i a e
   exact ⟨o,by rw [a2p (by rw [R.len]; exact hi)]; exact eo,hs⟩
  ·rw [a81 (by omega),b1q] at e
   split at e
   ·rename_i hlt
    cases e
    refine ⟨none,?_,trivial⟩
    rw [a81 (by rw [R.len]; omega),b1q,if_pos (by rw [R.len]; exact hlt)]
   ·cases e
 ·have back:∀ n' l',a12 (σ ++ g5 n none) (ρ ++ g5 n .un) n' l' → a12 σ ρ n' l':=fun n' l' ⟨b,e,f⟩=>by
   by_cases hi:n' < ρ.length
   ·rw [a2p hi] at e
    rw [a2p (by rw [R.len]; exact hi)] at f
    exact ⟨b,e,f⟩
   ·rw [a81 (by omega),b1q] at e
    split at e
    ·cases e; cases f.mut
    ·cases e
  exact R.apart i j l hne (back i l h1) (back j l h2)
/-- a def's body keeps its contract -/
theorem b87 {N:List Str} {c:Ct} {t:TS} {a:ASt} {vs:List V} {H:Hp} {Q:VK} {E:XK} (h:spOf K c vs H Q E) (hs:SS K (fun cls d _ H'=>E cls d H') t a)
  (hp:∀ ρ P PX,c ρ P PX → a { nx:=fun ρ'=>P (.dat .none) ρ',rt:=P,ex:=PX } (ρ ++ g5 (N.length - ρ.length) .un)):t { nx:=fun _ H'=>Q .non H',rt:=Q } (start N vs) H:=by
 obtain ⟨F,M,ρ,P,PX,R,h,k,kx⟩:=h
 have len:vs.length = ρ.length:=by have:=R.len; rw [j3] at this; exact this
 have R':=R.more (N.length - vs.length)
 have h':=hp ρ P PX h
 rw [← len] at h'
 exact hs _ _ _ F H _ _ R' h' (fun F' H' σ' ρ' cls p d R2 x2 p2=>kx F' H' σ' ρ' cls p d R2 x2 p2) (fun F' H' σ' ρ' R2 _ p2=>k .non F' H' σ' ρ' (.dat .none) R2 Dr.non p2) (fun _ _ _ _ _ _ z=>z.elim) (fun _ _ _ _ _ _ z=>z.elim)
  fun v F' H' σ' ρ' r R2 _ o2 p2=>k v F' H' σ' ρ' r R2 o2 p2
/-- what is handed in: data, or borrowed things; and which slots are borrowed -/
def a0n (ρ:List AV):List RV → Nat → Option (List AV × List Nat)
 | [],_=>some ([],[])
 | .dat d :: rs,j=>(a0n ρ rs j).map fun p=>(.dat d :: p.1,p.2)
 | .bor i :: rs,j=>match ρ[i]? with
  | some (.ml _ ds)=>(a0n ρ rs (j + 1)).map fun p=>(.ml (some j) ds :: p.1,i :: p.2)
  | some (.mdk _ ds)=>(a0n ρ rs (j + 1)).map fun p=>(.mdk (some j) ds :: p.1,i :: p.2)
  | some (.mdt _ ds)=>(a0n ρ rs (j + 1)).map fun p=>(.mdt (some j) ds :: p.1,i :: p.2)
  | some (.scr ns)=>(a0n ρ rs j).map fun p=>(.scr ns :: p.1,p.2)
  | some (.opq v)=>(a0n ρ rs j).map fun p=>(.opq v :: p.1,p.2)
  | _=>none
 | .own _ :: _,_=>none
 | .tupO _ _ :: _,_=>none
def AV.tag:AV → Option Nat
 | .ml p _=>p
 | .mdk p _=>p
 | .mdt p _=>p
 | .tr p _=>p
 | _=>none
def AV.retag (p:Option Nat):AV → AV
 | .ml _ ds=>.ml p ds
 | .mdk _ ds=>.mdk p ds
 | .mdt _ ds=>.mdt p ds
 | .tr _ _=>.un
 | a=>a
/-- what became of the j-th borrowed thing -/
def a87 (ρ':List AV) (j:Nat):Option AV:=ρ'.find? fun a=>a.tag == some j
def a44 (ρ':List AV):List Nat → Nat → List AV → List AV
 | [],_,ρ=>ρ
 | i :: is,j,ρ=>a44 ρ' is (j + 1) (ρ.set i (match a87 ρ' j with
  | some a=>a.retag ((ρ[i]?).bind AV.tag)
  | none=>.un))
def c4b (c:Ct) (a:AAx):AEx:=fun ρ PX P=>a ρ PX fun rs ρ1=>match a0n ρ1 rs 0 with
 | some (ρc,is)=>is.Nodup ∧ c ρc (fun r ρ'=>match r with
   | .bor _=>False
   | r=>P r (a44 ρ' is 0 ρ1)) (fun cls p ρ'=>PX cls p (a44 ρ' is 0 ρ1))
 | none=>False
/-- the addresses that are borrowed -/
def d1V (σ:a3j) (is:List Nat) (M:List v4):Prop:=a22 (fun (i:Nat) (l:v4)=>σ[i]? = some (some (.ref l))) is M
theorem a22.getR {α β:Type} {r:α → β → Prop}:∀ {as:List α} {bs:List β} {i:Nat} {b:β},a22 r as bs → bs[i]? = some b → ∃ a,as[i]? = some a ∧ r a b
 | _,_,_,_,.nil,e=>by simp at e
 | _,_,0,_,.cons h _,e=>by simp at e; subst e; exact ⟨_,rfl,h⟩
 | _,_,i + 1,b,.cons _ t,e=>by
  obtain ⟨a,h1,h2⟩:=a22.getR (i:=i) (b:=b) t (by simpa using e)
  exact ⟨a,by simpa using h1,h2⟩
theorem a22.getL {α β:Type} {r:α → β → Prop}:∀ {as:List α} {bs:List β} {i:Nat} {a:α},a22 r as bs → as[i]? = some a → ∃ b,bs[i]? = some b ∧ r a b
 | _,_,_,_,.nil,e=>by simp at e
 | _,_,0,_,.cons h _,e=>by simp at e; subst e; exact ⟨_,rfl,h⟩
 | _,_,i + 1,b,.cons _ t,e=>by
  obtain ⟨a,h1,h2⟩:=a22.getL (i:=i) (a:=b) t (by simpa using e)
  exact ⟨a,by simpa using h1,h2⟩
section
variable {C:C0} {F H:Hp} {σ:a3j} {ρ:List AV}
/-- the callee's view of its arguments -/
theorem a8I (R:Rep K C F H σ ρ):∀ {vs:List V} {rs:List RV} {j:Nat} {ρc:List AV} {is:List Nat},c3w K C F H σ ρ vs rs → a0n ρ rs j = some (ρc,is) →
  ∃ M,d1V σ is M ∧ (∀ i ∈ is,∃ a,ρ[i]? = some a ∧ a.isMut = true ∧ a.inn = []) ∧ ∀ M0:List v4,M0.drop j = M → a22 (fun a v=>Slot K ⟨F,H,M0⟩ F H a (some v) ∧ a.inn = [] ∧ (∀ l,v = b4d l → a.isMut = true → ∃ k:Nat,a.tag = some (j + k) ∧ M[k]? = some l)) ρc vs
 | _,[],j,ρc,is,h,e=>by
  cases h
  cases e
  exact ⟨[],.nil,fun _ z=>by simp at z,fun _ _=>.nil⟩
 | _,.dat d :: rs,j,ρc,is,h,e=>by
  cases h with
  | cons h1 h2 =>
   cases q:a0n ρ rs j with
   | none=>simp [a0n,q] at e
   | some p =>
    simp only [a0n,q,a0l,a0g,a2S] at e
    obtain ⟨rfl,rfl⟩:=e
    obtain ⟨M,b,m,f⟩:=a8I R h2 q
    exact ⟨M,b,m,fun M0 hM=>.cons ⟨⟨_,rfl,h1.1⟩,rfl,fun _ _ z=>by cases z⟩ (f M0 hM)⟩
 | _,.own a :: rs,j,ρc,is,h,e=>by simp [a0n] at e
 | _,.tupO _ _ :: rs,j,ρc,is,h,e=>by simp [a0n] at e
 | _,.bor i :: rs,j,ρc,is,h,e=>by
  cases h with
  | cons h1 h2 =>
   rename_i v vs
   obtain ⟨⟨ev,a,ea⟩,_⟩:=h1
   obtain ⟨o,eo,hs⟩:=R.slot i a ea
   rw [ev] at eo
   cases eo
   have next:∀ (mk:AV),mk.isMut = true → mk.inn = [] → a.inn = [] → mk.tag = some j → (∀ M0:List v4,∀ l,v = b4d l → M0[j]? = some l → Slot K ⟨F,H,M0⟩ F H mk (some v)) → a.isMut = true → (∃ l,v = b4d l) → (a0n ρ rs (j + 1)).map (fun p=>(mk :: p.1,i :: p.2)) = some (ρc,is) →
     ∃ M,d1V σ is M ∧ (∀ i ∈ is,∃ a,ρ[i]? = some a ∧ a.isMut = true ∧ a.inn = []) ∧ ∀ M0:List v4,M0.drop j = M → a22 (fun a v=>Slot K ⟨F,H,M0⟩ F H a (some v) ∧ a.inn = [] ∧ (∀ l,v = b4d l → a.isMut = true → ∃ k:Nat,a.tag = some (j + k) ∧ M[k]? = some l)) ρc (v :: vs):=fun mk hmk hin hia htag hsl hm ⟨l,el⟩ e=>by
    cases q:a0n ρ rs (j + 1) with
    | none=>simp [q] at e
    | some p =>
     simp only [q,a0l,a0g,a2S] at e
     obtain ⟨rfl,rfl⟩:=e
     obtain ⟨M,b,m,f⟩:=a8I R h2 q
     subst el
     refine ⟨l :: M,.cons ev b,fun i' hi'=>?_,fun M0 hM=>?_⟩
     ·rcases n8.mp hi' with z | z
      ·subst z; exact ⟨a,ea,hm,hia⟩
      ·exact m i' z
     ·have hj:M0[j]? = some l:=by
       have:=congrArg (fun z:List v4=>z[0]?) hM
       simpa using this
      have hd:M0.drop (j + 1) = M:=by
       have:=congrArg List.tail hM
       simpa [List.tail_drop] using this
      refine .cons ⟨hsl M0 l rfl hj,hin,fun l' e' _=>⟨0,htag,by cases e'; rfl⟩⟩ (Paired.mapP (f M0 hd) fun a' v' z=>⟨z.1,z.2.1,fun l' e' m'=>?_⟩)
      obtain ⟨k,e1,e2⟩:=z.2.2 l' e' m'
      exact ⟨k + 1,by rw [e1]; congr 1; omega,by simpa using e2⟩
   cases a with
   | un=>simp [a0n,ea] at e
   | dat d=>simp [a0n,ea] at e
   | tr p t=>simp [a0n,ea] at e
   | lk u=>simp [a0n,ea] at e
   | ml p ds =>
    obtain ⟨l,xs,e1,hF,hH,hd,hw⟩:=hs
    cases e1
    simp only [a0n,ea] at e
    exact next (.ml (some j) ds) rfl rfl rfl rfl (fun M0 l' el hj=>⟨l,xs,rfl,hF,hH,hd,by cases el; exact hj⟩) rfl ⟨l,rfl⟩ e
   | mdk p ds =>
    obtain ⟨l,xs,e1,hF,hH,hd,hw⟩:=hs
    cases e1
    simp only [a0n,ea] at e
    exact next (.mdk (some j) ds) rfl rfl rfl rfl (fun M0 l' el hj=>⟨l,xs,rfl,hF,hH,hd,by cases el; exact hj⟩) rfl ⟨l,rfl⟩ e
   | mdt p ds =>
    obtain ⟨l,xs,e1,hF,hH,hd,hw⟩:=hs
    cases e1
    simp only [a0n,ea] at e
    exact next (.mdt (some j) ds) rfl rfl rfl rfl (fun M0 l' el hj=>⟨l,xs,rfl,hF,hH,hd,by cases el; exact hj⟩) rfl ⟨l,rfl⟩ e
   | scr ns =>
    cases q:a0n ρ rs j with
    | none=>simp [a0n,ea,q] at e
    | some p =>
     simp only [a0n,ea,q,a0l,a0g,a2S] at e
     obtain ⟨rfl,rfl⟩:=e
     obtain ⟨M,b,m,f⟩:=a8I R h2 q
     exact ⟨M,b,m,fun M0 hM=>.cons ⟨hs,rfl,fun _ _ z=>by cases z⟩ (f M0 hM)⟩
   | opq v =>
    cases q:a0n ρ rs j with
    | none=>simp [a0n,ea,q] at e
    | some p =>
     simp only [a0n,ea,q,a0l,a0g,a2S] at e
     obtain ⟨rfl,rfl⟩:=e
     obtain ⟨M,b,m,f⟩:=a8I R h2 q
     exact ⟨M,b,m,fun M0 hM=>.cons ⟨hs,rfl,fun _ _ z=>by cases z⟩ (f M0 hM)⟩
theorem d1V.mem {is:List Nat} {M:List v4} (b:d1V σ is M) {l:v4} (h:l ∈ M):∃ i,i ∈ is ∧ σ[i]? = some (some (.ref l)):=by
 obtain ⟨j,hj,e⟩:=a4B h
 obtain ⟨i,ei,q⟩:=a22.getR b (j2.mpr ⟨hj,e⟩)
 exact ⟨i,v7 ei,q⟩
/-- the callee's entry -/
theorem Rep.enter {vs:List V} {rs:List RV} {ρc:List AV} {is:List Nat} {M:List v4} (R:Rep K C F H σ ρ) (b:d1V σ is M) (hm:∀ i ∈ is,∃ a,ρ[i]? = some a ∧ a.isMut = true ∧ a.inn = []) (nd:is.Nodup)
  (f:a22 (fun a v=>Slot K ⟨F,H,M⟩ F H a (some v) ∧ a.inn = [] ∧ (∀ l,v = b4d l → a.isMut = true → ∃ k:Nat,a.tag = some (0 + k) ∧ M[k]? = some l)) ρc vs) (ft:∀ i j:Nat,i ≠ j → ∀ a a':AV,ρc[i]? = some a → ρc[j]? = some a' → a.isMut = true → a'.isMut = true → a.tag ≠ a'.tag):Rep K ⟨F,H,M⟩ F H (vs.map some) ρc:=by
 have ndM:∀ i j:Nat,∀ l,M[i]? = some l → M[j]? = some l → i = j:=fun i j l h1 h2=>by
  obtain ⟨a1,e1,q1⟩:=a22.getR b h1
  obtain ⟨a2,e2,q2⟩:=a22.getR b h2
  by_cases ha:a1 = a2
  ·subst ha
   have l1:=(j2.mp e1).1
   have l2:=(j2.mp e2).1
   have z1:=(j2.mp e1).2
   have z2:=(j2.mp e2).2
   exact (List.getElem_inj nd).mp (z1.trans z2.symm)
  ·obtain ⟨b1,f1,m1,_⟩:=hm a1 (v7 e1)
   obtain ⟨b2,f2,m2,_⟩:=hm a2 (v7 e2)
   exact (R.apart a1 a2 l ha (.mk f1 m1 q1) (.mk f2 m2 q2)).elim
 refine ⟨by rw [j3]; exact (c0l f).symm,R.sub,.refl _,fun b o e _=>e,fun b o e=>⟨o,e⟩,fun b o e n=>n,fun l hl=>?_,R.tp,fun i a e=>?_,fun i j l hne h1 h2=>?_⟩
 ·obtain ⟨i,hi,q⟩:=b.mem hl
  obtain ⟨a,ea,m,_⟩:=hm i hi
  exact R.mutF (.mk ea m q)
 ·obtain ⟨v,ev,h1,_⟩:=a22.getL f e
  exact ⟨some v,by rw [z8,ev]; rfl,h1⟩
 ·obtain ⟨a1,e1,t1⟩:=h1
  obtain ⟨a2,e2,t2⟩:=h2
  obtain ⟨v1,f1,_,n1,g1⟩:=a22.getL f e1
  obtain ⟨v2,f2,_,n2,g2⟩:=a22.getL f e2
  obtain ⟨m1,q1⟩:a1.isMut = true ∧ (vs.map some)[i]? = some (some (.ref l)):=by
   rcases t1 with z | z
   ·exact z
   ·rw [n1] at z; simp at z
  obtain ⟨m2,q2⟩:a2.isMut = true ∧ (vs.map some)[j]? = some (some (.ref l)):=by
   rcases t2 with z | z
   ·exact z
   ·rw [n2] at z; simp at z
  rw [z8,f1] at q1
  rw [z8,f2] at q2
  have z1:v1 = .ref l:=r9 (r9 q1)
  have z2:v2 = .ref l:=r9 (r9 q2)
  obtain ⟨k1,t1,w1⟩:=g1 l z1 m1
  obtain ⟨k2,t2,w2⟩:=g2 l z2 m2
  have:=ndM k1 k2 l w1 w2
  exact ft i j hne a1 a2 e1 e2 m1 m2 (by rw [t1,t2,this])
theorem a49 {ρ:List AV}:∀ {rs:List RV} {j:Nat} {ρc:List AV} {is:List Nat},a0n ρ rs j = some (ρc,is) → (∀ (i:Nat) (a:AV),ρc[i]? = some a → a.isMut = true → ∃ k,a.tag = some k ∧ j ≤ k) ∧ (∀ i i':Nat,i ≠ i' → ∀ a a':AV,ρc[i]? = some a → ρc[i']? = some a' → a.isMut = true → a'.isMut = true → a.tag ≠ a'.tag)
 | [],j,ρc,is,e=>by
  cases e
  exact ⟨fun i a e=>by simp at e,fun i i' _ a a' e=>by simp at e⟩
 | .dat d :: rs,j,ρc,is,e=>by
  cases q:a0n ρ rs j with
  | none=>simp [a0n,q] at e
  | some p =>
   simp only [a0n,q,a0l,a0g,a2S] at e
   obtain ⟨rfl,rfl⟩:=e
   obtain ⟨h1,h2⟩:=a49 q
   refine ⟨fun i a e m=>?_,fun i i' hn a a' e e' m m'=>?_⟩
   ·cases i with
    | zero=>simp at e; subst e; cases m
    | succ i=>exact h1 i a (by simpa using e) m
   ·cases i with
    | zero=>simp at e; subst e; cases m
    | succ i =>
     cases i' with
     | zero=>simp at e'; subst e'; cases m'
     | succ i'=>exact h2 i i' (by omega) a a' (by simpa using e) (by simpa using e') m m'
 | .own a :: rs,j,ρc,is,e=>by simp [a0n] at e
 | .tupO _ _ :: rs,j,ρc,is,e=>by simp [a0n] at e
 | .bor i0 :: rs,j,ρc,is,e=>by
  have next:∀ mk:AV,mk.isMut = true → mk.tag = some j → (a0n ρ rs (j + 1)).map (fun p=>(mk :: p.1,i0 :: p.2)) = some (ρc,is) → (∀ (i:Nat) (a:AV),ρc[i]? = some a → a.isMut = true → ∃ k,a.tag = some k ∧ j ≤ k) ∧ (∀ i i':Nat,i ≠ i' → ∀ a a':AV,ρc[i]? = some a → ρc[i']? = some a' → a.isMut = true → a'.isMut = true → a.tag ≠ a'.tag):=fun mk hmk htag e=>by
   cases q:a0n ρ rs (j + 1) with
   | none=>simp [q] at e
   | some p =>
    simp only [q,a0l,a0g,a2S] at e
    obtain ⟨rfl,rfl⟩:=e
    obtain ⟨h1,h2⟩:=a49 q
    refine ⟨fun i a e m=>?_,fun i i' hn a a' e e' m m'=>?_⟩
    ·cases i with
     | zero=>simp at e; subst e; exact ⟨j,htag,a1e _⟩
     | succ i =>
      obtain ⟨k,t,hk⟩:=h1 i a (by simpa using e) m
      exact ⟨k,t,by omega⟩
    ·cases i with
     | zero =>
      simp at e; subst e
      cases i' with
      | zero=>exact absurd rfl hn
      | succ i' =>
       obtain ⟨k,t,hk⟩:=h1 i' a' (by simpa using e') m'
       rw [htag,t]
       intro z
       have:=r9 z
       omega
     | succ i =>
      cases i' with
      | zero =>
       simp at e'; subst e'
       obtain ⟨k,t,hk⟩:=h1 i a (by simpa using e) m
       rw [htag,t]
       intro z
       have:=r9 z
       omega
      | succ i'=>exact h2 i i' (by omega) a a' (by simpa using e) (by simpa using e') m m'
  cases ea:ρ[i0]? with
  | none=>simp [a0n,ea] at e
  | some a =>
   cases a with
   | un=>simp [a0n,ea] at e
   | dat d=>simp [a0n,ea] at e
   | tr p t=>simp [a0n,ea] at e
   | lk u=>simp [a0n,ea] at e
   | ml p ds=>simp only [a0n,ea] at e; exact next _ rfl rfl e
   | mdk p ds=>simp only [a0n,ea] at e; exact next _ rfl rfl e
   | mdt p ds=>simp only [a0n,ea] at e; exact next _ rfl rfl e
   | scr ns =>
    cases q:a0n ρ rs j with
    | none=>simp [a0n,ea,q] at e
    | some p =>
     simp only [a0n,ea,q,a0l,a0g,a2S] at e
     obtain ⟨rfl,rfl⟩:=e
     obtain ⟨h1,h2⟩:=a49 q
     refine ⟨fun i a e m=>?_,fun i i' hn a a' e e' m m'=>?_⟩
     ·cases i with
      | zero=>simp at e; subst e; cases m
      | succ i=>exact h1 i a (by simpa using e) m
     ·cases i with
      | zero=>simp at e; subst e; cases m
      | succ i =>
       cases i' with
       | zero=>simp at e'; subst e'; cases m'
       | succ i'=>exact h2 i i' (by omega) a a' (by simpa using e) (by simpa using e') m m'
   | opq v =>
    cases q:a0n ρ rs j with
    | none=>simp [a0n,ea,q] at e
    | some p =>
     simp only [a0n,ea,q,a0l,a0g,a2S] at e
     obtain ⟨rfl,rfl⟩:=e
     obtain ⟨h1,h2⟩:=a49 q
     refine ⟨fun i a e m=>?_,fun i i' hn a a' e e' m m'=>?_⟩
     ·cases i with
      | zero=>simp at e; subst e; cases m
      | succ i=>exact h1 i a (by simpa using e) m
     ·cases i with
      | zero=>simp at e; subst e; cases m
      | succ i =>
       cases i' with
       | zero=>simp at e'; subst e'; cases m'
       | succ i'=>exact h2 i i' (by omega) a a' (by simpa using e) (by simpa using e') m m'
theorem b33 {ρ':List AV}:∀ {is:List Nat} {j:Nat} {ρ:List AV} {i:Nat},i ∉ is → (a44 ρ' is j ρ)[i]? = ρ[i]?
 | [],_,_,_,_=>rfl
 | i0 :: is,j,ρ,i,h=>by
  unfold a44
  rw [b33 (fun z=>h (e8 _ z)),j4 (fun z=>h (by rw [z]; exact e6))]
theorem c0z {ρ':List AV}:∀ {is:List Nat} {j:Nat} {ρ:List AV},(a44 ρ' is j ρ).length = ρ.length
 | [],_,_=>rfl
 | i0 :: is,j,ρ=>by unfold a44; rw [c0z,o8]
theorem b86 {ρ':List AV}:∀ {is:List Nat} {j k:Nat} {ρ:List AV} {i:Nat},is.Nodup → is[k]? = some i → i < ρ.length → (a44 ρ' is j ρ)[i]? = some (match a87 ρ' (j + k) with
  | some a=>a.retag ((ρ[i]?).bind AV.tag)
  | none=>.un)
 | [],_,_,_,_,_,e,_=>by simp at e
 | i0 :: is,j,0,ρ,i,nd,e,hl=>by
  simp at e; subst e
  unfold a44
  rw [b33 (a1d.mp nd).1,j8 hl]
  rfl
 | i0 :: is,j,k + 1,ρ,i,nd,e,hl=>by
  have e':is[k]? = some i:=by simpa using e
  have hne:i0 ≠ i:=fun z=>(a1d.mp nd).1 (by rw [z]; exact v7 e')
  unfold a44
  rw [b86 (a1d.mp nd).2 e' (by rw [o8]; exact hl),j4 hne]
  have:j + 1 + k = j + (k + 1):=by omega
  rw [this]
theorem c6N {a:AV} {p:Option Nat}:(a.retag p).inn = []:=by cases a <;> rfl
theorem b7e {is:List Nat} {ρ':List AV} (hm:∀ i ∈ is,∃ a,ρ[i]? = some a ∧ a.isMut = true ∧ a.inn = []) (nd:is.Nodup):∀ n l,a12 σ (a44 ρ' is 0 ρ) n l → a12 σ ρ n l:=fun n l ⟨a,e,f⟩=>by
  by_cases hn:n ∈ is
  ·obtain ⟨a',e',m',n'⟩:=hm n hn
   obtain ⟨k,hk,ek⟩:=a4B hn
   rw [b86 nd (j2.mpr ⟨hk,ek⟩) (j2.mp e').1] at e
   have hin:a.inn = []:=by
    have ea:=r9 e
    cases ho:a87 ρ' (0 + k) with
    | none=>rw [ho] at ea; rw [← ea]; rfl
    | some a1 =>
     rw [ho] at ea
     rw [← ea]
     exact c6N
   rcases f with ⟨_,q⟩ | z
   ·exact .mk e' m' q
   ·rw [hin] at z; simp at z
  ·rw [b33 hn] at e; exact ⟨a,e,f⟩
/-- behind the call -/
theorem Rep.leave {is:List Nat} {M:List v4} {F' H':Hp} {σ':a3j} {ρ':List AV} (R:Rep K C F H σ ρ) (b:d1V σ is M) (hm:∀ i ∈ is,∃ a,ρ[i]? = some a ∧ a.isMut = true ∧ a.inn = []) (nd:is.Nodup) (R':Rep K ⟨F,H,M⟩ F' H' σ' ρ'):Rep K C F' H' σ (a44 ρ' is 0 ρ):=by
 have hMC:∀ l ∈ M,l ∈ C.M0 ∨ C.H0 l = none:=fun l hl=>by
  obtain ⟨i,hi,q⟩:=b.mem hl
  obtain ⟨a,ea,m,_⟩:=hm i hi
  exact R.mutW (.mk ea m q)
 have mutBack:=b7e (σ:=σ) (ρ':=ρ') hm nd
 refine ⟨by rw [c0z]; exact R.len,R'.sub,R.gr.trans R'.gr,fun c o e n=>?_,fun c o e=>?_,fun c o e n=>?_,R.mf,R'.tp,fun i a e=>?_,fun i j l hne h1 h2=>R.apart i j l hne (mutBack i l h1) (mutBack j l h2)⟩
 ·refine R'.keep c o (R.keep c o e n) fun z=>?_
  rcases hMC c z with y | y
  ·exact n y
  ·rw [y] at e; cases e
 ·obtain ⟨o1,e1⟩:=R.there c o e
  exact R'.there c o1 e1
 ·obtain ⟨o1,e1⟩:=R.there c o e
  exact R'.nw c o1 e1 (R.nw c o e n)
 ·by_cases hi:i ∈ is
  ·obtain ⟨k,hk,ek⟩:=a4B hi
   have ek':is[k]? = some i:=j2.mpr ⟨hk,ek⟩
   obtain ⟨a0,e0,m0,n0⟩:=hm i hi
   have hlt:i < ρ.length:=(j2.mp e0).1
   rw [b86 nd ek' hlt] at e
   obtain ⟨l,hl,q⟩:=a22.getL b ek'
   refine ⟨_,q,?_⟩
   obtain ⟨o0,eo0,hs0⟩:=R.slot i a0 e0
   rw [q] at eo0
   cases eo0
   have hw:b3l C a0.tag l:=by
    cases a0 with
    | un=>cases m0
    | dat d=>cases m0
    | scr d=>cases m0
    | opq v=>cases m0
    | lk u=>cases m0
    | tr p t=>obtain ⟨b,e1,_,_,_,_,h5⟩:=hs0; cases e1; exact h5
    | ml p ds=>obtain ⟨l',xs,e1,_,_,_,h3⟩:=hs0; cases e1; exact h3
    | mdk p ds=>obtain ⟨l',xs,e1,_,_,_,h3⟩:=hs0; cases e1; exact h3
    | mdt p ds=>obtain ⟨l',xs,e1,_,_,_,h3⟩:=hs0; cases e1; exact h3
   rw [Nat.zero_add] at e
   cases ho:a87 ρ' k with
   | none=>rw [ho] at e; cases e; trivial
   | some a1 =>
    rw [ho] at e
    have ea:a1.retag ((ρ[i]?).bind AV.tag) = a:=r9 e
    rw [e0] at ea
    have htag:a1.tag = some k:=by
     have:=List.find?_some ho
     simpa using this
    obtain ⟨n,hn,en⟩:=a4B (List.mem_of_find?_eq_some ho)
    obtain ⟨o1,eo1,hs1⟩:=R'.slot n a1 (j2.mpr ⟨hn,en⟩)
    subst ea
    cases a1 with
    | un=>cases htag
    | dat d=>cases htag
    | scr d=>cases htag
    | opq v=>cases htag
    | lk u=>cases htag
    | tr p t=>trivial
    | ml p ds =>
     obtain ⟨l1,xs,e1,hF1,hH1,hd1,hw1⟩:=hs1
     have hp:p = some k:=htag
     subst hp
     have el:l1 = l:=by
      have z:M[k]? = some l1:=hw1
      rw [hl] at z
      exact (r9 z).symm
     subst el
     exact ⟨l1,xs,rfl,hF1,hH1,hd1,hw⟩
    | mdk p ds =>
     obtain ⟨l1,xs,e1,hF1,hH1,hd1,hw1⟩:=hs1
     have hp:p = some k:=htag
     subst hp
     have el:l1 = l:=by
      have z:M[k]? = some l1:=hw1
      rw [hl] at z
      exact (r9 z).symm
     subst el
     exact ⟨l1,xs,rfl,hF1,hH1,hd1,hw⟩
    | mdt p ds =>
     obtain ⟨l1,xs,e1,hF1,hH1,hd1,hw1⟩:=hs1
     have hp:p = some k:=htag
     subst hp
     have el:l1 = l:=by
      have z:M[k]? = some l1:=hw1
      rw [hl] at z
      exact (r9 z).symm
     subst el
     exact ⟨l1,xs,rfl,hF1,hH1,hd1,hw⟩
  ·rw [b33 hi] at e
   obtain ⟨o,eo,hs⟩:=R.slot i a e
   refine ⟨o,eo,hs.mono R'.gr (fun l u f h=>?_) fun l f h=>?_⟩
   ·refine R'.keep l u h fun z=>?_
    obtain ⟨i',hi',q'⟩:=b.mem z
    obtain ⟨a',e',m',_⟩:=hm i' hi'
    exact R.apart i i' l (fun w=>hi (by rw [w]; exact hi')) ⟨a,e,by rw [eo]; exact f⟩ (.mk e' m' q')
   ·obtain ⟨_,u,hu⟩:=hs.mutF f
    exact R'.nw l u hu h
theorem a57.leave {is:List Nat} {M:List v4} {F' H':Hp} {σ':a3j} {ρ':List AV} {v:V} {r:RV} (R:Rep K C F H σ ρ) (R':Rep K ⟨F,H,M⟩ F' H' σ' ρ') (hm:∀ i ∈ is,∃ a,ρ[i]? = some a ∧ a.isMut = true ∧ a.inn = []) (nd:is.Nodup) (h:a57 K ⟨F,H,M⟩ F' H' σ' ρ' v r) (hn:∀ i,r ≠ .bor i):a57 K C F' H' σ (a44 ρ' is 0 ρ) v r:=by
 have mb:=b7e (σ:=σ) (ρ':=ρ') hm nd
 cases r with
 | dat d=>exact h
 | bor i=>exact absurd rfl (hn i)
 | own a =>
  obtain ⟨l,rfl,m,hs,h0,_⟩:=h
  have h0':H l = none:=h0
  have c0:C.H0 l = none:=by
   cases q:C.H0 l with
   | none=>rfl
   | some o=>obtain ⟨o',e⟩:=R.there l o q; rw [e] at h0'; cases h0'
  refine ⟨l,rfl,m,?_,c0,fun i mi=>?_⟩
  ·have wh:∀ p,b3l ⟨F,H,M⟩ p l → (l ∈ M → False) → b3l C p l:=fun p z n=>by
    cases p with
    | none=>exact c0
    | some j=>exact (n (v7 z)).elim
   have nM:l ∈ M → False:=fun z=>by
    obtain ⟨_,o,e⟩:=R'.mf l z
    have e':H l = some o:=e
    rw [h0'] at e'; cases e'
   cases a with
   | un=>cases m
   | dat d=>cases m
   | scr d=>cases m
   | opq v=>cases m
   | lk u=>cases m
   | tr p t=>cases m
   | ml p ds=>obtain ⟨l',xs,e1,q1,q2,q3,q4⟩:=hs; cases e1; exact ⟨l,xs,rfl,q1,q2,q3,wh p q4 nM⟩
   | mdk p ds=>obtain ⟨l',xs,e1,q1,q2,q3,q4⟩:=hs; cases e1; exact ⟨l,xs,rfl,q1,q2,q3,wh p q4 nM⟩
   | mdt p ds=>cases m
  ·obtain ⟨_,u,hu⟩:=R.mutF (mb i l mi)
   rw [h0'] at hu; cases hu
 | tupO ds d =>
  obtain ⟨t,l,u,xs,rfl,ht,hF,h1,h2,h3,h0,_⟩:=h
  have h0':H l = none:=h0
  have c0:C.H0 l = none:=by
   cases q:C.H0 l with
   | none=>rfl
   | some o=>obtain ⟨o',e⟩:=R.there l o q; rw [e] at h0'; cases h0'
  refine ⟨t,l,u,xs,rfl,ht,hF,h1,h2,h3,c0,fun i mi=>?_⟩
  obtain ⟨_,u,hu⟩:=R.mutF (mb i l mi)
  rw [h0'] at hu; cases hu
end
theorem b34 {c:Ct} {t:TA} {a:AAx} (ha:AS0 K W t a):ES K W (tCallS (spOf K c) (WE W) t) (c4b c a):=fun C ρ PX P F H σ Q R h xs k =>
 ha C ρ PX _ F H σ _ R h xs fun vs F1 H1 rs ρ1 R1 s1 o1 p1=>by
  cases e:a0n ρ1 rs 0 with
  | none=>simp only [e] at p1
  | some q =>
   obtain ⟨ρc,is⟩:=q
   simp only [e] at p1
   obtain ⟨nd,p1⟩:=p1
   obtain ⟨M,b,hm,f⟩:=a8I R1 o1 e
   have Rc:Rep K ⟨F1,H1,M⟩ F1 H1 (vs.map some) ρc:=R1.enter (rs:=rs) b hm nd (f M rfl) (a49 e).2
   refine ⟨F1,M,ρc,_,_,Rc,p1,fun v F' H' σ' ρ' r R' o' p'=>?_,fun F' H' σ' ρ' cls p d R' x' p'=>?_⟩
   ·have L:=R1.leave b hm nd R'
    cases r with
    | bor i=>exact p'.elim
    | dat d=>exact k v F' H' (.dat d) _ L (s1.trans R'.gr) (o'.leave R1 R' hm nd fun _ z=>nomatch z) p'
    | own a=>exact k v F' H' (.own a) _ L (s1.trans R'.gr) (o'.leave R1 R' hm nd fun _ z=>nomatch z) p'
    | tupO ds d=>exact k v F' H' (.tupO ds d) _ L (s1.trans R'.gr) (o'.leave R1 R' hm nd fun _ z=>nomatch z) p'
   ·exact xs F' H' σ _ cls p d (R1.leave b hm nd R') x' p'
def k9 (c:Ct) (a:AAx):AEx:=fun ρ PX P=>a ρ PX fun rs ρ1=>match a0n ρ1 rs 0 with
 | some (ρc,is)=>is.Nodup ∧ c ρc (fun r ρ'=>match r with
   | .bor _=>False
   | r=>P r (a44 ρ' is 0 ρ1)) X0
 | none=>False
theorem i5 {c:Ct} {t:TA} {a:AAx} (ha:AS0 K W t a):ES K W (r8 (spOf K c) [] E0 t) (k9 c a):=fun C ρ PX P F H σ Q R h xs k =>
 ha C ρ PX _ F H σ _ R h xs fun vs F1 H1 rs ρ1 R1 s1 o1 p1=>by
  cases e:a0n ρ1 rs 0 with
  | none=>simp only [e] at p1
  | some q =>
   obtain ⟨ρc,is⟩:=q
   simp only [e] at p1
   obtain ⟨nd,p1⟩:=p1
   obtain ⟨M,b,hm,f⟩:=a8I R1 o1 e
   have Rc:Rep K ⟨F1,H1,M⟩ F1 H1 (vs.map some) ρc:=R1.enter (rs:=rs) b hm nd (f M rfl) (a49 e).2
   rw [a1b]
   refine ⟨F1,M,ρc,_,_,Rc,p1,fun v F' H' σ' ρ' r R' o' p'=>?_,fun F' H' σ' ρ' cls p d R' x' p'=>p'.elim⟩
   have L:=R1.leave b hm nd R'
   cases r with
   | bor i=>exact p'.elim
   | dat d=>exact k v F' H' (.dat d) _ L (s1.trans R'.gr) (o'.leave R1 R' hm nd fun _ z=>nomatch z) p'
   | own a=>exact k v F' H' (.own a) _ L (s1.trans R'.gr) (o'.leave R1 R' hm nd fun _ z=>nomatch z) p'
   | tupO ds d=>exact k v F' H' (.tupO ds d) _ L (s1.trans R'.gr) (o'.leave R1 R' hm nd fun _ z=>nomatch z) p'
def DMt:=List c8 → List c8 → (c8 → List c8 → Prop) → Prop
def MS (K:b0) (r:V → List V → Hp → VK → Prop) (g:DMt):Prop:=∀ F H l xs ds vs es k Q,a5K F H → H l = some (.lst xs) → DrAll K F xs ds → DrAll K F vs es → g ds es k → (∀ z d xs' ds',Dr K F z d → DrAll K F xs' ds' → k d ds' → Q z (upd H l (.lst xs'))) → r (.ref l) vs H Q
def aMt (g:DMt) (b:AEx) (a:AAx):AEx:=fun ρ PX P=>b ρ PX fun rb ρ1=>match rb with
 | .bor i=>(match ρ1[i]? with
  | some (.ml _ _)=>a ρ1 PX fun rs ρ2=>a24 (b4Y rs) fun es=>match ρ2[i]? with
   | some (.ml p ds)=>g ds es fun d ds'=>P (.dat d) (ρ2.set i (.ml p ds'))
   | _=>False
  | _=>False)
 | _=>False
theorem d3A {C:C0} {F H:Hp} {σ:a3j} {ρ:List AV} {i:Nat} {p:Option Nat} {ds:List c8} {v:V} (R:Rep K C F H σ ρ) (ev:σ[i]? = some (some v)) (ea:ρ[i]? = some (.ml p ds)):tyV K "list" v H:=by
 obtain ⟨o,eo,l,xs',e1,hF,hH,hd2,hw⟩:=R.slot i _ ea
 rw [ev] at eo
 cases eo
 cases e1
 exact .inl ⟨rfl,_,.of hH⟩
theorem b6b {r:V → List V → Hp → VK → Prop} {g:DMt} {tb:TE} {t:TA} {b:AEx} {a:AAx} (hr:MS K r g) (hb:ES K W tb b) (ha:AS0 K W t a):ES K W (tBM K "list" r tb t) (aMt g b a):=fun C ρ PX P F H σ Q R h xs k =>
 hb C ρ PX _ F H σ _ R h xs fun v F1 H1 r1 ρ1 R1 s1 o1 p1=>by
  cases r1 with
  | dat d=>exact p1.elim
  | own d=>exact p1.elim
  | tupO _ _=>exact p1.elim
  | bor i =>
   obtain ⟨ev,a0,ea0⟩:=o1
   cases ea1:ρ1[i]? with
   | none=>simp only [ea1] at p1
   | some a1 =>
    cases a1 with
    | ml p1' ds1 =>
     simp only [ea1] at p1
     refine ⟨d3A R1 ev ea1,?_⟩
     refine ha C ρ1 PX _ F1 H1 σ _ R1 p1 xs fun vs F2 H2 rs ρ2 R2 s2 o2 p2=>?_
     obtain ⟨es,ee,p2⟩:=a4h p2
     have hd:=a6q o2 ee
     cases ea:ρ2[i]? with
     | none=>simp only [ea] at p2
     | some a2 =>
      cases a2 with
      | ml p ds =>
       simp only [ea] at p2
       obtain ⟨o,eo,l,xs',e1,hF,hH,hd2,hw⟩:=R2.slot i _ ea
       rw [ev] at eo
       cases eo
       cases e1
       refine hr F2 H2 l xs' ds vs es _ _ R2.sub hH hd2 hd p2 fun z d xs3 ds3 hz h3 p3=>?_
       exact k z F2 _ (.dat d) _ (R2.change (a':=.ml p ds3) ea rfl rfl ev ⟨l,xs3,rfl,hF,a0C,h3,hw⟩) (s1.trans s2) hz p3
      | _=>simp only [ea] at p2
    | _=>simp only [ea1] at p1
/-- without arguments -/
def aMt0 (g:DMt) (b:AEx):AEx:=fun ρ PX P=>b ρ PX fun rb ρ1=>match rb with
 | .bor i=>(match ρ1[i]? with
  | some (.ml p ds)=>g ds [] fun d ds'=>P (.dat d) (ρ1.set i (.ml p ds'))
  | _=>False)
 | _=>False
/-- xs[i] = e -/
def c8E (a b c:AEx):ASt:=fun D ρ=>a ρ D.ex fun r ρ1=>match r.hold with
 | .dat d=>b ρ1 D.ex fun rb ρ2=>(match rb with
  | .bor i=>c ρ2 D.ex fun rc ρ3=>(match rc,ρ3[i]? with
   | .dat (.int k),some (.ml p ds)=>(match ixN ds.length k with
    | some j=>D.nx (ρ3.set i (.ml p (ds.set j d)))
    | none=>False)
   | _,_=>False)
  | _=>False)
 | _=>False
theorem b5b {ta tb tc:TE} {a b c:AEx} (ha:ES K W ta a) (hb:ES K W tb b) (hc:ES K W tc c):SS K W (a27 ta (gSub tb tc rSetL)) (c8E a b c):=fun C D ρ F H σ D' R h xs n _ _ _ =>
 ha C ρ D.ex _ F H σ _ R h xs fun v F1 H1 r ρ1 R1 s1 o1 p1=>by
  obtain ⟨F2,R2,s2,o2,n2⟩:=a2r R1 o1
  cases er:r.hold with
  | bor j=>simp only [er] at p1
  | own j=>simp only [er] at p1
  | tupO _ _=>simp only [er] at p1
  | dat d =>
   rw [er] at o2
   simp only [er] at p1
   refine hb C ρ1 D.ex _ F2 H1 σ _ R2 p1 xs fun vb F3 H3 rb ρ3 R3 s3 o3 p3=>?_
   cases rb with
   | dat _=>exact p3.elim
   | own _=>exact p3.elim
   | tupO _ _=>exact p3.elim
   | bor i =>
    obtain ⟨ev,_⟩:=o3
    refine hc C ρ3 D.ex _ F3 H3 σ _ R3 p3 xs fun vc F4 H4 rc ρ4 R4 s4 o4 p4=>?_
    cases rc with
    | bor _=>exact p4.elim
    | own _=>exact p4.elim
    | tupO _ _=>exact p4.elim
    | dat dc =>
     cases dc with
     | int k =>
      cases ea:ρ4[i]? with
      | none=>simp only [ea] at p4
      | some a4 =>
       cases a4 with
       | ml p ds =>
        simp only [ea] at p4
        cases ej:ixN ds.length k with
        | none=>simp only [ej] at p4
        | some j =>
         simp only [ej] at p4
         obtain ⟨o,eo,l,xs',e1,hF,hH,hd2,hw⟩:=R4.slot i _ ea
         rw [ev] at eo
         cases eo
         cases e1
         have ok:vc = .int k:=by cases o4; rfl
         subst ok
         refine ⟨l,xs',k,j,rfl,rfl,hH,by rw [hd2.length]; exact ej,?_⟩
         exact n F4 _ σ _ (R4.change (a':=.ml p (ds.set j d)) ea rfl rfl ev ⟨l,_,rfl,hF,a0C,DrAll.set (Dr.mono (s3.trans s4) d v o2) j hd2,hw⟩) (((s1.trans s2).trans s3).trans s4) p4
       | _=>simp only [ea] at p4
     | _=>exact p4.elim
end Aq
namespace Aq
open PySem L2
variable {K:b0} {W:WX} {X:Cx}
abbrev shp (d:c8):Prop:=a0k d = true
mutual
theorem c3J:∀ d:c8,d.canLay0 = true → noDic d = true
 | .none,_=>by simp [noDic]
 | .bool _,_=>by simp [noDic]
 | .int _,_=>by simp [noDic]
 | .str _,_=>by simp [noDic]
 | .list ds,h=>by rw [noDic]; exact b4J ds (by rw [a09] at h; exact h)
 | .tuple ds,h=>by rw [noDic]; exact b4J ds (by rw [a09] at h; exact h)
 | .dict _,h=>by rw [a09] at h; cases h
theorem b4J:∀ ds:List c8,a1W ds = true → noDics ds = true
 | [],_=>by simp [noDics]
 | d :: ds,h=>by
  rw [a1W,m5] at h
  rw [noDics,c3J d h.1,b4J ds h.2]
  rfl
end
theorem a77 {d:c8} (h:shp d):noDic d = true:=c3J d (SeqAt.canLay_of_shaped h)
def gI (f:Int → Int → (Out → Prop) → Prop):DOp:=fun d e P=>match d,e with
 | .int a,.int b=>f a b P
 | _,_=>False
theorem r2_I0 {g:Int → Int → Int}:R2S K (rI0 fun i j=>.int (g i j)) (gI fun a b P=>P (.dat (.int (g a b)))):=fun F H x y d e Pd Q s hx hy h o=>by
 cases d with
 | int a =>
  cases e with
  | int b=>rw [hx.int,hy.int]; exact ⟨a,b,rfl,rfl,o.dat _ _ (.int _) h⟩
  | _=>exact h.elim
 | _=>exact h.elim
theorem r2_I {C:Int → Int → Prop} {g:Int → Int → Int}:R2S K (rI C fun i j=>.int (g i j)) (gI fun a b P=>C a b ∧ P (.dat (.int (g a b)))):=fun F H x y d e Pd Q s hx hy h o=>by
 cases d with
 | int a =>
  cases e with
  | int b=>rw [hx.int,hy.int]; exact ⟨a,b,rfl,rfl,h.1,o.dat _ _ (.int _) h.2⟩
  | _=>exact h.elim
 | _=>exact h.elim
def c0J:DOp:=gI fun a b P=>P (.dat (.int (a - b)))
def c4k:DOp:=gI fun a b P=>CMulW a b ∧ P (.dat (.int (a * b)))
def c7O:DOp:=gI fun a b P=>CDivW a b ∧ P (.dat (.int (a / b)))
def c6d:DOp:=gI fun a b P=>0 < b ∧ P (.dat (.int (a % b)))
def a8K:DOp:=gI fun a b P=>CPow a b ∧ P (.dat (.int (a ^ b.toNat)))
abbrev b9w:R2:=rI0 fun i j=>.int (i - j)
abbrev b14:R2:=rI CMulW fun i j=>.int (i * j)
abbrev b9t:R2:=rI CDivW fun i j=>.int (i / j)
abbrev b4X:R2:=rI (fun _ j=>0 < j) fun i j=>.int (i % j)
abbrev a21:R2:=rI CPow fun i j=>.int (i ^ j.toNat)
theorem b70:R2S K b9w c0J:=r2_I0
theorem a71:R2S K b14 c4k:=r2_I
theorem b26:R2S K b9t c7O:=r2_I
theorem b0P:R2S K b4X c6d:=r2_I
theorem a1q:R2S K a21 a8K:=r2_I
def a0A (K:b0):R2:=fun x y H Q=>rI0 (fun i j=>.int (i + j)) x y H Q ∨ ((∃ i j,x = .str i ∧ y = .str j ∧ i.length + j.length ≤ k8 ∧ Q (.str (i ++ j)) H) ∨ (rCat x y H Q ∨ rCatA K x y H Q))
theorem t0:OpR X (binaryOp .Add) (a0A X.K):=op_add.or (op_add_str.or (op_cat.or op_catA))
def a3e:DOp:=fun d e P=>match d,e with
 | .int a,.int b=>P (.dat (.int (a + b)))
 | .str a,.str b=>a.length + b.length ≤ k8 ∧ P (.dat (.str (a ++ b)))
 | .list a,.list b=>a.length + b.length ≤ k8 ∧ P (.newL (a ++ b))
 | .tuple a,.tuple b=>a.length + b.length ≤ k8 ∧ P (.dat (.tuple (a ++ b))) ∧ P (.newT (a ++ b))
 | _,_=>False
theorem y9:R2S K (a0A K) a3e:=fun F H x y d e Pd Q s hx hy h o=>by
 cases d with
 | int a =>
  cases e with
  | int b=>rw [hx.int,hy.int]; exact .inl ⟨a,b,rfl,rfl,o.dat _ _ (.int _) h⟩
  | _=>exact h.elim
 | str a =>
  cases e with
  | str b=>rw [hx.str,hy.str]; exact .inr (.inl ⟨a,b,rfl,rfl,h.1,o.dat _ _ (.str _) h.2⟩)
  | _=>exact h.elim
 | list a =>
  cases e with
  | list b =>
   obtain ⟨l,xs,rfl,h1,h2⟩:=hx.list s
   obtain ⟨m,ys,rfl,k1,k2⟩:=hy.list s
   exact .inr (.inr (.inl ⟨l,m,xs,ys,rfl,rfl,h1,k1,by rw [h2.length,k2.length]; exact h.1,fun p hp=>o.newL p _ _ hp (h2.append k2) h.2⟩))
  | _=>exact h.elim
 | tuple a =>
  cases e with
  | tuple b =>
   obtain ⟨l,xs,rfl,h1,h2⟩:=hx.tuple s
   obtain ⟨m,ys,rfl,k1,k2⟩:=hy.tuple s
   have dx:Dr K F (.ref l) (.tuple a):=by
    rcases hx with hx | ⟨_,_,_,_,e2,_⟩ | ⟨_,_,_,_,e2,_⟩
    ·exact hx
    ·cases e2
    ·cases e2
   have dy:Dr K F (.ref m) (.tuple b):=by
    rcases hy with hx | ⟨_,_,_,_,e2,_⟩ | ⟨_,_,_,_,e2,_⟩
    ·exact hx
    ·cases e2
    ·cases e2
   refine .inr (.inr (.inr ⟨l,m,xs,ys,rfl,rfl,h1,k1,by rw [h2.length,k2.length]; exact h.1,fun e=>?_,fun _ e=>?_,fun _ _ p hp=>o.newT p _ _ hp (h2.append k2) h.2.2⟩))
   ·subst e
    cases h2
    exact o.dat _ _ dy h.2.1
   ·subst e
    cases k2
    have:=h.2.1
    rw [a1b] at this
    exact o.dat _ _ dx this
  | _=>exact h.elim
 | _=>exact h.elim
def gEq:DOp:=fun d e P=>shp d ∧ shp e ∧ P (.dat (.bool (i7 d e)))
def gNe:DOp:=fun d e P=>shp d ∧ shp e ∧ P (.dat (.bool (!i7 d e)))
theorem a33:R2S K (c1V K) gEq:=fun F H x y d e Pd Q s hx hy h o=>⟨d,e,hx.dp s (a77 h.1),hy.dp s (a77 h.2.1),h.1,h.2.1,o.dat _ _ (.bl _) h.2.2⟩
theorem c06:R2S K (rNeD K) gNe:=fun F H x y d e Pd Q s hx hy h o=>⟨d,e,hx.dp s (a77 h.1),hy.dp s (a77 h.2.1),h.1,h.2.1,o.dat _ _ (.bl _) h.2.2⟩
/-- of two numbers or two texts -/
def rIS (p:Int → Int → Bool) (q:Str → Str → Bool):R2:=fun x y H Q=>rI0 (fun i j=>.bl (p i j)) x y H Q ∨ ∃ i j,x = .str i ∧ y = .str j ∧ Q (.bl (q i j)) H
def gIS (p:Int → Int → Bool) (q:Str → Str → Bool):DOp:=fun d e P=>match d,e with
 | .int a,.int b=>P (.dat (.bool (p a b)))
 | .str a,.str b=>P (.dat (.bool (q a b)))
 | _,_=>False
theorem a4A {p:Int → Int → Bool} {q:Str → Str → Bool}:R2S K (rIS p q) (gIS p q):=fun F H x y d e Pd Q s hx hy h o=>by
 cases d with
 | int a =>
  cases e with
  | int b=>rw [hx.int,hy.int]; exact .inl ⟨a,b,rfl,rfl,o.dat _ _ (.bl _) h⟩
  | _=>exact h.elim
 | str a =>
  cases e with
  | str b=>rw [hx.str,hy.str]; exact .inr ⟨a,b,rfl,rfl,o.dat _ _ (.bl _) h⟩
  | _=>exact h.elim
 | _=>exact h.elim
def a99 (i j:Str):Bool:=decide (i.cps.toList < j.cps.toList)
abbrev c7R:R2:=rIS (fun i j=>decide (i < j)) a99
abbrev c6L:R2:=rIS (fun i j=>decide (i ≤ j)) (fun i j=>!a99 j i)
abbrev c9z:R2:=rIS (fun i j=>decide (j < i)) (fun i j=>a99 j i)
abbrev rGeA:R2:=rIS (fun i j=>decide (j ≤ i)) (fun i j=>!a99 i j)
theorem b25:OpR X (c0r .Lt) c7R:=op_lt.or op_lt_str
theorem a9u:OpR X (c0r .LtE) c6L:=op_le.or op_le_str
theorem b4R:OpR X (c0r .Gt) c9z:=op_gt.or op_gt_str
theorem d3j:OpR X (c0r .GtE) rGeA:=op_ge.or op_ge_str
abbrev gLt:DOp:=gIS (fun i j=>decide (i < j)) a99
abbrev gLe:DOp:=gIS (fun i j=>decide (i ≤ j)) (fun i j=>!a99 j i)
abbrev gGt:DOp:=gIS (fun i j=>decide (j < i)) (fun i j=>a99 j i)
abbrev gGe:DOp:=gIS (fun i j=>decide (j ≤ i)) (fun i j=>!a99 i j)
def isN:c8 → Bool
 | .none=>true
 | _=>false
def gIs (neg:Bool):DOp:=fun d e P=>match d,e with
 | d,.none=>P (.dat (.bool (if neg then !isN d else isN d)))
 | .bool a,.bool b=>P (.dat (.bool (if neg then !decide (a = b) else decide (a = b))))
 | _,_=>False
def b0y:c8 → Bool
 | .none=>true
 | .bool _=>true
 | .int _=>true
 | .str _=>true
 | _=>false
theorem c2c {F H:Hp} {v:V} {d:c8} (h:Lk K F H v d) (f:b0y d = true):flatV v = true:=by
 cases d with
 | none=>rw [h.none]; rfl
 | bool b=>rw [h.bool]; rfl
 | int b=>rw [h.int]; rfl
 | str b=>rw [h.str]; rfl
 | _=>cases f
theorem c92 {F H F' H':Hp} {v u:V} {d e:c8} (h:Lk K F H v d) (k:Lk K F' H' u e) (f:b0y d = true) (g:b0y e = true):eqV v u = i7 d e:=by
 cases d with
 | none=>rw [h.none]; cases e with
  | none=>rw [k.none]; simp [eqV,i7]
  | bool b=>rw [k.bool]; simp [eqV,i7]
  | int b=>rw [k.int]; simp [eqV,i7]
  | str b=>rw [k.str]; simp [eqV,i7]
  | _=>cases g
 | bool b=>rw [h.bool]; cases e with
  | none=>rw [k.none]; simp [eqV,i7]
  | bool b=>rw [k.bool]; simp [eqV,i7]
  | int b=>rw [k.int]; simp [eqV,i7]
  | str b=>rw [k.str]; simp [eqV,i7]
  | _=>cases g
 | int b=>rw [h.int]; cases e with
  | none=>rw [k.none]; simp [eqV,i7]
  | bool b=>rw [k.bool]; simp [eqV,i7]
  | int b=>rw [k.int]; simp [eqV,i7]
  | str b=>rw [k.str]; simp [eqV,i7]
  | _=>cases g
 | str b=>rw [h.str]; cases e with
  | none=>rw [k.none]; simp [eqV,i7]
  | bool b=>rw [k.bool]; simp [eqV,i7]
  | int b=>rw [k.int]; simp [eqV,i7]
  | str b=>rw [k.str]; simp [eqV,i7]
  | _=>cases g
 | _=>cases f
theorem c2f {F H:Hp} {x:V} {d:c8} (hx:Lk K F H x d) (f:b0y d = true):∀ {xs:List V} {ds:List c8},DrAll K F xs ds → ds.all b0y = true → inV x xs = (ds.any fun z=>i7 z d) ∧ xs.all flatV = true
 | _,_,.nil,_=>⟨rfl,rfl⟩
 | _,_,.cons h t,g=>by
  rw [List.all_cons,m5] at g
  obtain ⟨i1,i2⟩:=c2f hx f t g.2
  have e1:=c92 (H:=H) (.inl h) hx g.1 f
  refine ⟨?_,?_⟩
  ·unfold inV at i1 ⊢
   rw [c0j,c0j,e1,i1]
  ·rw [List.all_cons,c2c (H:=H) (.inl h) g.1,i2]
   rfl
def b3G (j i:Str):Bool:=!(Builtin.Str.occurrences j i 0 j.length 1).isEmpty
def c8z (K:b0):R2:=fun x y H Q=>(∃ i j,x = .str i ∧ y = .str j ∧ Q (.bl (b3G j i)) H) ∨ (rIn K false x y H Q ∨ rInD K x y H Q)
def b9v (K:b0):R2:=fun x y H Q=>(∃ i j,x = .str i ∧ y = .str j ∧ Q (.bl (!b3G j i)) H) ∨ (rIn K true x y H Q ∨ rNotInD K x y H Q)
theorem b7g (hu:X.A.units + 65 < a82):OpR X (c0r .In) (c8z X.K):=op_in_str.or (op_in_seq.or (op_inD hu))
theorem c6F (hu:X.A.units + 65 < a82):OpR X (c0r .NotIn) (b9v X.K):=op_notin_str.or (op_notIn_seq.or (op_notInD hu))
def inD (neg:Bool) (b:Bool):c8:=.bool (if neg then !b else b)
def gIn (neg:Bool):DOp:=fun d e P=>match d,e with
 | .str i,.str j=>P (.dat (inD neg (b3G j i)))
 | d,.tuple ds=>b0y d = true ∧ ds.all b0y = true ∧ P (.dat (inD neg (ds.any fun z=>i7 z d)))
 | d,.list ds=>shp d ∧ shp (.list ds) ∧ P (.dat (inD neg (ds.any fun z=>i7 z d)))
 | _,_=>False
theorem c40:R2S K (c8z K) (gIn false):=fun F H x y d e Pd Q s hx hy h o=>by
 cases e with
 | str j =>
  cases d with
  | str i=>rw [hx.str,hy.str]; exact .inl ⟨i,j,rfl,rfl,o.dat _ _ (.bl _) h⟩
  | _=>exact h.elim
 | tuple ds =>
  have h':b0y d = true ∧ ds.all b0y = true ∧ Pd (.dat (inD false (ds.any fun z=>i7 z d))):=by cases d <;> exact h
  obtain ⟨l,ys,rfl,k1,k2⟩:=hy.tuple s
  obtain ⟨i1,i2⟩:=c2f hx h'.1 k2 h'.2.1
  refine .inr (.inl ⟨l,ys,rfl,.inr k1,c2c hx h'.1,i2,?_⟩)
  have e2:(if false = true then !inV x ys else inV x ys) = (ds.any fun z=>i7 z d):=i1
  rw [e2]
  exact o.dat _ _ (.bl _) h'.2.2
 | list ds =>
  have h':shp d ∧ shp (.list ds) ∧ Pd (.dat (inD false (ds.any fun z=>i7 z d))):=by cases d <;> exact h
  exact .inr (.inr ⟨d,ds,hx.dp s (a77 h'.1),hy.dp s (a77 h'.2.1),h'.1,h'.2.1,o.dat _ _ (.bl _) h'.2.2⟩)
 | _=>cases d <;> exact h.elim
theorem c8y:R2S K (b9v K) (gIn true):=fun F H x y d e Pd Q s hx hy h o=>by
 cases e with
 | str j =>
  cases d with
  | str i=>rw [hx.str,hy.str]; exact .inl ⟨i,j,rfl,rfl,o.dat _ _ (.bl _) h⟩
  | _=>exact h.elim
 | tuple ds =>
  have h':b0y d = true ∧ ds.all b0y = true ∧ Pd (.dat (inD true (ds.any fun z=>i7 z d))):=by cases d <;> exact h
  obtain ⟨l,ys,rfl,k1,k2⟩:=hy.tuple s
  obtain ⟨i1,i2⟩:=c2f hx h'.1 k2 h'.2.1
  refine .inr (.inl ⟨l,ys,rfl,.inr k1,c2c hx h'.1,i2,?_⟩)
  have e2:(if true = true then !inV x ys else inV x ys) = !(ds.any fun z=>i7 z d):=by rw [if_pos rfl,i1]
  rw [e2]
  exact o.dat _ _ (.bl _) h'.2.2
 | list ds =>
  have h':shp d ∧ shp (.list ds) ∧ Pd (.dat (inD true (ds.any fun z=>i7 z d))):=by cases d <;> exact h
  exact .inr (.inr ⟨d,ds,hx.dp s (a77 h'.1),hy.dp s (a77 h'.2.1),h'.1,h'.2.1,o.dat _ _ (.bl _) h'.2.2⟩)
 | _=>cases d <;> exact h.elim
def gIx:DOp:=fun d e P=>match d,e with
 | .list ds,.int i=>a0J (atI ds i) fun z=>P (.dat z)
 | .tuple ds,.int i=>a0J (atI ds i) fun z=>P (.dat z)
 | .str s,.int i=>s.length ≤ k8 ∧ match atI s.cps.toList i with
  | some c=>P (.dat (.str ⟨#[c]⟩))
  | none=>False
 | _,_=>False
theorem c50 {F:Hp} {xs:List V} {ds:List c8} {i:Int} {d:c8} (h:DrAll K F xs ds) (e:atI ds i = some d):∃ v,atI xs i = some v ∧ Dr K F v d:=by
 unfold atI at e ⊢
 rw [h.length]
 cases q:ixN ds.length i with
 | none=>rw [q] at e; cases e
 | some j =>
  rw [q] at e
  exact h.at e
theorem v3:R2S K (rIx K) gIx:=fun F H x y d e Pd Q s hx hy h o=>by
 cases e with
 | int i =>
  rw [hy.int]
  cases d with
  | list ds =>
   obtain ⟨l,xs,rfl,h1,h2⟩:=hx.list s
   obtain ⟨z,ez,hz⟩:=a0c h
   obtain ⟨v,ev,hv⟩:=c50 h2 ez
   exact .inl ⟨l,xs,i,v,rfl,rfl,.of h1,ev,o.dat _ _ hv hz⟩
  | tuple ds =>
   obtain ⟨l,xs,rfl,h1,h2⟩:=hx.tuple s
   obtain ⟨z,ez,hz⟩:=a0c h
   obtain ⟨v,ev,hv⟩:=c50 h2 ez
   exact .inr (.inl ⟨l,xs,i,v,rfl,rfl,h1,ev,o.dat _ _ hv hz⟩)
  | str z =>
   rw [hx.str]
   obtain ⟨h0,h⟩:=h
   cases ec:atI z.cps.toList i with
   | none=>simp only [ec] at h
   | some c =>
    simp only [ec] at h
    exact .inr (.inr ⟨z,i,c,rfl,rfl,h0,ec,o.dat _ _ (.str _) h⟩)
  | _=>exact h.elim
 | _=>cases d <;> exact h.elim
abbrev AOx:=List AV → PXT → (Option Int → List AV → Prop) → Prop
def OS (K:b0) (W:WX) (te:TO) (a:AOx):Prop:=∀ C ρ PX P F H σ Q,Rep K C F H σ ρ → a ρ PX P → XS K C W PX → (∀ b F' H' ρ',Rep K C F' H' σ ρ' → a5K F F' → P b ρ' → Q b H') → te σ H Q
def b80:AOx:=fun ρ _ P=>P none ρ
def c0y (a:AEx):AOx:=fun ρ PX P=>a ρ PX fun r ρ1=>match r with
 | .dat (.int i)=>P (some i) ρ1
 | _=>False
theorem c6G:OS K W tNoPart b80:=fun C ρ PX P F H σ Q R h _ k=>k none F H ρ R (.refl _) h
theorem b1J {te:TE} {a:AEx} (ha:ES K W te a):OS K W (tPart te) (c0y a):=fun C ρ PX P F H σ Q R h xs k =>
 ha C ρ PX _ F H σ _ R h xs fun v F1 H1 r ρ1 R1 s1 o1 p1=>by
  cases r with
  | dat d =>
   cases d with
   | int i =>
    cases o1
    exact ⟨i,rfl,k _ F1 H1 ρ1 R1 s1 p1⟩
   | _=>exact p1.elim
  | _=>exact p1.elim
def b59 (xs:List c8) (lo hi:Option Int):List c8:=(xs.drop (HT.sIx xs.length 0 lo)).take (HT.sIx xs.length xs.length hi - HT.sIx xs.length 0 lo)
theorem c54 {F:Hp} {xs:List V} {ds:List c8} (h:DrAll K F xs ds) (lo hi:Option Int):DrAll K F (cutV xs lo hi) (b59 ds lo hi):=by
 unfold cutV b59
 rw [h.length]
 exact (h.drop _).take _
def DSl:=c8 → Option Int → Option Int → (Out → Prop) → Prop
def c07 (K:b0):V → Option Int → Option Int → Hp → VK → Prop:=fun x lo hi H Q=>rSlL K x lo hi H Q ∨ (rSlA K x lo hi H Q ∨ rSlS x lo hi H Q)
theorem d3u {r r':V → Option Int → Option Int → Hp → VK → Prop} (h:SlR X r) (h':SlR X r'):SlR X (fun x lo hi H Q=>r x lo hi H Q ∨ r' x lo hi H Q):=fun pins s σ H x v vl vu lo hi sl Q I rx hs pl pu z =>
 z.elim (fun z=>h pins s σ H x v vl vu lo hi sl Q I rx hs pl pu z) fun z=>h' pins s σ H x v vl vu lo hi sl Q I rx hs pl pu z
theorem c6Z:SlR X (c07 X.K):=d3u sl_list (d3u sl_tupA sl_str)
def gSl:DSl:=fun d lo hi P=>match d with
 | .list ds=>P (.newL (b59 ds lo hi))
 | .tuple ds=>P (.dat (.tuple (b59 ds lo hi))) ∧ P (.newT (b59 ds lo hi))
 | .str z=>z.length ≤ k8 ∧ P (.dat (.str (cutS z lo hi)))
 | _=>False
def aSl (a:AEx) (l h:AOx):AEx:=fun ρ PX P=>a ρ PX fun r ρ1=>l ρ1 PX fun lo ρ2=>h ρ2 PX fun hi ρ3=>a0J (r.hold.look ρ3) fun d=>gSl d lo hi fun o=>P o.rv ρ3
theorem c98 {te:TE} {tl th:TO} {a:AEx} {l h:AOx} (ha:ES K W te a) (hl:OS K W tl l) (hh:OS K W th h):ES K W (tSl (c07 K) te tl th) (aSl a l h):=fun C ρ PX P F H σ Q R h xs k =>
 ha C ρ PX _ F H σ _ R h xs fun v F1 H1 r ρ1 R1 s1 o1 p1=>by
  obtain ⟨F2,R2,s2,o2,n2⟩:=a2r R1 o1
  refine hl C ρ1 PX _ F2 H1 σ _ R2 p1 xs fun lo F3 H3 ρ3 R3 s3 p3=>?_
  refine hh C ρ3 PX _ F3 H3 σ _ R3 p3 xs fun hi F4 H4 ρ4 R4 s4 p4=>?_
  obtain ⟨d,ed,p4⟩:=a0c p4
  have lk:=(o2.stay (s3.trans s4) R4 n2).lk R4 ed
  have o:=c8t R4 (P:=P) (Q:=Q) fun v' F' H' r' R' s' o' p'=>k v' F' H' r' ρ4 R' ((((s1.trans s2).trans s3).trans s4).trans s') o' p'
  cases d with
  | list ds =>
   obtain ⟨l,xs,rfl,h1,h2⟩:=lk.list R4.sub
   exact .inl ⟨l,xs,rfl,.of h1,fun p hp=>o.newL p _ _ hp (c54 h2 lo hi) p4⟩
  | tuple ds =>
   have dx:Dr K F4 v (.tuple ds):=by
    rcases lk with hx | ⟨_,_,_,_,e2,_⟩ | ⟨_,_,_,_,e2,_⟩
    ·exact hx
    ·cases e2
    ·cases e2
   obtain ⟨l,xs,rfl,h1,h2⟩:=lk.tuple R4.sub
   refine .inr (.inl ⟨l,xs,rfl,h1,fun e=>?_,fun _ p hp=>o.newT p _ _ hp (c54 h2 lo hi) p4.2⟩)
   have e3:b59 ds lo hi = ds:=by
    unfold b59
    rw [← h2.length,e.1,e.2,h2.length]
    simp
   have:=p4.1
   rw [e3] at this
   exact o.dat _ _ dx this
  | str z =>
   rw [lk.str]
   exact .inr (.inr ⟨z,rfl,p4.1,o.dat _ _ (.str _) p4.2⟩)
  | _=>exact p4.elim
def gC1 (f:c8 → (Out → Prop) → Prop):DCl:=fun ds P=>match ds with
 | [d]=>f d P
 | _=>False
theorem c6y {F H:Hp} {vs:List V} {d:c8} (h:c72 K F H vs [d]):∃ v,vs = [v] ∧ Lk K F H v d:=by
 cases h with
 | cons h1 h2=>cases h2; exact ⟨_,rfl,h1⟩
theorem c9u {F H:Hp} {vs:List V} {d e:c8} (h:c72 K F H vs [d,e]):∃ v u,vs = [v,u] ∧ Lk K F H v d ∧ Lk K F H u e:=by
 cases h with
 | cons h1 h2 =>
  cases h2 with
  | cons h2 h3=>cases h3; exact ⟨_,_,rfl,h1,h2⟩
theorem c4Z {r:List V → Hp → VK → Prop} {f:c8 → (Out → Prop) → Prop} (h:∀ F H v d Pd Q,a5K F H → Lk K F H v d → f d Pd → OutS K F H Pd Q → r [v] H Q):R1S K r (gC1 f):=fun F H vs ds Pd Q s l g o=>by
 match ds,l,g with
 | [d],l,g =>
  obtain ⟨v,rfl,lv⟩:=c6y l
  exact h F H v d Pd Q s lv g o
 | [],_,g=>exact g.elim
 | _ :: _ :: _,_,g=>exact g.elim
abbrev a4R (K:b0):List V → Hp → VK → Prop:=fun xs H Q=>∃ x n,xs = [x] ∧ LenV K x H n ∧ Q (.int n) H
def b4u:DCl:=gC1 fun d P=>match d with
 | .list ds=>P (.dat (.int ds.length))
 | .tuple ds=>P (.dat (.int ds.length))
 | .str s=>s.length ≤ k8 ∧ P (.dat (.int s.length))
 | _=>False
theorem a3W:R1S K (a4R K) b4u:=c4Z fun F H v d Pd Q s l h o=>by
 cases d with
 | list ds =>
  obtain ⟨l,xs,rfl,h1,h2⟩:=l.list s
  exact ⟨_,ds.length,rfl,.inl ⟨xs,.of h1,h2.length.symm⟩,o.dat _ _ (.int _) h⟩
 | tuple ds =>
  obtain ⟨l,xs,rfl,h1,h2⟩:=l.tuple s
  exact ⟨_,ds.length,rfl,.inr ⟨xs,h1,h2.length.symm⟩,o.dat _ _ (.int _) h⟩
 | str z =>
  rw [l.str]
  exact ⟨_,z.length,rfl,⟨h.1,rfl⟩,o.dat _ _ (.int _) h.2⟩
 | _=>exact h.elim
def a7R:List c8 → Option (List Bool)
 | []=>some []
 | .bool b :: ds=>(a7R ds).map (b :: ·)
 | _=>none
def a83:List c8 → Option (List Int)
 | []=>some []
 | .int b :: ds=>(a83 ds).map (b :: ·)
 | _=>none
theorem b4k:∀ {ds:List c8} {bs:List Bool},a7R ds = some bs → ds = bs.map a0v
 | [],bs,e=>by cases e; rfl
 | .bool b :: ds,bs,e=>by
  unfold a7R at e
  cases q:a7R ds with
  | none=>rw [q] at e; cases e
  | some l=>rw [q] at e; cases e; rw [b4k q]; rfl
 | .none :: ds,bs,e=>by cases e
 | .int _ :: ds,bs,e=>by cases e
 | .str _ :: ds,bs,e=>by cases e
 | .list _ :: ds,bs,e=>by cases e
 | .tuple _ :: ds,bs,e=>by cases e
 | .dict _ :: ds,bs,e=>by cases e
theorem b1z:∀ {ds:List c8} {bs:List Int},a83 ds = some bs → ds = bs.map m7
 | [],bs,e=>by cases e; rfl
 | .int b :: ds,bs,e=>by
  unfold a83 at e
  cases q:a83 ds with
  | none=>rw [q] at e; cases e
  | some l=>rw [q] at e; cases e; rw [b1z q]; rfl
 | .none :: ds,bs,e=>by cases e
 | .bool _ :: ds,bs,e=>by cases e
 | .str _ :: ds,bs,e=>by cases e
 | .list _ :: ds,bs,e=>by cases e
 | .tuple _ :: ds,bs,e=>by cases e
 | .dict _ :: ds,bs,e=>by cases e
theorem b63 (bs:List Bool):a7R (bs.map a0v) = some bs:=by
 induction bs with
 | nil=>rfl
 | cons b bs ih=>show (a7R (bs.map a0v)).map (b :: ·) = _; rw [ih]; rfl
theorem b0B (bs:List Int):a83 (bs.map m7) = some bs:=by
 induction bs with
 | nil=>rfl
 | cons b bs ih=>show (a83 (bs.map m7)).map (b :: ·) = _; rw [ih]; rfl
def c9j:DCl:=gC1 fun d P=>match d with
 | .list ds=>(match a7R ds with
  | some bs=>P (.dat (.bool (bs.all id)))
  | none=>False)
 | _=>False
def gAny:DCl:=gC1 fun d P=>match d with
 | .list ds=>(match a7R ds with
  | some bs=>P (.dat (.bool (bs.any id)))
  | none=>False)
 | _=>False
def gSum:DCl:=gC1 fun d P=>match d with
 | .list ds=>(match a83 ds with
  | some bs=>P (.dat (.int bs.sum))
  | none=>False)
 | _=>False
theorem b7Y:R1S K (rAll K) c9j:=c4Z fun F H v d Pd Q s l h o=>by
 cases d with
 | list ds =>
  obtain ⟨l',xs,rfl,h1,h2⟩:=l.list s
  cases e:a7R ds with
  | none=>simp only [e] at h
  | some bs =>
   simp only [e] at h
   rw [b4k e] at h2
   rw [h2.bls_of] at h1
   exact ⟨l',bs,rfl,.of h1,o.dat _ _ (.bl _) h⟩
 | _=>exact h.elim
/-- max, min of two numbers, of a list -/
def d09 (K:b0):List V → Hp → VK → Prop:=fun xs H Q=>(∃ i j,xs = [.int i,.int j] ∧ Q (.int (if j > i then j else i)) H) ∨ rMax K xs H Q
def c41 (K:b0):List V → Hp → VK → Prop:=fun xs H Q=>(∃ i j,xs = [.int i,.int j] ∧ Q (.int (if j < i then j else i)) H) ∨ rMin K xs H Q
theorem c52 (hc:X.calm = true):d2g X (.builtin "max") (d09 X.K):=(call_max2 hc).or (cr_max hc)
theorem b0u (hc:X.calm = true):d2g X (.builtin "min") (c41 X.K):=(call_min2 hc).or (cr_min hc)
def gMax:DCl:=fun ds P=>match ds with
 | [.int i,.int j]=>P (.dat (.int (if j > i then j else i)))
 | [.list ds]=>(match a83 ds with
  | some bs=>0 < bs.length ∧ ∀ m,m ∈ bs → (∀ y,y ∈ bs → y ≤ m) → P (.dat (.int m))
  | none=>False)
 | _=>False
def d0c:DCl:=fun ds P=>match ds with
 | [.int i,.int j]=>P (.dat (.int (if j < i then j else i)))
 | [.list ds]=>(match a83 ds with
  | some bs=>0 < bs.length ∧ ∀ m,m ∈ bs → (∀ y,y ∈ bs → m ≤ y) → P (.dat (.int m))
  | none=>False)
 | _=>False
theorem d3n:R1S K (d09 K) gMax:=fun F H vs ds Pd Q s l g o=>by
 unfold gMax at g
 split at g
 ·obtain ⟨v,u,rfl,l1,l2⟩:=c9u l
  rw [l1.int,l2.int]
  exact .inl ⟨_,_,rfl,o.dat _ _ (.int _) g⟩
 ·obtain ⟨v,rfl,l1⟩:=c6y l
  rename_i ds
  obtain ⟨l',xs,rfl,h1,h2⟩:=l1.list s
  cases e:a83 ds with
  | none=>simp only [e] at g
  | some bs =>
   simp only [e] at g
   rw [b1z e] at h2
   rw [h2.ints_of] at h1
   exact .inr ⟨l',bs,rfl,.of h1,g.1,fun m m1 m2=>o.dat _ _ (.int _) (g.2 m m1 m2)⟩
 ·exact g.elim
theorem c3O:R1S K (c41 K) d0c:=fun F H vs ds Pd Q s l g o=>by
 unfold d0c at g
 split at g
 ·obtain ⟨v,u,rfl,l1,l2⟩:=c9u l
  rw [l1.int,l2.int]
  exact .inl ⟨_,_,rfl,o.dat _ _ (.int _) g⟩
 ·obtain ⟨v,rfl,l1⟩:=c6y l
  rename_i ds
  obtain ⟨l',xs,rfl,h1,h2⟩:=l1.list s
  cases e:a83 ds with
  | none=>simp only [e] at g
  | some bs =>
   simp only [e] at g
   rw [b1z e] at h2
   rw [h2.ints_of] at h1
   exact .inr ⟨l',bs,rfl,.of h1,g.1,fun m m1 m2=>o.dat _ _ (.int _) (g.2 m m1 m2)⟩
 ·exact g.elim
def gAbs:DCl:=gC1 fun d P=>match d with
 | .int i=>P (.dat (.int (if i < 0 then -i else i)))
 | _=>False
def d08:List V → Hp → VK → Prop:=fun xs H Q=>((∃ i,xs = [.int i] ∧ Q (.int i) H) ∨ ∃ k,xs = [.bl k] ∧ Q (.int (if k then 1 else 0)) H) ∨ ∃ a n,xs = [.str a] ∧ c7Z a = some n ∧ a.length ≤ 640 ∧ Q (.int n) H
theorem c51:d2g X (.type "int") d08:=call_int1.or call_int_str
def gInt:DCl:=gC1 fun d P=>match d with
 | .int i=>P (.dat (.int i))
 | .bool k=>P (.dat (.int (if k then 1 else 0)))
 | .str a=>a.length ≤ 640 ∧ (match c7Z a with
  | some n=>P (.dat (.int n))
  | none=>False)
 | _=>False
theorem d3m:R1S K d08 gInt:=c4Z fun F H v d Pd Q s l h o=>by
 cases d with
 | int i=>rw [l.int]; exact .inl (.inl ⟨i,rfl,o.dat _ _ (.int _) h⟩)
 | bool i=>rw [l.bool]; exact .inl (.inr ⟨i,rfl,o.dat _ _ (.int _) h⟩)
 | str a =>
  rw [l.str]
  obtain ⟨h0,h⟩:=h
  cases e:c7Z a with
  | none=>simp only [e] at h
  | some n=>simp only [e] at h; exact .inr ⟨a,n,rfl,e,h0,o.dat _ _ (.int _) h⟩
 | _=>exact h.elim
abbrev c3P (K:b0):List V → Hp → VK → Prop:=fun xs H Q=>∃ p ys,xs = [.ref p] ∧ (SqL K H p ys ∨ SqT K H p ys) ∧ ∀ l,H l = none → Q (.ref l) (upd H l (.lst ys))
def c2e:DCl:=gC1 fun d P=>match d with
 | .list ds=>P (.newL ds)
 | .tuple ds=>P (.newL ds)
 | _=>False
theorem c2J:R1S K (c3P K) c2e:=c4Z fun F H v d Pd Q s l h o=>by
 cases d with
 | list ds =>
  obtain ⟨l',xs,rfl,h1,h2⟩:=l.list s
  exact ⟨l',xs,rfl,.inl (.of h1),fun p hp=>o.newL p _ _ hp h2 h⟩
 | tuple ds =>
  obtain ⟨l',xs,rfl,h1,h2⟩:=l.tuple s
  exact ⟨l',xs,rfl,.inr h1,fun p hp=>o.newL p _ _ hp h2 h⟩
 | _=>exact h.elim
abbrev c2K (K:b0):List V → Hp → VK → Prop:=fun xs H Q=>∃ p ys,xs = [.ref p] ∧ ((SqL K H p ys ∧ ∀ l,H l = none → Q (.ref l) (upd H l (.tup ys))) ∨ (SqT K H p ys ∧ Q (.ref p) H))
def b9a:DCl:=gC1 fun d P=>match d with
 | .list ds=>P (.newT ds)
 | .tuple ds=>P (.dat (.tuple ds))
 | _=>False
theorem b7Z:R1S K (c2K K) b9a:=c4Z fun F H v d Pd Q s l h o=>by
 cases d with
 | list ds =>
  obtain ⟨l',xs,rfl,h1,h2⟩:=l.list s
  exact ⟨l',xs,rfl,.inl ⟨.of h1,fun p hp=>o.newT p _ _ hp h2 h⟩⟩
 | tuple ds =>
  have dx:Dr K F v (.tuple ds):=by
   rcases l with hx | ⟨_,_,_,_,e2,_⟩ | ⟨_,_,_,_,e2,_⟩
   ·exact hx
   ·cases e2
   ·cases e2
  obtain ⟨l',xs,rfl,h1,h2⟩:=l.tuple s
  exact ⟨l',xs,rfl,.inr ⟨h1,o.dat _ _ dx h⟩⟩
 | _=>exact h.elim
def a9U:DMt:=fun ds es k=>match es with
 | [e]=>ds.length < k8 ∧ k .none (ds ++ [e])
 | _=>False
theorem a7Z:MS K c9R a9U:=fun F H l xs ds vs es k Q s h hd he g o=>by
 match es,he,g with
 | [e],.cons h1 .nil,g=>exact ⟨l,xs,_,rfl,rfl,h,by rw [hd.length]; exact g.1,o _ _ _ _ .non (hd.append (.one h1)) g.2⟩
 | [],_,g=>exact g.elim
 | _ :: _ :: _,_,g=>exact g.elim
def b4F:DMt:=fun ds es k=>match es with
 | [.list e]=>ds.length + e.length ≤ k8 ∧ k .none (ds ++ e)
 | _=>False
theorem c0R:MS K rExtend b4F:=fun F H l xs ds vs es k Q s h hd he g o=>by
 unfold b4F at g
 split at g
 ·cases he with
  | cons h1 h2 =>
   cases h2
   cases h1 with
   | lst q1 q2=>exact ⟨l,_,xs,_,rfl,rfl,h,s _ _ q1,by rw [hd.length,q2.length]; exact g.1,o _ _ _ _ .non (hd.append q2) g.2⟩
 ·exact g.elim
def mPop:DMt:=fun ds es k=>match es with
 | []=>a0J (ds[ds.length - 1]?) fun d=>k d ds.dropLast
 | _=>False
theorem DrAll.dropLast {F:Hp}:∀ {vs:List V} {ds:List c8},DrAll K F vs ds → DrAll K F vs.dropLast ds.dropLast
 | _,_,.nil=>.nil
 | _,_,.cons _ .nil=>.nil
 | _,_,.cons r (.cons r2 t)=>.cons r (DrAll.dropLast (.cons r2 t))
def c3F:DMt:=fun ds es k=>match es with
 | [.int i]=>(0 ≤ i ∧ i < 2 ^ 63) ∧ a0J (ds[i.toNat]?) fun d=>k d (ds.eraseIdx i.toNat)
 | _=>False
theorem c8r:MS K rPopAt c3F:=fun F H l xs ds vs es k Q s h hd he g o=>by
 unfold c3F at g
 split at g
 ·rename_i i
  cases he with
  | cons h1 h2 =>
   cases h2
   cases h1
   obtain ⟨⟨g1,g2⟩,g⟩:=g
   obtain ⟨d,e,g⟩:=a0c g
   obtain ⟨v,ev,hv⟩:=hd.at e
   have hlt:i.toNat < xs.length:=(j2.mp ev).1
   refine ⟨l,xs,i,i.toNat,v,rfl,rfl,h,by omega,g2,?_,ev,o _ _ _ _ hv (hd.eraseIdx _) g⟩
   unfold seqIndex?
   have:¬ i < 0:=by omega
   simp [this]
   omega
 ·exact g.elim
def b4G:DMt:=fun ds es k=>match es with
 | [.int i,e]=>(ds.length < k8 ∧ 0 ≤ i ∧ i < 2 ^ 63) ∧ k .none (ds.take i.toNat ++ [e] ++ ds.drop i.toNat)
 | _=>False
abbrev b9u:V → List V → Hp → VK → Prop:=fun x vs H Q=>∃ (l:v4) (xs:List V) (i:Int) (y:V),x = .ref l ∧ vs = [.int i,y] ∧ H l = some (.lst xs) ∧ xs.length < k8 ∧ 0 ≤ i ∧ i < 2 ^ 63 ∧
  Q .non (upd H l (.lst (xs.take i.toNat ++ [y] ++ xs.drop i.toNat)))
theorem c0S:MS K b9u b4G:=fun F H l xs ds vs es k Q s h hd he g o=>by
 unfold b4G at g
 split at g
 ·rename_i i e
  cases he with
  | cons h1 h2 =>
   cases h2 with
   | cons h2 h3 =>
    cases h3
    cases h1
    exact ⟨l,xs,i,_,rfl,rfl,h,by rw [hd.length]; exact g.1.1,g.1.2.1,g.1.2.2,o _ _ _ _ .non (((hd.take _).append (.one h2)).append (hd.drop _)) g.2⟩
 ·exact g.elim
end Aq
set_option maxHeartbeats 3200000
namespace AqS
open PySem PySem.Calls PyProof.Rows L2
def b6d (e:Int × m6):Key:=match e.2 with
 | .int k _=>.inl k
 | .str x _=>.inr x
 | _=>.inl 0
def KyE (w:i6) (e:Int × m6):Prop:=∃ k:Key,c0s k e.2 = true ∧ e.1 = keyH w k
theorem c2z {k:Key} {e:Int × m6} (h:c0s k e.2 = true):b6d e = k:=by
 rcases a7L h with ⟨i,t,rfl,q⟩ | ⟨x,t,rfl,q⟩
 ·unfold b6d; rw [q]
 ·unfold b6d; rw [q]
theorem c6i {w:i6} {e:Int × m6} (g:KyE w e):c0s (b6d e) e.2 = true:=by
 obtain ⟨k,h,_⟩:=g
 rw [c2z h]; exact h
/-- the set at a holds just ks -/
def c38 (w:i6) (h:b8V) (a:v4) (ks:List Key):Prop :=
 ∃ o es ep t,h.get? a = some o ∧ o.ExactSet ∧ o.data = .set es ep t ∧ (∀ e ∈ es.toList,KyE w e) ∧ (es.toList.map b6d).Nodup ∧ (es.toList.map b6d).Perm ks ∧ es.size < a7M ∧ t.fits es.size = true ∧ Ris t.place.toList ∧ (w.params.followText "set-order" = true ∨ t.led = true)
section
variable {P:a2q} {w:i6} {A:b6Y} {E:m6 → z7 → Prop} {s:z7} {a:v4} {ks:List Key}
theorem c38.at {h h':b8V} (R:c38 w h a ks) (k:∀ o,h.get? a = some o → h'.get? a = some o):c38 w h' a ks:=by
 obtain ⟨o,es,ep,t,ho,r⟩:=R
 exact ⟨o,es,ep,t,k o ho,r⟩
theorem d3e {l:List (Int × m6)} (g:∀ e ∈ l,KyE w e):ElemsOf (b1s P w) l:=fun e he=>by
 obtain ⟨k,h1,h2⟩:=g e he
 refine ⟨⟨k,h1,h2⟩,?_⟩
 rcases a7L h1 with ⟨i,t,_,q⟩ | ⟨x,t,_,q⟩ <;> rw [q] <;> rfl
theorem kmem {l:List (Int × m6)} (g:∀ e ∈ l,KyE w e) (k:Key):k ∈ l.map b6d ↔ ∃ e ∈ l,c0s k e.2 = true:=by
 rw [e7]
 constructor
 ·rintro ⟨e,he,rfl⟩
  exact ⟨e,he,c6i (g e he)⟩
 ·rintro ⟨e,he,q⟩
  exact ⟨e,he,c2z q⟩
theorem c6r {h:b8V} {o:Obj} {es es':Array (Int × m6)} {ep:Nat} {t t':a5c} (ho:h.get? a = some o) (hd:o.data = .set es ep t):(h.update a (c11 es' t')).get? a = some { o with data:=.set es' (ep + 1) t' }:=by
 rw [Heap.get?_update_self (c11 es' t') ho (by rw [putSet_of es' t' hd] <;> rfl),putSet_of es' t' hd]
theorem d3g {g:Bool → Sem Unit} (hg:∀ (b:Bool) (s₁:z7) (Q':Unit → z7 → Prop),Q' () s₁ → a3J (a55 P w) A (g b) Q' E s₁)
  {o:Obj} {es:Array (Int × m6)} {ep:Nat} {t:a5c} (ho:s.heap.get? a = some o) (hex:o.ExactSet) (hd:o.data = .set es ep t)
  {es1:Array (Int × m6)} {t2:a5c} (g1:∀ e ∈ es1.toList,KyE w e) (nd1:(es1.toList.map b6d).Nodup) (m1:(es1.toList.map b6d).Perm ks)
  (hb1:es1.size < a7M) (hf2:t2.fits es1.size = true) (hr:Ris t2.place.toList) (hl:w.params.followText "set-order" = true ∨ t2.led = true) {wasDummy:Bool} {R:Option Bool → z7 → Prop}
  (hR:∀ h',a9k a s.heap h' → c38 w h' a ks → R (some true) { s with heap:=h' }) :
  a3J (a55 P w) A (do
    storeSet a es1 t2
    if (!wasDummy && t2.tooFull) = true then do
      g (relayAll t2 es1 (a0z es1.size)).2.2
      storeSet a (relayAll t2 es1 (a0z es1.size)).1 (relayAll t2 es1 (a0z es1.size)).2.1
      pure (some true)
     else pure (some true)) R E s:=by
 refine e9 (b0p ho hd ?_ (c15 hb1))
 have ho1:=c6r (es':=es1) (t':=t2) ho hd
 have sb1:=a7J s.heap a (c11 es1 t2)
 split
 ·have pm:=relayAll_perm t2 es1 (a0z es1.size)
  have hf3:=relayAll_fits t2 es1 (a0z es1.size)
  have hr3:=relayAll_ris t2 es1 (a0z es1.size)
  have hl3:=relayAll_led t2 es1 (a0z es1.size)
  generalize relayAll t2 es1 (a0z es1.size) = Z at pm hf3 hr3 hl3 ⊢
  obtain ⟨es2,t3,gave⟩:=Z
  dsimp only at pm hf3 hr3 hl3 ⊢
  have hsz:es2.size = es1.size:=by rw [← t7,pm.length_eq,t7]
  have hb2:es2.size < a7M:=by rw [hsz]; exact hb1
  refine e9 (hg _ _ _ ?_)
  refine e9 (b0p ho1 rfl ?_ (c15 hb2))
  have ho2:=c6r (es':=es2) (t':=t3) ho1 rfl
  refine j7 (hR _ (sb1.trans (a7J _ a _)) ?_)
  have pk:=pm.map b6d
  exact ⟨_,es2,_,t3,ho2,hex,rfl,fun e he=>g1 e (pm.mem_iff.mp he),pk.nodup_iff.mpr nd1,pk.trans m1,hb2,hf3,hr3,hl.imp id fun z=>by rw [hl3]; exact z⟩
 ·exact j7 (hR _ sb1 ⟨_,es1,_,t2,ho1,hex,rfl,g1,nd1,m1,hb1,hf2,hr,hl⟩)
def addK (k:Key) (ks:List Key):List Key:=if (ks.any fun z=>decide (z = k)) = true then ks else k :: ks
theorem addK_in {k:Key} {ks:List Key} (h:k ∈ ks):addK k ks = ks:=by
 unfold addK
 rw [if_pos (List.any_eq_true.mpr ⟨k,h,decide_eq_true rfl⟩)]
theorem addK_out {k:Key} {ks:List Key} (h:k ∉ ks):addK k ks = k :: ks:=by
 unfold addK
 rw [if_neg fun z=>by
  obtain ⟨x,hx,e⟩:=List.any_eq_true.mp z
  rw [of_decide_eq_true e] at hx
  exact h hx]
theorem kadd {k:Key} {v:m6} {Q:Bool → z7 → Prop} (R:c38 w s.heap a ks) (room:ks.length + 1 < a7M) (hv:c0s k v = true)
  (hQ:∀ b h',a9k a s.heap h' → c38 w h' a (addK k ks) → Q b { s with heap:=h' }) :
  a3J (a55 P w) A (c3v a v (keyH w k)) Q E s:=by
 obtain ⟨o,es,ep,t,ho,hex,hd,g,nd,hm,hb,hf,hr,hl⟩:=R
 have hsc:v.scannable = true:=by
  rcases a7L hv with ⟨i,t,_,q⟩ | ⟨x,t,_,q⟩ <;> rw [q] <;> rfl
 have hel:ElemsOf (b1s P w) es.toList:=d3e g
 have hn:es.size = ks.length:=by rw [← hm.length_eq,j3,t7]
 unfold c3v setAddHashedIn
 refine a1w (e9 (a31 ho hd hf ?_))
 dsimp only
 rw [byScan_of hsc hb hel]
 simp only [↓reduceIte]
 unfold setAddByScan
 refine e9 ?_
 refine e9 (c19 ?_)
 have hkey:(b1s P w).is k v = true:=hv
 refine e9 (wpAny_setScan_of (knd:=b1s P w) (k:=k) hkey ho hd hf hel ?_)
 cases hfi:List.findIdx? (fun e=>(b1s P w).is k e.2) es.toList with
 | some j =>
  dsimp only
  obtain ⟨hj,pj,_⟩:=List.findIdx?_eq_some_iff_getElem.mp hfi
  have hk:k ∈ ks:=hm.mem_iff.mp ((kmem g k).2 ⟨es.toList[j],c30 hj,pj⟩)
  refine j7 (j7 ?_)
  refine hQ _ s.heap (Heap.SameBut.refl a s.heap) ?_
  rw [addK_in hk]
  exact ⟨o,es,ep,t,ho,hex,hd,g,nd,hm,hb,hf,hr,hl⟩
 | none =>
  dsimp only
  have hnk:k ∉ es.toList.map b6d:=fun z=>by
   obtain ⟨e,he,q⟩:=(kmem g k).1 z
   have c:=List.findIdx?_eq_none_iff.mp hfi e he
   have q':(b1s P w).is k e.2 = true:=q
   rw [q'] at c
   cases c
  have hks:k ∉ ks:=fun z=>hnk (hm.mem_iff.mpr z)
  have hgw:∀ (b:Bool) {s₁:z7} {Q':Unit → z7 → Prop},Q' () s₁ → a3J (a55 P w) A (match b with | true=>rule "set.scan.the-table-gave-way" | false=>pure ()) Q' E s₁ :=
   fun b s₁ Q' q=>by cases b <;> first | exact j7 q | exact c19 q
  have pm:=layNew_perm t es (keyH w k) v
  have hf1:=layNew_fits t es (keyH w k) v
  have hr1:=layNew_ris t es (keyH w k) v hr
  have hl1:=layNew_led t es (keyH w k) v
  generalize layNew t es (keyH w k) v = Z at pm hf1 hr1 hl1 ⊢
  obtain ⟨es1,t1,wasDummy,gave⟩:=Z
  dsimp only at pm hf1 hr1 hl1 ⊢
  rw [Array.toList_push] at pm
  have pc:es1.toList.Perm ((keyH w k,v) :: es.toList):=pm.trans (c7L _ _)
  have pk:(es1.toList.map b6d).Perm (k :: es.toList.map b6d):=by
   have q:=pc.map b6d
   rw [i8,c2z (e:=(keyH w k,v)) hv] at q
   exact q
  have g1:∀ e ∈ es1.toList,KyE w e:=fun e he=>by
   rcases n8.mp (pc.mem_iff.mp he) with z | z
   ·rw [z]; exact ⟨k,hv,rfl⟩
   ·exact g e z
  have nd1:(es1.toList.map b6d).Nodup:=pk.nodup_iff.mpr (a1d.mpr ⟨hnk,nd⟩)
  have m1:(es1.toList.map b6d).Perm (addK k ks):=by
   rw [addK_out hks]
   exact pk.trans (hm.cons k)
  have hsz:es1.size = ks.length + 1:=by rw [← t7,pc.length_eq,v6,t7,hn]
  have hb1:es1.size < a7M:=by rw [hsz]; exact room
  have hled:w.params.followText "set-order" = true ∨ t1.led = true:=hl.imp id fun z=>by rw [hl1]; exact z
  refine e9 (hgw _ ?_)
  split
  ·refine e9 ?_
   rw [hashByValue_scannable 8 hsc]
   refine j7 ?_
   refine d3g ?_ ho hex hd g1 nd1 m1 hb1 ?_ ?_ ?_ ?_
   ·intro b s₁ Q' q; cases b <;> first | exact j7 q | exact c19 q
   ·first | (split <;> first | exact hf1 | exact SetTable.fits_plain_off hf1) | exact hf1
   ·first | (split <;> exact hr1) | exact hr1
   ·first | (split <;> exact hled) | exact hled
   ·intro h' sb r; dsimp only; exact j7 (hQ _ h' sb r)
  ·refine e9 (j7 ?_)
   simp only [↓reduceIte]
   refine d3g ?_ ho hex hd g1 nd1 m1 hb1 hf1 hr1 hled ?_
   ·intro b s₁ Q' q; cases b <;> first | exact j7 q | exact c19 q
   ·intro h' sb r; dsimp only; exact j7 (hQ _ h' sb r)
/-- what set(..) of these keys holds, the last one first -/
def made:List Key → List Key
 | []=>[]
 | k :: ks=>addK k (made ks)
theorem c3H:∀ ks:List Key,(made ks).length ≤ ks.length
 | []=>a1e _
 | k :: ks=>by
  have h:=c3H ks
  unfold made
  by_cases q:k ∈ made ks
  ·rw [addK_in q,v6]; omega
  ·rw [addK_out q,v6,v6]; omega
/-- few enough keys, each counted once -/
def FewK (ks:List Key):Prop:=(made ks.reverse).length + 1 < a7M
theorem c3G:∀ xs ys:List Key,(made ys).length ≤ (made (xs ++ ys)).length
 | [],_=>a1e _
 | x :: xs,ys=>by
  have h:=c3G xs ys
  have e:made (x :: xs ++ ys) = addK x (made (xs ++ ys)):=rfl
  rw [e]
  by_cases q:x ∈ made (xs ++ ys)
  ·rw [addK_in q]; exact h
  ·rw [addK_out q,v6]
   omega
theorem fewK {ks:List Key} (h:ks.length + 1 < a7M):FewK ks:=by
 have:=c3H ks.reverse
 rw [List.length_reverse] at this
 unfold FewK
 omega
theorem c5Z {h0:b8V} {S:v4} {its:List m6} {ks:List Key} (hp:a22 (fun k v=>c0s k v = true) ks its) (hb:FewK ks):Adds P w (2 ^ 63) h0 S its (fun i h=>c38 w h S (made (ks.take i).reverse)) where
 keep:=fun i h h' J k _=>J.at k
 add:=fun A' E' i s' v Q _ hv J _ hQ=>by
  obtain ⟨k,hk,hkv⟩:=Aq.a22.getR hp hv
  unfold setAdd
  refine a1w ?_
  refine e9 ((b1s P w).pyHash (k:=k) hkv ?_)
  have hlen:(made (ks.take i).reverse).length + 1 < a7M:=by
   have:=c3G (ks.drop i).reverse (ks.take i).reverse
   rw [← List.reverse_append,d2m] at this
   unfold FewK at hb
   omega
  refine kadd (s:={ s' with toks:=s'.toks + 1 }) J hlen hkv fun b h' sb R=>?_
  refine hQ b h' _ (c5N _) sb ?_
  have e:(ks.take (i + 1)).reverse = k :: (ks.take i).reverse:=by
   rw [List.take_add_one,hk]
   simp
  show c38 w h' S (made (ks.take (i + 1)).reverse)
  rw [e]
  exact R
end
end AqS
namespace AqS
open PySem PySem.Calls PyProof.Rows L2
def leD (a b:c8):Prop:=PySem.W.dataLt b a = false
theorem c8p {β:Type} (k:β → c8):PySem.W.TotalLe (a1s false k):=PySem.W.sortLe_total _ _ _
theorem pw_sort {β:Type} (k:β → c8) (l:List β):(l.mergeSort (a1s false k)).Pairwise (fun a b=>leD (k a) (k b)):=by
 refine (PySem.W.sort_pairwise (c8p k) l).imp fun {a b} h=>?_
 have h':(!PySem.W.dataLt (k b) (k a)) = true:=h
 unfold leD
 simpa using h'
def rSortD (K:b0):List V → Hp → VK → Prop:=fun vs H Q=>∃ (a:v4) (xs:List V) (ds:List c8),vs = [b4d a] ∧ H a = some (.lst xs) ∧ DpAll K H xs ds ∧ a2h ds ∧ c35 ds ∧ (∀ d ∈ ds,d.depth ≤ 60) ∧
 ∀ (p:v4) (ps:List (V × c8)),ps.Perm (xs.zip ds) → (ps.map a2T).Pairwise leD → H p = none → Q (.ref p) (upd H p (.lst (ps.map b1r)))
theorem b4q {K:b0} {H:Hp}:∀ {vs:List V} {ds:List c8},DpAll K H vs ds → vs.length = ds.length
 | _,_,.nil=>rfl
 | _,_,.cons _ t=>by rw [v6,v6,b4q t]
section
variable {X:Cx}
theorem c3z {pins:List (v4 × Obj)} {σ:a3j} {H:Hp} {s:z7} (I:Inv X pins σ H s):∀ {xs:List V} {ds:List c8} {us:List m6},DpAll X.K H xs ds → Vals xs us → a1T (fun v b=>RelV b.1 v) us (xs.zip ds) ∧ a1T (fun v b=>∃ as,c5Q s.heap v (a2T b) as) us (xs.zip ds)
 | _,_,_,.nil,.nil=>⟨.nil,.nil⟩
 | _,_,_,.cons h t,.cons r q=>by
  obtain ⟨a,b⟩:=c3z I t q
  obtain ⟨as,hr⟩:=Dp.reads I _ _ _ h r
  exact ⟨.cons r a,.cons ⟨as,hr⟩ b⟩
theorem c1u:∀ {us:List m6} {ps:List (V × c8)},a1T (fun v b=>RelV b.1 v) us ps → Vals (ps.map b1r) us
 | _,_,.nil=>.nil
 | _,_,.cons r t=>.cons r (c1u t)
theorem cr_sortD (hu:X.A.units + 64 < a82):d2g X (.builtin "sorted") (rSortD X.K):=by
 intro pins s σ H vs us Q I r h
 obtain ⟨a,xs,ds,rfl,hs,hd,hal,hk,hdep,q⟩:=h
 obtain ⟨its,rv,hl,hz⟩:=I.list (.of hs)
 rw [c0p r]
 obtain ⟨e1,e2⟩:=c3z I hd rv
 have hz2:(xs.zip ds).map a2T = ds:=by
  rw [List.map_snd_zip]
  exact c3s (b4q hd).symm
 have hlen:(xs.zip ds).length = xs.length:=by rw [List.length_zip,b4q hd]; omega
 refine PySem.W.sorted_data (R:=fun v b=>RelV b.1 v) (enc:=a2T) (bs:=xs.zip ds) hl.isList e1 e2 (by rw [hz2]; exact hal) (by rw [hz2]; exact hk) (by rw [hlen]; exact hz) (fun b hb=>?_) fun out ho eo=>?_
 ·have:=hdep b.2 (by rw [← hz2]; exact e7.mpr ⟨b,hb,rfl⟩)
  omega
 ·obtain ⟨ep,he'⟩:=PyProof.Rows.sortedAll_at s.heap its out.toArray
  have pm:=b8W (xs.zip ds) (a1s false a2T)
  have hlen2:(((xs.zip ds).mergeSort (a1s false a2T)).map b1r).length ≤ k8:=by
   rw [j3,pm.length_eq,hlen]; exact hz
  exact ⟨.ref _,upd H (s.heap.objs.size + 1) (.lst (((xs.zip ds).mergeSort (a1s false a2T)).map b1r)),I.laid (t':=s.toks) (fun _ _=>PyProof.Rows.sortedAll_old) (c5N _) ⟨hlen2,out,ep,c1u eo,he'⟩,rfl,
   q _ _ pm (a2y.mpr (pw_sort a2T _)) (I.hok.fresh (c5N _))⟩
def KSetO (w:i6) (a:v4) (ks:List Key):HO:=.ext fun h=>c38 w h a ks
theorem c6q {P:a2q} {w:i6} {H:Hp} {h:b8V} {a:v4} {ks:List Key} (R:c38 w h a ks):ObjOk P w H h a (KSetO w a ks):=by
 have ⟨o,_,_,_,ho,_⟩:=R
 exact ⟨R,⟨o,ho⟩,fun h1 h2 p k=>p.at k⟩
def rSetK (w:i6) (K:b0):List V → Hp → VK → Prop:=fun xs H Q=>∃ (l:v4) (ks:List Key),xs = [b4d l] ∧ H l = some (.lst (ks.map kV)) ∧ FewK ks ∧ ∀ a,H a = none → Q (.ref a) (upd H a (KSetO w a (made ks.reverse)))
theorem c6o:∀ {ks:List Key} {us:List m6},Vals (ks.map kV) us → a22 (fun k v=>c0s k v = true) ks us
 | [],_,h=>by cases h; exact .nil
 | k :: ks,_,h=>by
  cases h with
  | cons r t =>
   refine .cons ?_ (c6o t)
   cases k with
   | inl i=>obtain ⟨t,rfl⟩:=r; exact keyIs_int i t
   | inr x=>obtain ⟨t,rfl⟩:=r; exact keyIs_str x t
theorem c91:a82 ≤ 2 ^ 63:=by decide
theorem cr_setK (hc:X.calm = true) (hu:X.A.units + 64 < a82):d2g X (.type "set") (rSetK X.w X.K):=by
 intro pins s σ H xs us Q I r h
 obtain ⟨l,ks,rfl,hl,hb,q⟩:=h
 rw [c0p r]
 obtain ⟨its,rv,pl,hz⟩:=I.list (.of hl)
 have hn:H s.heap.objs.size = none:=I.hok.fresh (a1e _)
 have pk:=c6o rv
 have len:its.length = ks.length:=(c0l pk).symm
 refine call_set (P:=X.prog) (w:=X.w) (u:=2 ^ 63) (I.ok.hd hc) pl.isList (c5Z pk hb) (by have:=c91; omega) (fun h ho _=>?_) fun h' tk J k=>?_
 ·show c38 X.w h _ (made [])
  refine ⟨_,#[],0,_,ho,⟨rfl,rfl,rfl⟩,rfl,(fun e he=>by simp at he),(by simp),(by exact List.Perm.refl _),(by decide),(by rfl),c1Y,?_⟩
  show _ ∨ (!X.w.params.followText "set-order") = true
  cases X.w.params.followText "set-order"
  ·exact .inr rfl
  ·exact .inl rfl
 ·have J':c38 X.w h' s.heap.objs.size (made ks.reverse):=by
   rw [len,c33] at J
   exact J
  exact ⟨.ref s.heap.objs.size,upd H s.heap.objs.size (KSetO X.w s.heap.objs.size (made ks.reverse)),I.laid (t':=tk) k (a1e _) (c6q J'),rfl,q _ hn⟩
def rSortK (w:i6):List V → Hp → VK → Prop:=fun vs H Q=>∃ (a:v4) (ks:List Key),vs = [b4d a] ∧ H a = some (KSetO w a ks) ∧ a2h (ks.map Aq.kD) ∧
 ∀ (p:v4) (ys:List Key),ys.Perm ks → (ys.map Aq.kD).Pairwise leD → H p = none → Q (.ref p) (upd H p (.lst (ys.map kV)))
theorem c0E {h:b8V} {a:v4}:∀ {vs:List m6} {bs:List Key},a22 (fun v k=>c0s k v = true) vs bs → a1T (fun v k=>c0s k v = true) vs bs ∧ a1T (fun v k=>∃ as,c5Q h v (Aq.kD k) as ∧ a ∉ as) vs bs
 | _,_,.nil=>⟨.nil,.nil⟩
 | _,_,.cons r t=>by
  obtain ⟨x,y⟩:=c0E (h:=h) (a:=a) t
  refine ⟨.cons r x,.cons ?_ y⟩
  rcases a7L r with ⟨i,t,rfl,rfl⟩ | ⟨x,t,rfl,rfl⟩
  ·exact ⟨[],Reads.int i t,by simp⟩
  ·exact ⟨[],Reads.str x t,by simp⟩
theorem c0F:∀ {vs:List m6} {ks:List Key},a1T (fun v k=>c0s k v = true) vs ks → Vals (ks.map kV) vs
 | _,_,.nil=>.nil
 | _,_,.cons r t=>by
  refine .cons ?_ (c0F t)
  rcases a7L r with ⟨i,t,rfl,rfl⟩ | ⟨x,t,rfl,rfl⟩
  ·exact ⟨t,rfl⟩
  ·exact ⟨t,rfl⟩
theorem c8i (k:Key):(Aq.kD k).depth = 0:=by cases k <;> simp [Aq.kD,a01]
theorem c8j (k:Key):Aq.kD k ≠ .none ∧ ∀ xs,Aq.kD k ≠ .tuple xs:=by
 cases k with
 | inl i=>exact ⟨fun z=>(by cases z),fun _ z=>(by cases z)⟩
 | inr x=>exact ⟨fun z=>(by cases z),fun _ z=>(by cases z)⟩
theorem cr_sortK (hc:X.calm = true) (hu:X.A.units + 64 < a82):d2g X (.builtin "sorted") (rSortK X.w):=by
 intro pins s σ H vs us Q I r h
 obtain ⟨a,ks,rfl,ha,hal,q⟩:=h
 rw [c0p r]
 obtain ⟨o,es,ep,t,ho,hex,hd,g,nd,hm,hb,hf,hr,hl⟩:c38 X.w s.heap a ks:=(I.hok a _ ha).1
 refine c7W kind_sorted plain_sorted entry_sorted (args_sorted1 _) ?_
 unfold Builtin.«sorted»
 refine e9 (m:=checkCount "sorted" 1 1 _) (j7 ?_)
 refine e9 (collect_set (A:=X.A.in1) (I.ok.hd hc) ⟨o,ho,hex.1,hd⟩ hf hb hr hl fun s1 vs k1 hz g1 o1 pm=>?_)
 obtain ⟨bs,hpb,hpm⟩:∃ bs:List Key,a22 (fun v k=>c0s k v = true) vs bs ∧ bs.Perm ks:=by
  refine ⟨vs.map fun v=>b6d (0,v),?_,?_⟩
  ·have aux:∀ l:List m6,(∀ v ∈ l,c0s (b6d (0,v)) v = true) → a22 (fun v k=>c0s k v = true) l (l.map fun v=>b6d (0,v)):=fun l=>by
    induction l with
    | nil=>exact fun _=>.nil
    | cons v l ih=>exact fun hh=>.cons (hh v e6) (ih fun u hu=>hh u (e8 _ hu))
   refine aux vs fun v hv=>?_
   obtain ⟨e,he,rfl⟩:=e7.mp (pm.mem_iff.mp hv)
   show c0s (b6d e) e.2 = true
   exact c6i (g e he)
  ·have q1:=pm.map fun v=>b6d (0,v)
   rw [w7] at q1
   exact q1.trans hm
 have hvl:vs.length = ks.length:=(c0l hpb).trans hpm.length_eq
 have hsmall:ks.length ≤ k8:=by
  rw [← hm.length_eq,j3,t7]
  exact c15 hb
 refine e9 (wpAny_newList ?_ (by rw [hvl]; exact hsmall))
 have hoL:(s1.heap.push (a6j "list" vs.toArray 0)).get? s1.heap.objs.size = some (a6j "list" vs.toArray 0):=a0Z _ rfl
 obtain ⟨e1,e2⟩:=c0E (h:=s1.heap.push (a6j "list" vs.toArray 0)) (a:=s1.heap.objs.size) hpb
 have hal2:a2h (bs.map Aq.kD):=fun d hd d' hd'=>by
  obtain ⟨k,hk,rfl⟩:=e7.mp hd
  obtain ⟨k',hk',rfl⟩:=e7.mp hd'
  exact hal _ (e7.mpr ⟨k,hpm.mem_iff.mp hk,rfl⟩) _ (e7.mpr ⟨k',hpm.mem_iff.mp hk',rfl⟩)
 refine e9 (a1w (PySem.W.list_sort_data (s:={ s1 with heap:=s1.heap.push (a6j "list" vs.toArray 0) }) (enc:=Aq.kD) (bs:=bs) hoL e1 e2 hal2 (c9L c8j) (by rw [hpm.length_eq]; exact hsmall) (fun b _=>by rw [c8i]; show X.A.in1.units + 1 + 0 < a82; show X.A.units + 1 + 1 + 0 < a82; omega) fun out hol eo=>?_))
 obtain ⟨c,hc2⟩:=sortedHeap_at (vs:=vs) (out:=out.toArray) hoL
 have pms:=b8W bs (a1s false Aq.kD)
 have hv:=c0F eo
 have hlen:((bs.mergeSort (a1s false Aq.kD)).map kV).length ≤ k8:=by
  rw [j3,pms.length_eq,hpm.length_eq]; exact hsmall
 have hn:H s1.heap.objs.size = none:=I.hok.fresh hz
 have kk:∀ b u,s.heap.get? b = some u → (a30 (s1.heap.push (a6j "list" vs.toArray 0)) s1.heap.objs.size vs out.toArray).get? b = some u:=fun b u e=>by
  have q1:=k1 b u e
  have hlt:=a6h q1
  rw [sortedHeap_old (a6i hlt) (by rw [a6d]; exact b0l hlt)]
  exact r6 _ q1
 have J:Inv X pins σ (upd H s1.heap.objs.size (.lst ((bs.mergeSort (a1s false Aq.kD)).map kV))) { s with heap:=a30 (s1.heap.push (a6j "list" vs.toArray 0)) s1.heap.objs.size vs out.toArray,gens:=s1.gens,drawn:=s1.drawn,toks:=s1.toks } :=
  I.call (ch:=[]) (Un.laid kk hz hn) (I.hok.laid kk hz ⟨hlen,out,c,hv,hc2⟩) (by rw [g1]; exact I.bare) (fun _ z=>nomatch z)
 refine j7 ⟨_,rfl,?_⟩
 have e:(⟨a30 (s1.heap.push (a6j "list" vs.toArray 0)) s1.heap.objs.size vs out.toArray,s1.gens,s1.drawn,s1.toks,s1.os⟩:z7) = { s with heap:=a30 (s1.heap.push (a6j "list" vs.toArray 0)) s1.heap.objs.size vs out.toArray,gens:=s1.gens,drawn:=s1.drawn,toks:=s1.toks }:=by
  rw [o1]
 show EP X pins σ Q (.ref s1.heap.objs.size) ⟨a30 (s1.heap.push (a6j "list" vs.toArray 0)) s1.heap.objs.size vs out.toArray,s1.gens,s1.drawn,s1.toks,s1.os⟩
 rw [e]
 exact ⟨.ref s1.heap.objs.size,_,J,rfl,q _ _ (pms.trans hpm) (a2y.mpr (pw_sort Aq.kD _)) hn⟩
end
end AqS
namespace Aq
open PySem PySem.Calls PyProof.Rows L2
variable {K:b0} {W:WX} {X:Cx}
def b68 (K:b0) (tl:TE):TI:=fun σ H R=>tl σ H fun x H1=>(∃ a xs,x = .ref a ∧ SqL K H1 a xs ∧ R (Itl K a) H1) ∨ (∃ a xs,x = .ref a ∧ SqT K H1 a xs ∧ R (Itt K a) H1) ∨ ∃ z,x = .str z ∧ R (Its z) H1
theorem a35 {tg l:Expr} {tl:TE} (hl:PE X l tl):PI X tg l (b68 X.K tl) where
 run:=fun pins s σ H R I h=>thn (hl.run pins s σ H _ I h) fun v s1 ⟨x,H1,I1,r1,q1⟩=>by
  have fp:∀ b ∈ [s1.heap.objs.size],FpOk X pins H1 b:=fun b hb=>by
   obtain rfl:b = s1.heap.objs.size:=by simpa using hb
   exact I1.fpOk (a1e _) (I1.hok.fresh (a1e _))
  rcases q1 with ⟨a,xs,rfl,hq,q⟩ | ⟨a,xs,rfl,hq,q⟩ | ⟨z,rfl,q⟩
  ·cases r1
   obtain ⟨its,rv,p,hz⟩:=I1.list hq
   exact wpAny_pyIter_list p.isList ⟨s1.heap.objs.size,[s1.heap.objs.size],_,_,H1,rfl,I1.kept (t':=s1.toks) fun b o e=>r6 _ e,turn_list a _,⟨_,a0Z _ rfl,rfl,rfl⟩,fp,q⟩
  ·cases r1
   obtain ⟨its,rv,p,hz⟩:=I1.tuple hq
   exact wpAny_pyIter_tuple (show s1.heap.IsTuple a its.toArray from p) ⟨s1.heap.objs.size,[s1.heap.objs.size],_,_,H1,rfl,I1.kept (t':=s1.toks) fun b o e=>r6 _ e,turn_tuple a _,⟨_,a0Z _ rfl,rfl,rfl⟩,fp,q⟩
  ·obtain ⟨t,rfl⟩:=r1
   cases ha:z.cps.all (· < 128)
   ·exact wpAny_pyIter_wide ha (pi_one (tk:=s1.toks) I1 _ (turn_str _ z t "str_iterator" (.inr rfl)) ⟨_,a0Z _ rfl,rfl,rfl⟩ q)
   ·exact wpAny_pyIter_ascii ha (pi_one (tk:=s1.toks) I1 _ (turn_str _ z t "str_ascii_iterator" (.inl rfl)) ⟨_,a0Z _ rfl,rfl,rfl⟩ q)
def a7G (z:Str):List c8:=z.cps.toList.map fun c=>v5 ⟨#[c]⟩
theorem d3E {F:Hp} {z:Str}:Wk K F (Its z) (a7G z) where
 go:=fun F' H' i s s' hi=>by
  have q:i < z.cps.size:=by simpa [a7G] using hi
  exact q
 stop:=fun F' H' i s s' hi=>by
  have q:z.cps.size ≤ i:=by simpa [a7G] using hi
  exact q
 yld:=fun C F' H' σ ρ i x H3 d R s e ⟨e3,c,hc,hx⟩=>by
  subst e3 hx
  unfold a7G at e
  rw [z8,a6g,hc] at e
  cases e
  exact ⟨F',R,.refl _,.str _,.refl _⟩
def a6m (a:AEx):AIt:=fun ρ PX P=>a ρ PX fun r ρ1=>match r.hold with
 | .dat (.list ds)=>P ds ρ1
 | .dat (.tuple ds)=>P ds ρ1
 | .dat (.str z)=>P (a7G z) ρ1
 | _=>False
theorem a34 {tl:TE} {a:AEx} (ha:ES K W tl a):IS K W (b68 K tl) (a6m a):=fun C ρ PX P F H σ R' R h xs k =>
 ha C ρ PX _ F H σ _ R h xs fun v F1 H1 r ρ1 R1 s1 o1 p1=>by
  obtain ⟨F2,R2,s2,o2,n2⟩:=a2r R1 o1
  cases e:r.hold with
  | dat d =>
   rw [e] at o2
   simp only [e] at p1
   cases d with
   | list ds =>
    cases o2 with
    | lst q1 q2=>exact .inl ⟨_,_,rfl,.of (R2.sub _ _ q1),k _ F2 H1 ds ρ1 R2 (s1.trans s2) (d1g q1 q2) p1⟩
   | tuple ds =>
    cases o2 with
    | tup q1 q2=>exact .inr (.inl ⟨_,_,rfl,b6r R2.sub q1,k _ F2 H1 ds ρ1 R2 (s1.trans s2) (d3F q1 q2) p1⟩)
   | str z =>
    cases o2
    exact .inr (.inr ⟨z,rfl,k _ F2 H1 _ ρ1 R2 (s1.trans s2) d3E p1⟩)
   | _=>exact p1.elim
  | bor j=>simp only [e] at p1
  | own j=>simp only [e] at p1
  | tupO _ _=>simp only [e] at p1
/-- enumerate(xs) of a list -/
def c4d:List c8 → Nat → List c8
 | [],_=>[]
 | d :: ds,i=>.tuple [.int (i:Nat),d] :: c4d ds (i + 1)
def aEnum (a:AAx):AIt:=fun ρ PX P=>a ρ PX fun rs ρ1=>match rs with
 | [.dat (.list ds)]=>P (c4d ds 0) ρ1
 | _=>False
open AqS in
def d0d:DCl:=gC1 fun d P=>match d with
 | .list ds=>a2h ds ∧ c35 ds ∧ (∀ d ∈ ds,d.depth ≤ 60) ∧ noDics ds = true ∧ ∀ es,es.Perm ds → es.Pairwise AqS.leD → P (.newL es)
 | _=>False
theorem c9G {F:Hp}:∀ {xs:List V} {ds:List c8},DrAll K F xs ds → ∀ q ∈ xs.zip ds,Dr K F q.1 q.2
 | _,_,.nil,q,hq=>by simp at hq
 | _,_,.cons h1 h2,q,hq=>by
  rw [List.zip_cons_cons,n8] at hq
  rcases hq with rfl | hq
  ·exact h1
  ·exact c9G h2 q hq
theorem c8U {F:Hp} {xs:List V} {ds:List c8} (h:DrAll K F xs ds) {ps:List (V × c8)} (p:ps.Perm (xs.zip ds)):DrAll K F (ps.map b1r) (ps.map a2T) ∧ (ps.map a2T).Perm ds:=by
 have all:=c9G h
 have go:∀ l:List (V × c8),(∀ q ∈ l,Dr K F q.1 q.2) → DrAll K F (l.map b1r) (l.map a2T):=fun l=>by
  induction l with
  | nil=>exact fun _=>.nil
  | cons a l ih=>exact fun hh=>.cons (hh a e6) (ih fun q hq=>hh q (e8 _ hq))
 refine ⟨go ps fun q hq=>all q (p.mem_iff.mp hq),?_⟩
 have e:(xs.zip ds).map a2T = ds:=by
  rw [List.map_snd_zip]
  exact c3s h.length.symm
 have:=p.map a2T
 rw [e] at this
 exact this
theorem d07:R1S K (AqS.rSortD K) d0d:=c4Z fun F H v d Pd Q s l h o=>by
 cases d with
 | list ds =>
  obtain ⟨a,xs,rfl,h1,h2⟩:=l.list s
  refine ⟨a,xs,ds,rfl,h1,DrAll.dp _ _ (h2.mono s) h.2.2.2.1,h.1,h.2.1,h.2.2.1,fun p ps hp hw hn=>?_⟩
  obtain ⟨z1,z2⟩:=c8U h2 hp
  exact o.newL p _ _ hn z1 (h.2.2.2.2 _ z2 hw)
 | _=>exact h.elim
def keyD:c8 → Option Key
 | .int i=>some (.inl i)
 | .str x=>some (.inr x)
 | _=>none
def b6c:List c8 → Option (List Key)
 | []=>some []
 | d :: ds=>match keyD d,b6c ds with
  | some k,some ks=>some (k :: ks)
  | _,_=>none
theorem b7a {F:Hp}:∀ {ds:List c8} {ks:List Key} {xs:List V},b6c ds = some ks → DrAll K F xs ds → xs = ks.map kV ∧ ds = ks.map kD
 | [],_,_,e,h=>by cases e; cases h; exact ⟨rfl,rfl⟩
 | d :: ds,ks,_,e,h=>by
  unfold b6c at e
  cases q1:keyD d with
  | none=>rw [q1] at e; cases e
  | some k =>
   cases q2:b6c ds with
   | none=>rw [q1,q2] at e; cases e
   | some l =>
    rw [q1,q2] at e
    cases e
    cases h with
    | cons h1 h2 =>
     obtain ⟨e1,e2⟩:=b7a q2 h2
     subst e1 e2
     cases d with
     | int i=>cases q1; cases h1; exact ⟨rfl,rfl⟩
     | str x=>cases q1; cases h1; exact ⟨rfl,rfl⟩
     | _=>cases q1
theorem c8q {k x:Key} {ks:List Key}:x ∈ AqS.addK k ks ↔ x = k ∨ x ∈ ks:=by
 by_cases h:k ∈ ks
 ·rw [AqS.addK_in h]
  exact ⟨.inr,fun z=>z.elim (fun e=>by rw [e]; exact h) id⟩
 ·rw [AqS.addK_out h,n8]
theorem c3I {x:Key}:∀ {ks:List Key},x ∈ AqS.made ks ↔ x ∈ ks
 | []=>Iff.rfl
 | k :: ks=>by
  unfold AqS.made
  rw [c8q,c3I,n8]
theorem b1F:∀ ks:List Key,(AqS.made ks).Nodup
 | []=>c1Y
 | k :: ks=>by
  unfold AqS.made
  by_cases h:k ∈ AqS.made ks
  ·rw [AqS.addK_in h]; exact b1F ks
  ·rw [AqS.addK_out h]; exact a1d.mpr ⟨h,b1F ks⟩
/-- set(e) and sorted(set(e)) in one -/
def b9J (w:i6) (K:b0) (ta:TE):TE:=tCB (AqS.rSortK w) (d3 (tCB (AqS.rSetK w K) (d3 ta p7)) p7)
def b31 (a:AEx):AEx:=fun ρ PX P=>a ρ PX fun r ρ1=>match r.hold with
 | .dat (.list ds)=>(match b6c ds with
  | some ks=>AqS.FewK ks ∧ a2h ds ∧ ∀ ys:List Key,ys.Nodup → (∀ k,k ∈ ys ↔ k ∈ ks) → (ys.map kD).Pairwise AqS.leD → P (.own (.ml none (ys.map kD))) ρ1
  | none=>False)
 | _=>False
theorem c3y {F:Hp}:∀ ks:List Key,DrAll K F (ks.map kV) (ks.map kD)
 | []=>.nil
 | .inl i :: ks=>.cons (.int i) (c3y ks)
 | .inr x :: ks=>.cons (.str x) (c3y ks)
theorem c4f {w:i6} {ta:TE} {a:AEx} (ha:ES K W ta a):ES K W (b9J w K ta) (b31 a):=fun C ρ PX P F H σ Q R h xs k =>
 ha C ρ PX _ F H σ _ R h xs fun v F1 H1 r ρ1 R1 s1 o1 p1=>by
  obtain ⟨F2,R2,s2,o2,n2⟩:=a2r R1 o1
  cases e:r.hold with
  | bor j=>simp only [e] at p1
  | own j=>simp only [e] at p1
  | tupO _ _=>simp only [e] at p1
  | dat d =>
   rw [e] at o2
   simp only [e] at p1
   cases d with
   | list ds =>
    cases o2 with
    | lst q1 q2 =>
     cases ek:b6c ds with
     | none=>simp only [ek] at p1
     | some ks =>
      simp only [ek] at p1
      obtain ⟨hb,hal,hp⟩:=p1
      obtain ⟨e1,e2⟩:=b7a ek q2
      subst e1
      refine ⟨_,ks,rfl,R2.sub _ _ q1,hb,fun b hb2=>?_⟩
      have R3:=(R2.laidM (u:=AqS.KSetO w b (AqS.made ks.reverse)) hb2).1
      have mm:∀ x,x ∈ AqS.made ks.reverse ↔ x ∈ ks:=fun x=>by rw [c3I,List.mem_reverse]
      refine ⟨b,AqS.made ks.reverse,rfl,a0C,fun d hd d' hd'=>?_,fun p ys pm pw hn=>?_⟩
      ·obtain ⟨z,hz,rfl⟩:=e7.mp hd
       obtain ⟨z',hz',rfl⟩:=e7.mp hd'
       rw [e2] at hal
       exact hal _ (e7.mpr ⟨z,(mm z).mp hz,rfl⟩) _ (e7.mpr ⟨z',(mm z').mp hz',rfl⟩)
      ·have nd:ys.Nodup:=pm.nodup_iff.mpr (b1F _)
       have q:=hp ys nd (fun x=>by rw [pm.mem_iff,mm]) pw
       exact (c8t R3 (P:=P) (Q:=Q) fun v' F' H' r' R' s' o' p'=>k v' F' H' r' ρ1 R' ((s1.trans s2).trans s') o' p').newL p _ _ hn (c3y ys) q
   | _=>simp only [e] at p1
def isT (T:String):c8 → Bool
 | .none=>T == "NoneType"
 | .bool _=>T == "bool" || T == "int"
 | .int _=>T == "int"
 | .str _=>T == "str"
 | .list _=>T == "list"
 | .tuple _=>T == "tuple"
 | .dict _=>T == "dict"
def tyN:c8 → String
 | .none => "NoneType"
 | .bool _ => "bool"
 | .int _ => "int"
 | .str _ => "str"
 | .list _ => "list"
 | .tuple _ => "tuple"
 | .dict _ => "dict"
def b6a (K:b0) (T:String) (ta:TE):TE:=tCB (rIsi K) (d3 ta (d3 (tC (.ty T)) p7))
def b58 (T:String) (a:AEx):AEx:=fun ρ PX P=>a ρ PX fun r ρ1=>a0J (r.hold.look ρ1) fun d=>P (.dat (.bool (isT T d))) ρ1
theorem d3B {F H:Hp} {v:V} {d:c8} (s:a5K F H) (h:Lk K F H v d):TyX K H v (.type (tyN d)):=by
 cases d with
 | none=>rw [h.none]; exact .base .non
 | bool b=>rw [h.bool]; exact .base (.bl b)
 | int b=>rw [h.int]; exact .base (.int b)
 | str b=>rw [h.str]; exact .base (.str b)
 | list ds=>obtain ⟨l,xs,rfl,h1,_⟩:=h.list s; exact .base (.lst h1)
 | tuple ds =>
  obtain ⟨l,xs,rfl,h1,_⟩:=h.tuple s
  rcases h1 with (h1 | ⟨o,h1⟩) | ⟨o,its,n,hk,hc,_⟩
  ·exact .base (.tup h1)
  ·exact .fTuple h1
  ·exact .kTuple hk hc
 | dict es =>
  rcases h with h | ⟨l,xs,ds',e1,e2,h1,h2⟩ | ⟨l,kvs,es',e1,e2,h1,h2⟩
  ·cases h with
   | dic h1 h2=>exact .base (.dK (s _ _ h1))
  ·cases e2
  ·subst e1; exact .base (.dK h1)
/-- what is to be known of the class T -/
structure IsiOk (K:b0) (T:String):Prop where
 all:∀ U ∈ ["NoneType", "bool", "int", "str", "list", "tuple", "dict"],a6f K (.type U) (.type T) = some (U == T || (U == "bool" && T == "int"))
theorem d2T (T:String) (d:c8):isT T d = (tyN d == T || (tyN d == "bool" && T == "int")):=by
 cases d <;> simp [isT,tyN,Bool.beq_comm,BEq.comm]
theorem a3v {T:String} {ta:TE} {a:AEx} (hT:IsiOk K T) (ha:ES K W ta a):ES K W (b6a K T ta) (b58 T a):=fun C ρ PX P F H σ Q R h xs k =>
 ha C ρ PX _ F H σ _ R h xs fun v F1 H1 r ρ1 R1 s1 o1 p1=>by
  obtain ⟨F2,R2,s2,o2,n2⟩:=a2r R1 o1
  obtain ⟨d,ed,p1⟩:=a0c p1
  have lk:=o2.lk R2 ed
  refine ⟨v,.ty T,.type (tyN d),.type T,isT T d,rfl,.ty T,d3B R2.sub lk,?_,k (.bl _) F2 H1 (.dat (.bool (isT T d))) ρ1 R2 (s1.trans s2) (.bl _) p1⟩
  rw [d2T]
  refine hT.all (tyN d) ?_
  cases d <;> simp [tyN]
def b6A:List c8 → Option (List Str)
 | []=>some []
 | .str b :: ds=>(b6A ds).map (b :: ·)
 | _=>none
theorem b74:∀ {ds:List c8} {bs:List Str},b6A ds = some bs → ds = bs.map v5
 | [],bs,e=>by cases e; rfl
 | .str b :: ds,bs,e=>by
  unfold b6A at e
  cases q:b6A ds with
  | none=>rw [q] at e; cases e
  | some l=>rw [q] at e; cases e; rw [b74 q]; rfl
 | .none :: ds,bs,e=>by cases e
 | .bool _ :: ds,bs,e=>by cases e
 | .int _ :: ds,bs,e=>by cases e
 | .list _ :: ds,bs,e=>by cases e
 | .tuple _ :: ds,bs,e=>by cases e
 | .dict _ :: ds,bs,e=>by cases e
theorem c1p (bs:List Str):b6A (bs.map v5) = some bs:=by
 induction bs with
 | nil=>rfl
 | cons b bs ih=>show (b6A (bs.map v5)).map (b :: ·) = _; rw [ih]; rfl
def c8A (K:b0):V → List V → Hp → VK → Prop:=fun x xs H Q=>∃ a p,∃ ys:List Str,x = .str a ∧ xs = [.ref p] ∧ (SqL K H p (ys.map V.str) ∨ SqT K H p (ys.map V.str)) ∧ (ys.map (·.length)).sum + ys.length * a.length ≤ 16777216 ∧ Q (.str (c0o a ys)) H
def c74 (b a:AEx):AEx:=fun ρ PX P=>b ρ PX fun rb ρ1=>match rb with
 | .dat (.str z)=>a ρ1 PX fun r ρ2=>a0J (r.look ρ2) fun d=>(match d with
  | .list ds=>(match b6A ds with
   | some ys=>(ys.map (·.length)).sum + ys.length * z.length ≤ 16777216 ∧ P (.dat (.str (c0o z ys))) ρ2
   | none=>False)
  | _=>False)
 | _=>False
theorem c58 {tb te:TE} {b a:AEx} (hb:ES K W tb b) (ha:ES K W te a):ES K W (tM1 (c8A K) tb te) (c74 b a):=fun C ρ PX P F H σ Q R h xs k =>
 hb C ρ PX _ F H σ _ R h xs fun v F1 H1 r1 ρ1 R1 s1 o1 p1=>by
  cases r1 with
  | bor j=>exact p1.elim
  | own j=>exact p1.elim
  | tupO _ _=>exact p1.elim
  | dat d =>
   cases d with
   | str z =>
    cases o1
    refine ⟨⟨z,rfl⟩,?_⟩
    refine ha C ρ1 PX _ F1 H1 σ _ R1 p1 xs fun u F2 H2 r2 ρ2 R2 s2 o2 p2=>?_
    obtain ⟨d,ed,p2⟩:=a0c p2
    cases d with
    | list ds =>
     cases es:b6A ds with
     | none=>simp only [es] at p2
     | some ys =>
      simp only [es] at p2
      obtain ⟨l,xs',rfl,h1,h2⟩:=(o2.lk R2 ed).list R2.sub
      rw [b74 es] at h2
      rw [h2.strs_of] at h1
      exact ⟨z,l,ys,rfl,rfl,.inl (.of h1),p2.1,k _ F2 H2 (.dat (.str (c0o z ys))) ρ2 R2 (s1.trans s2) (.str _) p2.2⟩
    | _=>exact p2.elim
   | _=>exact p1.elim
def c9W (a:AEx):AEx:=fun ρ PX P=>a ρ PX fun r ρ1=>a0J (r.look ρ1) fun d=>match d with
 | .list ds=>P (.own (.ml none ds.reverse)) ρ1
 | _=>False
theorem c97 {ta:TE} {a:AEx} (ha:ES K W ta a):ES K W (tRevL K ta) (c9W a):=fun C ρ PX P F H σ Q R h xs k =>
 ha C ρ PX _ F H σ _ R h xs fun v F1 H1 r1 ρ1 R1 s1 o1 p1=>by
  obtain ⟨d,ed,p1⟩:=a0c p1
  cases d with
  | list ds =>
   obtain ⟨l,xs',rfl,h1,h2⟩:=(o1.lk R1 ed).list R1.sub
   exact ⟨l,xs',rfl,.of h1,fun p hp=>(c8t R1 (P:=P) (Q:=Q) fun v' F' H' r' R' s' o' p'=>k v' F' H' r' ρ1 R' (s1.trans s') o' p').newL p _ _ hp h2.reverse p1⟩
  | _=>exact p1.elim
def c2a (i:Nat):AEx:=fun ρ _ P=>match ρ[i]? with
 | some (.scr ns)=>P (.dat (.int ns.length)) ρ
 | _=>False
theorem b89 {i:Nat}:ES K W (tCB (a4R K) (d3 (i3 i) p7)) (c2a i):=fun C ρ PX P F H σ Q R h xs k=>by
 unfold c2a at h
 split at h
 ·rename_i ns e
  obtain ⟨o,eo,a,rfl,hs⟩:=R.slot i _ e
  refine ⟨_,eo,.ref a,ns.length,rfl,.inl ⟨_,R.sub.seq hs,by rw [j3]⟩,k _ F H (.dat (.int ns.length)) ρ R (.refl _) (.int _) h⟩
 ·exact h.elim
def d2D (i:Nat) (b:AEx):AEx:=fun ρ PX P=>match ρ[i]? with
 | some (.scr ns)=>b ρ PX fun r ρ1=>(match r with
  | .dat (.int k)=>(match atI ns k with
   | some z=>P (.dat (.int z)) ρ1
   | none=>False)
  | _=>False)
 | _=>False
theorem b84 {α β:Type} (f:α → β) (xs:List α) (i:Int):atI (xs.map f) i = (atI xs i).map f:=by
 unfold atI
 rw [j3]
 cases ixN xs.length i with
 | none=>rfl
 | some j=>simp
theorem c9e {i:Nat} {tb:TE} {b:AEx} (hb:ES K W tb b):ES K W (tOp (rIx K) (i3 i) tb) (d2D i b):=fun C ρ PX P F H σ Q R h xs k=>by
 unfold d2D at h
 split at h
 ·rename_i ns e
  obtain ⟨o,eo,a,rfl,hs⟩:=R.slot i _ e
  refine ⟨_,eo,?_⟩
  refine hb C ρ PX _ F H σ _ R h xs fun u F1 H1 r ρ1 R1 s1 o1 p1=>?_
  cases r with
  | dat d =>
   cases d with
   | int j =>
    cases o1
    cases ez:atI ns j with
    | none=>simp only [ez] at p1
    | some z =>
     simp only [ez] at p1
     exact .inl ⟨a,_,j,.int z,rfl,rfl,(s1.trans R1.sub).seq hs,by rw [b84,ez]; rfl,k _ F1 H1 (.dat (.int z)) ρ1 R1 s1 (.int _) p1⟩
   | _=>exact p1.elim
  | _=>exact p1.elim
 ·exact h.elim
end Aq
namespace AqS
open PySem PySem.Calls PyProof.Rows L2 HT
section
variable {prog:a2q} {w:i6} {A:b6Y} {E:m6 → z7 → Prop} {s:z7}
theorem bnd {a c n:Nat} (ha:a ≤ n) (hac:a ≤ c):sliceBounds (some (a:Int)) (some (c:Int)) none n = ((a:Int),((min c n:Nat):Int),1):=by
 have h1:¬ ((a:Int) < 0):=by omega
 have h2:¬ ((c:Int) < 0):=by omega
 simp only [sliceBounds,Option.getD_none,h1,h2,if_false,show (1:Int) > 0 by decide,if_true]
 congr 1
 ·omega
 ·congr 1; omega
theorem d1d {l b sl:v4} {items new:Array m6} {n n2:Nat} {vl vu:m6} {a c:Nat} {Q:Unit → z7 → Prop}
  (e:s.heap.get? l = some { cls:=.type "list",data:=.seq items n }) (e2:s.heap.get? b = some { cls:=.type "list",data:=.seq new n2 }) (hne:l ≠ b)
  (hs:s.heap.IsSliceOf sl vl vu .none) (pl:IsPart vl (some (a:Int))) (pu:IsPart vu (some (c:Int))) (ha:a ≤ items.size) (hac:a ≤ c)
  (hsz:items.size + new.size ≤ k8) (h:Q () { s with heap:=s.heap.update l (Obj.mapSeq fun xs=>xs.extract 0 a ++ new ++ xs.extract (min c items.size) xs.size) }) :
  a3J (a55 prog w) A (setItem (.ref l) (.ref sl) (.ref b)) Q E s:=by
 have hl:s.heap.IsList l items:=PySem.IsL.isList e
 have hb:s.heap.IsList b new:=PySem.IsL.isList e2
 obtain ⟨os,hos,hcs,hds⟩:=id hs
 have hTs:s.TypeIs (.ref sl) "slice" := ⟨os,hos,hcs⟩
 have k0:¬ ((rawPart none == rawInt 0) = true):=c0i
 have k1:c8Z (.ref l) (.ref b) = false:=by unfold c8Z; exact beq_eq_false_iff_ne.mpr hne
 have k2:(max (a:Int) ((min c items.size:Nat):Int)).toNat = min c items.size:=by omega
 have k3:((fun xs:Array m6=>xs.extract 0 a ++ new ++ xs.extract (min c items.size) xs.size) items).size ≤ k8 + 1:=by
  simp only [Array.size_append,Array.size_extract]; omega
 unfold setItem
 try with_reducible refine a1w ?_
 first | refine e9 (j7 ?_) | skip
 refine e9 (wpAny_sequenceKey hl.typeIs (by decide) ?_)
 refine e9 (wpAny_callSpecial?_slot (name:=m8 "__setitem__") hl.typeIs slot_list_setitem (wpAny_call_entry slot_list_setitem hl.typeIs entry_list_setitem ?_ (args_list_setitem _ _ _)))
 show a3J _ _ (c5L (.ref sl) >>= _) _ _ s
 refine e9 ?_
 unfold c5L
 refine e9 (wpAny_specialOf hTs slice_no_index ?_)
 simp only [Option.isNone_none,if_true]
 refine j7 ?_
 show a3J _ _ (typeOf (.ref sl) >>= _) _ _ s
 refine e9 (d2A hTs ?_)
 first | rw [if_neg (by decide)] | refine c0m (by decide) ?_
 rw [listSliceParts_eq]
 refine e9 (e9 (wpAny_field hos hds (x:=.none) rfl (e9 (c71 .none ?_))))
 rw [if_neg k0]
 refine e9 (wpAny_field hos hds (x:=vl) rfl (e9 (c71 pl ?_)))
 refine e9 (wpAny_field hos hds (x:=vu) rfl (e9 (c71 pu (j7 ?_))))
 first | simp only [k1,z9,if_false] | refine c0m k1 ?_
 refine e9 (m:=c7V (.ref b) "must assign iterable to extended slice") ?_
 unfold c7V
 refine e9 (d2A hb.typeIs ?_)
 first | refine PySem.W.KFB.if_so (by decide) ?_ | rw [if_pos (by decide)] | simp only [beq_self_eq_true,Bool.true_or,if_true]
 unfold Builtin.List.listItems
 refine e9 (b62 e2 rfl (j7 ?_))
 refine e9 (e9 (b62 e rfl (j7 ?_)))
 refine e9 (wpAny_of_eq ((sliceIndices_raw (some (a:Int)) (some (c:Int)) none items.size (by simp)).trans (congrArg (pure:Int × Int × Int → Sem (Int × Int × Int)) (bnd ha hac))) ?_)
 show a3J _ _ (if ((1:Int) == 1) = true then _ else _) _ _ s
 rw [if_pos (by decide)]
 refine e9 (c19 ?_)
 first | simp only [notLongL hsz,z9,if_false] | refine c0m (notLongL hsz) ?_
 first | refine e9 (j7 ?_) | skip
 show a3J _ _ (updateSeq l (fun xs=>xs.extract 0 ((a:Int)).toNat ++ new ++ xs.extract (max (a:Int) ((min c items.size:Nat):Int)).toNat xs.size) >>= _) _ _ s
 rw [k2,c1X]
 refine e9 (wpAny_updateSeq (hz:=a0f (c34 _ _) hsz) (_hz':=k3) e rfl ?_)
 refine e9 (wpAny_letGo ?_)
 first
  | exact e9 (j7 (j7 ⟨.none,rfl,j7 h⟩))
  | exact j7 ⟨.none,rfl,j7 h⟩
end
section
variable {X:Cx}
/-- o[lo:hi] = e -/
def tSetSl (te to:TE) (tl th:TO):TS:=fun D σ H=>te σ H fun v H1=>to σ H1 fun o H2=>tl σ H2 fun lo H3=>th σ H3 fun hi H4 =>
 ∃ (l b:v4) (xs ys:List V) (a c:Nat),o = .ref l ∧ v = .ref b ∧ H4 l = some (.lst xs) ∧ H4 b = some (.lst ys) ∧ l ≠ b ∧ lo = some (a:Int) ∧ hi = some (c:Int) ∧ a ≤ xs.length ∧ a ≤ c ∧ xs.length + ys.length ≤ k8 ∧ D.nx σ (upd H4 l (.lst (xs.take a ++ ys ++ xs.drop (min c xs.length))))
theorem ps_setSl {e o:Expr} {lo hi:Option Expr} {te to:TE} {tl th:TO} {p2 p3 pos:Pos} (he:PE X e te) (ho:PE X o to) (hl:PO X lo tl) (hh:PO X hi th)
  (ha:∀ v,assign (.Subscript o (.Slice lo hi none p2) p3) X.env v = (do
   let ov ← holding [v] (c9O o X.env)
   let iv ← holding [v,ov] (c9O (.Slice lo hi none p2) X.env)
   standAt p3
   holding [v,ov,iv] (setItem ov iv v)
   release [iv,v,ov] []):=by intro _; rfl)
  (hs:swapsWithSole [.Subscript o (.Slice lo hi none p2) p3] e pos.line X.env = pure false:=by rfl) (hw:swappedStores [.Subscript o (.Slice lo hi none p2) p3] e X.env = pure none:=by rfl)
  (h1:(assignEach [.Subscript o (.Slice lo hi none p2) p3] X.env).map (·.2) = [assign (.Subscript o (.Slice lo hi none p2) p3) X.env]:=by rfl):PS X (.Assign [.Subscript o (.Slice lo hi none p2) p3] e pos) (tSetSl te to tl th) where
 run:=fun pins s σ H D I h=>by
  refine wpAny_Assign_stores (thn (he.run pins s σ H _ I h) fun v s1 ⟨x,H1,I1,r1,q1⟩=>?_) hs hw
  rw [h1]
  have G:PG X (.Subscript o (.Slice lo hi none p2) p3) (fun v σ H Q=>to σ H fun o H2=>tl σ H2 fun lo H3=>th σ H3 fun hi H4 =>
    ∃ (l b:v4) (xs ys:List V) (a c:Nat),o = .ref l ∧ v = .ref b ∧ H4 l = some (.lst xs) ∧ H4 b = some (.lst ys) ∧ l ≠ b ∧ lo = some (a:Int) ∧ hi = some (c:Int) ∧ a ≤ xs.length ∧ a ≤ c ∧ xs.length + ys.length ≤ k8 ∧ Q σ (upd H4 l (.lst (xs.take a ++ ys ++ xs.drop (min c xs.length))))):=by
   refine ⟨fun pins s σ H x v Q I r hq=>?_⟩
   rw [ha]
   refine e9 (a1w (thn (ho.run pins s σ H _ I hq) fun ov s1 ⟨y,H1,I1,r1,q1⟩=>?_))
   refine e9 (a1w (wpAny_Slice (thn (hl.run pins s1 σ H1 _ I1 q1) fun vl s2 ⟨l,H2,I2,pl,q2⟩=>thn (hh.run pins s2 σ H2 _ I2 q2) fun vu s3 ⟨u,H3,I3,pu,q3⟩=>?_)))
   rw [evalPart_none]
   refine j7 ?_
   have I4:Inv X pins σ H3 { s3 with heap:=s3.heap.push { cls:=.type "slice",data:=.fields #[vl,vu,.none] } }:=I3.kept (t':=s3.toks) fun b ob q=>r6 _ q
   obtain ⟨la,b,xs,ys,a,c,ey,ex,hL,hB,hne,el,eu,hal,hac,hz,q⟩:=q3
   subst ey ex el eu
   cases r1
   cases r
   obtain ⟨z,its,n,rv,hl',e⟩:=I4.lstM hL
   obtain ⟨z2,its2,n2,rv2,hl2,e2⟩:=I4.lstM hB
   refine e9 (wpAny_standAt (e9 (a1w (d1d (a:=a) (c:=c) e e2 hne (Heap.IsSliceOf.new ..) pl pu (by rw [c10,← rv.length]; exact hal) hac (by rw [c10,c10,← rv.length,← rv2.length]; exact hz) ?_))))
   refine wpAny_release ⟨σ,_,I4.lset (its':=its.take a ++ its2 ++ its.drop (min c its.length)) (t':=s3.toks) hL e ?_ (Vals.append (Vals.append (rv.take _) rv2) (by rw [← rv.length]; exact rv.drop _)) ?_,q⟩
   ·have:=splice_eq its its2 a (min c its.length)
    simpa using this
   ·rw [a2i,a2i,b2V,c31]
    omega
  exact thn (G.run pins s1 σ H1 x v _ I1 r1 q1) fun _ s2 q=>q
end
end AqS
namespace Aq
open PySem L2
variable {K:b0} {W:WX}
def aRevT (a:AEx):AEx:=fun ρ PX P=>a ρ PX fun r ρ1=>a0J (r.look ρ1) fun d=>match d with
 | .tuple ds=>P (.dat (.tuple ds.reverse)) ρ1
 | _=>False
def c6X (a b:AEx) (l h:AOx):ASt:=fun D ρ=>a ρ D.ex fun r ρ1=>match r.hold with
 | .dat (.list es)=>b ρ1 D.ex fun rb ρ2=>(match rb with
  | .bor i=>l ρ2 D.ex fun lo ρ3=>h ρ3 D.ex fun hi ρ4=>(match lo,hi,ρ4[i]? with
   | some a,some c,some (.ml p ds)=>(0 ≤ a ∧ a ≤ ds.length ∧ a ≤ c ∧ ds.length + es.length ≤ k8) ∧ D.nx (ρ4.set i (.ml p (ds.take a.toNat ++ es ++ ds.drop (min c.toNat ds.length))))
   | _,_,_=>False)
  | _=>False)
 | _=>False
theorem c8N {ta tb:TE} {tl th:TO} {a b:AEx} {l h:AOx} (ha:ES K W ta a) (hb:ES K W tb b) (hl:OS K W tl l) (hh:OS K W th h):SS K W (AqS.tSetSl ta tb tl th) (c6X a b l h):=fun C D ρ F H σ D' R hq xs n _ _ _ =>
 ha C ρ D.ex _ F H σ _ R hq xs fun v F1 H1 r ρ1 R1 s1 o1 p1=>by
  obtain ⟨F2,R2,s2,o2,n2⟩:=a2r R1 o1
  cases er:r.hold with
  | bor j=>simp only [er] at p1
  | own j=>simp only [er] at p1
  | tupO _ _=>simp only [er] at p1
  | dat d =>
   rw [er] at o2
   simp only [er] at p1
   cases d with
   | list es =>
    refine hb C ρ1 D.ex _ F2 H1 σ _ R2 p1 xs fun vb F3 H3 rb ρ3 R3 s3 o3 p3=>?_
    cases rb with
    | dat _=>exact p3.elim
    | own _=>exact p3.elim
    | tupO _ _=>exact p3.elim
    | bor i =>
     obtain ⟨ev,_⟩:=o3
     refine hl C ρ3 D.ex _ F3 H3 σ _ R3 p3 xs fun lo F4 H4 ρ4 R4 s4 p4=>?_
     refine hh C ρ4 D.ex _ F4 H4 σ _ R4 p4 xs fun hi F5 H5 ρ5 R5 s5 p5=>?_
     cases lo with
     | none=>exact p5.elim
     | some a =>
      cases hi with
      | none=>exact p5.elim
      | some c =>
       cases ea:ρ5[i]? with
       | none=>simp only [ea] at p5
       | some a5 =>
        cases a5 with
        | ml p ds =>
         simp only [ea] at p5
         obtain ⟨⟨c1,c2,c3,c4⟩,p5⟩:=p5
         obtain ⟨o,eo,la,xs',e1,hF,hH,hd2,hw⟩:=R5.slot i _ ea
         rw [ev] at eo
         cases eo
         cases e1
         have od:=Dr.mono ((s3.trans s4).trans s5) _ _ o2
         cases od with
         | lst q1 q2 =>
          rename_i b ys
          have hne:la ≠ b:=fun z=>by subst z; rw [hF] at q1; cases q1
          refine ⟨la,b,xs',ys,a.toNat,c.toNat,rfl,rfl,hH,R5.sub _ _ q1,hne,by rw [Int.toNat_of_nonneg c1],by rw [Int.toNat_of_nonneg (d2h c1 c3)],by rw [hd2.length]; omega,by omega,by rw [hd2.length,q2.length]; exact c4,?_⟩
          refine n F5 _ σ _ (R5.change (a':=.ml p (ds.take a.toNat ++ es ++ ds.drop (min c.toNat ds.length))) ea rfl rfl ev ⟨la,_,rfl,hF,a0C,?_,hw⟩) ((((s1.trans s2).trans s3).trans s4).trans s5) p5
          rw [hd2.length]
          exact ((hd2.take _).append q2).append (hd2.drop _)
        | _=>simp only [ea] at p5
   | _=>exact p1.elim
end Aq
namespace Aq
open PySem PySem.Spec PyProof.Rows L2
variable {K:b0} {W:WX} {X:Cx}
abbrev FnP (K:b0) (x:Str) (st:Stmt) (f:v4) (fd:w8):Prop:=FunD K x x (a0N st) (a0r st) (i4 st) [] [] f fd
/-- a def of the module that keeps its contract, by at most so many calls one in another -/
structure Fn (P:a2q) (w:i6) (K:b0) (mg:Str → Option m6) (base:b8V) (CX:CXT) (n:Nat) (x:Str) (ps:List Str) (c:Ct):Prop where
 ex:∃ f fd,FnOk P w K mg base CX n f fd ps (spOf K c) ∧ mg x = some (.ref f) ∧ a4w K (.ref f) = true ∧ Binds K fd ps []
theorem Fn.mk0 {P:a2q} {w:i6} {mg:Str → Option m6} {base:b8V} {k:Nat} {x:Str} {st:Stmt} {f:v4} {fd:w8} {N ps:List Str} {c:Ct} {t:TS} {a:ASt} (F:FnP K x st f fd) (S:a0B N ps (i4 st)) (gm:mg x = some (.ref f)) (gb:Binds K fd ps [])
  (hl:∀ ρ P PX,c ρ P PX → ρ.length = ps.length) (hs:∀ W,SS K W t a) (hp:∀ ρ P PX,c ρ P PX → a { nx:=fun ρ'=>P (.dat .none) ρ',rt:=P,ex:=PX } (ρ ++ g5 (N.length - ρ.length) .un))
  (hd:∀ (cdv:m6) (A:b6Y) (outer:List Env) (s:z7) (H:Hp) (E:XK),Room k (A.deeper (envOfC x (i4 st) s.heap.objs.size f cdv)) → PSs (cxOf CX0 P w K mg base N x (i4 st) f cdv A outer s H E).nox (a0r st) t):Fn P w K mg base CX0 (k + 1) x ps c :=
 ⟨f,fd,F.ok S (fun vs H Q E h=>b0W hl h) fun cdv A outer s H vs Q E hr h=>⟨t,PSs.nox (hd cdv A outer s H E hr),b87 h (hs _) hp⟩,gm,F.kp,gb⟩
def a4J (a:AEx):ATx:=fun ρ PX P=>a ρ PX fun r ρ1=>match r with
 | .dat (.bool b)=>P b ρ1
 | _=>False
theorem w6 {ta:TE} {a:AEx} (ha:ES K W ta a):TSd K W (a1L ta) (a4J a):=fun C ρ PX P F H σ Q R h xs k =>
 ha C ρ PX _ F H σ _ R h xs fun v F1 H1 r1 ρ1 R1 s1 o1 p1=>by
  cases r1 with
  | dat d =>
   cases d with
   | bool b=>cases o1; exact ⟨b,rfl,k b F1 H1 ρ1 R1 s1 p1⟩
   | _=>exact p1.elim
  | _=>exact p1.elim
/-- nothing is promised: the bottom of a recursion -/
theorem Fn.none {P:a2q} {w:i6} {mg:Str → Option m6} {base:b8V} {n:Nat} {x:Str} {f:v4} {fd:w8} {ps:List Str} {c:Ct} (gm:mg x = some (.ref f)) (kp:a4w K (.ref f) = true) (gb:Binds K fd ps []) (hc:∀ ρ P PX,¬ c ρ P PX):Fn P w K mg base CX0 n x ps c :=
 ⟨f,fd,⟨fun vs H Q E h=>by obtain ⟨_,_,_,_,_,_,h,_⟩:=h; exact (hc _ _ _ h).elim,fun A outer s H args us vs Q E _ _ _ _ h=>by obtain ⟨_,_,_,_,_,_,h,_⟩:=h; exact (hc _ _ _ h).elim⟩,gm,kp,gb⟩
theorem b0a {A:b6Y} {k:Nat} (hr:Room k A):A.units + 65 < a82:=by have:=hr.un; omega
def d2P:DUn:=fun d P=>match d with
 | .int i=>P (.dat (.int (-i)))
 | _=>False
theorem c7e:U1S K (rU fun i=>.int (-i)) d2P:=fun F H x d Pd Q s l h o=>by
 cases d with
 | int i=>rw [l.int]; exact ⟨i,rfl,o.dat _ _ (.int _) h⟩
 | _=>exact h.elim
theorem a03 {a:Expr} {ta:TE} (ha:PE X a ta) (he:∀ whole,isTrue a X.env whole = (do let v ← whole; standAt a.pos; holding [v] (truthy v)):=by intro _; rfl):PT X a (a6M X.K ta):=pt_truth ha he
theorem a3w {e:Expr} {te:TE} {T:String} {x:Str} {p q pos:Pos} (he:PE X e te) (hg:Gl X "isinstance") (hm:X.mg "isinstance" = none) (hg2:Gl X x) (hm2:X.mg x = none) (hv:bootBuiltins x = some (.type T))
  (he1:z5 (e :: [.Name x q]) X.env = (false,c9O e X.env) :: z5 [.Name x q] X.env:=by rfl) (he2:z5 [.Name x q] X.env = (false,c9O (.Name x q) X.env) :: z5 [] X.env:=by rfl)
  (hpl:(d2r pos (z5 [.Name x q] X.env)).any (·.1) = false:=by rfl) (hn:x ≠ "__name__" := by decide) (hd:(x == ("__debug__" : Str)) = false:=by decide):PE X (.Call (.Name "isinstance" p) [e,.Name x q] [] pos) (b6a X.K T te) :=
 y5 call_isi hg hm (by decide +kernel) (c6 he (c6 (pe_bltn hg2 hm2 hv rfl hn hd) d8 he2) he1) (by decide) (by decide) he1 hpl
theorem c4u {e:Expr} {te:TE} {p q p2 pos:Pos} (hc:X.calm = true) (hu:X.A.units + 64 < a82) (he:PE X e te) (hg:Gl X "sorted") (hm:X.mg "sorted" = none) (hg2:Gl X "set") (hm2:X.mg "set" = none)
  (h1:z5 [.Call (.Name "set" q) [e] [] p2] X.env = (false,c9O (.Call (.Name "set" q) [e] [] p2) X.env) :: z5 [] X.env:=by rfl) (h2:z5 [e] X.env = (false,c9O e X.env) :: z5 [] X.env:=by rfl) :
  PE X (.Call (.Name "sorted" p) [.Call (.Name "set" q) [e] [] p2] [] pos) (b9J X.w X.K te) :=
 y5 (AqS.cr_sortK hc hu) hg hm (by decide +kernel) (c6 (a3H (AqS.cr_setK hc hu) hg2 hm2 (by decide +kernel) (c6 he d8 h2) (by decide) (by decide) h2 rfl) d8 h1) (by decide) (by decide) h1 rfl
theorem c3N {o e:Expr} {to te:TE} {apos pos:Pos} (ho:PE X o to) (he:PE X e te) (hs:z5 [e] X.env = [(false,c9O e X.env)]:=by rfl) (hbase:attributeBase o "join" X.env (c9O o X.env) = c9O o X.env:=by rfl) (hline:(apos.endLine == pos.line) = true:=by rfl) :
  PE X (.Call (.Attribute o "join" apos) [e] [] pos) (tM1 (c8A X.K) to te):=pe_join ho he hs hbase hline
theorem f7 {n k:Nat} {f:v4} {fd:w8} {ps:List Str} {c:Ct} {x:Str} {p pos:Pos} {e:Expr} {es:List Expr} {t:TA} (G:FnOk X.prog X.w X.K X.mg X.base CX0 n f fd ps (spOf X.K c)) (hr:Room k X.A) (hnk:n ≤ k) (hg:Gl X x) (hm:X.mg x = some (.ref f)) (hk:a4w X.K (.ref f) = true) (hb:Binds X.K fd ps [])
  (ha:PA X (e :: es) t) (hdb:(x == ("__debug__" : Str)) = false:=by decide) (he:z5 (e :: es) X.env = (false,c9O e X.env) :: z5 es X.env:=by rfl) (hpl:(d2r pos (z5 es X.env)).any (·.1) = false:=by rfl) :
  PE X (.Call (.Name x p) (e :: es) [] pos) (r8 (spOf X.K c) [] E0 t):=pe_call G (hr.mono hnk) hg hm hk hb .nil pass0 ha hdb he hpl
end Aq
set_option maxHeartbeats 2000000
namespace Aq
open PySem L2
theorem b0A {g:ATg} {b:ASt} {D:AEnds} (I:List c8 → List AV → Prop) (step:∀ d ds ρ,I (d :: ds) ρ → ∀ N:List AV → Prop,(∀ ρ',I ds ρ' → N ρ') → g d ρ fun ρ1=>b { D with nx:=N,ct:=N,bk:=D.nx } ρ1) (fin:∀ ρ,I [] ρ → D.nx ρ):∀ (ds:List c8) (ρ:List AV),I ds ρ → b1y g b D ds ρ
 | [],ρ,h=>fin ρ h
 | d :: ds,ρ,h=>step d ds ρ h _ fun ρ' h'=>b0A I step fin ds ρ' h'
def c6t (vs:List Nat) (acc:List c8) (N:List c8 → List AV → Prop) (r:RV) (ρ3:List AV):Prop:=match r.hold with
 | .dat e=>acc.length < k8 ∧ N (acc ++ [e]) (a3q ρ3 vs)
 | _=>False
theorem c6s {vs:List Nat} {g:ATg} {tt:ATx} {a:AEx} {P:RV → List AV → Prop} (I:List c8 → List c8 → List AV → Prop)
  (step:∀ d ds acc ρ,I (d :: ds) acc ρ → ∀ N:List c8 → List AV → Prop,(∀ acc' ρ',I ds acc' ρ' → N acc' ρ') → g d ρ fun ρ1=>tt ρ1 X0 fun k ρ2=>if k = true then a ρ2 X0 fun r ρ3=>c6t vs acc N r ρ3 else N acc (a3q ρ2 vs))
  (fin:∀ acc ρ,I [] acc ρ → P (.own (.ml none acc)) ρ):∀ (ds acc:List c8) (ρ:List AV),I ds acc ρ → c4n vs g tt a P ds acc ρ
 | [],acc,ρ,h=>fin acc ρ h
 | d :: ds,acc,ρ,h=>step d ds acc ρ h (fun acc' ρ'=>c4n vs g tt a P ds acc' ρ') fun acc' ρ' h'=>c6s I step fin ds acc' ρ' h'
/-- a comprehension that changes nothing -/
theorem b7c {vs:List Nat} {g:ATg} {tt:ATx} {a:AEx} {P:RV → List AV → Prop} {ρ:List AV} (st:c8 → List AV) (p:c8 → Bool) (f:c8 → c8):∀ (ds acc:List c8)
  (_:∀ d ∈ ds,∀ k,k (st d) → g d ρ k) (_:∀ d ∈ ds,a3q (st d) vs = ρ) (_:∀ d ∈ ds,∀ k,k (p d) (st d) → tt (st d) X0 k) (_:∀ d ∈ ds,p d = true → ∀ k,k (.dat (f d)) (st d) → a (st d) X0 k) (_:acc.length + ds.length ≤ k8)
  (_:P (.own (.ml none (acc ++ (ds.filter p).map f))) ρ),c4n vs g tt a P ds acc ρ
 | [],acc,_,_,_,_,_,h=>by
  simp only [List.filter_nil,d2k,a1b] at h
  exact h
 | d :: ds,acc,h1,h2,h3,h4,hz,h=>by
  have m:d ∈ d :: ds:=e6
  have ih:=fun acc hz h=>b7c (P:=P) st p f ds acc (fun d hd=>h1 d (e8 _ hd)) (fun d hd=>h2 d (e8 _ hd)) (fun d hd=>h3 d (e8 _ hd)) (fun d hd=>h4 d (e8 _ hd)) hz h
  rw [v6] at hz
  unfold c4n
  refine h1 d m _ (h3 d m _ ?_)
  cases hp:p d with
  | true =>
   rw [if_pos rfl]
   refine h4 d m hp _ ?_
   refine ⟨by omega,?_⟩
   rw [h2 d m]
   refine ih _ (by rw [a2i]; simp; omega) ?_
   rw [c3Z,if_pos hp] at h
   simpa using h
  | false =>
   rw [if_neg c0i,h2 d m]
   refine ih _ (by omega) ?_
   rw [c3Z,if_neg (by rw [hp]; exact c0i)] at h
   exact h
theorem c4g (ds:List c8):ds.filter (fun _=>true) = ds:=by simp
/-- without a test -/
theorem b6e {vs:List Nat} {g:ATg} {a:AEx} {P:RV → List AV → Prop} {ρ:List AV} (st:c8 → List AV) (f:c8 → c8) (ds acc:List c8)
  (h1:∀ d ∈ ds,∀ k,k (st d) → g d ρ k) (h2:∀ d ∈ ds,a3q (st d) vs = ρ) (h4:∀ d ∈ ds,∀ k,k (.dat (f d)) (st d) → a (st d) X0 k) (hz:acc.length + ds.length ≤ k8)
  (h:P (.own (.ml none (acc ++ ds.map f))) ρ):c4n vs g c0f a P ds acc ρ :=
 b7c st (fun _=>true) f ds acc h1 h2 (fun d hd k hk=>hk) (fun d hd _=>h4 d hd) hz (by rw [c4g]; exact h)
def Sm (i:Int):Prop:=i.natAbs < 2 ^ 1000
theorem b4I {i j:Int} (hi:Sm i) (hj:Sm j):CMulW i j:=wide_mul hi hj (by decide) (by decide) (by decide)
theorem c0D {i j:Int} (h:0 < j) (hj:Sm j):CDivW i j:=wide_div h hj (by decide) (by decide)
theorem a3F {i:Int} (h1 : -(10 ^ 150) ≤ i) (h2:i ≤ 10 ^ 150):Sm i:=by
 have e:(10:Nat) ^ 150 < 2 ^ 1000:=by decide +kernel
 have q:i.natAbs ≤ 10 ^ 150:=by omega
 exact Nat.lt_of_le_of_lt q e
theorem a4P {a b:Int} (h0:0 ≤ b) (h1:b ≤ 1000) (h2:a.natAbs < 2 ^ 64):CPow a b:=⟨h0,by omega,h2⟩
theorem b73 (z:Str) (c:Nat):b3G z ⟨#[c]⟩ = decide (c ∈ z.cps.toList):=PySem.StrLaws.found_one z c
end Aq
namespace Aq
open PySem L2
section
variable {d:c8} {ds es:List c8} {z:Str} {i j:Int} {b c:Bool} {p:Option Nat} {ρ:List AV} {kk:c8 → Prop} {kb:Bool → Prop} {kl:List c8 → Prop} {n:Nat} {kvs:List (c8 × c8)} {ko:Out → Prop} {kr:RV → List AV → Prop} {kρ:List AV → Prop} {a:AV} {ns:List Int} {PX:PXT} {D:AEnds}
theorem b1Q:(RV.dat d).hold = .dat d:=rfl
theorem b1R:(RV.bor n).hold = .bor n:=rfl
theorem b1S:(RV.own (.ml p ds)).hold = .dat (.list ds):=rfl
theorem b1T:(RV.own (.mdk p kvs)).hold = .dat (.dict kvs):=rfl
theorem b1W:(RV.dat d).look ρ = some d:=rfl
theorem b1X:(RV.bor n).look ρ = (ρ[n]?).bind AV.look:=rfl
theorem a91:(RV.own a).look ρ = a.look:=rfl
theorem a8L:(AV.dat d).look = some d:=rfl
theorem a68:(AV.ml p ds).look = some (.list ds):=rfl
theorem a8M:(AV.mdk p kvs).look = some (.dict kvs):=rfl
theorem a92:a0J (some d) kk = kk d:=rfl
theorem a8P:a24 (some ds) kl = kl ds:=rfl
theorem b13:d1f (.dat (.bool b)) kb = kb b:=rfl
theorem b1Z:b4Y [] = some []:=rfl
theorem b10 {rs:List RV}:b4Y (.dat d :: rs) = (b4Y rs).map (d :: ·):=rfl
theorem a8N:b3p ρ [] = some []:=rfl
theorem a8O {r:RV} {rs:List RV}:b3p ρ (r :: rs) = (r.look ρ).bind fun d=>(b3p ρ rs).map (d :: ·):=by
 show (match r.look ρ,b3p ρ rs with
  | some d,some ds=>some (d :: ds)
  | _,_=>none) = _
 cases r.look ρ <;> cases b3p ρ rs <;> rfl
theorem b7R:c1W .none kb = kb false:=rfl
theorem b7S:c1W (.bool b) kb = kb b:=rfl
theorem b7T:c1W (.int i) kb = kb (i != 0):=rfl
theorem b7U:c1W (.str z) kb = (z.length ≤ k8 ∧ kb ((z.length:Int) != 0)):=rfl
theorem b7V:c1W (.list ds) kb = kb (!ds.isEmpty):=rfl
theorem b7W:c1W (.tuple ds) kb = kb (!ds.isEmpty):=rfl
theorem b7X:c1W (.dict kvs) kb = kb (!kvs.isEmpty):=rfl
theorem b7M:d14 (.dat d) ρ kr = kr (.dat d) ρ:=rfl
theorem b7N:d14 (.own a) ρ kr = kr (.own a) ρ:=rfl
theorem b7O:setR n (.dat d) ρ kρ = kρ (ρ.set n (.dat d)):=rfl
theorem b7P:setR n (.own a) ρ kρ = kρ (ρ.set n a):=rfl
theorem c4R:(Out.dat d).rv = .dat d:=rfl
theorem c4S:(Out.newL ds).rv = .own (.ml none ds):=rfl
theorem c4T:(Out.newT ds).rv = .dat (.tuple ds):=rfl
theorem q_I {f:Int → Int → (Out → Prop) → Prop}:gI f (.int i) (.int j) ko = f i j ko:=rfl
theorem b7i:a3e (.int i) (.int j) ko = ko (.dat (.int (i + j))):=rfl
theorem b7j {y:Str}:a3e (.str z) (.str y) ko = (z.length + y.length ≤ k8 ∧ ko (.dat (.str (z ++ y)))):=rfl
theorem b7k:a3e (.list ds) (.list es) ko = (ds.length + es.length ≤ k8 ∧ ko (.newL (ds ++ es))):=rfl
theorem b7l:a3e (.tuple ds) (.tuple es) ko = (ds.length + es.length ≤ k8 ∧ ko (.dat (.tuple (ds ++ es))) ∧ ko (.newT (ds ++ es))):=rfl
theorem c4v {f:Int → Int → Bool} {g:Str → Str → Bool}:gIS f g (.int i) (.int j) ko = ko (.dat (.bool (f i j))):=rfl
theorem c4w {f:Int → Int → Bool} {g:Str → Str → Bool} {y:Str}:gIS f g (.str z) (.str y) ko = ko (.dat (.bool (g z y))):=rfl
theorem c4H {neg:Bool}:gIs neg d .none ko = ko (.dat (.bool (if neg then !isN d else isN d))):=by cases d <;> rfl
theorem c4I {neg:Bool}:gIs neg (.bool b) (.bool c) ko = ko (.dat (.bool (if neg then !decide (b = c) else decide (b = c)))):=rfl
theorem c4D {neg:Bool} {y:Str}:gIn neg (.str z) (.str y) ko = ko (.dat (.bool (if neg then !b3G y z else b3G y z))):=rfl
theorem c4E {neg:Bool}:gIn neg d (.tuple ds) ko = (b0y d = true ∧ ds.all b0y = true ∧ ko (.dat (.bool (if neg then !ds.any fun z=>i7 z d else ds.any fun z=>i7 z d)))):=by cases d <;> rfl
theorem c4F {neg:Bool}:gIn neg d (.list ds) ko = (shp d ∧ shp (.list ds) ∧ ko (.dat (.bool (if neg then !ds.any fun z=>i7 z d else ds.any fun z=>i7 z d)))):=by cases d <;> rfl
theorem c4J:gIx (.list ds) (.int i) ko = a0J (atI ds i) fun z=>ko (.dat z):=rfl
theorem c4K:gIx (.tuple ds) (.int i) ko = a0J (atI ds i) fun z=>ko (.dat z):=rfl
theorem c4L:gIx (.str z) (.int i) ko = (z.length ≤ k8 ∧ match atI z.cps.toList i with
  | some c=>ko (.dat (.str ⟨#[c]⟩))
  | none=>False):=rfl
theorem c4U {lo hi:Option Int}:gSl (.list ds) lo hi ko = ko (.newL (b59 ds lo hi)):=rfl
theorem c4V {lo hi:Option Int}:gSl (.tuple ds) lo hi ko = (ko (.dat (.tuple (b59 ds lo hi))) ∧ ko (.newT (b59 ds lo hi))):=rfl
theorem c4W {lo hi:Option Int}:gSl (.str z) lo hi ko = (z.length ≤ k8 ∧ ko (.dat (.str (cutS z lo hi)))):=rfl
theorem b7H:b4u [.list ds] ko = ko (.dat (.int ds.length)):=rfl
theorem b7I:b4u [.tuple ds] ko = ko (.dat (.int ds.length)):=rfl
theorem b7J:b4u [.str z] ko = (z.length ≤ k8 ∧ ko (.dat (.int z.length))):=rfl
theorem c4y {bs:List Bool}:c9j [.list (bs.map a0v)] ko = ko (.dat (.bool (bs.all id))):=by
 show (match a7R (bs.map a0v) with
  | some bs=>ko (.dat (.bool (bs.all id)))
  | none=>False) = _
 rw [b63]
theorem c4z {bs:List Bool}:gAny [.list (bs.map a0v)] ko = ko (.dat (.bool (bs.any id))):=by
 show (match a7R (bs.map a0v) with
  | some bs=>ko (.dat (.bool (bs.any id)))
  | none=>False) = _
 rw [b63]
theorem c4Y {bs:List Int}:gSum [.list (bs.map m7)] ko = ko (.dat (.int bs.sum)):=by
 show (match a83 (bs.map m7) with
  | some bs=>ko (.dat (.int bs.sum))
  | none=>False) = _
 rw [b0B]
theorem b7K:gMax [.int i,.int j] ko = ko (.dat (.int (if j > i then j else i))):=rfl
theorem b7L:d0c [.int i,.int j] ko = ko (.dat (.int (if j < i then j else i))):=rfl
theorem c4x:gAbs [.int i] ko = ko (.dat (.int (if i < 0 then -i else i))):=rfl
theorem b7w:gInt [.int i] ko = ko (.dat (.int i)):=rfl
theorem b7x:gInt [.bool b] ko = ko (.dat (.int (if b then 1 else 0))):=rfl
theorem b1U:c2e [.list ds] ko = ko (.newL ds):=rfl
theorem b1V:c2e [.tuple ds] ko = ko (.newL ds):=rfl
theorem b11:b9a [.list ds] ko = ko (.newT ds):=rfl
theorem b12:b9a [.tuple ds] ko = ko (.dat (.tuple ds)):=rfl
theorem c4O:d2P (.int i) ko = ko (.dat (.int (-i))):=rfl
theorem c4A {k:c8 → List c8 → Prop}:a9U ds [d] k = (ds.length < k8 ∧ k .none (ds ++ [d])):=rfl
theorem c4C {k:c8 → List c8 → Prop}:b4F ds [.list es] k = (ds.length + es.length ≤ k8 ∧ k .none (ds ++ es)):=rfl
theorem c4P {k:c8 → List c8 → Prop}:mPop ds [] k = a0J (ds[ds.length - 1]?) fun d=>k d ds.dropLast:=rfl
theorem b1Y {k:c8 → List c8 → Prop}:c3F ds [.int i] k = ((0 ≤ i ∧ i < 2 ^ 63) ∧ a0J (ds[i.toNat]?) fun d=>k d (ds.eraseIdx i.toNat)):=rfl
theorem c4G {k:c8 → List c8 → Prop}:b4G ds [.int i,d] k = ((ds.length < k8 ∧ 0 ≤ i ∧ i < 2 ^ 63) ∧ k .none (ds.take i.toNat ++ [d] ++ ds.drop i.toNat)):=rfl
theorem b1P:c6e [] ρ kρ = kρ ρ:=rfl
theorem d13 {t:c7M}:gT n t (.tuple ds) ρ kρ = (ds.length = n ∧ t ds ρ kρ):=rfl
theorem a4Q {ρ':List AV} {j:Nat}:a44 ρ' [] j ρ = ρ:=rfl
theorem a1g {ρ':List AV} {j:Nat} {is:List Nat} (h:a87 ρ' j = some a):a44 ρ' (n :: is) j ρ = a44 ρ' is (j + 1) (ρ.set n (a.retag ((ρ[n]?).bind AV.tag))):=by
 rw [a44,h]
theorem a46 {q:Option Nat}:(AV.ml p ds).retag q = .ml q ds:=rfl
theorem b7Q:(AV.ml p ds).tag = p:=rfl
theorem b7m {j:Nat}:a0n ρ [] j = some ([],[]):=rfl
theorem b7n {j:Nat} {rs:List RV}:a0n ρ (.dat d :: rs) j = (a0n ρ rs j).map fun p=>(.dat d :: p.1,p.2):=rfl
/-- what follows a call -/
def bk (P:RV → List AV → Prop) (ρ1:List AV) (is:List Nat) (r:RV) (ρ':List AV):Prop:=match r with
 | .bor _=>False
 | r=>P r (a44 ρ' is 0 ρ1)
theorem a5p {P:RV → List AV → Prop} {ρ1 ρ':List AV} {is:List Nat}:bk P ρ1 is (.dat d) ρ' = P (.dat d) (a44 ρ' is 0 ρ1):=rfl
theorem a90 {P:RV → List AV → Prop} {ρ1 ρ':List AV} {is:List Nat}:bk P ρ1 is (.own a) ρ' = P (.own a) (a44 ρ' is 0 ρ1):=rfl
def d2H (c:Ct) (P:RV → List AV → Prop) (ρ1:List AV):Option (List AV × List Nat) → Prop
 | some (ρc,is)=>is.Nodup ∧ c ρc (bk P ρ1 is) X0
 | none=>False
theorem b1O {c:Ct} {P:RV → List AV → Prop} {ρ1 ρc:List AV} {is:List Nat}:d2H c P ρ1 (some (ρc,is)) = (is.Nodup ∧ c ρc (bk P ρ1 is) X0):=rfl
theorem b7o:i7 (.int i) (.int j) = (i == j):=by rw [i7]
theorem b7p {y:Str}:i7 (.str z) (.str y) = (z == y):=by rw [i7]
theorem b7q:i7 (.bool b) (.bool c) = (b == c):=by rw [i7]
theorem b7r:i7 .none .none = true:=by rw [i7]
theorem b7s:i7 (.int i) (.str z) = false:=by simp [i7]
theorem b7t:i7 (.str z) (.int i) = false:=by simp [i7]
theorem b7u:i7 (.list ds) (.list es) = a0V ds es:=by rw [i7]
theorem b7v:i7 (.tuple ds) (.tuple es) = a0V ds es:=by rw [i7]
theorem c4N:c4k (.int i) (.int j) ko = (CMulW i j ∧ ko (.dat (.int (i * j)))):=rfl
theorem c4B:c7O (.int i) (.int j) ko = (CDivW i j ∧ ko (.dat (.int (i / j)))):=rfl
theorem c4M:c6d (.int i) (.int j) ko = (0 < j ∧ ko (.dat (.int (i % j)))):=rfl
theorem c4Q:a8K (.int i) (.int j) ko = (CPow i j ∧ ko (.dat (.int (i ^ j.toNat)))):=rfl
theorem c4X:c0J (.int i) (.int j) ko = ko (.dat (.int (i - j))):=rfl
theorem b7F:ixN 2 0 = some 0:=rfl
theorem b7G:ixN 2 1 = some 1:=rfl
theorem b7y {T:String}:isT T .none = (T == "NoneType"):=rfl
theorem b7z {T:String}:isT T (.bool b) = (T == "bool" || T == "int"):=rfl
theorem b7A {T:String}:isT T (.int i) = (T == "int"):=rfl
theorem b7B {T:String}:isT T (.str z) = (T == "str"):=rfl
theorem b7C {T:String}:isT T (.list ds) = (T == "list"):=rfl
theorem b7D {T:String}:isT T (.tuple ds) = (T == "tuple"):=rfl
theorem b7E {T:String}:isT T (.dict kvs) = (T == "dict"):=rfl
end
abbrev PK:=RV → List AV → Prop
section
variable {d:c8} {ds es:List c8} {i j:Int} {b c:Bool} {p:Option Nat} {ρ:List AV} {n:Nat} {PX:PXT} {D:AEnds} {P:PK}
def varL (ds:List c8) (n:Nat) (ρ:List AV) (P:PK):Prop:=P (.bor n) ρ ∨ P (.dat (.list ds)) (ρ.set n (.dat (.list ds)))
def varM (ds:List (c8 × c8)) (n:Nat) (ρ:List AV) (P:PK):Prop:=P (.bor n) ρ ∨ P (.dat (.dict ds)) (ρ.set n (.dat (.dict ds)))
theorem a1P (h:P (.bor n) ρ):varL ds n ρ P:=.inl h
theorem a8o (h:P (.dat (.list ds)) (ρ.set n (.dat (.list ds)))):varL ds n ρ P:=.inr h
theorem d3D {kvs:List (c8 × c8)} (h:P (.bor n) ρ):varM kvs n ρ P:=.inl h
def b6B (o:Option AV) (n:Nat) (ρ:List AV) (P:PK):Prop:=match o with
 | some (.dat d)=>P (.dat d) ρ
 | some (.ml none ds)=>varL ds n ρ P
 | some (.mdk none es)=>varM es n ρ P
 | some (.ml (some _) _)=>P (.bor n) ρ
 | some (.mdk (some _) _)=>P (.bor n) ρ
 | some (.scr _)=>P (.bor n) ρ
 | some (.opq _)=>P (.bor n) ρ
 | some (.mdt _ _)=>P (.bor n) ρ
 | _=>False
theorem c29:i9 n ρ PX P = b6B (ρ[n]?) n ρ P:=by
 unfold i9 b6B
 rfl
theorem b8L:b6B (some (.dat d)) n ρ P = P (.dat d) ρ:=rfl
theorem b8M:b6B (some (.ml none ds)) n ρ P = varL ds n ρ P:=rfl
theorem b8N {kvs:List (c8 × c8)}:b6B (some (.mdk none kvs)) n ρ P = varM kvs n ρ P:=rfl
theorem b8O {m:Nat}:b6B (some (.ml (some m) ds)) n ρ P = P (.bor n) ρ:=rfl
theorem b8P {m:Nat} {kvs:List (c8 × c8)}:b6B (some (.mdk (some m) kvs)) n ρ P = P (.bor n) ρ:=rfl
theorem b8Q {ns:List Int}:b6B (some (.scr ns)) n ρ P = P (.bor n) ρ:=rfl
theorem z_c:aC d ρ PX P = P (.dat d) ρ:=rfl
def c6l (P:PK) (ρ:List AV) (o:Out):Prop:=P o.rv ρ
def d0E (g:DOp) (P:PK) (ρ:List AV) (d e:c8):Prop:=g d e (c6l P ρ)
def d0D (g:DOp) (P:PK) (r2:RV) (ρ:List AV) (d:c8):Prop:=a0J (r2.look ρ) (d0E g P ρ d)
def d0C (g:DOp) (P:PK) (r1 r2:RV) (ρ:List AV):Prop:=a0J (r1.look ρ) (d0D g P r2 ρ)
def d0B (g:DOp) (b:AEx) (PX:PXT) (P:PK) (r1:RV) (ρ:List AV):Prop:=b ρ PX (d0C g P r1.hold)
theorem d2a {g:DOp} {x y:AEx}:aOp g x y ρ PX P = x ρ PX (d0B g y PX P):=rfl
def d0T (g:DUn) (P:PK) (ρ:List AV) (d:c8):Prop:=g d (c6l P ρ)
def kUn (g:DUn) (P:PK) (r:RV) (ρ:List AV):Prop:=a0J (r.look ρ) (d0T g P ρ)
theorem d2e {g:DUn} {x:AEx}:aUn g x ρ PX P = x ρ PX (kUn g P):=rfl
def d0r (g':DOp) (P:PK) (ρ:List AV) (e f:c8):Prop:=g' e f (c6l P ρ)
def d0q (g':DOp) (P:PK) (r3:RV) (ρ:List AV) (e:c8):Prop:=a0J (r3.look ρ) (d0r g' P ρ e)
def d0p (g':DOp) (P:PK) (r2 r3:RV) (ρ:List AV):Prop:=a0J (r2.look ρ) (d0q g' P r3 ρ)
def d0s (g':DOp) (c:AEx) (PX:PXT) (P:PK) (r2:RV) (ρ:List AV) (k:Bool):Prop:=if k = true then c ρ PX (d0p g' P r2) else P (.dat (.bool false)) ρ
def d0t (g':DOp) (c:AEx) (PX:PXT) (P:PK) (r2:RV) (ρ:List AV) (o:Out):Prop:=d1f o (d0s g' c PX P r2 ρ)
def d0o (g g':DOp) (c:AEx) (PX:PXT) (P:PK) (r2:RV) (ρ:List AV) (d e:c8):Prop:=g d e (d0t g' c PX P r2 ρ)
def d0n (g g':DOp) (c:AEx) (PX:PXT) (P:PK) (r2:RV) (ρ:List AV) (d:c8):Prop:=a0J (r2.look ρ) (d0o g g' c PX P r2 ρ d)
def d0m (g g':DOp) (c:AEx) (PX:PXT) (P:PK) (r1 r2:RV) (ρ:List AV):Prop:=a0J (r1.look ρ) (d0n g g' c PX P r2.hold ρ)
def d0l (g g':DOp) (b c:AEx) (PX:PXT) (P:PK) (r1:RV) (ρ:List AV):Prop:=b ρ PX (d0m g g' c PX P r1.hold)
theorem b2p {g g':DOp} {x y z:AEx}:c0w g g' x y z ρ PX P = x ρ PX (d0l g g' y z PX P):=rfl
def b4y (P:List RV → List AV → Prop) (r:RV) (rs:List RV) (ρ:List AV):Prop:=P (r :: rs) ρ
def b4x (b:AAx) (PX:PXT) (P:List RV → List AV → Prop) (r:RV) (ρ:List AV):Prop:=b ρ PX (b4y P r.hold)
theorem b5s {x:AEx} {y:AAx} {P:List RV → List AV → Prop}:d4 x y ρ PX P = x ρ PX (b4x y PX P):=rfl
theorem c5l {P:List RV → List AV → Prop}:p8 ρ PX P = P [] ρ:=rfl
def c2y (P:PK) (ρ:List AV) (ds:List c8):Prop:=ds.length ≤ k8 ∧ P (.dat (.tuple ds)) ρ
def kTup (P:PK) (rs:List RV) (ρ:List AV):Prop:=a24 (b4Y rs) (c2y P ρ)
theorem c5w {x:AAx}:a7H x ρ PX P = x ρ PX (kTup P):=rfl
def c2m (P:PK) (ρ:List AV) (ds:List c8):Prop:=ds.length ≤ k8 ∧ P (.own (.ml none ds)) ρ
def d0y (P:PK) (rs:List RV) (ρ:List AV):Prop:=a24 (b4Y rs) (c2m P ρ)
theorem c5g {x:AAx}:a5J x ρ PX P = x ρ PX (d0y P):=rfl
def d0k (g:DCl) (P:PK) (ρ:List AV) (ds:List c8):Prop:=g ds (c6l P ρ)
def kCB (g:DCl) (P:PK) (rs:List RV) (ρ:List AV):Prop:=a24 (b3p ρ rs) (d0k g P ρ)
theorem d15 {g:DCl} {x:AAx}:aCB g x ρ PX P = x ρ PX (kCB g P):=rfl
def c2j (b:AEx) (PX:PXT) (P:PK) (r:RV) (ρ:List AV) (c:Bool):Prop:=if c = true then b ρ PX P else P r ρ
def c2i (b:AEx) (PX:PXT) (P:PK) (r:RV) (ρ:List AV) (d:c8):Prop:=c1W d (c2j b PX P r ρ)
def c2h (b:AEx) (PX:PXT) (P:PK) (r:RV) (ρ:List AV):Prop:=a0J (r.hold.look ρ) (c2i b PX P r.hold ρ)
theorem b79 {x y:AEx}:a6T x y ρ PX P = x ρ PX (c2h y PX P):=rfl
def d0H (b:AEx) (PX:PXT) (P:PK) (r:RV) (ρ:List AV) (c:Bool):Prop:=if c = true then P r ρ else b ρ PX P
def d0G (b:AEx) (PX:PXT) (P:PK) (r:RV) (ρ:List AV) (d:c8):Prop:=c1W d (d0H b PX P r ρ)
def d0F (b:AEx) (PX:PXT) (P:PK) (r:RV) (ρ:List AV):Prop:=a0J (r.hold.look ρ) (d0G b PX P r.hold ρ)
theorem c5n {x y:AEx}:aOrT x y ρ PX P = x ρ PX (d0F y PX P):=rfl
def c2p (P:PK) (ρ:List AV) (c:Bool):Prop:=P (.dat (.bool (!c))) ρ
def c2o (P:PK) (ρ:List AV) (d:c8):Prop:=c1W d (c2p P ρ)
def c2n (P:PK) (r:RV) (ρ:List AV):Prop:=a0J (r.look ρ) (c2o P ρ)
theorem b8u {x:AEx}:c76 x ρ PX P = x ρ PX (c2n P):=rfl
def c2l (T:String) (P:PK) (ρ:List AV) (d:c8):Prop:=P (.dat (.bool (isT T d))) ρ
def d0v (T:String) (P:PK) (r:RV) (ρ:List AV):Prop:=a0J (r.hold.look ρ) (c2l T P ρ)
theorem c5d {T:String} {x:AEx}:b58 T x ρ PX P = x ρ PX (d0v T P):=rfl
def kTst (P:Bool → List AV → Prop) (r:RV) (ρ:List AV):Prop:=match r with
 | .dat (.bool b)=>P b ρ
 | _=>False
theorem c5v {x:AEx} {P:Bool → List AV → Prop}:a4J x ρ PX P = x ρ PX (kTst P):=rfl
theorem b8K {P:Bool → List AV → Prop}:kTst P (.dat (.bool b)) ρ = P b ρ:=rfl
def c2x (P:Bool → List AV → Prop) (ρ:List AV) (b:Bool):Prop:=P b ρ
def c2w (P:Bool → List AV → Prop) (ρ:List AV) (d:c8):Prop:=c1W d (c2x P ρ)
def d0S (P:Bool → List AV → Prop) (r:RV) (ρ:List AV):Prop:=a0J (r.look ρ) (c2w P ρ)
theorem c5u {x:AEx} {P:Bool → List AV → Prop}:a6U x ρ PX P = x ρ PX (d0S P):=rfl
def d0h (b:ATx) (PX:PXT) (P:Bool → List AV → Prop) (c:Bool) (ρ:List AV):Prop:=if c = true then b ρ PX P else P false ρ
theorem c49 {x y:ATx} {P:Bool → List AV → Prop}:c73 x y ρ PX P = x ρ PX (d0h y PX P):=rfl
def kOr (b:ATx) (PX:PXT) (P:Bool → List AV → Prop) (c:Bool) (ρ:List AV):Prop:=if c = true then P true ρ else b ρ PX P
theorem d2b {x y:ATx} {P:Bool → List AV → Prop}:aOr x y ρ PX P = x ρ PX (kOr y PX P):=rfl
def d0A (P:Bool → List AV → Prop) (c:Bool) (ρ:List AV):Prop:=P (!c) ρ
theorem c5m {x:ATx} {P:Bool → List AV → Prop}:a8F x ρ PX P = x ρ PX (d0A P):=rfl
def d26 (P:Option Int → List AV → Prop) (r:RV) (ρ:List AV):Prop:=match r with
 | .dat (.int i)=>P (some i) ρ
 | _=>False
theorem b8w {x:AEx} {P:Option Int → List AV → Prop}:c0y x ρ PX P = x ρ PX (d26 P):=rfl
theorem b2t {P:Option Int → List AV → Prop}:d26 P (.dat (.int i)) ρ = P (some i) ρ:=rfl
theorem a8W {P:Option Int → List AV → Prop}:b80 ρ PX P = P none ρ:=rfl
def d0P (lo hi:Option Int) (P:PK) (ρ:List AV) (d:c8):Prop:=gSl d lo hi (c6l P ρ)
def d0O (P:PK) (r:RV) (lo hi:Option Int) (ρ:List AV):Prop:=a0J (r.look ρ) (d0P lo hi P ρ)
def d0N (h:AOx) (PX:PXT) (P:PK) (r:RV) (lo:Option Int) (ρ:List AV):Prop:=h ρ PX (d0O P r lo)
def d0M (l h:AOx) (PX:PXT) (P:PK) (r:RV) (ρ:List AV):Prop:=l ρ PX (d0N h PX P r.hold)
theorem d2c {x:AEx} {l h:AOx}:aSl x l h ρ PX P = x ρ PX (d0M l h PX P):=rfl
def c9o (P:PK) (ρ:List AV) (d:c8):Prop:=match d with
 | .list ds=>P (.own (.ml none ds.reverse)) ρ
 | _=>False
def c2q (P:PK) (r:RV) (ρ:List AV):Prop:=a0J (r.look ρ) (c9o P ρ)
theorem b8B {x:AEx}:c9W x ρ PX P = x ρ PX (c2q P):=rfl
theorem b2u:c9o P ρ (.list ds) = P (.own (.ml none ds.reverse)) ρ:=rfl
def c9p (P:PK) (ρ:List AV) (d:c8):Prop:=match d with
 | .tuple ds=>P (.dat (.tuple ds.reverse)) ρ
 | _=>False
def c2r (P:PK) (r:RV) (ρ:List AV):Prop:=a0J (r.look ρ) (c9p P ρ)
theorem b8C {x:AEx}:aRevT x ρ PX P = x ρ PX (c2r P):=rfl
theorem b2v:c9p P ρ (.tuple ds) = P (.dat (.tuple ds.reverse)) ρ:=rfl
def c7Q (P:PK) (i:Nat) (p:Option Nat) (ρ:List AV) (d:c8) (ds:List c8):Prop:=P (.dat d) (ρ.set i (.ml p ds))
def kMt4 (g:DMt) (P:PK) (i:Nat) (ρ:List AV) (es:List c8) (o:Option AV):Prop:=match o with
 | some (.ml p ds)=>g ds es (c7Q P i p ρ)
 | _=>False
def d0z (g:DMt) (P:PK) (i:Nat) (ρ:List AV) (es:List c8):Prop:=kMt4 g P i ρ es (ρ[i]?)
def c9m (g:DMt) (P:PK) (i:Nat) (rs:List RV) (ρ:List AV):Prop:=a24 (b4Y rs) (d0z g P i ρ)
def kMtA (g:DMt) (a:AAx) (PX:PXT) (P:PK) (i:Nat) (ρ:List AV) (o:Option AV):Prop:=match o with
 | some (.ml _ _)=>a ρ PX (c9m g P i)
 | _=>False
def kMt1 (g:DMt) (a:AAx) (PX:PXT) (P:PK) (rb:RV) (ρ:List AV):Prop:=match rb with
 | .bor i=>kMtA g a PX P i ρ (ρ[i]?)
 | _=>False
theorem d19 {g:DMt} {x:AEx} {y:AAx}:aMt g x y ρ PX P = x ρ PX (kMt1 g y PX P):=by
 unfold aMt
 congr 1
theorem c5i {g:DMt} {y:AAx}:kMt1 g y PX P (.bor n) ρ = kMtA g y PX P n ρ (ρ[n]?):=rfl
theorem c5j {g:DMt} {y:AAx}:kMtA g y PX P n ρ (some (.ml p ds)) = y ρ PX (c9m g P n):=rfl
theorem c5k {g:DMt}:kMt4 g P n ρ es (some (.ml p ds)) = g ds es (c7Q P n p ρ):=rfl
def kMz2 (g:DMt) (P:PK) (i:Nat) (ρ:List AV) (o:Option AV):Prop:=match o with
 | some (.ml p ds)=>g ds [] (c7Q P i p ρ)
 | _=>False
def kMz1 (g:DMt) (P:PK) (rb:RV) (ρ:List AV):Prop:=match rb with
 | .bor i=>kMz2 g P i ρ (ρ[i]?)
 | _=>False
theorem c5h {g:DMt} {x:AEx}:aMt0 g x ρ PX P = x ρ PX (kMz1 g P):=by
 unfold aMt0
 congr 1
theorem b8s {g:DMt}:kMz1 g P (.bor n) ρ = kMz2 g P n ρ (ρ[n]?):=rfl
theorem b8t {g:DMt}:kMz2 g P n ρ (some (.ml p ds)) = g ds [] (c7Q P n p ρ):=rfl
def kJn4 (z:Str) (P:PK) (ρ:List AV) (o:Option (List Str)):Prop:=match o with
 | some ys=>(ys.map (·.length)).sum + ys.length * z.length ≤ 16777216 ∧ P (.dat (.str (c0o z ys))) ρ
 | none=>False
def kJn3 (z:Str) (P:PK) (ρ:List AV) (d:c8):Prop:=match d with
 | .list ds=>kJn4 z P ρ (b6A ds)
 | _=>False
def c7P (z:Str) (P:PK) (r:RV) (ρ:List AV):Prop:=a0J (r.look ρ) (kJn3 z P ρ)
def kJn1 (a:AEx) (PX:PXT) (P:PK) (rb:RV) (ρ:List AV):Prop:=match rb with
 | .dat (.str z)=>a ρ PX (c7P z P)
 | _=>False
theorem b8o {x y:AEx}:c74 x y ρ PX P = x ρ PX (kJn1 y PX P):=rfl
theorem b2r {y:AEx} {z:Str}:kJn1 y PX P (.dat (.str z)) ρ = y ρ PX (c7P z P):=rfl
theorem b0c {z:Str}:kJn3 z P ρ (.list ds) = kJn4 z P ρ (b6A ds):=rfl
theorem b0d {z:Str} {ys:List Str}:kJn4 z P ρ (some ys) = ((ys.map (·.length)).sum + ys.length * z.length ≤ 16777216 ∧ P (.dat (.str (c0o z ys))) ρ):=rfl
def d23 (P:PK) (ρ:List AV) (o:Option AV):Prop:=match o with
 | some (.scr ns)=>P (.dat (.int ns.length)) ρ
 | _=>False
theorem b8r:c2a n ρ PX P = d23 P ρ (ρ[n]?):=rfl
theorem b2s {ns:List Int}:d23 P ρ (some (.scr ns)) = P (.dat (.int ns.length)) ρ:=rfl
def d0x (P:PK) (ρ:List AV) (o:Option Int):Prop:=match o with
 | some z=>P (.dat (.int z)) ρ
 | none=>False
def d0w (ns:List Int) (P:PK) (r:RV) (ρ:List AV):Prop:=match r with
 | .dat (.int k)=>d0x P ρ (atI ns k)
 | _=>False
def d20 (b:AEx) (PX:PXT) (P:PK) (ρ:List AV) (o:Option AV):Prop:=match o with
 | some (.scr ns)=>b ρ PX (d0w ns P)
 | _=>False
theorem c5e {y:AEx}:d2D n y ρ PX P = d20 y PX P ρ (ρ[n]?):=rfl
theorem b8l {y:AEx} {ns:List Int}:d20 y PX P ρ (some (.scr ns)) = y ρ PX (d0w ns P):=rfl
theorem b8m {ns:List Int}:d0w ns P (.dat (.int i)) ρ = d0x P ρ (atI ns i):=rfl
theorem b8n:d0x P ρ (some i) = P (.dat (.int i)) ρ:=rfl
abbrev PD:=List c8 → List AV → Prop
def c8g (P:PD) (ρ:List AV) (r:RV):Prop:=match r with
 | .dat (.list ds)=>P ds ρ
 | .dat (.tuple ds)=>P ds ρ
 | .dat (.str z)=>P (a7G z) ρ
 | _=>False
def d0i (P:PD) (r:RV) (ρ:List AV):Prop:=c8g P ρ r.hold
theorem c5a {x:AEx} {P:PD}:a6m x ρ PX P = x ρ PX (d0i P):=rfl
theorem b8a {P:PD}:c8g P ρ (.dat (.list ds)) = P ds ρ:=rfl
theorem b8b {P:PD}:c8g P ρ (.dat (.tuple ds)) = P ds ρ:=rfl
theorem b8c {P:PD} {z:Str}:c8g P ρ (.dat (.str z)) = P (a7G z) ρ:=rfl
def d28 (P:PD) (ρ:List AV) (ds:List c8):Prop:=match ds with
 | [.int j]=>(-(2 ^ 62) ≤ j ∧ j < 2 ^ 62) ∧ P (rng 0 j.toNat) ρ
 | _=>False
def c2s (P:PD) (rs:List RV) (ρ:List AV):Prop:=a24 (b4Y rs) (d28 P ρ)
theorem b8D {x:AAx} {P:PD}:b4f x ρ PX P = x ρ PX (c2s P):=rfl
theorem b2w {P:PD}:d28 P ρ [.int j] = ((-(2 ^ 62) ≤ j ∧ j < 2 ^ 62) ∧ P (rng 0 j.toNat) ρ):=rfl
def d29 (P:PD) (ρ:List AV) (ds:List c8):Prop:=match ds with
 | [.int i,.int j]=>(-(2 ^ 62) ≤ i ∧ i < 2 ^ 62 ∧ -(2 ^ 62) ≤ j ∧ j < 2 ^ 62) ∧ P (rng i (j - i).toNat) ρ
 | _=>False
def c2t (P:PD) (rs:List RV) (ρ:List AV):Prop:=a24 (b4Y rs) (d29 P ρ)
theorem b8E {x:AAx} {P:PD}:c9X x ρ PX P = x ρ PX (c2t P):=rfl
theorem b2x {P:PD}:d29 P ρ [.int i,.int j] = ((-(2 ^ 62) ≤ i ∧ i < 2 ^ 62 ∧ -(2 ^ 62) ≤ j ∧ j < 2 ^ 62) ∧ P (rng i (j - i).toNat) ρ):=rfl
def d2X (P:PD) (rs:List RV) (ρ:List AV):Prop:=match rs with
 | [.dat (.list ds)]=>P (c4d ds 0) ρ
 | _=>False
theorem b8j {x:AAx} {P:PD}:aEnum x ρ PX P = x ρ PX (d2X P):=rfl
theorem b2q {P:PD}:d2X P [.dat (.list ds)] ρ = P (c4d ds 0) ρ:=rfl
def kLc (vs:List Nat) (g:ATg) (tt:ATx) (a:AEx) (P:PK) (ds:List c8) (ρ:List AV):Prop:=c4n vs g tt a P ds [] (a3q ρ vs)
theorem d18 {ai:AIt} {vs:List Nat} {g:ATg} {tt:ATx} {x:AEx}:aLc ai vs g tt x ρ PX P = ai ρ PX (kLc vs g tt x P):=rfl
theorem c5f {vs:List Nat} {g:ATg} {tt:ATx} {x:AEx}:kLc vs g tt x P ds ρ = c4n vs g tt x P ds [] (a3q ρ vs):=rfl
theorem c5x {P:Bool → List AV → Prop}:c0f ρ PX P = P true ρ:=rfl
theorem b8p {vs:List Nat} {acc:List c8} {N:List c8 → List AV → Prop}:c6t vs acc N (.dat d) ρ = (acc.length < k8 ∧ N (acc ++ [d]) (a3q ρ vs)):=rfl
theorem b8q {vs:List Nat} {acc:List c8} {N:List c8 → List AV → Prop}:c6t vs acc N (.own (.ml p ds)) ρ = (acc.length < k8 ∧ N (acc ++ [.list ds]) (a3q ρ vs)):=rfl
theorem b8F {ko:Out → Prop}:d0d [.list ds] ko = (a2h ds ∧ c35 ds ∧ (∀ d ∈ ds,d.depth ≤ 60) ∧ noDics ds = true ∧ ∀ es,es.Perm ds → es.Pairwise AqS.leD → ko (.newL es)):=rfl
def kSS3 (ds:List c8) (P:PK) (ρ:List AV) (o:Option (List Key)):Prop:=match o with
 | some ks=>AqS.FewK ks ∧ a2h ds ∧ ∀ ys:List Key,ys.Nodup → (∀ k,k ∈ ys ↔ k ∈ ks) → (ys.map kD).Pairwise AqS.leD → P (.own (.ml none (ys.map kD))) ρ
 | none=>False
def kSS2 (P:PK) (ρ:List AV) (r:RV):Prop:=match r with
 | .dat (.list ds)=>kSS3 ds P ρ (b6c ds)
 | _=>False
def d0J (P:PK) (r:RV) (ρ:List AV):Prop:=kSS2 P ρ r.hold
theorem d2d {x:AEx}:b31 x ρ PX P = x ρ PX (d0J P):=rfl
theorem c5r:kSS2 P ρ (.dat (.list ds)) = kSS3 ds P ρ (b6c ds):=rfl
theorem c5s {ks:List Key}:kSS3 ds P ρ (some ks) = (AqS.FewK ks ∧ a2h ds ∧ ∀ ys:List Key,ys.Nodup → (∀ k,k ∈ ys ↔ k ∈ ks) → (ys.map kD).Pairwise AqS.leD → P (.own (.ml none (ys.map kD))) ρ):=rfl
def b9c (c:Ct) (P:PK) (rs:List RV) (ρ:List AV):Prop:=d2H c P ρ (a0n ρ rs 0)
theorem b0b {c:Ct} {x:AAx}:k9 c x ρ PX P = x ρ PX (b9c c P):=rfl
def bkX (PX:PXT) (ρ1:List AV) (is:List Nat):PXT:=fun cls p ρ'=>PX cls p (a44 ρ' is 0 ρ1)
def d2I (c:Ct) (PX:PXT) (P:PK) (ρ1:List AV):Option (List AV × List Nat) → Prop
 | some (ρc,is)=>is.Nodup ∧ c ρc (bk P ρ1 is) (bkX PX ρ1 is)
 | none=>False
def b4w (c:Ct) (PX:PXT) (P:PK) (rs:List RV) (ρ:List AV):Prop:=d2I c PX P ρ (a0n ρ rs 0)
theorem b2o {c:Ct} {x:AAx}:c4b c x ρ PX P = x ρ PX (b4w c PX P):=rfl
theorem a8U {c:Ct} {ρc:List AV} {is:List Nat}:d2I c PX P ρ (some (ρc,is)) = (is.Nodup ∧ c ρc (bk P ρ is) (bkX PX ρ is)):=rfl
def c4c (o:Option AV) (n:Nat) (ρ:List AV) (rs:List RV) (j:Nat):Option (List AV × List Nat):=match o with
 | some (.ml _ ds)=>(a0n ρ rs (j + 1)).map fun p=>(.ml (some j) ds :: p.1,n :: p.2)
 | some (.mdk _ ds)=>(a0n ρ rs (j + 1)).map fun p=>(.mdk (some j) ds :: p.1,n :: p.2)
 | some (.mdt _ ds)=>(a0n ρ rs (j + 1)).map fun p=>(.mdt (some j) ds :: p.1,n :: p.2)
 | some (.scr ns)=>(a0n ρ rs j).map fun p=>(.scr ns :: p.1,p.2)
 | some (.opq v)=>(a0n ρ rs j).map fun p=>(.opq v :: p.1,p.2)
 | _=>none
theorem b5r {j:Nat} {rs:List RV}:a0n ρ (.bor n :: rs) j = c4c (ρ[n]?) n ρ rs j:=by
 rw [a0n]
 rfl
theorem b8d {j:Nat} {rs:List RV}:c4c (some (.ml p ds)) n ρ rs j = (a0n ρ rs (j + 1)).map fun p=>(.ml (some j) ds :: p.1,n :: p.2):=rfl
theorem b8e {j:Nat} {rs:List RV} {kvs:List (c8 × c8)}:c4c (some (.mdk p kvs)) n ρ rs j = (a0n ρ rs (j + 1)).map fun p=>(.mdk (some j) kvs :: p.1,n :: p.2):=rfl
theorem b8f {j:Nat} {rs:List RV} {ns:List Int}:c4c (some (.scr ns)) n ρ rs j = (a0n ρ rs j).map fun p=>(.scr ns :: p.1,p.2):=rfl
theorem a1h:a1D D ρ = D.nx ρ:=rfl
theorem b2n:d3q D ρ = D.bk ρ:=rfl
theorem b8h:sCont D ρ = D.ct ρ:=rfl
theorem c27 {a b:ASt}:a0I a b D ρ = a { D with nx:=b D } ρ:=rfl
def c2k (D:AEnds) (r:RV) (ρ:List AV):Prop:=D.nx ρ
theorem b8i {x:AEx}:a9a x D ρ = x ρ D.ex (c2k D):=rfl
def kIf (a b:ASt) (D:AEnds) (k:Bool) (ρ:List AV):Prop:=if k = true then a D ρ else b D ρ
theorem d17 {x:ATx} {a b:ASt}:sIf x a b D ρ = x ρ D.ex (kIf a b D):=rfl
def c9n (D:AEnds) (r:RV) (ρ:List AV):Prop:=d14 r ρ D.rt
theorem c5p {x:AEx}:a2w x D ρ = x ρ D.ex (c9n D):=rfl
theorem b8A:sRetN D ρ = D.rt (.dat .none) ρ:=rfl
def d1b (o:Option AV) (n:Nat) (ρ:List AV) (k:PK):Prop:=match o with
 | some (.ml none ds)=>k (.own (.ml none ds)) (ρ.set n .un)
 | some (.mdk none ds)=>k (.own (.mdk none ds)) (ρ.set n .un)
 | _=>False
theorem b8x:d14 (.bor n) ρ P = d1b (ρ[n]?) n ρ P:=rfl
theorem b8y:d1b (some (.ml none ds)) n ρ P = P (.own (.ml none ds)) (ρ.set n .un):=rfl
theorem b8z {kvs:List (c8 × c8)}:d1b (some (.mdk none kvs)) n ρ P = P (.own (.mdk none kvs)) (ρ.set n .un):=rfl
def d0L (i:Nat) (D:AEnds) (r:RV) (ρ:List AV):Prop:=setR i r ρ D.nx
theorem c5q {x:AEx}:a2I n x D ρ = x ρ D.ex (d0L n D):=rfl
def d2U (g:ATg) (D:AEnds) (ρ:List AV) (r:RV):Prop:=match r with
 | .dat d=>g d ρ D.nx
 | _=>False
def d0j (g:ATg) (D:AEnds) (r:RV) (ρ:List AV):Prop:=d2U g D ρ r.hold
theorem c5b {x:AEx} {g:ATg}:sAsg x g D ρ = x ρ D.ex (d0j g D):=rfl
theorem b8g {g:ATg}:d2U g D ρ (.dat d) = g d ρ D.nx:=rfl
def d25 (i j:Nat) (D:AEnds) (ρ:List AV) (ds:List c8):Prop:=match ds with
 | [d,e]=>D.nx ((ρ.set i (.dat d)).set j (.dat e))
 | _=>False
def d0I (i j:Nat) (D:AEnds) (rs:List RV) (ρ:List AV):Prop:=a24 (b4Y rs) (d25 i j D ρ)
theorem c5o {m:Nat} {x:AAx}:sPar n m x D ρ = x ρ D.ex (d0I n m D):=rfl
theorem b8v {m:Nat} {e:c8}:d25 n m D ρ [d,e] = D.nx ((ρ.set n (.dat d)).set m (.dat e)):=rfl
def d0R (D:AEnds) (d:c8) (i:Nat) (p:Option Nat) (ds:List c8) (ρ:List AV) (o:Option Nat):Prop:=match o with
 | some j=>D.nx (ρ.set i (.ml p (ds.set j d)))
 | none=>False
def d3d (D:AEnds) (d:c8) (i:Nat) (ρ:List AV) (rc:RV) (o:Option AV):Prop:=match rc,o with
 | .dat (.int k),some (.ml p ds)=>d0R D d i p ds ρ (ixN ds.length k)
 | _,_=>False
def c0M (D:AEnds) (d:c8) (i:Nat) (rc:RV) (ρ:List AV):Prop:=d3d D d i ρ rc (ρ[i]?)
def d0Q (D:AEnds) (c:AEx) (d:c8) (rb:RV) (ρ:List AV):Prop:=match rb with
 | .bor i=>c ρ D.ex (c0M D d i)
 | _=>False
def d3c (D:AEnds) (b c:AEx) (ρ:List AV) (r:RV):Prop:=match r with
 | .dat d=>b ρ D.ex (d0Q D c d)
 | _=>False
def c2v (D:AEnds) (b c:AEx) (r:RV) (ρ:List AV):Prop:=d3c D b c ρ r.hold
theorem c5t {x y z:AEx}:c8E x y z D ρ = x ρ D.ex (c2v D y z):=rfl
theorem b8G {y z:AEx}:d3c D y z ρ (.dat d) = y ρ D.ex (d0Q D z d):=rfl
theorem b8H {z:AEx}:d0Q D z d (.bor n) ρ = z ρ D.ex (c0M D d n):=rfl
theorem b8I:d3d D d n ρ (.dat (.int i)) (some (.ml p ds)) = d0R D d n p ds ρ (ixN ds.length i):=rfl
theorem b8J {m:Nat}:d0R D d n p ds ρ (some m) = D.nx (ρ.set n (.ml p (ds.set m d))):=rfl
def d3b (es:List c8) (D:AEnds) (i:Nat) (ρ:List AV) (lo hi:Option Int) (o:Option AV):Prop:=match lo,hi,o with
 | some a,some c,some (.ml p ds)=>(0 ≤ a ∧ a ≤ ds.length ∧ a ≤ c ∧ ds.length + es.length ≤ k8) ∧ D.nx (ρ.set i (.ml p (ds.take a.toNat ++ es ++ ds.drop (min c.toNat ds.length))))
 | _,_,_=>False
def c2u (es:List c8) (D:AEnds) (i:Nat) (lo hi:Option Int) (ρ:List AV):Prop:=d3b es D i ρ lo hi (ρ[i]?)
def c0L (es:List c8) (h:AOx) (D:AEnds) (i:Nat) (lo:Option Int) (ρ:List AV):Prop:=h ρ D.ex (c2u es D i lo)
def d0K (es:List c8) (l h:AOx) (D:AEnds) (rb:RV) (ρ:List AV):Prop:=match rb with
 | .bor i=>l ρ D.ex (c0L es h D i)
 | _=>False
def d3a (b:AEx) (l h:AOx) (D:AEnds) (ρ:List AV) (r:RV):Prop:=match r with
 | .dat (.list es)=>b ρ D.ex (d0K es l h D)
 | _=>False
def b4z (b:AEx) (l h:AOx) (D:AEnds) (r:RV) (ρ:List AV):Prop:=d3a b l h D ρ r.hold
theorem b2y {x y:AEx} {l h:AOx}:c6X x y l h D ρ = x ρ D.ex (b4z y l h D):=rfl
theorem a8X {y:AEx} {l h:AOx}:d3a y l h D ρ (.dat (.list es)) = y ρ D.ex (d0K es l h D):=rfl
theorem a8Y {l h:AOx}:d0K es l h D (.bor n) ρ = l ρ D.ex (c0L es h D n):=rfl
theorem a8Z:d3b es D n ρ (some i) (some j) (some (.ml p ds)) = ((0 ≤ i ∧ i ≤ ds.length ∧ i ≤ j ∧ ds.length + es.length ≤ k8) ∧ D.nx (ρ.set n (.ml p (ds.take i.toNat ++ es ++ ds.drop (min j.toNat ds.length))))):=rfl
def kFor (g:ATg) (b:ASt) (D:AEnds) (ds:List c8) (ρ:List AV):Prop:=b1y g b D ds ρ
theorem c5c {ai:AIt} {g:ATg} {b:ASt}:c45 ai g b D ρ = ai ρ D.ex (kFor g b D):=rfl
theorem b8k {g:ATg} {b:ASt}:kFor g b D ds ρ = b1y g b D ds ρ:=rfl
theorem d16 {k:List AV → Prop}:gN n d ρ k = k (ρ.set n (.dat d)):=rfl
def kGs (u:c7M) (ds:List c8) (k:List AV → Prop) (ρ:List AV):Prop:=u ds ρ k
theorem a8V {t:ATg} {u:c7M} {k:List AV → Prop}:a9t t u (d :: ds) ρ k = t d ρ (kGs u ds k):=rfl
end
theorem ixo {α:Type} (x:α) (xs:List α):atI (x :: xs) 0 = some x:=by simp [atI,ixN]
theorem d1W {α:Type} (x y:α) (xs:List α):atI (x :: y :: xs) 1 = some y:=by
 have:(1:Int) < (xs.length:Int) + 1 + 1:=by omega
 simp [atI,ixN,this]
theorem d1X {α:Type} (x y z:α) (xs:List α):atI (x :: y :: z :: xs) 2 = some z:=by
 have:(2:Int) < (xs.length:Int) + 1 + 1 + 1:=by omega
 simp [atI,ixN,this]
theorem d1Y {α:Type} (x y z u:α) (xs:List α):atI (x :: y :: z :: u :: xs) 3 = some u:=by
 have:(3:Int) < (xs.length:Int) + 1 + 1 + 1 + 1:=by omega
 simp [atI,ixN,this]
theorem d1Z {α:Type} (x y z u v:α) (xs:List α):atI (x :: y :: z :: u :: v :: xs) 4 = some v:=by
 have:(4:Int) < (xs.length:Int) + 1 + 1 + 1 + 1 + 1:=by omega
 simp [atI,ixN,this]
theorem d10 {α:Type} (x y z u v w:α) (xs:List α):atI (x :: y :: z :: u :: v :: w :: xs) 5 = some w:=by
 have:(5:Int) < (xs.length:Int) + 1 + 1 + 1 + 1 + 1 + 1:=by omega
 simp [atI,ixN,this]
theorem a9R {α:Type} {xs:List α} {i:Int} (h0:0 ≤ i) (h1:i < xs.length):atI xs i = xs[i.toNat]?:=by
 unfold atI ixN
 rw [if_pos h0,if_pos h1]
 rfl
theorem b4H {lo:Int} {n:Nat} {d:c8} (h:d ∈ rng lo n):∃ i,d = .int i ∧ lo ≤ i ∧ i < lo + n:=by
 unfold rng at h
 obtain ⟨k,hk,rfl⟩:=e7.mp h
 rw [a25] at hk
 exact ⟨_,rfl,by omega,by omega⟩
theorem a72 {lo:Int} {n:Nat}:(rng lo n).length = n:=by simp [rng]
theorem c6O {α:Type} {lo:Int} {n:Nat} (f:c8 → α):(rng lo n).map f = (a1j n).map fun (i:Nat)=>f (.int (lo + (i:Int))):=by simp [rng]
/-- a comprehension of truths -/
theorem c9q {vs:List Nat} {g:ATg} {a:AEx} {P:RV → List AV → Prop} {ρ:List AV} (st:c8 → List AV) (f:c8 → Bool) (ds:List c8)
  (h1:∀ d ∈ ds,∀ k,k (st d) → g d ρ k) (h2:∀ d ∈ ds,a3q (st d) vs = ρ) (h4:∀ d ∈ ds,∀ k,k (.dat (.bool (f d))) (st d) → a (st d) X0 k) (hz:ds.length ≤ 1000)
  (h:P (.own (.ml none ((ds.map f).map a0v))) ρ):c4n vs g c0f a P ds [] ρ :=
 b6e st (fun d=>.bool (f d)) ds [] h1 h2 h4 (by simp [k8]; omega) (by
  have e:(ds.map fun d=>a0v (f d)) = (ds.map f).map a0v:=by simp
  rw [a1c,e]
  exact h)
/-- a loop that looks at each and may go -/
theorem c9i {n:Nat} {b:ASt} {D:AEnds} (S:AV → List AV) (p:c8 → Bool) (hset:∀ x d,(S x).set n (.dat d) = S (.dat d)):∀ (ds:List c8) (x:AV)
  (_:∀ d ∈ ds,∀ N:List AV → Prop,(p d = true → N (S (.dat d))) → b { D with nx:=N,ct:=N,bk:=D.nx } (S (.dat d)))
  (_:(∀ d ∈ ds,p d = true) → ∀ x,D.nx (S x)),b1y (gN n) b D ds (S x)
 | [],x,_,fin=>fin (fun _ h=>by simp at h) x
 | d :: ds,x,step,fin=>by
  unfold b1y gN
  rw [hset]
  exact step d e6 _ fun hp=>c9i S p hset ds _ (fun e he=>step e (e8 _ he)) fun ha=>fin fun e he=>by
   rcases n8.mp he with rfl | he
   ·exact hp
   ·exact ha e he
theorem c2d {τ:Type} {g:ATg} {b:ASt} {D:AEnds} (S:τ → List AV) (f:c8 → τ) (p:c8 → Bool):∀ (ds:List c8) (x:τ)
  (_:∀ d ∈ ds,∀ x k,k (S (f d)) → g d (S x) k)
  (_:∀ d ∈ ds,∀ N:List AV → Prop,(p d = true → N (S (f d))) → b { D with nx:=N,ct:=N,bk:=D.nx } (S (f d)))
  (_:(∀ d ∈ ds,p d = true) → ∀ x,D.nx (S x)),b1y g b D ds (S x)
 | [],x,_,_,fin=>fin (fun _ h=>by simp at h) x
 | d :: ds,x,hg,step,fin=>by
  unfold b1y
  refine hg d e6 x _ ?_
  exact step d e6 _ fun hp=>c2d S f p ds _ (fun e he=>hg e (e8 _ he)) (fun e he=>step e (e8 _ he)) fun ha=>fin fun e he=>by
   rcases n8.mp he with rfl | he
   ·exact hp
   ·exact ha e he
theorem b17 (i:Int):a0k (.int i) = true:=rfl
theorem a8R (i:Bool):a0k (.bool i) = true:=rfl
theorem a8S:a0k .none = true:=rfl
section
open PySem.Spec PyProof.Rows
variable {K:b0}
/-- the law itself: its function object as it stands -/
theorem okLaw {P:a2q} {w:i6} {mg:Str → Option m6} {base:b8V} {k:Nat} {x:Str} {st:Stmt} {f:v4} {fd:w8} {N ps:List Str} {c:Ct} {t:TS} {a:ASt} (F:FnP K x st f fd) (S:a0B N ps (i4 st))
  (hl:∀ ρ P PX,c ρ P PX → ρ.length = ps.length) (hs:∀ W,SS K W t a) (hp:∀ ρ P PX,c ρ P PX → a { nx:=fun ρ'=>P (.dat .none) ρ',rt:=P,ex:=PX } (ρ ++ g5 (N.length - ρ.length) .un))
  (hd:∀ (cdv:m6) (A:b6Y) (outer:List Env) (s:z7) (H:Hp) (E:XK),Room k (A.deeper (envOfC x (i4 st) s.heap.objs.size f cdv)) → PSs (cxOf CX0 P w K mg base N x (i4 st) f cdv A outer s H E).nox (a0r st) t):FnOk P w K mg base CX0 (k + 1) f fd ps (spOf K c) :=
 F.ok S (fun vs H Q E h=>b0W hl h) fun cdv A outer s H vs Q E hr h=>⟨t,PSs.nox (hd cdv A outer s H E hr),b87 h (hs _) hp⟩
/-- how a law is called: all is frozen, the script is there -/
theorem law_start {H:Hp} {a:v4} {ns:List Int} {c:Ct} (h:SqL K H a (ns.map V.int)) (hc:∀ (P:RV → List AV → Prop) (PX:PXT),(∀ ρ',P (.dat (.bool true)) ρ') → c [.scr ns] P PX):spOf K c [.ref a] H (fun v _=>v = .bl true) fun _ _ _=>False:=by
 refine ⟨H,[],[.scr ns],fun r _=>r = .dat (.bool true),fun _ _ _=>False,?_,hc _ _ fun _=>rfl,?_,fun _ _ _ _ _ _ _ _ _ h=>h⟩
 ·refine ⟨rfl,.refl _,.refl _,fun b o h _=>h,fun b o h=>⟨o,h⟩,fun b o h1 h2=>?_,fun l hl=>by simp at hl,fun _ _ e=>e,fun i x e=>?_,fun i j l _ h1 _=>?_⟩
  ·have h1':H b = some o:=h1
   have h2':H b = none:=h2
   rw [h1'] at h2'
   cases h2'
  ·match i,e with
   | 0,e =>
    cases e
    exact ⟨_,rfl,a,rfl,h⟩
   | i + 1,e=>simp at e
  ·obtain ⟨x,e,m⟩:=h1
   match i,e with
   | 0,e =>
    cases e
    cases m.mut
   | i + 1,e=>simp at e
 ·intro v F' H' σ' ρ' r _ ho hr
  subst hr
  cases ho
  rfl
end
end Aq
set_option maxHeartbeats 3200000
namespace AqH
open PySem PySem.Spec PyProof.Rows L2
section
variable {X:Cx}
/-- the block's context bears the handled exception -/
theorem d03 {p:v4 × Obj} {pins:List (v4 × Obj)} {σ τ:a3j} {H:Hp} {s t:z7} {scope:Scope} {ce:Env} {fp:List v4} (J:Inv X pins σ H s) (hp:p ∈ X.pn) (hstk:∀ b,b ∈ frs X.stack → b ∈ X.env.locals :: X.fs) (hce:s.heap.objs.size ≤ ce.locals)
  (I:Inv (X.blk s H scope ce fp) [] τ H t) (hk:∀ b o,s.heap.get? b = some o → t.heap.get? b = some o):Inv (X.blk s H scope ce fp) [p] τ H t:=by
 obtain ⟨g,n,nl,nf,nc⟩:=J.pin p (a0o _ hp)
 refine ⟨I.ok,I.os,I.bare,I.base,I.loc,I.cell,I.free,I.freeC,fun q hq=>?_,I.hok,I.len⟩
 have eq:q = p:=by simpa using (show q ∈ ([]:List (v4 × Obj)) ++ [p] from hq)
 subst eq
 refine ⟨hk _ _ g,n,fun z=>?_,fun z=>?_,nc⟩
 ·have:=a6h g
  rw [z] at this
  exact absurd this (Nat.not_lt.mpr hce)
 ·rcases n8.mp (hstk _ z) with y | y
  ·exact nl y
  ·exact nf y
theorem d3h {pins:List (v4 × Obj)} {s:z7} {σ:a3j} {H:Hp} {Q:VK} {elt tg iter:Expr} {ifs:List Expr} {scope:Scope} {own:List (Str × Nat)} {pos pos':Pos} {wi:TI} {g:TG} {tt:TT} {te:TE} {use:Option (m6 → Sem Unit)} {Z:m6 → z7 → Prop}
  (hot:L2H.HotC X) (nd:X.N.Nodup) (I:Inv X pins σ H s) (hi:L2H.PIH X tg iter wi) (ok:BlkOk X.N X.env.scope scope own)
  (G:∀ (s:z7) (H:Hp) (C:v4) (cl:List (Str × v4)) (fp:List v4),PG (X.blk s H scope (b54 scope cl C X.env) fp) tg g)
  (T1:∀ (s:z7) (H:Hp) (C:v4) (cl:List (Str × v4)) (fp:List v4),PTs (X.blk s H scope (b54 scope cl C X.env) fp) ifs tt)
  (E1:∀ (s:z7) (H:Hp) (C:v4) (cl:List (Str × v4)) (fp:List v4),PE (X.blk s H scope (b54 scope cl C X.env) fp) elt te)
  (fold:∀ x,foldedSetIterable iter X.env x = pure x) (h:tLc wi g tt te (own.map (·.2)) σ H Q)
  (last:∀ D C s' m H',Inv X pins σ H' s' → Q (.ref D) H' → s'.heap.Ns C m → FpOk X pins H' C → compPost (a55 X.prog X.w) X.A X.xe use Z (.ref D) C (.ok .next) s') :
  a3J (a55 X.prog X.w) X.A (comprehension (.ListComp elt [⟨tg,iter,ifs,0⟩] scope pos) scope X.env pos' (newList []) false (c9O iter X.env) use) Z X.xe s:=by
 obtain ⟨p,hot1,hpn⟩:=hot
 have lent:∀ y ∈ scope.names,y.2 = .free → ∃ c,X.env.cells.lookup y.1 = some c:=fun y hy e=>by
  rcases ok.free y hy e with k | k
  ·exact I.ok.has _ (.inl k)
  ·exact I.ok.has _ (.inr k)
 refine wpAny_comprehension_free (use:=use) rfl fold (closure_ok lent) ok.kind (fun y hy e=>by rw [ok.uniq y hy,e])
  (thn (hi.run pins s σ H _ I h) fun xv s1 hx=>thn hx fun itv s2 h2=>?_)
 obtain ⟨it,fp,tn,J,H2,ei,I2,T,st2,f2,q⟩:=h2
 subst ei
 refine wpAny_newObj_type (newEnv_comp ?_) (by show 0 ≤ k8; decide)
 generalize hD:s2.heap.objs.size = D
 have freshD:H2 D = none:=I2.hok.fresh (c3s hD)
 obtain ⟨W,⟨m0,w0⟩,turn⟩:=q D freshD
 generalize hs3:({ s2 with heap:=s2.heap.push { cls:=.type "list",data:=.seq ([]:List m6).toArray } }:z7) = s3
 have h3:s3.heap = s2.heap.push { cls:=.type "list",data:=.seq ([]:List m6).toArray }:=by rw [← hs3]
 have I3:Inv X pins σ (upd H2 D (.lst [])) s3:=by
  rw [← hs3]
  refine I2.laid (t':=s2.toks) (fun b o z=>r6 _ z) (c3s hD) ⟨a4D _,[],0,.nil,?_⟩
  rw [← hD]
  exact a0Z _ rfl
 have under:∀ b ∈ fp,b < s2.heap.objs.size:=fun b hb=>by
  obtain ⟨o,z,_⟩:=T.obj _ _ st2 b hb
  exact a6h z
 have f3:∀ b ∈ fp,FpOk X pins (upd H2 D (.lst [])) b ∧ b < s3.heap.objs.size:=fun b hb=>by
  refine ⟨⟨?_,(f2 b hb).2⟩,by rw [h3,a6d]; exact b0l (under b hb)⟩
  rw [a1V (by rw [← hD]; exact a6i (under b hb))]
  exact (f2 b hb).1
 have st3:tn 0 s3.heap:=T.keep _ _ _ st2 fun b _ o z=>by rw [h3]; exact r6 _ z
 have kc:∀ b o,s3.heap.get? b = some o → (pushCells (s3.heap.push { cls:=.type "dict",data:=.dict #[] }) scope.names).get? b = some o:=fun b o z=>pushCells_keeps _ _ _ _ (r6 _ z)
 have B0:=block_start I3 ok nd f3
 have B4:=d03 I3 hpn (fun b hb=>I3.stkSub b hb) (a1e _) B0 kc
 have pg:=G s3 (upd H2 D (.lst [])) s3.heap.objs.size (c0q (s3.heap.objs.size + 1) scope.names (cloFrom X.env.cells scope.names [])) fp
 have pt:=T1 s3 (upd H2 D (.lst [])) s3.heap.objs.size (c0q (s3.heap.objs.size + 1) scope.names (cloFrom X.env.cells scope.names [])) fp
 have pe:=E1 s3 (upd H2 D (.lst [])) s3.heap.objs.size (c0q (s3.heap.objs.size + 1) scope.names (cloFrom X.env.cells scope.names [])) fp
 show codeAny _ _ (.compStart (.ListComp elt [⟨tg,iter,ifs,0⟩] scope pos) 0 (.ref it) (.ref D) (b54 scope (c0q (s3.heap.objs.size + 1) scope.names (cloFrom X.env.cells scope.names [])) s3.heap.objs.size X.env)) (compPost (a55 X.prog X.w) X.A X.xe use Z (.ref D) s3.heap.objs.size) { s3 with heap:=pushCells (s3.heap.push { cls:=.type "dict",data:=.dict #[] }) scope.names }
 have nofp:∀ b ∈ fp,(upd H2 D (.lst [])) b = none:=fun b hb=>(f3 b hb).1.1
 have apart:∀ b ∈ fp,p.1 ≠ b:=fun b hb=>(f3 b hb).1.2.2.2.2.2 p (a0o _ hpn)
 generalize hce:b54 scope (c0q (s3.heap.objs.size + 1) scope.names (cloFrom X.env.cells scope.names [])) s3.heap.objs.size X.env = ce at B4 pg pt pe ⊢
 have cL:ce.locals = s3.heap.objs.size:=by subst hce; rfl
 generalize hH3:upd H2 D (.lst []) = H3 at I3 B4 pg pt pe w0 nofp f3
 generalize hs4:({ s3 with heap:=pushCells (s3.heap.push { cls:=.type "dict",data:=.dict #[] }) scope.names }:z7) = s4 at B4 ⊢
 have st4:tn 0 s4.heap:=T.keep _ _ _ st3 fun b _ o z=>by rw [← hs4]; exact kc b o z
 -- the same with the exception among what is borne
 have up:∀ {τ:a3j} {H':Hp} {t:z7},Inv (X.blk s3 H3 scope ce fp) [p] τ H' t → Inv ((X.blk s3 H3 scope ce fp).tr [p] fun _ _=>False) [] τ H' t:=fun {τ H' t} z=>z.toTry _
 have dn:∀ {τ:a3j} {H':Hp} {t:z7},Inv ((X.blk s3 H3 scope ce fp).tr [p] fun _ _=>False) [] τ H' t → Inv (X.blk s3 H3 scope ce fp) [p] τ H' t:=fun {τ H' t} z=>⟨B4.ok,z.os,z.bare,z.base,z.loc,z.cell,z.free,z.freeC,fun q hq=>z.pin q (by simpa using hq),z.hok,z.len⟩
 have hc:L2H.HotC ((X.blk s3 H3 scope ce fp).tr [p] fun _ _=>False):=⟨p,hot1,m9 p⟩
 have stat:∀ {τ:a3j} {H':Hp} {t:z7},Inv ((X.blk s3 H3 scope ce fp).tr [p] fun _ _=>False) [] τ H' t → (∀ b ∈ fp,H' b = none) → ∀ b ∈ fp,FpOk ((X.blk s3 H3 scope ce fp).tr [p] fun _ _=>False) [] H' b:=fun {τ H' t} z hn b hb =>
  ⟨hn b hb,(z.ok.exf b hb).1,z.ok.exfs b hb,.inl hb,fun x c e=>(z.ok.exf b hb).2 x c e,fun q hq=>by
   have eq:q = p:=by simpa using (show q ∈ [p] ++ ([]:List (v4 × Obj)) from hq)
   rw [eq]; exact apart b hb⟩
 have loop:codeAny (a55 X.prog X.w) X.A (.compLoop (.ListComp elt [⟨tg,iter,ifs,0⟩] scope pos) 0 (.ref it) (.ref D) ce) (compPost (a55 X.prog X.w) X.A X.xe use Z (.ref D) s3.heap.objs.size) s4:=by
  refine compLoop_any (fun n t=>∃ i H',Inv (X.blk s3 H3 scope ce fp) [p] (c9a σ (own.map (·.2))) H' t ∧ tn i t.heap ∧ (∀ b ∈ fp,H' b = none) ∧ W i n H') ?_ m0 ⟨0,H3,B4,st4,nofp,w0⟩
  rintro n s5 ⟨i,H5,I5,st5,n5,w5⟩
  rcases turn i n H5 w5 with ⟨stop,qq⟩ | ⟨go,Nx,hNx,step⟩
  ·refine thnF (T.done ((X.blk s3 H3 scope ce fp).tr [p] fun _ _=>False) rfl rfl rfl hc i [] s5 _ H5 (fun _ _=>False) (up I5) (stat (up I5) n5) st5 stop) fun r s6 ⟨hr,I6'⟩=>?_
   have I6:=dn I6'
   subst hr
   have I7:Inv X pins σ H5 s6:=I3.call' (ch:=fp) I6.os I6.base I6.hok I6.bare fun b hb=>⟨(f3 b hb).1.2.2.2.1,(f3 b hb).1.2.1,(f3 b hb).1.2.2.2.2.1,(f3 b hb).1.2.2.2.2.2⟩
   have nC:H5 s3.heap.objs.size = none:=by rw [← cL]; exact I6.free
   obtain ⟨m,hn,_⟩:=I6.loc
   have hn:s6.heap.Ns ce.locals m:=hn
   rw [cL] at hn
   exact last D s3.heap.objs.size s6 m H5 I7 qq hn (I3.fpOk (a1e _) nC)
  ·refine thnF (T.item ((X.blk s3 H3 scope ce fp).tr [p] fun _ _=>False) rfl rfl rfl hc i [] s5 _ H5 (fun _ _=>False) (up I5) (stat (up I5) n5) st5 go) fun r s6 ⟨u,hr,h6⟩=>?_
   subst hr
   refine thnF h6 fun _ s7 ⟨x,H7,I7',r7,y7,st7,n7⟩=>?_
   have I7:=dn I7'
   have sB:∀ b ∈ fp,FpOk (X.blk s3 H3 scope ce fp) [p] H7 b:=fun b hb=>by
    obtain ⟨a1,a2,a3,a4,a5,a6⟩:=stat I7' n7 b hb
    exact ⟨a1,a2,a3,a4,a5,fun q hq=>a6 q (by simpa using hq)⟩
   have P7:=I7.pinned sB (T.obj _ _ st7)
   refine thnF (pg.run _ s7 _ H7 x u _ P7 r7 (step x H7 y7)) fun _ s8 ⟨σ8,H8,I8,hw8,q8⟩=>?_
   refine thnF (pt.run _ s8 σ8 H8 _ I8 q8) fun b s9 ⟨H9,I9,q9⟩=>?_
   have fin:∀ {t:z7} {H':Hp},Inv (X.blk s3 H3 scope ce fp) ([p] ++ pinsAt fp s7.heap) σ8 H' t → Nx H' → ∃ m,m < n ∧ ∃ i H',Inv (X.blk s3 H3 scope ce fp) [p] (c9a σ (own.map (·.2))) H' t ∧ tn i t.heap ∧ (∀ b ∈ fp,H' b = none) ∧ W i m H':=fun {t H'} I' nx=>by
    obtain ⟨m',hm,w'⟩:=hNx H' nx
    have pin':∀ b ∈ fp,∀ o,s7.heap.get? b = some o → t.heap.get? b = some o ∧ H' b = none:=fun b hb o e =>
     let z:=I'.pin (b,o) (a2j _ (a2j _ (mem_pinsAt hb e)))
     ⟨z.1,z.2.1⟩
    have hl:(c9a σ (own.map (·.2))).length = σ8.length:=by rw [← hw8,a4F]
    refine ⟨m',hm,i + 1,H',(I'.unpinned (pins:=[p])).weak hl (fun j v e=>?_),T.keep _ _ _ st7 fun b hb o e=>(pin' b hb o e).1,fun b hb=>?_,w'⟩
    ·rw [← hw8] at e
     exact (wipe_some e).1
    ·obtain ⟨o,e,_⟩:=T.obj _ _ st7 b hb
     exact (pin' b hb o e).2
   cases b with
   | false=>exact fin I9 (by simpa using q9)
   | true =>
    simp only [if_true] at q9 ⊢
    refine thnF (pe.run _ s9 σ8 H9 _ I9 q9) fun z s10 ⟨yv,H10,I10,r10,acc,hD10,hz10,nx⟩=>?_
    exact app_ok (X:=X.blk s3 H3 scope ce fp) I10 hD10 hz10 r10 fun s11 I11=>fin I11 nx
 exact codeAny_compStart_list loop (T.self X.A 0 _ _ _ st4 loop)
/-- a comprehension over a range, while an exception is handled -/
theorem pe_lcH {elt tg iter:Expr} {ifs:List Expr} {scope:Scope} {own:List (Str × Nat)} {pos:Pos} {wi:TI} {g:TG} {tt:TT} {te:TE} (hot:L2H.HotC X) (nd:X.N.Nodup) (hi:L2H.PIH X tg iter wi) (ok:BlkOk X.N X.env.scope scope own)
  (G:∀ (s:z7) (H:Hp) (C:v4) (cl:List (Str × v4)) (fp:List v4),PG (X.blk s H scope (b54 scope cl C X.env) fp) tg g)
  (T1:∀ (s:z7) (H:Hp) (C:v4) (cl:List (Str × v4)) (fp:List v4),PTs (X.blk s H scope (b54 scope cl C X.env) fp) ifs tt)
  (E1:∀ (s:z7) (H:Hp) (C:v4) (cl:List (Str × v4)) (fp:List v4),PE (X.blk s H scope (b54 scope cl C X.env) fp) elt te) (fold:∀ x,foldedSetIterable iter X.env x = pure x:=by intro _; rfl) :
  PE X (.ListComp elt [⟨tg,iter,ifs,0⟩] scope pos) (tLc wi g tt te (own.map (·.2))):=by
 refine ⟨fun pins s σ H Q I h=>?_⟩
 rw [eval_ListComp]
 refine d3h hot nd I hi ok G T1 E1 fold h fun D C s' m H' I' q hn f=>⟨m,hn,fun h'' sb=>?_⟩
 obtain ⟨f0,f1,f2,f3,f4,f5⟩:=f
 exact ⟨.ref D,H',I'.turned (t':=s'.toks) (fun b o hb e=>(sb.2 b hb).trans e) f0 f1 f3 f4 f5,rfl,q⟩
end
end AqH
namespace Aq
open PySem PySem.Spec PyProof.Rows L2
section
variable {K:b0} {W:WX} {C:C0} {F F' H H':Hp} {σ σ':a3j} {ρ ρ':List AV}
/-- a name is given just this value -/
theorem Rep.setO {i:Nat} {v:V} (R:Rep K C F H σ ρ):Rep K C F H (σ.set i (some v)) (ρ.set i (.opq v)):=by
 refine ⟨by rw [o8,o8]; exact R.len,R.sub,R.gr,R.keep,R.there,R.nw,R.mf,R.tp,fun j b e=>?_,fun j k l' hne h1 h2=>?_⟩
 ·by_cases hj:i = j
  ·subst hj
   by_cases hi:i < ρ.length
   ·rw [j8 hi] at e
    cases e
    exact ⟨some v,by rw [j8 (by rw [R.len]; exact hi)],rfl⟩
   ·rw [s0 (by rw [o8]; omega)] at e; cases e
  ·rw [j4 hj] at e
   obtain ⟨o,eo,hs⟩:=R.slot j b e
   exact ⟨o,by rw [j4 hj]; exact eo,hs⟩
 ·have back:∀ n l',a12 (σ.set i (some v)) (ρ.set i (.opq v)) n l' → a12 σ ρ n l':=fun n l' ⟨b,e,f⟩=>by
   by_cases hn:i = n
   ·subst hn
    by_cases hi:i < ρ.length
    ·rw [j8 hi] at e; cases e; cases f.mut
    ·rw [s0 (by rw [o8]; omega)] at e; cases e
   ·rw [j4 hn] at e f; exact ⟨b,e,f⟩
  exact R.apart j k l' hne (back j l' h1) (back k l' h2)
theorem Slot.F0 {G:Hp} {a:AV} {o:Option V} (h:Slot K C F H a o):Slot K { C with F0:=G } F H a o:=by
 cases a <;> exact h
/-- what is frozen now is taken for what was at the entry -/
theorem Rep.from (R:Rep K C F H σ ρ):Rep K { C with F0:=F } F H σ ρ :=
 ⟨R.len,R.sub,.refl _,R.keep,R.there,fun _ _ _ n=>n,fun l hl=>⟨by obtain ⟨h1,o,h2⟩:=R.mf l hl; exact R.nw l o h2 h1,(R.mf l hl).2⟩,R.tp,fun i a e=>by
  obtain ⟨o,eo,hs⟩:=R.slot i a e
  exact ⟨o,eo,hs.F0⟩,R.apart⟩
theorem Rep.back (R:Rep K C F H σ ρ) (R':Rep K { C with F0:=F } F' H' σ' ρ'):Rep K C F' H' σ' ρ' :=
 ⟨R'.len,R'.sub,R.gr.trans R'.gr,R'.keep,R'.there,fun b o e n=>R'.nw b o e (R.nw b o e n),R.mf,R'.tp,fun i a e=>by
  obtain ⟨o,eo,hs⟩:=R'.slot i a e
  exact ⟨o,eo,by cases a <;> exact hs⟩,R'.apart⟩
theorem a57.back {v:V} {r:RV} (h:a57 K { C with F0:=F } F' H' σ' ρ' v r):a57 K C F' H' σ' ρ' v r:=by
 cases r with
 | dat d=>exact h
 | bor i=>exact h
 | own a=>obtain ⟨l,e,m,hs,r⟩:=h; exact ⟨l,e,m,by cases a <;> exact hs,r⟩
 | tupO ds d=>exact h
/-- raise of an own class made with a text -/
def c9D (W:WX) (cls:m6):TS:=fun _ σ H=>W cls none σ H
def c6W (cls:m6):ASt:=fun D ρ=>D.ex cls none ρ
theorem c8M {cls:m6}:SS K W (c9D W cls) (c6W cls):=fun C D ρ F H σ D' R h xs _ _ _ _=>xs F H σ ρ cls none none R rfl h
/-- try: .. except .. as e: all that is raised is caught -/
def sTry (ev:Str → m6) (ns:List Str) (i:Nat) (b:ASt) (su:v4 → Str → ASt):ASt:=fun D ρ=>b { D with ex:=fun cls p ρ'=>∃ x,x ∈ ns ∧ cls = ev x ∧ p = none ∧ ∀ a,su a x { D with nx:=fun ρ2=>D.nx (ρ2.set i .un),bk:=fun ρ2=>D.bk (ρ2.set i .un),ct:=fun ρ2=>D.ct (ρ2.set i .un),ex:=X0 } (ρ'.set i (.opq (.ref a))) } ρ
def tTry (K:b0) (c:m6) (i:Nat) (tb:WX → TS) (ts:v4 → m6 → Option v4 → TS) (Wout:WX):TS:=fun D σ H=>tb (wAs K c i ts Wout D) D σ H
theorem d3x {Wout:WX} {ev:Str → m6} {ns:List Str} {c:m6} {i:Nat} {tb:WX → TS} {ts:v4 → m6 → Option v4 → TS} {b:ASt} {su:v4 → Str → ASt} (hb:∀ W,SS K W (tb W) b) (hm:∀ x ∈ ns,a6e K (ev x) c = some true) (hs:∀ a x,x ∈ ns → SS K W0 (ts a (ev x) none) (su a x)) :
  SS K W (tTry K c i tb ts Wout) (sTry ev ns i b su):=fun C D ρ F H σ D' R h xs n bk ct rt=>by
 refine hb _ { C with F0:=F } _ ρ F H σ D' R.from h (fun F1 H1 σ1 ρ1 cls p d R1 x1 q1=>?_) (fun F1 H1 σ1 ρ1 R1 s1 p1=>n F1 H1 σ1 ρ1 (R.back R1) s1 p1) (fun F1 H1 σ1 ρ1 R1 s1 p1=>bk F1 H1 σ1 ρ1 (R.back R1) s1 p1) (fun F1 H1 σ1 ρ1 R1 s1 p1=>ct F1 H1 σ1 ρ1 (R.back R1) s1 p1)
  fun v F1 H1 σ1 ρ1 r R1 s1 o1 p1=>rt v F1 H1 σ1 ρ1 r (R.back R1) s1 o1.back p1
 obtain ⟨x,hx,e,ep,q⟩:=q1
 subst e
 subst ep
 have ed:d = none:=x1
 subst ed
 refine ⟨true,hm x hx,fun _ a ha=>?_,fun z=>by cases z⟩
 have g:=R1.gr
 have R2:Rep K C F1 H1 (σ1.set i (some (.ref a))) (ρ1.set i (.opq (.ref a))):=(R.back R1).setO
 exact hs a x hx C _ _ F1 H1 _ _ R2 (q a) xs0 (fun F3 H3 σ3 ρ3 R3 s3 p3=>n F3 H3 _ _ R3.forget (g.trans s3) p3) (fun F3 H3 σ3 ρ3 R3 s3 p3=>bk F3 H3 _ _ R3.forget (g.trans s3) p3) (fun F3 H3 σ3 ρ3 R3 s3 p3=>ct F3 H3 _ _ R3.forget (g.trans s3) p3)
  fun v F3 H3 σ3 ρ3 r R3 s3 o3 p3=>rt v F3 H3 σ3 ρ3 r R3 (g.trans s3) o3 p3
/-- isinstance(e, C) of an exception in a slot -/
def c1q (i:Nat) (v:V) (b:Bool):TE:=fun σ H Q=>σ[i]? = some (some v) ∧ Q (.bl b) H
def c0x (i:Nat) (v:V) (b:Bool):AEx:=fun ρ _ P=>ρ[i]? = some (.opq v) ∧ P (.dat (.bool b)) ρ
theorem a5m {i:Nat} {v:V} {b:Bool}:ES K W (c1q i v b) (c0x i v b):=fun C ρ PX P F H σ Q R h _ k=>by
 obtain ⟨o,eo,hs⟩:=R.slot i _ h.1
 have:o = some v:=hs
 subst this
 exact ⟨eo,k (.bl b) F H (.dat (.bool b)) ρ R (.refl _) (.bl b) h.2⟩
end
section
variable {X:Cx}
theorem d02 {e:Expr} {t u:TE} (h:PE X e t) (k:∀ σ H Q,u σ H Q → t σ H Q):PE X e u:=⟨fun pins s σ H Q I q=>h.run pins s σ H Q I (k σ H Q q)⟩
theorem c78 {a D:v4} {oe:Obj} (hp:(a,oe) ∈ X.pn) (C:ExcC X.K D) (hz:Zc (.ref D) none oe) (hf:∃ vs,oe.data = .fields vs):d2g X (.builtin "isinstance") (rIsE X.K D a):=by
 intro pins s σ H xs us Q I r h
 obtain ⟨c,cv,b,rfl,hcv,e,q⟩:=h
 cases r with
 | cons rx rr =>
  cases rr with
  | cons rt rr =>
   cases rr
   cases rx
   have ec:=hcv _ rt
   subst ec
   have hget:=(I.pin (a,oe) (a0o _ hp)).1
   obtain ⟨vs,hv⟩:=hf
   have J:PySem.W.InstAt s.heap a oe D none:=by
    obtain ⟨oc,od,oda,osl⟩:=oe
    obtain ⟨h1,h2⟩:=hz
    dsimp only at h1 h2 hv
    subst h1 h2 hv
    exact ⟨hget,rfl,rfl,trivial⟩
   exact PySem.W.kia_one (PySem.W.handS_kitx_exc C.hg C.hk C.hs C.hd C.ha C.hn C.ht C.hm) I.kIn J e (fun z=>nomatch z) fun tk=>⟨.bl b,H,I.kept (t':=tk) fun _ _ z=>z,rfl,q⟩
theorem a5o {i:Nat} {a D:v4} {oe:Obj} {e f:Expr} {c:V} {cv:m6} {b:Bool} {p pos:Pos} (hp:(a,oe) ∈ X.pn) (C:ExcC X.K D) (hz:Zc (.ref D) none oe) (hf:∃ vs,oe.data = .fields vs) (hk:a6f X.K (.ref D) cv = some b) (hc:∀ u,RelV c u → u = cv)
  (he:PE X e (i3 i)) (hF:PE X f (tC c)) (hg:Gl X "isinstance") (hm:X.mg "isinstance" = none)
  (he1:z5 [e,f] X.env = (false,c9O e X.env) :: z5 [f] X.env:=by rfl) (he2:z5 [f] X.env = (false,c9O f X.env) :: z5 [] X.env:=by rfl) (hpl:(d2r pos (z5 [f] X.env)).any (·.1) = false:=by rfl) :
  PE X (.Call (.Name "isinstance" p) [e,f] [] pos) (c1q i (.ref a) b) :=
 d02 (y5 (c78 hp C hz hf) hg hm (by decide +kernel) (c6 he (c6 hF d8 he2) he1) (by decide) (by decide) he1 hpl) fun σ H Q h=>⟨_,h.1,c,cv,b,rfl,hc,hk,h.2⟩
end
end Aq
namespace Aq
open PySem PySem.Spec PyProof.Rows L2
def b2Y (v:V) (z:Str):Ct:=fun ρ P _=>ρ = [.opq v] ∧ ∀ ρ',P (.dat (.str z)) ρ'
theorem c3E {v:V} {z:Str} (ρ:List AV) (P:RV → List AV → Prop) (PX:PXT) (h:b2Y v z ρ P PX):ρ.length = 1:=by rw [h.1]; rfl
/-- class D of an own exception, told z -/
structure FnE (P:a2q) (w:i6) (K:b0) (mg:Str → Option m6) (base:b8V) (n:Nat) (x:Str) (ps:List Str) (T:v4 → Str → Prop):Prop where
 ex:∃ f fd,mg x = some (.ref f) ∧ a4w K (.ref f) = true ∧ Binds K fd ps [] ∧
  ∀ (A:b6Y) (outer:List Env) (s:z7) (H:Hp) (args:Args) (us:List m6) (vs:List V) (Q:VK) (p:v4 × Obj) (D:v4) (z:Str),L2H.RoomH n A → L2H.Hot1 A p → L2H.PinOk outer H s p → Zc (.ref D) none p.2 → T D z →
   Env0 P w K mg base A outer s H → BindsTo s fd args (ps.zip us) → Vals vs us → spOf K (b2Y (.ref p.1) z) vs H Q E0 → codeAny (a55 P w) A (.call (.ref f) args) (CR CX0 outer P w H s Q E0) s
section
variable {P:a2q} {w:i6} {K:b0} {mg:Str → Option m6} {base:b8V}
theorem FnE.mk0 {k:Nat} {x:Str} {st:Stmt} {f:v4} {fd:w8} {N:List Str} {y:Str} {T:v4 → Str → Prop} {B:v4 → Str → Bool} {t:V → (Str → Bool) → TS} {a:V → (Str → Bool) → ASt} (F:FnP K x st f fd) (S:a0B N [y] (i4 st)) (gm:mg x = some (.ref f)) (gb:Binds K fd [y] [])
  (hs:∀ W v bs,SS K W (t v bs) (a v bs)) (hp:∀ D v z,T D z → ∀ ρ P PX,b2Y v z ρ P PX → a v (B D) { nx:=fun ρ'=>P (.dat .none) ρ',rt:=P,ex:=PX } (ρ ++ g5 (N.length - ρ.length) .un))
  (hd:∀ (cdv:m6) (A:b6Y) (outer:List Env) (s:z7) (H:Hp) (p:v4 × Obj) (D:v4) (z:Str),T D z → L2H.Hot1 A p → Zc (.ref D) none p.2 → L2H.RoomH k (A.deeper (envOfC x (i4 st) s.heap.objs.size f cdv)) →
   PSs (L2H.cxH CX0 P w K mg base N x (i4 st) f cdv A outer s H E0 p) (a0r st) (t (.ref p.1) (B D))):FnE P w K mg base (k + 1) x [y] T:=by
 obtain ⟨oc,od,dV,kV,doc,pm,an,cdv,ct,osl,rfl,lk,hcd,_,_⟩:=F.ex
 refine ⟨f,_,gm,F.kp,gb,fun A outer s H args us vs Q p D z hr hot hpin hz hT e0 hb r hsp=>?_⟩
 have hl:vs.length = 1:=b0W c3E hsp
 have KX:K.In s.heap:=e0.mod.kin.keeps fun b o e=>(e0.bs b o e).1
 have lim:s.heap.NoLimit:=e0.mod.nolimit.keeps fun b o e=>(e0.bs b o e).1
 have kinds:∀ q ∈ [y].zip us,(i4 st).names.lookup q.1 = some .local ∨ ((i4 st).names.lookup q.1 = some .cell ∧ ((c0q (s.heap.objs.size + 1) (i4 st).names []).lookup q.1).isSome = true):=fun ⟨n,v⟩ hy=>by
  rcases S.par n (List.of_mem_zip hy).1 with q | q
  ·exact .inl q
  ·exact .inr ⟨q,PySem.W.cellsFrom_some _ _ _ (.inl q)⟩
 refine codeAny_call_function hr.depth (KX _ _ lk) rfl S.co S.gen rfl (PySem.W.codeRec_of KX hcd) (hb _ _ _ _ ?_)
 refine wpAny_newFunctionEnv_cells S.kind kinds fun env he s1 x1=>?_
 subst he
 refine ⟨lim.keeps x1.toInCall.keep,codeAny_func ?_⟩
 have D1:=hd cdv A outer s H p D z hT hot hz (hr.deeper _)
 have I:Inv (L2H.cxH CX0 P w K mg base N x (i4 st) f cdv A outer s H E0 p) [] (L2.start N vs) H s1:=L2H.inv_startH S hpin e0 hl r x1
 have B1:=b87 (N:=N) hsp (hs (fun _ _ _ _=>False) (.ref p.1) (B D)) (fun ρ P PX h=>hp D (.ref p.1) z hT ρ P PX h)
 refine wpAny_mono (D1.run [] s1 (L2.start N vs) H _ I B1) (fun fl s' hs=>?_) fun e s' hs=>?_
 ·have fin:∀ {σ':a3j} {H':Hp} {v:V} {u:m6},Inv (L2H.cxH CX0 P w K mg base N x (i4 st) f cdv A outer s H E0 p) [] σ' H' s' → RelV v u → Q v H' → CE outer P w H s Q u s' :=
   fun {σ' H' v u} J rv q=>⟨v,H',J.os,J.bare,J.base,J.hok,rv,q⟩
  cases fl with
  | ret u =>
   obtain ⟨v,σ',H',J,rv,q⟩:=hs
   exact fin J rv q
  | next =>
   obtain ⟨σ',H',J,q⟩:=hs
   exact fin (v:=V.non) (u:=Value.none) J rfl q
  | brk =>
   obtain ⟨_,_,_,q⟩:=hs
   exact q.elim
  | cont =>
   obtain ⟨_,_,_,q⟩:=hs
   exact q.elim
 ·exact hs
/-- its call in the suite -/
theorem d01 {X:Cx} {n k:Nat} {x y:Str} {a D:v4} {oe:Obj} {pn:List (v4 × Obj)} {T:v4 → Str → Prop} {z:Str} {i:Nat} {e:Expr} {q pos:Pos} (G:FnE X.prog X.w X.K X.mg X.base n x [y] T) (hr:Room k X.A) (hnk:n ≤ k) (hz:L2N.Zn (.ref D) none oe) (hf:∃ vs,oe.data = .fields vs) (hT:T D z) (hg:Gl X x)
  (he:PE (X.suite a ((a,oe) :: pn)) e (i3 i)) (hdb:(x == ("__debug__" : Str)) = false:=by decide) (he1:z5 [e] X.env = (false,c9O e X.env) :: z5 [] X.env:=by rfl) (hpl:(d2r pos (z5 [] X.env)).any (·.1) = false:=by rfl) :
  PE (X.suite a ((a,oe) :: pn)) (.Call (.Name x q) [e] [] pos) (r8 (spOf X.K (b2Y (.ref a) z)) [] E0 (d3 (i3 i) p7)):=by
 obtain ⟨f,fd,gm,kp,gb,run⟩:=G.ex
 refine ⟨fun pins s σ H Q I h=>?_⟩
 refine wpAny_Call_Name_kw (ld_glob I hg gm ?_ hdb)
 have pa:PA (X.suite a ((a,oe) :: pn)) [e] (d3 (i3 i) p7):=c6 he d8 he1
 refine PySem.W.callWith_K (h₀:=X.base) I.ok.mod.kin kp (thn (pa.run pos pins s σ H _ I h) fun us s1 ⟨vs,H1,I1,r,q⟩=>⟨I1.kIn,?_⟩) he1 hpl
 have q:spOf X.K (b2Y (.ref a) z) (vs ++ []) H1 Q E0:=q
 rw [a1b] at q
 have hl:us.length = [y].length:=by rw [← r.length]; exact b0W c3E q
 have b:=gb s1 us I1.kIn (by rw [a1b]; exact hl)
 rw [a1b] at b
 have P1:=I1.pin (a,oe) (a0o _ e6)
 have hpin:L2H.PinOk X.stack H1 s1 (a,oe):=⟨P1.1,P1.2.1,fun hm=>(n8.mp (I1.stkSub a hm)).elim P1.2.2.1 P1.2.2.2.1,P1.2.2.2.2⟩
 have hot:L2H.Hot1 (X.suite a ((a,oe) :: pn)).A (a,oe):=by
  obtain ⟨vs,hv⟩:=hf
  exact ⟨rfl,vs,hv,hz.2.2 vs hv⟩
 have rm:L2H.RoomH n (X.suite a ((a,oe) :: pn)).A:=⟨(hr.mono hnk).dp,(hr.mono hnk).un⟩
 refine wpAny_call (d2t (run _ X.stack s1 H1 ⟨us,[]⟩ us vs Q (a,oe) D z rm hot hpin hz.zc hT I1.env0 b r q) fun r s' hq=>?_)
 cases r with
 | error e=>exact hq.elim
 | ok fl =>
  cases fl with
  | ret u=>exact I1.after hq
  | next=>exact False.elim hq
  | brk=>exact False.elim hq
  | cont=>exact False.elim hq
end
end Aq
namespace Aq
open PySem PySem.Spec PyProof.Rows L2
def dK:c8 → Option Key
 | .int i=>some (.inl i)
 | .str s=>some (.inr s)
 | _=>none
theorem d2K (k:Key):dK (kD k) = some k:=by cases k <;> rfl
theorem kD_dK {d:c8} {k:Key} (h:dK d = some k):d = kD k:=by
 cases d with
 | int i=>cases h; rfl
 | str s=>cases h; rfl
 | _=>cases h
section
variable {κ α:Type} [DecidableEq κ]
def c0g (es:List (κ × α)) (k:κ):Option α:=(es.find? fun e=>decide (e.1 = k)).map (·.2)
def d3l (es:List (κ × α)) (k:κ) (d:α):List (κ × α):=if (es.any fun e=>decide (e.1 = k)) = true then es.map (fun e=>if e.1 = k then (e.1,d) else e) else es ++ [(k,d)]
end
/-- the pairs with the keys as keys -/
def ukD:List (c8 × c8) → List (Key × c8)
 | []=>[]
 | (d,v) :: es=>(match dK d with
  | some k=>(k,v) :: ukD es
  | none=>ukD es)
def kdK (es:List (Key × c8)):List (c8 × c8):=es.map fun e=>(kD e.1,e.2)
section
variable {K:b0} {F H:Hp}
abbrev DrK (K:b0) (F:Hp):List (Key × V) → List (Key × c8) → Prop:=a22 fun p q=>p.1 = q.1 ∧ Dr K F p.2 q.2
theorem DrKV.uk:∀ {kvs:List (Key × V)} {es:List (c8 × c8)},DrKV K F kvs es → DrK K F kvs (ukD es) ∧ es = kdK (ukD es)
 | _,_,.nil=>⟨.nil,rfl⟩
 | _,_,.cons (k:=k) (d:=d) (ds:=ds) h t=>by
  obtain ⟨a,b⟩:=DrKV.uk t
  have e:ukD ((kD k,d) :: ds) = (k,d) :: ukD ds:=by
   show (match dK (kD k) with
    | some k=>(k,d) :: ukD ds
    | none=>ukD ds) = _
   rw [d2K]
  rw [e]
  exact ⟨.cons ⟨rfl,h⟩ a,by rw [kdK,i8,← kdK,← b]⟩
theorem DrKV.of:∀ {kvs:List (Key × V)} {es:List (Key × c8)},DrK K F kvs es → DrKV K F kvs (kdK es)
 | _,_,.nil=>.nil
 | _,_,.cons (a:=p) (b:=q) h t=>by
  obtain ⟨k,v⟩:=p
  obtain ⟨k',d⟩:=q
  obtain ⟨e,h⟩:=h
  cases e
  exact .cons h (DrKV.of t)
variable {κ:Type} [DecidableEq κ]
theorem c3V {kvs:List (κ × V)} {es:List (κ × c8)} {k:κ} (h:a22 (fun (p:κ × V) (q:κ × c8)=>p.1 = q.1 ∧ Dr K F p.2 q.2) kvs es):(valV kvs k = none ∧ c0g es k = none) ∨ ∃ v d,valV kvs k = some v ∧ c0g es k = some d ∧ Dr K F v d:=by
 induction h with
 | nil=>exact .inl ⟨rfl,rfl⟩
 | @cons p q kvs es r t ih =>
  by_cases e:p.1 = k
  ·refine .inr ⟨p.2,q.2,?_,?_,r.2⟩
   ·simp [valV,a3G,e]
   ·have:q.1 = k:=r.1.symm.trans e
    simp [c0g,a3G,this]
  ·have e2:¬ q.1 = k:=fun z=>e (r.1.trans z)
   have a1:valV (p :: kvs) k = valV kvs k:=by simp [valV,a3G,e]
   have a2:c0g (q :: es) k = c0g es k:=by simp [c0g,a3G,e2]
   rw [a1,a2]
   exact ih
theorem Lk.dict {v:V} {es:List (c8 × c8)} (s:a5K F H) (h:Lk K F H v (.dict es)):∃ l kvs,v = .ref l ∧ H l = some (.dK kvs) ∧ DrK K F kvs (ukD es):=by
 rcases h with h | ⟨l,xs,ds',e1,e2,h1,h2⟩ | ⟨l,kvs,es',e1,e2,h1,h2⟩
 ·cases h with
  | dic h1 h2=>exact ⟨_,_,rfl,s _ _ h1,h2.uk.1⟩
 ·cases e2
 ·cases e2
  exact ⟨l,kvs,e1,h1,h2.uk.1⟩
theorem Lk.key {v:V} {d:c8} {k:Key} (h:Lk K F H v d) (e:dK d = some k):v = kV k:=by
 cases d with
 | int i=>cases e; exact h.int
 | str i=>cases e; exact h.str
 | _=>cases e
end
section
variable {K:b0} {W:WX}
def aDNew:AEx:=fun ρ _ P=>P (.own (.mdk none [])) ρ
def kDG (P:RV → List AV → Prop) (ρ:List AV) (d k:c8):Prop:=match d,dK k with
 | .dict es,some k=>(match c0g (ukD es) k with
  | some v=>P (.dat v) ρ
  | none=>False)
 | _,_=>False
theorem c8h {P:RV → List AV → Prop} {ρ:List AV} {d k:c8} (h:kDG P ρ d k):∃ es kk v,d = .dict es ∧ dK k = some kk ∧ c0g (ukD es) kk = some v ∧ P (.dat v) ρ:=by
 unfold kDG at h
 split at h
 ·rename_i es kk ek
  split at h
  ·rename_i v ev
   exact ⟨es,kk,v,rfl,ek,ev,h⟩
  ·exact h.elim
 ·exact h.elim
def c9U (a b:AEx):AEx:=fun ρ PX P=>a ρ PX fun r1 ρ1=>b ρ1 PX fun r2 ρ2=>a0J (r1.hold.look ρ2) fun d=>a0J (r2.look ρ2) fun k=>kDG P ρ2 d k
theorem c93 {ta tb:TE} {a b:AEx} (ha:ES K W ta a) (hb:ES K W tb b):ES K W (tDGet ta tb) (c9U a b):=fun C ρ PX P F H σ Q R h xs k =>
 ha C ρ PX _ F H σ _ R h xs fun v F1 H1 r1 ρ1 R1 s1 o1 p1=>by
  obtain ⟨F2,R2,s2,o2,n2⟩:=a2r R1 o1
  refine hb C ρ1 PX _ F2 H1 σ _ R2 p1 xs fun u F3 H3 r2 ρ3 R3 s3 o3 p3=>?_
  obtain ⟨d,ed,p3⟩:=a0c p3
  obtain ⟨e,ee,p3⟩:=a0c p3
  have l1:=(o2.stay s3 R3 n2).lk R3 ed
  have l2:=o3.lk R3 ee
  obtain ⟨es,kk,v',rfl,ek,ev',p3⟩:=c8h p3
  obtain ⟨l,kvs,rfl,hl,dr⟩:=l1.dict R3.sub
  rw [l2.key ek]
  rcases c3V (k:=kk) dr with ⟨_,z⟩ | ⟨w,dd,z1,z2,hd⟩
  ·rw [z] at ev'; cases ev'
  ·rw [z2] at ev'
   cases ev'
   exact ⟨l,w,rfl,.inl ⟨kvs,kk,.inl hl,rfl,z1.symm⟩,k w F3 H3 (.dat _) ρ3 R3 ((s1.trans s2).trans s3) hd p3⟩
def kDI (neg:Bool) (P:RV → List AV → Prop) (ρ:List AV) (k d:c8):Prop:=match d,dK k with
 | .dict es,some k=>P (.dat (.bool (neg != (c0g (ukD es) k).isSome))) ρ
 | _,_=>False
def aDIn (neg:Bool) (a b:AEx):AEx:=fun ρ PX P=>a ρ PX fun r1 ρ1=>b ρ1 PX fun r2 ρ2=>a0J (r1.hold.look ρ2) fun k=>a0J (r2.look ρ2) fun d=>kDI neg P ρ2 k d
theorem c8a {neg:Bool} {ta tb:TE} {a b:AEx} (ha:ES K W ta a) (hb:ES K W tb b):ES K W (fun σ H Q=>ta σ H fun y H1=>tb σ H1 fun x H2=>∃ a o,x = .ref a ∧ DGet H2 a y o ∧ Q (.bl (neg != o.isSome)) H2) (aDIn neg a b):=fun C ρ PX P F H σ Q R h xs k =>
 ha C ρ PX _ F H σ _ R h xs fun v F1 H1 r1 ρ1 R1 s1 o1 p1=>by
  obtain ⟨F2,R2,s2,o2,n2⟩:=a2r R1 o1
  refine hb C ρ1 PX _ F2 H1 σ _ R2 p1 xs fun u F3 H3 r2 ρ3 R3 s3 o3 p3=>?_
  obtain ⟨d,ed,p3⟩:=a0c p3
  obtain ⟨e,ee,p3⟩:=a0c p3
  have l1:=(o2.stay s3 R3 n2).lk R3 ed
  have l2:=o3.lk R3 ee
  unfold kDI at p3
  split at p3
  ·rename_i es kk ek
   obtain ⟨l,kvs,rfl,hl,dr⟩:=l2.dict R3.sub
   rw [l1.key ek]
   rcases c3V (k:=kk) dr with ⟨z1,z⟩ | ⟨w,dd,z1,z2,hd⟩
   ·rw [z] at p3
    exact ⟨l,none,rfl,.inl ⟨kvs,kk,.inl hl,rfl,z1.symm⟩,k _ F3 H3 (.dat (.bool _)) ρ3 R3 ((s1.trans s2).trans s3) (.bl _) p3⟩
   ·rw [z2] at p3
    exact ⟨l,some w,rfl,.inl ⟨kvs,kk,.inl hl,rfl,z1.symm⟩,k _ F3 H3 (.dat (.bool _)) ρ3 R3 ((s1.trans s2).trans s3) (.bl _) p3⟩
  ·exact p3.elim
theorem c57 {ta tb:TE} {a b:AEx} (ha:ES K W ta a) (hb:ES K W tb b):ES K W (tDNotIn ta tb) (aDIn true a b):=fun C ρ PX P F H σ Q R h xs k=>by
 have:=c8a (neg:=true) ha hb C ρ PX P F H σ Q R h xs k
 simpa [tDNotIn] using this
def kDG2 (P:RV → List AV → Prop) (ρ:List AV) (d k x:c8):Prop:=match d,dK k with
 | .dict es,some k=>P (.dat ((c0g (ukD es) k).getD x)) ρ
 | _,_=>False
def c6h:c8 → Prop
 | .dict _=>True
 | _=>False
def d0u (P:RV → List AV → Prop) (ρ:List AV) (d k:c8) (r:RV):Prop:=match r with
 | .dat x=>kDG2 P ρ d k x
 | _=>False
def d2B (a b c:AEx):AEx:=fun ρ PX P=>a ρ PX fun r1 ρ1=>a0J (r1.hold.look ρ1) fun d0=>c6h d0 ∧ b ρ1 PX fun r2 ρ2=>c ρ2 PX fun r3 ρ3=>a0J (r1.hold.look ρ3) fun d=>a0J (r2.hold.look ρ3) fun k=>d0u P ρ3 d k r3.hold
def c8k (D:AEnds) (d:c8) (i:Nat) (ρ:List AV) (k:c8) (o:Option AV):Prop:=match dK k,o with
 | some k,some (.mdk p es)=>es.length < k8 ∧ D.nx (ρ.set i (.mdk p (kdK (d3l (ukD es) k d))))
 | _,_=>False
def d3r (a b c:AEx):ASt:=fun D ρ=>a ρ D.ex fun r ρ1=>match r.hold with
 | .dat d=>b ρ1 D.ex fun rb ρ2=>(match rb with
  | .bor i=>c ρ2 D.ex fun rc ρ3=>a0J (rc.look ρ3) fun k=>c8k D d i ρ3 k (ρ3[i]?)
  | _=>False)
 | _=>False
theorem DrKV.len {F:Hp}:∀ {kvs:List (Key × V)} {es:List (c8 × c8)},DrKV K F kvs es → kvs.length = es.length
 | _,_,.nil=>rfl
 | _,_,.cons _ t=>by rw [v6,v6,DrKV.len t]
def sNewT (i:Nat):ASt:=fun D ρ=>D.nx (ρ.set i (.mdt none []))
def b0D:List c8 → Option (List Key)
 | []=>some []
 | d :: ds=>match dK d,b0D ds with
  | some k,some ks=>some (k :: ks)
  | _,_=>none
theorem c3C {F:Hp}:∀ {vs:List V} {ds:List c8} {ks:List Key},DrAll K F vs ds → b0D ds = some ks → vs = ks.map kV
 | _,_,ks,.nil,e=>by cases e; rfl
 | _,_,ks,.cons (d:=d) (ds:=ds) h t,e=>by
  unfold b0D at e
  cases q1:dK d with
  | none=>simp [q1] at e
  | some k =>
   cases q2:b0D ds with
   | none=>simp [q1,q2] at e
   | some l =>
    simp only [q1,q2,a0g] at e
    subst e
    rw [c3C t q2,i8]
    congr 1
    exact Lk.key (F:=F) (H:=F) (.inl h) q1
def c6m (D:AEnds) (d:c8) (i:Nat) (ρ:List AV) (ks:Option (List Key)) (o:Option AV):Prop:=match ks,o with
 | some ks,some (.mdt p es)=>es.length < k8 ∧ D.nx (ρ.set i (.mdt p (d3l es ks d)))
 | _,_=>False
/-- d[(k, ..)] = v -/
def d3s (a b:AEx) (c:AAx):ASt:=fun D ρ=>a ρ D.ex fun r ρ1=>match r.hold with
 | .dat d=>b ρ1 D.ex fun rb ρ2=>(match rb with
  | .bor i=>c ρ2 D.ex fun rs ρ3=>a24 (b4Y rs) fun ds=>ds.length ≤ k8 ∧ c6m D d i ρ3 (b0D ds) (ρ3[i]?)
  | _=>False)
 | _=>False
theorem c9S.len {F:Hp} {kvs:List (List Key × V)} {es:List (List Key × c8)} (h:c9S K F kvs es):kvs.length = es.length:=c0l h
end
end Aq
namespace Aq
open PySem PySem.Spec PyProof.Rows L2
section
variable {K:b0} {W:WX}
def aIfE (c:ATx) (a b:AEx):AEx:=fun ρ PX P=>c ρ PX fun k ρ1=>if k = true then a ρ1 PX P else b ρ1 PX P
end
section
variable {d:c8} {ds es:List c8} {i j:Int} {b c:Bool} {p:Option Nat} {ρ:List AV} {n:Nat} {PX:PXT} {D:AEnds} {P:PK} {kvs:List (c8 × c8)} {v:V}
theorem c3X:b6B (some (.opq v)) n ρ P = P (.bor n) ρ:=rfl
theorem c7B {ts:List (List Key × c8)}:b6B (some (.mdt p ts)) n ρ P = P (.bor n) ρ:=rfl
theorem c7j {m:Nat} {rs:List RV} {ts:List (List Key × c8)}:c4c (some (.mdt p ts)) n ρ rs m = (a0n ρ rs (m + 1)).map fun p=>(.mdt (some m) ts :: p.1,n :: p.2):=rfl
theorem c3W {m:Nat} {rs:List RV}:c4c (some (.opq v)) n ρ rs m = (a0n ρ rs m).map fun p=>(.opq v :: p.1,p.2):=rfl
theorem b9r {q:Option Nat}:(AV.mdk p kvs).retag q = .mdk q kvs:=rfl
theorem c6J:(AV.mdk p kvs).tag = p:=rfl
theorem b9s {q:Option Nat} {ts:List (List Key × c8)}:(AV.mdt p ts).retag q = .mdt q ts:=rfl
theorem c6K {ts:List (List Key × c8)}:(AV.mdt p ts).tag = p:=rfl
def kIfE (a b:AEx) (PX:PXT) (P:PK) (k:Bool) (ρ:List AV):Prop:=if k = true then a ρ PX P else b ρ PX P
theorem d1w {x:ATx} {a b:AEx}:aIfE x a b ρ PX P = x ρ PX (kIfE a b PX P):=rfl
theorem c26 {cls:m6}:c6W cls D ρ = D.ex cls none ρ:=rfl
def exT (ev:Str → m6) (ns:List Str) (i:Nat) (su:v4 → Str → ASt) (D:AEnds):PXT:=fun cls q ρ'=>∃ x,x ∈ ns ∧ cls = ev x ∧ q = none ∧ ∀ a,su a x { D with nx:=fun ρ2=>D.nx (ρ2.set i .un),bk:=fun ρ2=>D.bk (ρ2.set i .un),ct:=fun ρ2=>D.ct (ρ2.set i .un),ex:=X0 } (ρ'.set i (.opq (.ref a)))
theorem d1O {ev:Str → m6} {ns:List Str} {x:ASt} {su:v4 → Str → ASt}:sTry ev ns n x su D ρ = x { D with ex:=exT ev ns n su D } ρ:=rfl
theorem c9h {ev:Str → m6} {ns:List Str} {i:Nat} {su:v4 → Str → ASt} {D:AEnds} (x:Str) (hx:x ∈ ns) (h:∀ a,su a x { D with nx:=fun ρ2=>D.nx (ρ2.set i .un),bk:=fun ρ2=>D.bk (ρ2.set i .un),ct:=fun ρ2=>D.ct (ρ2.set i .un),ex:=X0 } (ρ.set i (.opq (.ref a)))):exT ev ns i su D (ev x) none ρ:=⟨x,hx,rfl,rfl,h⟩
theorem c1w {ρ1 ρ':List AV} {is:List Nat} {cls:m6} {q:Option (Str × c8)}:bkX PX ρ1 is cls q ρ' = PX cls q (a44 ρ' is 0 ρ1):=rfl
theorem d1x {i:Nat}:c0x i v b ρ PX P = (ρ[i]? = some (.opq v) ∧ P (.dat (.bool b)) ρ):=rfl
theorem c7p:aDNew ρ PX P = P (.own (.mdk none [])) ρ:=rfl
def kDGb (P:PK) (r2:RV) (ρ:List AV) (d:c8):Prop:=a0J (r2.look ρ) (kDG P ρ d)
def kDGa (P:PK) (r1 r2:RV) (ρ:List AV):Prop:=a0J (r1.look ρ) (kDGb P r2 ρ)
def kDG1 (b:AEx) (PX:PXT) (P:PK) (r1:RV) (ρ:List AV):Prop:=b ρ PX (kDGa P r1.hold)
theorem c7n {x y:AEx}:c9U x y ρ PX P = x ρ PX (kDG1 y PX P):=rfl
def kDGo (P:PK) (ρ:List AV) (o:Option c8):Prop:=match o with
 | some v=>P (.dat v) ρ
 | none=>False
theorem d1q {d:c8}:kDGo P ρ (some d) = P (.dat d) ρ:=rfl
def kDGk (P:PK) (ρ:List AV) (es:List (c8 × c8)) (k:Option Key):Prop:=match k with
 | some k=>kDGo P ρ (c0g (ukD es) k)
 | none=>False
theorem z_dg {k:c8}:kDG P ρ (.dict kvs) k = kDGk P ρ kvs (dK k):=by
 unfold kDG kDGk
 cases dK k with
 | none=>rfl
 | some k=>rfl
theorem d1p {k:Key}:kDGk P ρ kvs (some k) = kDGo P ρ (c0g (ukD kvs) k):=rfl
theorem d1t:dK (.int i) = some (.inl i):=rfl
theorem d1u {z:Str}:dK (.str z) = some (.inr z):=rfl
def kDIb (neg:Bool) (P:PK) (r2:RV) (ρ:List AV) (k:c8):Prop:=a0J (r2.look ρ) (kDI neg P ρ k)
def kDIa (neg:Bool) (P:PK) (r1 r2:RV) (ρ:List AV):Prop:=a0J (r1.look ρ) (kDIb neg P r2 ρ)
def kDI1 (neg:Bool) (b:AEx) (PX:PXT) (P:PK) (r1:RV) (ρ:List AV):Prop:=b ρ PX (kDIa neg P r1.hold)
theorem d1s {x y:AEx}:aDIn b x y ρ PX P = x ρ PX (kDI1 b y PX P):=rfl
def kDIk (neg:Bool) (P:PK) (ρ:List AV) (es:List (c8 × c8)) (k:Option Key):Prop:=match k with
 | some k=>P (.dat (.bool (neg != (c0g (ukD es) k).isSome))) ρ
 | none=>False
theorem z_di {k:c8}:kDI b P ρ k (.dict kvs) = kDIk b P ρ kvs (dK k):=by
 unfold kDI kDIk
 cases dK k with
 | none=>rfl
 | some k=>rfl
theorem d1r {k:Key}:kDIk b P ρ kvs (some k) = P (.dat (.bool (b != (c0g (ukD kvs) k).isSome))) ρ:=rfl
def kD2d (P:PK) (r3:RV) (ρ:List AV) (d k:c8):Prop:=d0u P ρ d k r3
def kD2c (P:PK) (r2 r3:RV) (ρ:List AV) (d:c8):Prop:=a0J (r2.look ρ) (kD2d P r3 ρ d)
def kD2b (P:PK) (r1 r2 r3:RV) (ρ:List AV):Prop:=a0J (r1.look ρ) (kD2c P r2 r3.hold ρ)
def kD2a (c:AEx) (PX:PXT) (P:PK) (r1 r2:RV) (ρ:List AV):Prop:=c ρ PX (kD2b P r1 r2.hold)
def kD20 (b c:AEx) (PX:PXT) (P:PK) (r1:RV) (ρ:List AV) (d0:c8):Prop:=c6h d0 ∧ b ρ PX (kD2a c PX P r1)
def kD2 (b c:AEx) (PX:PXT) (P:PK) (r1:RV) (ρ:List AV):Prop:=a0J (r1.hold.look ρ) (kD20 b c PX P r1.hold ρ)
theorem c2Q {x y z:AEx}:d2B x y z ρ PX P = x ρ PX (kD2 y z PX P):=rfl
theorem c7l {d k x:c8}:d0u P ρ d k (.dat x) = kDG2 P ρ d k x:=rfl
def kD2k (P:PK) (ρ:List AV) (es:List (c8 × c8)) (x:c8) (k:Option Key):Prop:=match k with
 | some k=>P (.dat ((c0g (ukD es) k).getD x)) ρ
 | none=>False
theorem d1o {k x:c8}:kDG2 P ρ (.dict kvs) k x = kD2k P ρ kvs x (dK k):=by
 unfold kDG2 kD2k
 cases dK k with
 | none=>rfl
 | some k=>rfl
theorem c7m {k:Key} {x:c8}:kD2k P ρ kvs x (some k) = P (.dat ((c0g (ukD kvs) k).getD x)) ρ:=rfl
theorem c22:c6h (.dict kvs) = True:=rfl
def kPt3 (D:AEnds) (d:c8) (i:Nat) (ρ:List AV) (k:c8):Prop:=c8k D d i ρ k (ρ[i]?)
def d27 (D:AEnds) (d:c8) (i:Nat) (rc:RV) (ρ:List AV):Prop:=a0J (rc.look ρ) (kPt3 D d i ρ)
def kPt1 (c:AEx) (D:AEnds) (d:c8) (rb:RV) (ρ:List AV):Prop:=match rb with
 | .bor i=>c ρ D.ex (d27 D d i)
 | _=>False
def kPt0 (b c:AEx) (D:AEnds) (ρ:List AV) (r:RV):Prop:=match r with
 | .dat d=>b ρ D.ex (kPt1 c D d)
 | _=>False
def kPt (b c:AEx) (D:AEnds) (r:RV) (ρ:List AV):Prop:=kPt0 b c D ρ r.hold
theorem c7q {x y z:AEx}:d3r x y z D ρ = x ρ D.ex (kPt y z D):=rfl
theorem c2R {y z:AEx}:kPt0 y z D ρ (.dat d) = y ρ D.ex (kPt1 z D d):=rfl
theorem c2S {z:AEx}:kPt1 z D d (.bor n) ρ = z ρ D.ex (d27 D d n):=rfl
def kPt4 (D:AEnds) (d:c8) (i:Nat) (ρ:List AV) (p:Option Nat) (es:List (c8 × c8)) (k:Option Key):Prop:=match k with
 | some k=>es.length < k8 ∧ D.nx (ρ.set i (.mdk p (kdK (d3l (ukD es) k d))))
 | none=>False
theorem c2T {k:c8}:c8k D d n ρ k (some (.mdk p kvs)) = kPt4 D d n ρ p kvs (dK k):=by
 unfold c8k kPt4
 cases dK k with
 | none=>rfl
 | some k=>rfl
theorem c2U {k:Key}:kPt4 D d n ρ p kvs (some k) = (kvs.length < k8 ∧ D.nx (ρ.set n (.mdk p (kdK (d3l (ukD kvs) k d))))):=rfl
theorem c7v:sNewT n D ρ = D.nx (ρ.set n (.mdt none [])):=rfl
def kPT3 (D:AEnds) (d:c8) (i:Nat) (ρ:List AV) (ds:List c8):Prop:=ds.length ≤ k8 ∧ c6m D d i ρ (b0D ds) (ρ[i]?)
def d24 (D:AEnds) (d:c8) (i:Nat) (rs:List RV) (ρ:List AV):Prop:=a24 (b4Y rs) (kPT3 D d i ρ)
def kPT1 (c:AAx) (D:AEnds) (d:c8) (rb:RV) (ρ:List AV):Prop:=match rb with
 | .bor i=>c ρ D.ex (d24 D d i)
 | _=>False
def kPT0 (b:AEx) (c:AAx) (D:AEnds) (ρ:List AV) (r:RV):Prop:=match r with
 | .dat d=>b ρ D.ex (kPT1 c D d)
 | _=>False
def kPT (b:AEx) (c:AAx) (D:AEnds) (r:RV) (ρ:List AV):Prop:=kPT0 b c D ρ r.hold
theorem c2V {x y:AEx} {z:AAx}:d3s x y z D ρ = x ρ D.ex (kPT y z D):=rfl
theorem b9L {y:AEx} {z:AAx}:kPT0 y z D ρ (.dat d) = y ρ D.ex (kPT1 z D d):=rfl
theorem b9M {z:AAx}:kPT1 z D d (.bor n) ρ = z ρ D.ex (d24 D d n):=rfl
theorem b9N {ks:List Key} {ts:List (List Key × c8)}:c6m D d n ρ (some ks) (some (.mdt p ts)) = (ts.length < k8 ∧ D.nx (ρ.set n (.mdt p (d3l ts ks d)))):=rfl
end
end Aq
namespace Aq
open PySem PySem.Spec PyProof.Rows L2
section
variable {P:a2q} {w:i6} {K:b0} {mg:Str → Option m6} {base:b8V}
/-- a def that may raise -/
theorem Fn.mkN {k:Nat} {x:Str} {st:Stmt} {f:v4} {fd:w8} {N ps:List Str} {c:Ct} {t:WX → TS} {a:ASt} {dvs:List V} (F:FunD K x x (a0N st) (a0r st) (i4 st) dvs [] f fd) (S:a0B N ps (i4 st)) (gm:mg x = some (.ref f)) (gb:Binds K fd ps [])
  (hl:∀ ρ P PX,c ρ P PX → ρ.length = ps.length) (hs:∀ W,SS K W (t W) a) (hp:∀ ρ P PX,c ρ P PX → a { nx:=fun ρ'=>P (.dat .none) ρ',rt:=P,ex:=PX } (ρ ++ g5 (N.length - ρ.length) .un))
  (hd:∀ (cdv:m6) (A:b6Y) (outer:List Env) (s:z7) (H:Hp) (E:XK),Room k (A.deeper (envOfC x (i4 st) s.heap.objs.size f cdv)) → PSs (cxOf (b2U P w) P w K mg base N x (i4 st) f cdv A outer s H E) (a0r st) (t fun cls d _ H'=>E cls d H')):Fn P w K mg base (b2U P w) (k + 1) x ps c :=
 ⟨f,fd,F.ok S (fun vs H Q E h=>b0W hl h) fun cdv A outer s H vs Q E hr h=>⟨_,hd cdv A outer s H E hr,b87 h (hs _) hp⟩,gm,F.kp,gb⟩
end
theorem passN {X:Cx}:Passes (b2U X.prog X.w) X E0:=fun _ _ _ _ _ _ _ h=>by
 obtain ⟨_,_,_,_,_,_,_,_,_,_,_,_,z⟩:=h
 exact z.elim
theorem d1e {X:Cx}:L2N.Takes X (fun _ _ _ _=>False):=fun _ _ x=>by
 obtain ⟨_,_,_,_,_,_,_,_,_,_,_,_,_,_,_,_,z⟩:=x
 exact z.elim
section
variable {X:Cx}
/-- a def that may raise, called where it does not -/
theorem c02 {n k:Nat} {f:v4} {fd:w8} {ps:List Str} {c:Ct} {x:Str} {p pos:Pos} {e:Expr} {es:List Expr} {t:TA} (G:FnOk X.prog X.w X.K X.mg X.base (b2U X.prog X.w) n f fd ps (spOf X.K c)) (hr:Room k X.A) (hnk:n ≤ k) (hg:Gl X x) (hm:X.mg x = some (.ref f)) (hk:a4w X.K (.ref f) = true) (hb:Binds X.K fd ps [])
  (ha:PA X (e :: es) t) (hdb:(x == ("__debug__" : Str)) = false:=by decide) (he:z5 (e :: es) X.env = (false,c9O e X.env) :: z5 es X.env:=by rfl) (hpl:(d2r pos (z5 es X.env)).any (·.1) = false:=by rfl) :
  PE X (.Call (.Name x p) (e :: es) [] pos) (r8 (spOf X.K c) [] E0 t):=pe_call G (hr.mono hnk) hg hm hk hb .nil passN ha hdb he hpl
/-- .. where it may -/
theorem b0K {W:WX} {n k:Nat} {f:v4} {fd:w8} {ps:List Str} {c:Ct} {x:Str} {p pos:Pos} {e:Expr} {es:List Expr} {t:TA} (G:FnOk X.prog X.w X.K X.mg X.base (b2U X.prog X.w) n f fd ps (spOf X.K c)) (hr:Room k X.A) (hnk:n ≤ k) (hg:Gl X x) (hm:X.mg x = some (.ref f)) (hk:a4w X.K (.ref f) = true) (hb:Binds X.K fd ps []) (tk:L2N.Takes X W)
  (ha:PA X (e :: es) t) (hdb:(x == ("__debug__" : Str)) = false:=by decide) (he:z5 (e :: es) X.env = (false,c9O e X.env) :: z5 es X.env:=by rfl) (hpl:(d2r pos (z5 es X.env)).any (·.1) = false:=by rfl) :
  PE X (.Call (.Name x p) (e :: es) [] pos) (tCallS (spOf X.K c) (WE W) t):=pe_callS G (hr.mono hnk) hg hm hk hb (fun σ=>L2N.passAt tk σ) ha hdb he hpl
end
section
variable {K:b0} {W:WX}
def aApp (a:AAx) (es:List c8):AAx:=fun ρ PX P=>a ρ PX fun rs ρ1=>P (rs ++ es.map RV.dat) ρ1
def kApp (P:List RV → List AV → Prop) (es:List c8) (rs:List RV) (ρ:List AV):Prop:=P (rs ++ es.map RV.dat) ρ
theorem d1j {a:AAx} {es:List c8} {ρ:List AV} {PX:PXT} {P:List RV → List AV → Prop}:aApp a es ρ PX P = a ρ PX (kApp P es):=rfl
/-- the kind of the exception that is handled -/
def c62 (K:b0) (ev:Str → m6) (ns:List Str) (i:Nat) (a:v4) (cls:m6) (d:Option v4):TE:=fun σ H Q=>d = none ∧ ∃ x,x ∈ ns ∧ cls = ev x ∧ r8 (spOf K (b2Y (.ref a) (x ++ "+"))) [] E0 (d3 (i3 i) p7) σ H Q
def c75 (i:Nat) (a:v4) (x:Str):AEx:=k9 (b2Y (.ref a) (x ++ "+")) (d4 (i9 i) p8)
theorem c95 {ev:Str → m6} {ns:List Str} {i:Nat} {a:v4} {x:Str} (hx:x ∈ ns):ES K W (c62 K ev ns i a (ev x) none) (c75 i a x):=fun C ρ PX P F H σ Q R h xs k=>⟨rfl,x,hx,rfl,i5 (c7 c9 d9) C ρ PX P F H σ Q R h xs k⟩
theorem c9F {i:Nat} {a:v4} {x:Str} {ρ:List AV} {PX:PXT} {P:PK} (h:ρ[i]? = some (.opq (.ref a))) (hP:P (.dat (.str (x ++ "+"))) ρ):c75 i a x ρ PX P:=by
 unfold c75
 rw [b0b,b5s,c29,h,c3X]
 show b9c _ P [RV.bor i] ρ
 unfold b9c
 rw [b5r,h,c3W]
 exact ⟨by simp,rfl,fun ρ'=>hP⟩
structure KindT (K:b0) (ns:List Str) (D:v4) (z:Str):Prop where
 ex:∃ x,x ∈ ns ∧ D = a0F K x ∧ z = x ++ "+"
end
theorem c8w {X:Cx} {n k:Nat} {x y:Str} {a:v4} {cls:m6} {d:Option v4} {oe:Obj} {pn:List (v4 × Obj)} {ns:List Str} {i:Nat} {e:Expr} {q pos:Pos} (G:FnE X.prog X.w X.K X.mg X.base n x [y] (KindT X.K ns)) (hr:Room k X.A) (hnk:n ≤ k) (hz:L2N.Zn cls d oe) (hf:∃ vs,oe.data = .fields vs) (hg:Gl X x)
  (he:PE (X.suite a ((a,oe) :: pn)) e (i3 i)) (hdb:(x == ("__debug__" : Str)) = false:=by decide) (he1:z5 [e] X.env = (false,c9O e X.env) :: z5 [] X.env:=by rfl) (hpl:(d2r pos (z5 [] X.env)).any (·.1) = false:=by rfl) :
  PE (X.suite a ((a,oe) :: pn)) (.Call (.Name x q) [e] [] pos) (c62 X.K (evK X.K) ns i a cls d):=by
 refine ⟨fun pins s σ H Q I h=>?_⟩
 obtain ⟨rfl,x',hx,rfl,h⟩:=h
 exact (d01 (D:=a0F X.K x') (z:=x' ++ "+") G hr hnk hz hf ⟨x',hx,rfl,rfl⟩ hg he hdb he1 hpl).run pins s σ H Q I h
theorem d04 {X:Cx} {x n:Str} {c:m6} {i:Nat} {body suite:List Stmt} {b₀:Stmt} {np pos pos':Pos} {tb:WX → TS} {ts:v4 → m6 → Option v4 → TS} (hs:X.stack = X.env :: X.outer) (hf:X.env.frame = some X.env.locals) (hN:X.N.Nodup) (hi:X.N[i]? = some n) (hln:X.env.kindOf n = some .local) (hc:Names X x c)
  (hb:∀ (W:WX) (pn:List (v4 × Obj)) (xe:m6 → z7 → Prop),L2N.Takes (X.tr pn xe) W → PassesOwn (a55 X.prog X.w) X.A X.env xe → PSs (X.tr pn xe) body (tb W))
  (hsu:∀ (a:v4) (oe:Obj) (cls:m6) (d:Option v4) (pn:List (v4 × Obj)),L2N.Zn cls d oe → (∃ vs,oe.data = .fields vs) → PSs (X.suite a ((a,oe) :: pn)) (b₀ :: suite) (ts a cls d)) :
  PS X (.Try body [.ExceptHandler (some (.Name x np)) (some n) (b₀ :: suite) pos'] [] [] pos) (tTry X.K c i tb ts W0):=L2N.ps_try_as hs hf hN hi hln hc d1e hb hsu
section
open He
theorem d0a {K:b0} {x:Str} (h:excB K x = true):ExcC K (ga K x):=by
 unfold excB at h
 obtain ⟨h1,h⟩:=ba h
 obtain ⟨h2,h⟩:=ba h
 obtain ⟨h3,h⟩:=ba h
 obtain ⟨h4,h⟩:=ba h
 obtain ⟨h5,h⟩:=ba h
 obtain ⟨h6,h⟩:=ba h
 obtain ⟨h7,h8⟩:=ba h
 exact ⟨eqO_ok h1,eqO_ok h2,of_decide_eq_true h3,h4,eqO_ok h5,eqO_ok h6,of_decide_eq_true h7,of_decide_eq_true h8⟩
theorem a3U {K:b0} {y:Str} (h:y ≠ "ValueError"):cvK K y = .ref (ga K y):=if_neg h
theorem d2J {K:b0}:cvK K "ValueError" = .type "ValueError" := if_pos rfl
theorem a2a {K:b0} {ns ys:List Str} (h:c8m K ns ys = true) {x:Str} (hx:x ∈ ns):ExcC K (ga K x):=d0a (ba (n3.mp h x hx)).1
theorem c8n {K:b0} {ns ys:List Str} (h:c8m K ns ys = true) {x:Str} (hx:x ∈ ns):a6e K (evK K x) (.ref (ga K "WageError")) = some true:=of_decide_eq_true (ba (ba (n3.mp h x hx)).2).1
theorem c3D {K:b0} {ns ys:List Str} (h:c8m K ns ys = true) {x:Str} (hx:x ∈ ns) {y:Str} (hy:y ∈ ys):a6f K (.ref (ga K x)) (cvK K y) = some (x == y || y == "ValueError"):=of_decide_eq_true (n3.mp (ba (ba (n3.mp h x hx)).2).2 y hy)
def kBs (K:b0) (D:v4) (y:Str):Bool:=a6f K (.ref D) (cvK K y) == some true
theorem c9l {K:b0} {ns ys:List Str} (h:c8m K ns ys = true) {x:Str} (hx:x ∈ ns) {y:Str} (hy:y ∈ ys):kBs K (ga K x) y = (x == y || y == "ValueError"):=by
 unfold kBs
 rw [c3D h hx hy]
 cases (x == y || y == "ValueError") <;> rfl
theorem a3p {K:b0} {ns ys:List Str} (h:c8m K ns ys = true) {x:Str} (hx:x ∈ ns) {y:Str} (hy:y ∈ ys):a6f K (.ref (ga K x)) (cvK K y) = some (kBs K (ga K x) y):=by
 rw [c9l h hx hy]
 exact c3D h hx hy
end
end Aq
namespace Aq
open PySem
theorem b0H:∀ {a b:List Char},a.map c80 = b.map c80 → a = b
 | [],[],_=>rfl
 | [],_ :: _,h=>by cases h
 | _ :: _,[],h=>by cases h
 | x :: a,y :: b,h=>by
  rw [i8,i8] at h
  injection h with h1 h2
  rw [b0H h2]
  congr 1
  exact Char.ext (UInt32.toNat_inj.mp h1)
theorem o9 (a b:String):(m8 a = m8 b) = (a = b):=by
 apply propext
 constructor
 ·intro h
  rw [a5L,a5L] at h
  injection h with h
  have h2:=congrArg Array.toList h
  exact String.toList_inj.mp (b0H (by simpa using h2))
 ·exact congrArg _
theorem a5n (a b:String):(m8 a == m8 b) = (a == b):=by
 by_cases h:a = b
 ·subst h; simp
 ·have:¬ m8 a = m8 b:=by rw [o9]; exact h
  rw [beq_eq_false_iff_ne.mpr this,beq_eq_false_iff_ne.mpr h]
theorem b04 (a:String):a0j (m8 a) = true:=by
 rw [a5L]
 unfold a0j
 rw [c0h]
 intro c hc
 have hc:c ∈ (a.toList.map c80):=by simpa using hc
 obtain ⟨x,_,rfl⟩:=e7.mp hc
 have:=x.valid
 simp only [decide_eq_true_eq]
 rcases this with h | h
 ·have:x.val.toNat < 0xD800:=h
  show x.val.toNat < _
  omega
 ·have:x.val.toNat < 0x110000:=h.2
  exact this
theorem c2M {z:Str} (h:a0j z = true):a0k (.str z) = true:=by
 unfold a0k
 simp [a09,a01,h]
theorem c2L (a:String):a0k (.str (m8 a)) = true:=c2M (b04 a)
theorem b9z:a0k (.list []) = true:=by decide +kernel
theorem b9A:a0k (.tuple []) = true:=by decide +kernel
theorem b9h (a:String):(m8 a).length = a.toList.length:=by
 rw [a5L]
 show ((a.toList.map c80).toArray).size = _
 simp
end Aq
namespace AqT
open PySem PySem.Spec PyProof.Rows L2
/-- the masks that come, up to three hundred entries -/
def Mk (m:Nat):Prop:=MaskOk m ∨ m = 511
theorem Mk.odd {m:Nat} (h:Mk m):m % 2 = 1:=by
 rcases h with h | rfl
 ·exact mask_odd h
 ·rfl
theorem Mk.few {m:Nat} (h:Mk m):m ≤ 511:=by
 rcases h with (h | h | h) | h <;> omega
/-- the way round from a place -/
def orb (m:Nat):Nat → Nat → List Nat
 | 0,_=>[]
 | f + 1,x=>x :: orb m f ((x * 5 + 1) % (m + 1))
theorem c9w {m j:Nat}:∀ (f c:Nat),j ∈ orb m f (lcgN m c) → ∃ b,b < c + f ∧ lcgN m b = j
 | 0,_,h=>by cases h
 | f + 1,c,h=>by
  rcases n8.mp h with rfl | h
  ·exact ⟨c,by omega,rfl⟩
  ·obtain ⟨b,hb,e⟩:=c9w f (c + 1) h
   exact ⟨b,by omega,e⟩
theorem d3k:(a1j 512).all (fun j=>(orb 511 512 0).elem j) = true:=by decide +kernel
theorem c9Z:lcgN 511 512 = 0:=by decide +kernel
theorem c9r {j:Nat} (hj:j ≤ 511):∃ b,b ≤ 511 ∧ lcgN 511 b = j:=by
 have h:=n3.mp d3k j (a25.mpr (by omega))
 obtain ⟨b,hb,e⟩:=c9w (m:=511) 512 0 (List.elem_iff.mp h)
 exact ⟨b,by omega,e⟩
theorem c7d:∀ k,lcgN 511 (512 + k) = lcgN 511 k
 | 0=>c9Z
 | k + 1=>congrArg (fun x=>(x * 5 + 1) % 512) (c7d k)
theorem Mk.all {m i j:Nat} (h:Mk m) (hi:i ≤ m) (hj:j ≤ m):∃ k,k ≤ m ∧ lcgI m i k = j:=by
 rcases h with h | rfl
 ·exact lcgI_all h hi hj
 ·obtain ⟨a,ha,rfl⟩:=c9r hi
  obtain ⟨b,hb,rfl⟩:=c9r hj
  by_cases c:a ≤ b
  ·exact ⟨b - a,by omega,by rw [lcgN_add,show a + (b - a) = b by omega]⟩
  ·exact ⟨512 + b - a,by omega,by rw [lcgN_add,show a + (512 + b - a) = 512 + b by omega,c7d]⟩
theorem Mk.runs {m j:Nat} (h:Mk m) (z:Int) (hj:j ≤ m):∃ n,n ≤ m + 12 ∧ runI m (y3 z) n = j:=by
 obtain ⟨k,hk,e⟩:=h.all (runI_le m (y3 z) 12) hj
 refine ⟨12 + k,by omega,?_⟩
 rw [runI_tail (bits_lt z),e]
theorem Mk.meet {m j:Nat} (h:Mk m) (z:Int) (hj:j ≤ m):∃ k,k < 10 * a1u m ∧ way m z k = j:=by
 obtain ⟨n,hn,e⟩:=h.runs z hj
 obtain ⟨k,hk,e2⟩:=run_nth m (y3 z) n
 have lim:k < 10 * a1u m:=by
  unfold a1u
  omega
 refine ⟨k,lim,?_⟩
 show (nth m _ k).j = j
 rw [e2]
 exact e
theorem c7g (m:Nat) (z:Int) (k:Nat):way m z k ≤ m:=by
 have h0:y3 z % (m + 1) ≤ m:=c5O.mp (Nat.mod_lt _ (Nat.succ_pos m))
 have h1:=(runEnd_bd h0).1
 have h2:=(runEnd_bd h0).2.1
 have h3:=nth_in (m:=m) k (runAt m (y3 z % (m + 1)) (y3 z)) (show y3 z % (m + 1) + (SetTable.runEnd m (y3 z % (m + 1)) - y3 z % (m + 1)) ≤ m by omega)
 exact a0f (c34 _ _) h3
/-- a table in which each entry is found on its hash's way -/
structure TabN (t:a5c) (hs:List Int):Prop where
 ris:Ris t.place.toList
 dm:t.dummies = #[]
 sz:t.place.size = hs.length
 mok:Mk t.mask
 bd:∀ x ∈ t.place.toList,x ≤ t.mask
 reach:∀ (i:Nat) (z:Int) (j:Nat),hs[i]? = some z → t.place.toList[i]? = some j → ∃ k,way t.mask z k = j ∧ ∀ c,c < k → way t.mask z c ∈ t.place.toList
theorem TabN.of {t:a5c} {hs:List Int} (T:TabOk t hs):TabN t hs:=⟨T.ris,T.dm,T.sz,.inl T.mok,T.bd,T.reach⟩
theorem TabN.first {t:a5c} {hs:List Int} (T:TabN t hs) (hl:hs.length ≤ t.mask) (z:Int):∃ K,K < 10 * a1u t.mask ∧ way t.mask z K ∉ t.place.toList ∧ ∀ k,k < K → way t.mask z k ∈ t.place.toList:=by
 have short:t.place.toList.length < t.mask + 1:=by
  rw [t7,T.sz]
  omega
 obtain ⟨j,hj,out⟩:=st_missing _ _ short
 obtain ⟨k,hk,ek⟩:=T.mok.meet z (c5O.mp hj)
 obtain ⟨K,hK,h1,h2⟩:=st_least (p:=fun c=>way t.mask z c ∉ t.place.toList) k (by
  show way t.mask z k ∉ t.place.toList
  rw [ek]
  exact out)
 exact ⟨K,by omega,h1,fun c hc=>Classical.not_not.mp (h2 c hc)⟩
theorem TabN.before {t:a5c} {hs:List Int} (T:TabN t hs) {z:Int} {K i j:Nat} (out:way t.mask z K ∉ t.place.toList) (hi:hs[i]? = some z) (hj:t.place.toList[i]? = some j):∃ k,k < K ∧ way t.mask z k = j:=by
 obtain ⟨k,e,inn⟩:=T.reach i z j hi hj
 refine ⟨k,Nat.lt_of_not_le fun c=>?_,e⟩
 rcases Nat.lt_or_eq_of_le c with c | c
 ·exact out (inn K c)
 ·rw [c,e] at out
  exact out (v7 hj)
theorem TabN.put {t:a5c} {hs:List Int} (T:TabN t hs) {z:Int} {K:Nat} (out:way t.mask z K ∉ t.place.toList) (inn:∀ k,k < K → way t.mask z k ∈ t.place.toList) :
  (t.put (way t.mask z K)).2 = a1t t.place (way t.mask z K) ∧ a1t t.place (way t.mask z K) ≤ hs.length ∧
  TabN (t.put (way t.mask z K)).1 (hs.take (a1t t.place (way t.mask z K)) ++ z :: hs.drop (a1t t.place (way t.mask z K))) ∧
  (t.put (way t.mask z K)).1.mask = t.mask ∧ (t.put (way t.mask z K)).1.led = t.led ∧ (t.put (way t.mask z K)).1.plain = t.plain ∧ (t.put (way t.mask z K)).1.moves = t.moves ∧ (t.put (way t.mask z K)).1.finger = t.finger ∧
  (t.put (way t.mask z K)).1.fill = hs.length + 1:=by
 have jm:=c7g t.mask z K
 have jk:∃ k,way t.mask z k = way t.mask z K ∧ ∀ c,c < k → way t.mask z c ∈ t.place.toList:=⟨K,rfl,inn⟩
 generalize way t.mask z K = j at out jm jk ⊢
 have cut:=(below_cut T.ris j).1
 generalize hp:a1t t.place j = p at cut ⊢
 have lp:p ≤ t.place.toList.length:=by
  rw [t7]
  exact cut
 have lh:p ≤ hs.length:=by rw [← T.sz]; exact cut
 have new:(t.put j).1.place.toList = t.place.toList.take p ++ j :: t.place.toList.drop p:=by
  rw [put_place,hp]
 have sz:(t.put j).1.place.size = hs.length + 1:=by
  rw [← t7,new,len_ins _ lp,t7,T.sz]
 have old:∀ {x},x ∈ t.place.toList → x ∈ (t.put j).1.place.toList:=fun hx=>by
  rw [new]
  exact mem_ins.mpr (.inr hx)
 have nj:t.place[a1t t.place j]? ≠ some j:=fun e=>out (v7 (i:=a1t t.place j) (by rw [a6g]; exact e))
 have fill:(t.put j).1.fill = hs.length + 1:=by
  unfold c9N
  rw [sz,put_dm T.dm]
  rfl
 refine ⟨hp,lh,⟨ris_insert T.ris nj,put_dm T.dm j,by rw [sz,len_ins _ lh],T.mok,fun x hx=>?_,fun i z' j' hi hj=>?_⟩,rfl,rfl,rfl,rfl,rfl,fill⟩
 ·rw [new] at hx
  rcases mem_ins.mp hx with rfl | hx
  ·exact jm
  ·exact T.bd x hx
 ·have lift:(∃ k,way t.mask z' k = j' ∧ ∀ c,c < k → way t.mask z' c ∈ t.place.toList) → ∃ k,way t.mask z' k = j' ∧ ∀ c,c < k → way t.mask z' c ∈ (t.put j).1.place.toList:=fun ⟨k,e,f⟩=>⟨k,e,fun c hc=>old (f c hc)⟩
  refine lift ?_
  rw [new,tins_get _ lp] at hj
  rw [tins_get _ lh] at hi
  rcases Nat.lt_trichotomy i p with c | c | c
  ·rw [if_pos c] at hi hj
   exact T.reach i z' j' hi hj
  ·rw [if_neg (by omega),if_pos c] at hi hj
   cases hi
   cases hj
   exact jk
  ·rw [if_neg (by omega),if_neg (by omega)] at hi hj
   exact T.reach _ z' j' hi hj
theorem c4s {m:Nat} (hm:Mk m) (owner:Array (Option Nat)) (z:Int) {j:Nat} (hj:j ≤ m) (hf:oAt owner j = none):∃ K,d1U m owner (a1u m) (y3 z % (m + 1)) (y3 z) = some (way m z K) ∧ oAt owner (way m z K) = none ∧ ∀ c,c < K → oAt owner (way m z c) ≠ none:=by
 obtain ⟨n,hn,en⟩:=hm.runs z hj
 have at_:way m z (off m (y3 z % (m + 1)) (y3 z) n) = j:=by
  have e:=congrArg SetTable.Probe.j (nth_off m n (y3 z % (m + 1)) (y3 z))
  rw [itL_run] at e
  exact e.trans en
 obtain ⟨K,hK,h1,h2⟩:=st_least (p:=fun c=>oAt owner (way m z c) = none) _ (show oAt owner (way m z (off m (y3 z % (m + 1)) (y3 z) n)) = none by rw [at_]; exact hf)
 refine ⟨K,free_spec m owner _ n _ _ K (by unfold a1u; omega) hK (fun c hc=>?_) ?_,h1,h2⟩
 ·have:=h2 c hc
  exact Option.isNone_eq_false_iff.mpr (Option.isSome_iff_ne_none.mpr this)
 ·exact Option.isNone_iff_eq_none.mpr h1
theorem c8u {m:Nat} (hm:Mk m) {done:List Int} {owner:Array (Option Nat)} (W:Own m done owner) (hl:done.length ≤ m) (z:Int):∃ j,d1U m owner (a1u m) (y3 z % (m + 1)) (y3 z) = some j ∧ Own m (done ++ [z]) (owner.setIfInBounds j (some done.length)):=by
 obtain ⟨ps,pl,pin⟩:=W.ps
 obtain ⟨j0,hj0,nj0⟩:=st_missing ps (m + 1) (by omega)
 have free0:oAt owner j0 = none:=Classical.not_not.mp fun c=>nj0 (pin j0 (by omega) c)
 obtain ⟨K,e,h1,h2⟩:=c4s hm owner z (by omega) free0
 have jm:=c7g m z K
 refine ⟨way m z K,e,?_⟩
 have kj:∃ k,way m z k = way m z K ∧ ∀ c,c < k → oAt owner (way m z c) ≠ none:=⟨K,rfl,h2⟩
 clear e h2
 generalize way m z K = j at h1 jm kj ⊢
 have js:j < owner.size:=by rw [W.sz]; omega
 have here:=oAt_set_self (some done.length) js
 have keep:∀ {i},oAt owner i ≠ none → oAt (owner.setIfInBounds j (some done.length)) i ≠ none:=fun {i} hi=>by
  by_cases c:i = j
  ·rw [c,here]
   exact Option.some_ne_none _
  ·rw [c87 _ c]
   exact hi
 refine ⟨by rw [Array.size_setIfInBounds,W.sz],fun i k hi ek=>?_,fun k hk=>?_,j :: ps,by simp [pl],fun i hi ne=>?_⟩
 ·by_cases c:i = j
  ·subst c
   rw [here] at ek
   cases ek
   obtain ⟨k,e,f⟩:=kj
   exact ⟨z,k,by simp,e,fun c hc=>keep (f c hc)⟩
  ·rw [c87 _ c] at ek
   obtain ⟨z',k',g1,g2,g3⟩:=W.at_ i k hi ek
   have lk:k < done.length:=(j2.mp g1).1
   exact ⟨z',k',by rw [a2p lk]; exact g1,g2,fun c hc=>keep (g3 c hc)⟩
 ·rw [a2i,b4b] at hk
  by_cases c:k = done.length
  ·subst c
   exact ⟨j,jm,here⟩
  ·obtain ⟨i,hi,ei⟩:=W.all k (by omega)
   refine ⟨i,hi,?_⟩
   rw [c87 _ (fun z=>by rw [z,h1] at ei; cases ei)]
   exact ei
 ·by_cases c:i = j
  ·rw [c]
   exact e6
  ·rw [c87 _ c] at ne
   exact e8 _ (pin i hi ne)
theorem c3M {m:Nat} (hm:Mk m):∀ (a9o done:List Int) (owner:Array (Option Nat)),Own m done owner → done.length + a9o.length ≤ m → ∃ o2,a9o.foldl (stepF m) (some (owner,done.length)) = some (o2,(done ++ a9o).length) ∧ Own m (done ++ a9o) o2
 | [],done,owner,W,_=>⟨owner,by rw [a1b]; rfl,by rw [a1b]; exact W⟩
 | z :: a9o,done,owner,W,hl=>by
  rw [v6] at hl
  obtain ⟨j,e,W2⟩:=c8u hm W (by omega) z
  obtain ⟨o2,f,W3⟩:=c3M hm a9o (done ++ [z]) _ W2 (by rw [a2i,b4b]; omega)
  rw [a2i,b4b,List.append_assoc] at f
  rw [List.append_assoc] at W3
  refine ⟨o2,?_,W3⟩
  rw [List.foldl_cons,stepF_some e]
  exact f
theorem d1a {t:a5c} {hs:Array Int} {wanted M:Nat} (hw:a3r wanted - 1 = M) (hM:Mk M) (hn:hs.size ≤ M):∃ t' order,t.relaid hs wanted = some (t',order) ∧ order.toList.Perm (a1j hs.size) ∧ TabN t' (order.toList.map fun i=>hs.getD i 0) ∧ t'.mask = M ∧ t'.led = t.led ∧ t'.plain = t.plain ∧ t'.dummies = #[]:=by
 obtain ⟨owner,f,W⟩:=c3M hM hs.toList [] _ (Own.init M) (by simpa using hn)
 rw [a1c] at f W
 have clean:SetTable.layClean M hs = some owner:=by
  rw [layClean_eq]
  show (hs.toList.foldl (stepF M) (some (Array.replicate (M + 1) none,([]:List Int).length))).map (·.1) = _
  rw [f]
  rfl
 have eq1:t.relaid hs wanted = some (tabOf t M owner,((b61 M owner).map (·.2)).toArray):=by
  rw [relaid_eq,hw,clean]
  rfl
 have lv:∀ {j k},(j,k) ∈ b61 M owner ↔ j ≤ M ∧ oAt owner j = some k:=mem_live W.sz
 obtain ⟨r1,r2⟩:=ris_live (fun j=>owner.getD j none) (a1j (M + 1)) List.pairwise_lt_range
 have r1:Ris ((b61 M owner).map (·.1)):=r1
 have nd:((b61 M owner).map (·.1)).Nodup:=r1.imp fun h=>a6i h
 have inn:∀ k,k < hs.size → k ∈ (b61 M owner).map (·.2):=fun k hk=>by
  obtain ⟨j,hj,e⟩:=W.all k (by simpa using hk)
  exact e7.mpr ⟨(j,k),lv.mpr ⟨hj,e⟩,rfl⟩
 have len:(b61 M owner).length = hs.size:=by
  obtain ⟨ps,pl,pin⟩:=W.ps
  have pl2:ps.length = hs.size:=pl
  have up:=nat_nodup_len _ ps nd fun j hj=>by
   obtain ⟨⟨j',k⟩,hq,rfl⟩:=e7.mp hj
   obtain ⟨g1,g2⟩:=lv.mp hq
   exact pin _ g1 (by rw [g2]; exact Option.some_ne_none _)
  have dn:=nat_nodup_len (a1j hs.size) ((b61 M owner).map (·.2)) List.nodup_range fun k hk=>inn k (a25.mp hk)
  rw [j3] at up dn
  rw [List.length_range] at dn
  omega
 refine ⟨_,_,eq1,perm_range _ _ (by simpa using len) inn,⟨r1,rfl,?_,hM,fun x hx=>?_,fun i z j hi hj=>?_⟩,rfl,rfl,rfl,rfl⟩
 ·show ((b61 M owner).map (·.1)).toArray.size = (((b61 M owner).map (·.2)).map _).length
  simp
 ·exact c5O.mp (a25.mp (r2 x hx))
 ·have hi:(((b61 M owner).map (·.2)).map fun i=>hs.getD i 0)[i]? = some z:=hi
  have hj:((b61 M owner).map (·.1))[i]? = some j:=hj
  rw [z8] at hj
  rw [z8,z8] at hi
  obtain ⟨⟨j',k⟩,eq,rfl⟩:=Option.map_eq_some_iff.mp hj
  rw [eq] at hi
  have hz:hs.getD k 0 = z:=r9 hi
  obtain ⟨g1,g2⟩:=lv.mp (v7 eq)
  obtain ⟨z',K,f1,f2,f3⟩:=W.at_ _ k g1 g2
  have ez:z' = z:=by
   rw [← hz,c5J,← a6g,f1]
   rfl
  subst ez
  refine ⟨K,f2,fun c hc=>?_⟩
  show way M z' c ∈ (b61 M owner).map (·.1)
  obtain ⟨k2,e2⟩:=Option.ne_none_iff_exists'.mp (f3 c hc)
  exact e7.mpr ⟨(way M z' c,k2),lv.mpr ⟨c7g M z' c,e2⟩,rfl⟩
theorem c3S:a3r (a0z 77) = 512:=by decide +kernel
end AqT
namespace AqT
open PySem PySem.Calls PySem.Spec PyProof.Rows L2
abbrev a36 (P:a2q) (w:i6) (ks:List Key):Int:=tupleKeyHash (b1s P w) ks
/-- at b stands the tuple of these keys -/
abbrev a7F (P:a2q) (w:i6) (h:b8V) (ks:List Key) (b:v4):Prop:=IsTupleKey (b1s P w) h ks b
section
variable {P:a2q} {w:i6} {A:b6Y} {E:m6 → z7 → Prop} {s:z7}
/-- a number or a text -/
def Flat (v:m6):Prop:=(∃ i t,v = .int i t) ∨ ∃ x t,v = .str x t
theorem b67 {ks:List Key} {vs:List m6} (h:ItemsAre (b1s P w) ks vs):∀ v ∈ vs,Flat v:=by
 induction h with
 | nil=>intro v hv; cases hv
 | @cons k v' ks vs hk _ ih =>
  intro v hv
  rcases n8.mp hv with rfl | hv
  ·rcases a7L (show c0s k v = true from hk) with ⟨i,t,_,e⟩ | ⟨x,t,_,e⟩
   ·exact .inl ⟨i,t,e⟩
   ·exact .inr ⟨x,t,e⟩
  ·exact ih v hv
theorem b7h (n:Nat) {v:m6} (h:Flat v):c16 n v = pure false ∧ ∃ b,hashByValue n v = pure b:=by
 rcases h with ⟨i,t,rfl⟩ | ⟨x,t,rfl⟩ <;> cases n <;> exact ⟨rfl,_,rfl⟩
theorem c6D {ks:List Key} {b:v4} {Q:Bool → z7 → Prop} (hb:a7F P w s.heap ks b) (q:Q false s):a3J (a55 P w) A (c16 8 (.ref b)) Q E s:=by
 have ty:=hb.typeIs
 obtain ⟨o,items,n,ho,_,hd,hi⟩:=hb
 unfold c16
 refine e9 (d2A ty ?_)
 dsimp only
 have tt:(("tuple" : String) == "tuple") = true:=by decide
 simp only [tt,if_true,a5b,z9,if_false]
 try refine e9 (j7 ?_)
 try simp only [a5b,z9,if_false]
 show a3J _ _ (seqItems? (.ref b) >>= _) _ _ s
 refine e9 (b62 ho hd ?_)
 dsimp only
 refine e9 ?_
 show a3J _ _ (forIn items _ _) _ _ s
 rw [← Array.forIn_toList]
 refine c36 _ (fun left acc s1=>acc.1 = none ∧ s1 = s ∧ ∀ v ∈ left,Flat v) _ ?_ ?_ _ _ ⟨rfl,rfl,b67 hi⟩
 ·rintro v left acc s1 ⟨ha,rfl,fl⟩
  rw [(b7h _ (fl v e6)).1]
  refine e9 (j7 ?_)
  simp only [z9,if_false]
  exact j7 ⟨rfl,rfl,fun u hu=>fl u (e8 _ hu)⟩
 ·rintro ⟨a1,a2⟩ s1 ⟨ha,rfl,_⟩
  simp only at ha
  subst ha
  exact j7 q
theorem c90 {ks:List Key} {b:v4} {Q:Bool → z7 → Prop} (hb:a7F P w s.heap ks b) (q:∀ z,Q z s):a3J (a55 P w) A (hashByValue 8 (.ref b)) Q E s:=by
 have ty:=hb.typeIs
 obtain ⟨o,items,n,ho,_,hd,hi⟩:=hb
 unfold hashByValue
 refine e9 (wpAny_specialOf ty F.slot_tuple_hash.lookup ?_)
 show a3J _ _ (seqItems? (.ref b) >>= _) _ _ s
 refine e9 (b62 ho hd ?_)
 refine e9 ?_
 show a3J _ _ (forIn items _ _) _ _ s
 rw [← Array.forIn_toList]
 refine c36 _ (fun left acc s1=>acc.1 = none ∧ s1 = s ∧ ∀ v ∈ left,Flat v) _ ?_ ?_ _ _ ⟨rfl,rfl,b67 hi⟩
 ·rintro v left acc s1 ⟨ha,rfl,fl⟩
  obtain ⟨z,ez⟩:=(b7h 7 (fl v e6)).2
  rw [ez]
  refine e9 (j7 ?_)
  cases z with
  | true =>
   simp only [a5b,z9,if_false]
   exact j7 ⟨rfl,rfl,fun u hu=>fl u (e8 _ hu)⟩
  | false =>
   simp only [c7U,if_true]
   exact j7 (j7 (q _))
 ·rintro ⟨a1,a2⟩ s1 ⟨ha,rfl,_⟩
  simp only at ha
  subst ha
  exact j7 (q _)
/-- looking among tuples shows nothing of the table -/
theorem d3C {ks:List Key} {b:v4} {Q:Bool → z7 → Prop} (hb:a7F P w s.heap ks b) {ys:List m6} (hy:∀ y ∈ ys,∃ k c,y = a1z c ∧ a7F P w s.heap k c) (q:Q false s):a3J (a55 P w) A (searchCouldBeSeen (.ref b) ys) Q E s:=by
 unfold searchCouldBeSeen
 refine e9 ?_
 refine c36 _ (fun left acc s1=>acc.1 = none ∧ s1 = s ∧ ∀ y ∈ left,∃ k c,y = a1z c ∧ a7F P w s.heap k c) _ ?_ ?_ _ _ ⟨rfl,rfl,hy⟩
 ·rintro v left acc s1 ⟨ha,rfl,all⟩
  obtain ⟨k,c,rfl,hc⟩:=all v e6
  have more:∀ y ∈ left,∃ k c,y = a1z c ∧ a7F P w s1.heap k c:=fun u hu=>all u (e8 _ hu)
  dsimp only
  by_cases bv:(b == c || (carriedByValue (.ref b) && carriedByValue (.ref c))) = true
  ·exact c0v bv (j7 ⟨rfl,rfl,more⟩)
  ·refine a4x bv ?_
   refine e9 (d2z hb ?_)
   simp only [a5b,z9,if_false]
   refine e9 (d2z hc ?_)
   simp only [a5b,z9,if_false]
   refine e9 (c6D hb ?_)
   simp only [z9,if_false]
   refine e9 (c6D hc ?_)
   simp only [z9,if_false]
   exact j7 ⟨rfl,rfl,more⟩
 ·rintro ⟨a1,a2⟩ s1 ⟨ha,rfl,_⟩
  simp only at ha
  subst ha
  exact j7 q
abbrev TL:=List (v4 × List Key)
def b16 (P:a2q) (w:i6) (L:TL):List (Int × m6):=L.map fun p=>(a36 P w p.2,a1z p.1)
theorem b0Q {L:TL}:(b16 P w L).length = L.length:=by unfold b16; rw [j3]
/-- the set at a, by its table -/
structure TSet (P:a2q) (w:i6) (h:b8V) (a:v4) (L:TL) (o:Obj) (es:Array (Int × m6)) (ep:Nat) (t:a5c):Prop where
 at_:h.get? a = some o
 exact_:o.ExactSet
 data:o.data = .set es ep t
 rows:es.toList = b16 P w L
 tab:TabN t (L.map fun p=>a36 P w p.2)
 nd:(L.map (·.2)).Nodup
 led:w.params.followText "set-order" = true ∨ t.led = true
 room:L.length * 5 < t.mask * 3
variable {a:v4} {L:TL} {o:Obj} {es:Array (Int × m6)} {ep:Nat} {t:a5c}
theorem TSet.sz (R:TSet P w s.heap a L o es ep t):es.size = L.length:=by
 have:=congrArg a7K R.rows
 rw [t7,b0Q] at this
 exact this
theorem TSet.psz (R:TSet P w s.heap a L o es ep t):t.place.size = L.length:=by
 have:=R.tab.sz
 rw [j3] at this
 exact this
theorem TSet.fits (R:TSet P w s.heap a L o es ep t):t.fits es.size = true:=by
 have h1:=R.psz
 have h2:=R.sz
 have h3:=R.room
 unfold SetTable.fits c9N
 rw [R.tab.dm,m5,beq_iff_eq,decide_eq_true_eq]
 show t.place.size = es.size ∧ t.place.size + 0 ≤ t.mask
 omega
theorem c3Q {L:TL} {es:Array (Int × m6)} (hr:es.toList = b16 P w L) {i:Nat} {p:v4 × List Key} (hp:L[i]? = some p):es[i]? = some (a36 P w p.2,a1z p.1):=by
 rw [← a6g,hr]
 unfold b16
 rw [z8,hp] <;> rfl
theorem TSet.noWay (R:TSet P w s.heap a L o es ep t):¬ t.gaveWay = true:=by
 unfold SetTable.gaveWay
 rw [R.tab.mok.odd]
 decide
/-- the start of the way of a hash -/
abbrev ini (m:Nat) (z:Int):c70:=runAt m (y3 z % (m + 1)) (y3 z)
theorem c0U (m:Nat):∀ (n:Nat) (p:c70),p.dummy = none → (nth m p n).dummy = none
 | 0,_,e=>e
 | n + 1,p,e=>c0U m n (adv m p) (by unfold adv; split <;> exact e)
theorem c6a (R:TSet P w s.heap a L o es ep t) (TL:∀ p ∈ L,a7F P w s.heap p.2 p.1) {x:v4} {k:List Key} (hx:a7F P w s.heap k x) (hu:A.units < a82) {N:Nat} (hN:N < 10 * a1u t.mask)
  (out:way t.mask (a36 P w k) N ∉ t.place.toList) (inn:∀ c,c < N → way t.mask (a36 P w k) c ∈ t.place.toList) {Q:SetFound → z7 → Prop}
  (yes:k ∈ L.map (·.2) → Q (.there none) s) (no:k ∉ L.map (·.2) → Q (.free (way t.mask (a36 P w k) N) false) s) :
  ∀ (fuel c:Nat) (st:Option c70),st.getD (t.probeStart (a36 P w k)) = nth t.mask (ini t.mask (a36 P w k)) c → c ≤ N → N - c < fuel →
   (∀ (i:Nat) p,L[i]? = some p → p.2 = k → ∃ c',c ≤ c' ∧ c' < N ∧ t.place.toList[i]? = some (way t.mask (a36 P w k) c')) →
   a3J (a55 P w) A (setSearchFrom a (.ref x) (a36 P w k) true fuel st) Q E s:=by
 intro fuel
 induction fuel with
 | zero=>intro c st _ _ hf _; exact absurd hf (Nat.not_lt_zero _)
 | succ fuel ih =>
  intro c st hst hc hf later
  rw [setSearchFrom_succ]
  refine e9 (a31 R.at_ R.data R.fits ?_)
  dsimp only
  refine a4x R.noWay ?_
  try refine e9 (j7 ?_)
  have shift:∀ q,nth t.mask (nth t.mask (ini t.mask (a36 P w k)) c) q = nth t.mask (ini t.mask (a36 P w k)) (c + q):=fun q=>(nth_add t.mask c _ q).symm
  have slotAt:∀ q,(nth t.mask (nth t.mask (ini t.mask (a36 P w k)) c) q).j = way t.mask (a36 P w k) (c + q):=fun q=>congrArg SetTable.Probe.j (shift q)
  have hashOf:∀ (i:Nat) p,L[i]? = some p → (fun i=>(es[i]?.map (·.1)).getD 0) i = a36 P w p.2:=fun i p hp=>by
   show (es[i]?.map (·.1)).getD 0 = _
   rw [c3Q R.rows hp] <;> rfl
  rcases go_spec t R.tab.ris R.tab.dm (fun i=>(es[i]?.map (·.1)).getD 0) (a36 P w k) (10 * a1u t.mask) (N - c) _ (c0U t.mask c (ini t.mask (a36 P w k)) rfl) (by omega)
   (fun q hq=>by rw [slotAt]; exact inn (c + q) (by omega)) (by rw [slotAt,show c + (N - c) = N by omega]; exact out) with ⟨q,i,hq,hi,hh,hno,hpr⟩ | ⟨hno,hpr⟩
  ·have met:t.probe (fun i=>(es[i]?.map (·.1)).getD 0) (a36 P w k) (st.getD (t.probeStart (a36 P w k))) = some (.candidate (way t.mask (a36 P w k) (c + q)) i (nth t.mask (ini t.mask (a36 P w k)) (c + (q + 1)))):=by
    rw [hst,← slotAt,← shift]
    exact hpr
   rw [met]
   dsimp only
   rw [slotAt] at hi
   have hil:i < L.length:=by
    have z1:i < t.place.toList.length:=(j2.mp hi).1
    rw [t7,R.psz] at z1
    exact z1
   have hp:L[i]? = some L[i]:=j5 hil
   generalize L[i] = p at hp
   have pm:p ∈ L:=v7 hp
   have a9o:a3J (a55 P w) A (searchRest a (.ref x) (a36 P w k) true fuel es t (way t.mask (a36 P w k) (c + q)) i (nth t.mask (ini t.mask (a36 P w k)) (c + (q + 1)))) Q E s:=by
    unfold searchRest
    rw [c3Q R.rows hp]
    dsimp only
    refine e9 (a1w (wpAny_eqBool_tuple hu (TL p pm) hx ?_))
    refine e9 (a31 R.at_ R.data R.fits ?_)
    dsimp only
    by_cases same:p.2 = k
    ·exact c0v (by simp [same]) (j7 (yes (e7.mpr ⟨p,pm,same⟩)))
    ·refine a4x (by simp [same]) ?_
     try refine e9 (j7 ?_)
     rw [sameMem]
     dsimp only
     have lives:t.slot (way t.mask (a36 P w k) (c + q)) = .live i:=slot_live R.tab.ris hi
     simp only [if_true,lives,c3Q R.rows hp]
     refine e9 (wpAny_isSame_ref_self (e9 (j7 ?_)))
     simp only [if_true]
     refine a4x (by simp [same]) ?_
     refine ih (c + (q + 1)) _ rfl (by omega) (by omega) fun i0 p0 h0 e0=>?_
     obtain ⟨c',b1,b2,b3⟩:=later i0 p0 h0 e0
     refine ⟨c',?_,b2,b3⟩
     rcases Nat.lt_trichotomy c' (c + q) with z | z | z
     ·exact absurd ((hashOf i0 p0 h0).trans (congrArg (a36 P w) e0)) (hno (c' - c) i0 (by omega) (by rw [slotAt,show c + (c' - c) = c' by omega]; exact b3))
     ·rw [z] at b3
      have l0:=slot_live R.tab.ris b3
      rw [lives] at l0
      injection l0 with l0
      rw [← l0,hp] at h0
      exact absurd ((congrArg a2T (r9 h0)).trans e0) same
     ·omega
   by_cases hl:t.led = true
   ·refine a4x (by simp [hl]) ?_
    try refine e9 (j7 ?_)
    exact a9o
   ·refine c0v (by simp [hl]) ?_
    refine e9 (d3C hx (fun y hy=>?_) ?_)
    ·obtain ⟨e,he,rfl⟩:=e7.mp hy
     have he1:e ∈ es.toList:=by
      have:e ∈ es ∧ e.1 = a36 P w k:=by simpa using he
      simpa using this.1
     rw [R.rows] at he1
     obtain ⟨p2,hp2,rfl⟩:=e7.mp he1
     exact ⟨p2.2,p2.1,rfl,TL p2 hp2⟩
    ·refine a4x (by decide) ?_
     try refine e9 (j7 ?_)
     exact a9o
  ·have met:t.probe (fun i=>(es[i]?.map (·.1)).getD 0) (a36 P w k) (st.getD (t.probeStart (a36 P w k))) = some (.empty (way t.mask (a36 P w k) N) none):=by
    have e2:way t.mask (a36 P w k) N = (nth t.mask (nth t.mask (ini t.mask (a36 P w k)) c) (N - c)).j:=by rw [slotAt,show c + (N - c) = N by omega]
    rw [hst,e2]
    exact hpr
   rw [met]
   dsimp only
   refine j7 (no fun hm=>?_)
   obtain ⟨p0,h0,e0⟩:=e7.mp hm
   obtain ⟨i0,l0,q0⟩:=a4B h0
   have g0:L[i0]? = some p0:=by rw [j5 l0,q0]
   obtain ⟨c',b1,b2,b3⟩:=later i0 p0 g0 e0
   exact hno (c' - c) i0 (by omega) (by rw [slotAt,show c + (c' - c) = c' by omega]; exact b3) ((hashOf i0 p0 g0).trans (congrArg (a36 P w) e0))
theorem c8S {m:Nat} (h:Mk m):10 * a1u m ≤ 5260:=by
 have:=h.few
 unfold a1u
 omega
theorem d0b (R:TSet P w s.heap a L o es ep t) (TL:∀ p ∈ L,a7F P w s.heap p.2 p.1) {x:v4} {k:List Key} (hx:a7F P w s.heap k x) (hu:A.units < a82) {Q:SetFound → z7 → Prop}
  (yes:k ∈ L.map (·.2) → Q (.there none) s)
  (no:∀ N,k ∉ L.map (·.2) → way t.mask (a36 P w k) N ∉ t.place.toList → (∀ c,c < N → way t.mask (a36 P w k) c ∈ t.place.toList) → Q (.free (way t.mask (a36 P w k) N) false) s) :
  a3J (a55 P w) A (setSearch a (.ref x) (a36 P w k) true) Q E s:=by
 have hroom:=R.room
 obtain ⟨N,lim,out,inn⟩:=R.tab.first (by rw [j3]; omega) (a36 P w k)
 have big:=c8S R.tab.mok
 unfold setSearch
 refine c6a R TL hx hu lim out inn yes (fun hn=>no N hn out inn) 100000 0 none rfl (a4D _) (by omega) fun i p hp e=>?_
 have hi:(L.map fun p=>a36 P w p.2)[i]? = some (a36 P w k):=by rw [z8,hp,← e] <;> rfl
 have hil:i < t.place.toList.length:=by
  rw [t7,R.psz]
  exact (j2.mp hp).1
 have hj:=j5 hil
 obtain ⟨c,lc,ec⟩:=R.tab.before out hi hj
 exact ⟨c,a4D _,lc,by rw [hj,ec]⟩
theorem c9y {L:TL} {es:Array (Int × m6)} (hr:es.toList = b16 P w L):∀ l:List Nat,(∀ i ∈ l,i < L.length) → l.filterMap (fun i=>es[i]?) = b16 P w (l.filterMap fun i=>L[i]?) ∧ ((l.filterMap fun i=>L[i]?).map fun p=>a36 P w p.2) = l.map fun i=>(es.map (·.1)).getD i 0
 | [],_=>⟨rfl,rfl⟩
 | i :: l,hl=>by
  have hi:=hl i e6
  have hp:=j5 hi
  have he:=c3Q hr hp
  obtain ⟨e1,e2⟩:=c9y hr l fun j hj=>hl j (e8 _ hj)
  rw [b0k he,b0k hp,e1,i8,i8,e2]
  refine ⟨rfl,?_⟩
  congr 1
  have e5:(es.map (·.1))[i]? = some (a36 P w (L[i]).2):=by rw [Array.getElem?_map,he] <;> rfl
  simp [c5J,e5]
theorem all_at {α:Type} (L:List α):(a1j L.length).filterMap (fun i=>L[i]?) = L:=by
 have go:∀ n,n ≤ L.length → (a1j n).filterMap (fun i=>L[i]?) = L.take n:=fun n=>by
  induction n with
  | zero=>intro _; rfl
  | succ n ih =>
   intro hn
   rw [List.range_succ,List.filterMap_append,ih (Nat.le_of_lt hn),List.take_succ,j5 hn]
   rw [b0k (j5 hn)] <;> rfl
 rw [go L.length (a1e _),c33]
theorem relaid {o:Obj} (ho:s.heap.get? a = some o) (hex:o.ExactSet) (hd:o.data = .set es ep t) (hr:es.toList = b16 P w L) (hf:t.fits es.size = true) (nd:(L.map (·.2)).Nodup) (ld:w.params.followText "set-order" = true ∨ t.led = true) {wanted M:Nat}
  (hw:a3r wanted - 1 = M) (hM:Mk M) (hw2:a3r wanted ≤ 512) (hn:L.length * 5 < M * 3) {Q:Unit → z7 → Prop}
  (hQ:∀ h' L' o' es' ep' t',a9k a s.heap h' → TSet P w h' a L' o' es' ep' t' → L'.Perm L → Q () { s with heap:=h' }):a3J (a55 P w) A (setRelay a wanted) Q E s:=by
 have hsl:es.size = L.length:=by
  have:=congrArg a7K hr
  rw [t7,b0Q] at this
  exact this
 have hMl:M ≤ 511:=hM.few
 obtain ⟨t',order,e,hp,T,em,el,epl,ed⟩:=d1a (t:=t) (hs:=es.map (·.1)) (wanted:=wanted) hw hM (by rw [Array.size_map,hsl]; omega)
 rw [Array.size_map,hsl] at hp
 obtain ⟨r1,r3⟩:=c9y hr order.toList fun i hi=>a25.mp (hp.mem_iff.mp hi)
 have pm:(order.toList.filterMap fun i=>L[i]?).Perm L:=by
  have:=hp.filterMap fun i=>L[i]?
  rw [all_at] at this
  exact this
 generalize order.toList.filterMap (fun i=>L[i]?) = L2 at r1 r3 pm
 rw [← r3] at T
 have rows2:(order.filterMap (es[·]?)).toList = b16 P w L2:=by
  first | (rw [Array.toList_filterMap]; exact r1) | simpa using r1
 have hs2:(order.filterMap (es[·]?)).size = es.size:=by
  have:=congrArg a7K rows2
  rw [t7,b0Q,pm.length_eq] at this
  rw [this,hsl]
 rw [setRelay_eq]
 refine e9 (a31 ho hd hf ?_)
 dsimp only
 refine a4x (by rw [a1I]; omega) ?_
 try refine e9 (j7 ?_)
 rw [e]
 dsimp only
 refine e9 ?_
 refine a4x (by rw [hs2]; simp) ?_
 try refine e9 (j7 ?_)
 refine j7 ?_
 dsimp only
 refine b0p ho hd ?_ (by rw [hs2,hsl,a1I]; omega)
 refine hQ _ L2 _ _ (ep + 1) t' (a7J ..) ⟨store_at ho hd,⟨hex.1,hex.2.1,hex.2.2⟩,rfl,rows2,T,(pm.map (·.2)).nodup_iff.mpr nd,by rw [el]; exact ld,by rw [pm.length_eq,em]; exact hn⟩ pm
theorem adds (R:TSet P w s.heap a L o es ep t) (TL:∀ p ∈ L,a7F P w s.heap p.2 p.1) {x:v4} {k:List Key} (hx:a7F P w s.heap k x) (hu:A.units < a82) (few:L.length + 1 ≤ 306) {Q:Bool → z7 → Prop}
  (hQ:∀ b h' L' o' es' ep' t',a9k a s.heap h' → TSet P w h' a L' o' es' ep' t' → (k ∈ L.map (·.2) → L' = L) → (k ∉ L.map (·.2) → L'.Perm ((x,k) :: L)) → Q b { s with heap:=h' }) :
  a3J (a55 P w) A (c3v a (.ref x) (a36 P w k)) Q E s:=by
 have hsl:=R.sz
 have hroom:=R.room
 have hex:=R.exact_
 unfold c3v
 refine a1w ?_
 rw [show (100000:Nat) = 99999 + 1 from rfl,setAddHashedIn_succ]
 refine e9 (a31 R.at_ R.data R.fits ?_)
 dsimp only
 refine a4x (by simp [byScan,Value.scannable]) ?_
 try refine e9 (j7 ?_)
 refine e9 (d0b R TL hx hu (fun hm=>?_) fun N hm out inn=>?_)
 ·dsimp only
  exact j7 (hQ false s.heap L o es ep t (Heap.SameBut.refl a s.heap) R (fun _=>rfl) fun z=>absurd hm z)
 dsimp only
 refine e9 (a31 R.at_ R.data R.fits ?_)
 dsimp only
 obtain ⟨q1,q2,q3,q4,q5,q6,q7,q8,q9⟩:=R.tab.put out inn
 generalize t.put (way t.mask (a36 P w k) N) = pt at q1 q3 q4 q5 q6 q7 q8 q9 ⊢
 obtain ⟨t1,p⟩:=pt
 dsimp only at q1 q3 q4 q5 q6 q7 q8 q9 ⊢
 subst q1
 have hin:(c13 es (a1t t.place (way t.mask (a36 P w k) N)) (a36 P w k,a1z x)).toList = b16 P w (L.take (a1t t.place (way t.mask (a36 P w k) N)) ++ (x,k) :: L.drop (a1t t.place (way t.mask (a36 P w k) N))):=by
  rw [SetTable.toList_insertAt,R.rows]
  unfold b16
  rw [List.map_append,i8,List.map_take,List.map_drop]
 generalize a1t t.place (way t.mask (a36 P w k) N) = p at q2 q3 hin ⊢
 have pm:(L.take p ++ (x,k) :: L.drop p).Perm ((x,k) :: L):=put_perm L p (x,k)
 have hhs:(L.take p ++ (x,k) :: L.drop p).map (fun p=>a36 P w p.2) = (L.map fun p=>a36 P w p.2).take p ++ a36 P w k :: (L.map fun p=>a36 P w p.2).drop p:=by
  rw [List.map_append,i8,List.map_take,List.map_drop]
 rw [← hhs] at q3
 generalize L.take p ++ (x,k) :: L.drop p = L1 at pm q3 hin
 have hlen:L1.length = L.length + 1:=pm.length_eq
 have nd1:(L1.map (·.2)).Nodup:=by
  refine (pm.map (·.2)).nodup_iff.mpr ?_
  rw [i8]
  exact a1d.mpr ⟨hm,R.nd⟩
 have hes:(c13 es p (a36 P w k,a1z x)).size = L.length + 1:=by
  have:=congrArg a7K hin
  rw [t7,b0Q,hlen] at this
  exact this
 generalize c13 es p (a36 P w k,a1z x) = es1 at hin hes ⊢
 -- whether the table knows its order by values
 have a9o:∀ t2:a5c,TabN t2 (L1.map fun p=>a36 P w p.2) → t2.mask = t.mask → (w.params.followText "set-order" = true ∨ t2.led = true) → t2.fill = L1.length → 
   a3J (a55 P w) A (do
    storeSet a es1 t2
    if (!false && t2.tooFull) = true then setRelay a (a0z (es.size + 1))
    return true) Q E s:=fun t2 T2 m2 l2 f2=>by
  refine e9 (b0p R.at_ R.data ?_ (by rw [hes,a1I]; omega))
  have sb:a9k a s.heap (s.heap.update a (c11 es1 t2)):=a7J ..
  have ho1:=store_at (es':=es1) (t':=t2) R.at_ R.data
  generalize s.heap.update a (c11 es1 t2) = h1 at sb ho1 ⊢
  have fit2:t2.fits es1.size = true:=by
   have z:=T2.sz
   rw [j3] at z
   unfold SetTable.fits c9N
   rw [T2.dm,m5,beq_iff_eq,decide_eq_true_eq,m2]
   show t2.place.size = es1.size ∧ t2.place.size + 0 ≤ t.mask
   rw [z,hes,hlen]
   refine ⟨rfl,?_⟩
   have:=R.tab.mok
   unfold Mk MaskOk at this
   omega
  by_cases full:t2.tooFull = true
  ·have hfull:(L.length + 1) * 5 ≥ t.mask * 3:=by
    have z:=full
    unfold SetTable.tooFull at z
    rw [decide_eq_true_eq,f2,hlen,m2] at z
    exact z
   have two:(t.mask = 7 ∧ L.length = 4) ∨ (t.mask = 31 ∧ L.length = 18) ∨ (t.mask = 127 ∧ L.length = 76):=by
    have:=R.tab.mok
    unfold Mk MaskOk at this
    omega
   have go:∀ M,a3r (a0z (L.length + 1)) - 1 = M → Mk M → a3r (a0z (L.length + 1)) ≤ 512 → (L.length + 1) * 5 < M * 3 →
     a3J (a55 P w) A (setRelay a (a0z (es.size + 1))) (fun _ s'=>a3J (a55 P w) A (pure true) Q E s') E { s with heap:=h1 }:=fun M k1 k2 k3 k4=>by
    rw [hsl]
    refine relaid (s:={ s with heap:=h1 }) ho1 ⟨hex.1,hex.2.1,hex.2.2⟩ rfl hin fit2 nd1 l2 k1 k2 k3 (by rw [hlen]; exact k4) ?_
    intro h2 L2 o2 es2 ep2 t3 sb2 R2 pm2
    exact j7 (hQ true h2 L2 o2 es2 ep2 t3 (sb.trans sb2) R2 (fun z=>absurd z hm) fun _=>pm2.trans pm)
   have fin:a3J (a55 P w) A (setRelay a (a0z (es.size + 1))) (fun _ s'=>a3J (a55 P w) A (pure true) Q E s') E { s with heap:=h1 }:=by
    rcases two with ⟨_,e2⟩ | ⟨_,e2⟩ | ⟨_,e2⟩
    ·exact go 31 (by rw [e2,size_20]) (.inl (.inr (.inl rfl))) (by rw [e2,size_20]; decide) (by omega)
    ·exact go 127 (by rw [e2,size_76]) (.inl (.inr (.inr rfl))) (by rw [e2,size_76]; decide) (by omega)
    ·exact go 511 (by rw [e2,c3S]) (.inr rfl) (by rw [e2,c3S]; decide) (by omega)
   first
    | (refine e9 ?_; exact c0v (by simp [full]) fin)
    | exact c0v (by simp [full]) (e9 fin)
  ·have fin:Q true { s with heap:=h1 }:=by
    refine hQ true h1 L1 _ es1 (ep + 1) t2 sb ⟨ho1,⟨hex.1,hex.2.1,hex.2.2⟩,rfl,hin,T2,nd1,l2,?_⟩ (fun z=>absurd z hm) fun _=>pm
    have z:=full
    unfold SetTable.tooFull at z
    rw [decide_eq_true_eq,f2,m2] at z
    rw [m2]
    omega
   first
    | exact a4x (by simp [full]) (j7 fin)
    | (refine e9 ?_; exact a4x (by simp [full]) (j7 (j7 fin)))
 have led1:w.params.followText "set-order" = true ∨ t1.led = true:=by rw [q5]; exact R.led
 have fill1:t1.fill = L1.length:=by rw [q9,j3,hlen]
 by_cases pl:t1.plain = true
 ·refine c0v pl (e9 (c90 hx fun z=>?_))
  cases z with
  | true=>exact a9o t1 q3 q4 led1 fill1
  | false=>exact a9o { t1 with plain:=false } ⟨q3.ris,q3.dm,q3.sz,q3.mok,q3.bd,q3.reach⟩ q4 led1 fill1
 ·refine a4x pl (e9 (j7 ?_))
  exact a9o t1 q3 q4 led1 fill1
end
end AqT
namespace AqU
open PySem PySem.W PySem.SeqAt PySem.Calls PyProof.Rows
/-- compared place by place, up to the first that differs -/
def cmpAll:List c8 → List c8 → Bool
 | x :: xs,y :: ys=>alike x y && (!i7 x y || cmpAll xs ys)
 | _,_=>true
theorem c79 {x y:c8} {xs ys:List c8} (h:cmpAll (x :: xs) (y :: ys) = true):alike x y = true ∧ (i7 x y = true → cmpAll xs ys = true):=by
 rw [cmpAll,m5,Bool.or_eq_true] at h
 refine ⟨h.1,fun e=>?_⟩
 rcases h.2 with z | z
 ·rw [e] at z; cases z
 ·exact z
mutual
theorem b4Q {h:b8V}:∀ (d d':c8) (v:m6) (as as':List v4),Aq.noDic d = true → c5Q h v d as → c5Q h v d' as' → d = d'
 | .none,_,_,_,_,_,r,r'=>by cases r; cases r'; rfl
 | .bool _,_,_,_,_,_,r,r'=>by cases r; cases r'; rfl
 | .int _,_,_,_,_,_,r,r'=>by cases r; cases r'; rfl
 | .str _,_,_,_,_,_,r,r'=>by cases r; cases r'; rfl
 | .list xs,d',_,_,_,n,r,r'=>by
  have n':Aq.noDics xs = true:=by rw [Aq.noDic] at n; exact n
  cases r with
  | list h1 h2 h3 h4 =>
   cases r' with
   | list k1 k2 k3 k4 =>
    rw [h1] at k1; cases k1
    rw [h3] at k3; cases k3
    rw [a9Q xs _ _ _ _ n' h4 k4]
   | tuple k1 k2 k3 k4=>rw [h1] at k1; cases k1; rw [h2] at k2; injection k2 with k2; exact absurd k2 (by decide)
   | dict k1 k2 k3 k4 k5=>rw [h1] at k1; cases k1; rw [h2] at k2; injection k2 with k2; exact absurd k2 (by decide)
 | .tuple xs,d',_,_,_,n,r,r'=>by
  have n':Aq.noDics xs = true:=by rw [Aq.noDic] at n; exact n
  cases r with
  | tuple h1 h2 h3 h4 =>
   cases r' with
   | tuple k1 k2 k3 k4 =>
    rw [h1] at k1; cases k1
    rw [h3] at k3; cases k3
    rw [a9Q xs _ _ _ _ n' h4 k4]
   | list k1 k2 k3 k4=>rw [h1] at k1; cases k1; rw [h2] at k2; injection k2 with k2; exact absurd k2 (by decide)
   | dict k1 k2 k3 k4 k5=>rw [h1] at k1; cases k1; rw [h2] at k2; injection k2 with k2; exact absurd k2 (by decide)
 | .dict _,d',_,_,_,n,_,_=>by rw [Aq.noDic] at n; cases n
theorem a9Q {h:b8V}:∀ (xs ys:List c8) (vs:List m6) (as as':List v4),Aq.noDics xs = true → c9M h vs xs as → c9M h vs ys as' → xs = ys
 | [],_,_,_,_,_,r,r'=>by cases r; cases r'; rfl
 | x :: xs,ys,_,_,_,n,r,r'=>by
  rw [Aq.noDics,m5] at n
  cases r with
  | cons h1 h2 =>
   cases r' with
   | cons k1 k2=>rw [b4Q x _ _ _ _ n.1 h1 k1,a9Q xs _ _ _ _ n.2 h2 k2]
end
theorem d3f {h:b8V} {ds:List c8} {v:m6} {d:c8} {as:List v4} (nd:∀ d ∈ ds,Aq.noDic d = true) (hd:d ∈ ds) (r:c5Q h v d as):(c5F h ds).keyOf v = some (keyToks d):=by
 have q:∃ d,d ∈ ds ∧ ∃ as,c5Q h v d as:=⟨d,hd,as,r⟩
 have e:(c5F h ds).keyOf v = some (keyToks q.choose):=by
  show (open Classical in if q:∃ d,d ∈ ds ∧ ∃ as,c5Q h v d as then some (keyToks q.choose) else none) = _
  rw [dif_pos q]
 obtain ⟨z1,as2,z2⟩:=q.choose_spec
 rw [e,b4Q _ _ _ _ _ (nd _ z1) z2 r]
section
variable {prog:a2q} {w:i6} {A:b6Y} {E:m6 → z7 → Prop} {s:z7}
theorem c53 {b fin:Bool} {Q:Bool → z7 → Prop}:∀ (xs ys:List c8) (i:Nat) (vs us:List m6) (as bs:List v4),c9M s.heap vs xs as → c9M s.heap us ys bs → cmpAll xs ys = true →
  A.units + min (a1f xs) (a1f ys) < a82 → (b = true → i = 0 → ∀ x r t,xs = x :: r → x ≠ .tuple t) → fin = decide (xs.length < ys.length) → Q (lexLt itemOrd (c86 xs) (c86 ys)) s → KatLex prog w A b fin Q (vs.zip us) i s
 | [],[],i,_,_,_,_,ra,rb,_,_,_,hf,hq=>by
  cases ra
  cases rb
  obtain rfl:fin = false:=by rw [hf]; rfl
  rw [lex_irrefl] at hq
  exact kat_nil hq
 | [],y :: ys,i,_,_,_,_,ra,rb,_,_,_,hf,hq=>by
  cases ra
  obtain rfl:fin = true:=by rw [hf]; exact decide_eq_true (Nat.succ_pos _)
  rw [toks_all_cons] at hq
  simp only [c86] at hq
  rw [lex_diff (O:=itemOrd) (by simp)] at hq
  rw [List.zip_nil_left]
  exact kat_nil (by simpa [itemLt] using hq)
 | x :: xs,[],i,_,_,_,_,ra,rb,_,_,_,hf,hq=>by
  cases rb
  obtain rfl:fin = false:=by rw [hf]; exact decide_eq_false (Nat.not_lt_zero _)
  rw [toks_all_cons] at hq
  simp only [c86] at hq
  rw [lex_diff (O:=itemOrd) (by simp)] at hq
  rw [List.zip_nil_right]
  exact kat_nil (by simpa [itemLt] using hq)
 | x :: xs,y :: ys,i,_,_,_,_,ra,rb,h,hu,hb,hf,hq=>by
  obtain ⟨h1,h2⟩:=c79 h
  have hf2:fin = decide (xs.length < ys.length):=by
   rw [hf]
   simp only [v6,Nat.add_lt_add_iff_right]
  cases ra with
  | cons r rs =>
   cases rb with
   | cons r' rs' =>
    rw [List.zip_cons_cons]
    refine kat_cons (eqAt_alike x y A s _ _ _ _ r r' h1 (room_head hu) prog w _ _ ?_)
    cases hx:i7 x y with
    | true =>
     rw [dataLt_all_yes h1 hx] at hq
     exact kat_yes (c53 xs ys (i + 1) _ _ _ _ rs rs' (h2 hx) (room_tail hu) (fun _ hi=>absurd hi (Nat.succ_ne_zero i)) hf2 hq)
    | false =>
     rw [dataLt_all_no h1 hx] at hq
     refine kat_no (oneLt_alike (fun hbi t=>?_) r r' h1 (ne_none_of h1 hx) (room_head hu) hq)
     rw [m5] at hbi
     exact hb hbi.1 (by simpa using hbi.2) x xs t rfl
/-- rows, none empty, their first places alike, each two compared -/
structure Rows (ds:List c8):Prop where
 tup:∀ d ∈ ds,∃ x r,d = .tuple (x :: r)
 fst:∀ x r,a2Q (x :: r) ∈ ds → ∀ y q,a2Q (y :: q) ∈ ds → alike x y = true
 cmp:∀ xs,a2Q xs ∈ ds → ∀ ys,a2Q ys ∈ ds → cmpAll xs ys = true
 nd:∀ d ∈ ds,Aq.noDic d = true
theorem Rows.perm {ds es:List c8} (R:Rows ds) (h:∀ d ∈ es,d ∈ ds):Rows es :=
 ⟨fun d hd=>R.tup d (h d hd),fun x r h1 y q h2=>R.fst x r (h _ h1) y q (h _ h2),fun xs h1 ys h2=>R.cmp xs (h _ h1) ys (h _ h2),fun d hd=>R.nd d (h d hd)⟩
theorem sorts {vs:List m6} {ds:List c8} (e:EachIs (fun v d=>∃ as,c5Q s.heap v d as) vs ds) (R:Rows ds) (hu:∀ d,d ∈ ds → A.units + d.depth < a82):SortsAt prog w A s (c5F s.heap ds) vs:=by
 refine ⟨fun v hv=>?_,?_⟩
 ·obtain ⟨d,hd,as,r⟩:=e.left v hv
  exact ⟨_,d3f R.nd hd r⟩
 cases ds with
 | nil =>
  cases e
  refine ⟨general',fun E x y a b Q ha _ _=>?_,fun h2=>absurd h2 (by simp)⟩
  obtain ⟨d,_,hd,_⟩:=d2u ha
  exact absurd hd (by simp)
 | cons d₀ ds₀ =>
  obtain ⟨x₀,r₀,e₀⟩:=R.tup d₀ e6
  have m₀:a2Q (x₀ :: r₀) ∈ d₀ :: ds₀:=by rw [← e₀]; exact e6
  have first:∀ x r,a2Q (x :: r) ∈ d₀ :: ds₀ → dataType x = dataType x₀:=fun x r hm=>dataType_alike (R.fst x r hm x₀ r₀ m₀)
  refine ⟨tuples' (dataType x₀ != c85 "tuple"),?_,fun h2 E Q hq=>?_⟩
  ·intro E x y a b Q ha hb hq
   obtain ⟨d,as,hd,ra,rfl⟩:=d2u ha
   obtain ⟨d',as',hd',rb,rfl⟩:=d2u hb
   have room:A.units + min d.depth d'.depth < a82:=Nat.lt_of_le_of_lt (Nat.add_le_add_left (Nat.min_le_left _ _) _) (hu d hd)
   obtain ⟨x1,r1,rfl⟩:=R.tup d hd
   obtain ⟨x2,r2,rfl⟩:=R.tup d' hd'
   have hq':Q (dataLt (.tuple (x1 :: r1)) (.tuple (x2 :: r2))) s:=hq
   rw [dataLt_tuple] at hq'
   cases ra with
   | @tuple l o xs n _ _ h1 h2 h3 h4 =>
    cases rb with
    | @tuple l' o' xs' n' _ _ k1 k2 k3 k4 =>
     have n1:xs.size = (x1 :: r1).length:=by simpa using d2q _ _ _ h4
     have n2:xs'.size = (x2 :: r2).length:=by simpa using d2q _ _ _ k4
     refine kat_lt h1 h3 k1 k3 (c53 (x1 :: r1) (x2 :: r2) 0 _ _ _ _ h4 k4 (R.cmp _ hd _ hd') (by have q:=SeqAt.room_in room; omega) (fun hb _ x r t ex=>?_) (by rw [n1,n2]) hq')
     obtain ⟨rfl,rfl⟩:=List.cons.inj ex
     rw [← first _ _ hd] at hb
     exact dataType_tuple hb t
  ·obtain ⟨fs,t1,t2,t3⟩:=each_katTups e R.tup
   refine kat_kind (T:=dataType x₀) t1 (by omega) (fun f hf=>?_) (beq_self_eq_true _) hq
   obtain ⟨x,r,as,m1,m2⟩:=t3 f hf
   rw [← first x r m1]
   exact looks_reads m2
variable {β:Type} {vs:List m6} {bs:List β} {enc:β → c8} {R:m6 → β → Prop}
theorem c8b {h:b8V} {ds:List c8} (nd:∀ d ∈ ds,Aq.noDic d = true) {vs:List m6} (e:EachIs (fun v d=>∃ as,c5Q h v d as) vs ds):EachIs (fun v d=>(c5F h ds).keyOf v = some (keyToks d)) vs ds :=
 (each_mem e).mono fun _ _ ⟨⟨_,r⟩,hd⟩=>d3f nd hd r
/-- xs.sort() of a list that holds no list -/
theorem sort_rows {a:v4} {n:Nat} {Q:m6 → z7 → Prop} (ho:s.heap.get? a = some (a6j "list" vs.toArray n)) (e:EachIs R vs bs) (er:EachIs (fun v b=>∃ as,c5Q (c5V s.heap a vs) v (enc b) as) vs bs) (hr:Rows (bs.map enc)) (hL:bs.length ≤ k8)
  (hu:∀ b,b ∈ bs → A.units + 1 + (enc b).depth < a82) (h:∀ out,out.length = bs.length → EachIs R out (bs.mergeSort (dataLe false enc)) → Q .none { s with heap:=a30 s.heap a vs (List.toArray out) }) :
  a3J (a55 prog w) A (call (.builtin "list.sort") [.ref a]) Q E s:=by
 have em:=each_map (R:=fun v d=>∃ as,c5Q (c5V s.heap a vs) v d as) enc er
 refine wpAny_call_entry slot_list_sort ⟨_,ho,rfl⟩ entry_list_sort (list_sort_vals (κ:=c5F (c5V s.heap a vs) (bs.map enc)) ho (sorts (s:={ s with heap:=c5V s.heap a vs }) em hr (bound_map hu)) (by rw [e.length]; exact hL) ⟨.none,rfl,?_⟩) (args_list_sort _)
 exact h _ (by rw [sortVals_length false rfl]; exact e.length) (sortVals_each (κ:=c5F _ (bs.map enc)) (fun b=>keyToks (enc b)) e (each_of_map enc (c8b hr.nd em)))
end
end AqU
namespace AqB
open PySem PySem.Calls PySem.Spec PyProof.Rows L2 AqT
theorem TSet.any {P P':a2q} {w:i6} {h:b8V} {a:v4} {L:TL} {o:Obj} {es:Array (Int × m6)} {ep:Nat} {t:a5c} (R:TSet P w h a L o es ep t):TSet P' w h a L o es ep t:=⟨R.at_,R.exact_,R.data,R.rows,R.tab,R.nd,R.led,R.room⟩
def TSetO (w:i6) (a:v4) (L:TL):HO:=.ext fun h=>∃ P o es ep t,TSet P w h a L o es ep t
theorem c7b {P:a2q} {w:i6} {H:Hp} {h:b8V} {a:v4} {L:TL} (R:∃ o es ep t,TSet P w h a L o es ep t):ObjOk P w H h a (TSetO w a L):=by
 obtain ⟨o,es,ep,t,r⟩:=R
 exact ⟨⟨P,o,es,ep,t,r⟩,⟨o,r.at_⟩,fun h1 h2 ⟨P,o,es,ep,t,r⟩ k=>⟨P,o,es,ep,t,k o r.at_,r.exact_,r.data,r.rows,r.tab,r.nd,r.led,r.room⟩⟩
/-- what a set has of a list -/
structure Of (L M:TL):Prop where
 sub:∀ p ∈ M,p ∈ L
 all:∀ p ∈ L,p.2 ∈ M.map (·.2)
 nd:(M.map (·.2)).Nodup
def rSetT (w:i6) (K:b0):List V → Hp → VK → Prop:=fun xs H Q=>∃ (l:v4) (L:TL),xs = [b4d l] ∧ H l = some (.lst (L.map fun p=>b4d p.1)) ∧ (∀ p ∈ L,SqT K H p.1 (p.2.map kV)) ∧ L.length ≤ 300 ∧ ∀ a M,H a = none → Of L M → Q (.ref a) (upd H a (TSetO w a M))
section
variable {X:Cx}
theorem Inv.tupAt {pins:List (v4 × Obj)} {σ:a3j} {H:Hp} {s:z7} {b:v4} {ks:List Key} (I:Inv X pins σ H s) (h:SqT X.K H b (ks.map kV)):a7F X.prog X.w s.heap ks b:=by
 obtain ⟨its,r,⟨o,e,c,n,d⟩,_⟩:=I.tuple h
 exact ⟨o,_,n,e,c,d,by simpa using items_are r⟩
theorem c08:∀ {L:TL} {us:List m6},Vals (L.map fun p=>b4d p.1) us → us = L.map fun p=>a1z p.1
 | [],_,r=>by cases r; rfl
 | p :: L,_,r=>by
  rw [i8] at r
  cases r with
  | cons h t =>
   have h':_ = a1z p.1:=h
   rw [h',c08 t]
   rfl
theorem b35 {P:a2q} {w:i6} {h h':b8V} {k:List Key} {b:v4} (x:a7F P w h k b) (hk:∀ c o,h.get? c = some o → h'.get? c = some o):a7F P w h' k b:=by
 obtain ⟨o,items,n,e,r⟩:=x
 exact ⟨o,items,n,hk _ _ e,r⟩
theorem cr_setT (hc:X.calm = true) (hu:X.A.units + 64 < a82):d2g X (.type "set") (rSetT X.w X.K):=by
 intro pins s σ H xs us Q I r h
 obtain ⟨l,L,rfl,hl,ht,hb,q⟩:=h
 rw [c0p r]
 obtain ⟨its,rv,pl,hz⟩:=I.list (.of hl)
 have ei:=c08 rv
 have hn:H s.heap.objs.size = none:=I.hok.fresh (a1e _)
 have tu:∀ p ∈ L,a7F X.prog X.w s.heap p.2 p.1:=fun p hp=>Inv.tupAt I (ht p hp)
 have ad:AqS.Adds X.prog X.w a82 s.heap s.heap.objs.size its (fun i h=>∃ M o es ep t,TSet X.prog X.w h s.heap.objs.size M o es ep t ∧ Of (L.take i) M ∧ M.length ≤ i):=by
  refine ⟨fun i h h' ⟨M,o,es,ep,t,R,f,z⟩ k _=>⟨M,o,es,ep,t,⟨k o R.at_,R.exact_,R.data,R.rows,R.tab,R.nd,R.led,R.room⟩,f,z⟩,fun A' E' i s' v Q' hA hv ⟨M,o,es,ep,t,R,f,z⟩ k0 hQ=>?_⟩
  rw [ei,z8] at hv
  cases hp:L[i]? with
  | none=>rw [hp] at hv; cases hv
  | some p =>
   rw [hp] at hv
   obtain rfl:a1z p.1 = v:=r9 hv
   have hpL:p ∈ L:=v7 hp
   have hi:i < L.length:=(j2.mp hp).1
   have nx:L.take (i + 1) = L.take i ++ [p]:=by rw [List.take_add_one,hp]; rfl
   unfold setAdd
   refine a1w ?_
   refine e9 (wpAny_pyHash_tuple hA (b35 (tu p hpL) k0) ?_)
   refine adds (s:={ s' with toks:=s'.toks + (p.2.length + 1) }) R (fun q hq=>b35 (tu q (a37 (f.sub q hq))) k0) (b35 (tu p hpL) k0) hA (by omega) fun b h' M' o' es' ep' t' sb R' yes no=>?_
   refine hQ b h' _ (c34 _ _) sb ⟨M',o',es',ep',t',R',?_⟩
   by_cases hm:p.2 ∈ M.map (·.2)
   ·rw [yes hm]
    refine ⟨⟨fun x hx=>?_,fun x hx=>?_,f.nd⟩,by omega⟩
    ·rw [nx]; exact a0o _ (f.sub x hx)
    ·rw [nx] at hx
     rcases v8.mp hx with hx | hx
     ·exact f.all x hx
     ·rw [a9m.mp hx]; exact hm
   ·have pm:=no hm
    refine ⟨⟨fun x hx=>?_,fun x hx=>?_,R'.nd⟩,by rw [pm.length_eq,v6]; omega⟩
    ·rw [nx]
     rcases n8.mp (pm.mem_iff.mp hx) with rfl | hx
     ·exact a2j _ (m9 _)
     ·exact a0o _ (f.sub x hx)
    ·have pm2:=pm.map (·.2)
     rw [pm2.mem_iff]
     rw [nx] at hx
     rcases v8.mp hx with hx | hx
     ·exact e8 _ (f.all x hx)
     ·rw [a9m.mp hx]; exact e6
 refine AqS.call_set (P:=X.prog) (w:=X.w) (u:=a82) (I.ok.hd hc) pl.isList ad (by omega) (fun h ho _=>?_) fun h' tk J k=>?_
 ·refine ⟨[],_,#[],0,_,⟨ho,⟨rfl,rfl,rfl⟩,rfl,rfl,⟨c1Y,rfl,rfl,.inl (.inl rfl),fun x hx=>absurd (show x ∈ ([]:List Nat) from hx) (by simp),fun i h j e=>by simp at e⟩,b6Z,?_,by show 0 < 7 * 3; decide⟩,⟨fun p hp=>by simp at hp,fun p hp=>by simp at hp,b6Z⟩,a1e _⟩
  show _ ∨ (!X.w.params.followText "set-order") = true
  cases X.w.params.followText "set-order"
  ·exact .inr rfl
  ·exact .inl rfl
 ·obtain ⟨M,o,es,ep,t,R,f,_⟩:=J
  have el:its.length = L.length:=by rw [ei,j3]
  rw [el,c33] at f
  exact ⟨.ref s.heap.objs.size,upd H s.heap.objs.size (TSetO X.w s.heap.objs.size M),I.laid (t':=tk) k (a1e _) (c7b ⟨o,es,ep,t,R⟩),rfl,q _ M hn f⟩
/-- a tuple of keys as data -/
def tupD (ks:List Key):c8:=.tuple (ks.map Aq.kD)
def rSortT (w:i6) (K:b0):List V → Hp → VK → Prop:=fun vs H Q=>∃ (a:v4) (M:TL),vs = [b4d a] ∧ H a = some (TSetO w a M) ∧ (∀ p ∈ M,SqT K H p.1 (p.2.map kV)) ∧ M.length ≤ 4000 ∧ AqU.Rows (M.map fun p=>tupD p.2) ∧
 ∀ (p:v4) (N:TL),N.Perm M → (N.map fun p=>tupD p.2).Pairwise AqS.leD → H p = none → Q (.ref p) (upd H p (.lst (N.map fun p=>b4d p.1)))
theorem b15 {h:b8V}:∀ {ks:List Key} {us:List m6},ItemsAre (b1s X.prog X.w) ks us → c9M h us (ks.map Aq.kD) []
 | _,_,.nil=>.nil
 | _,_,.cons hk t=>by
  rename_i k v ks vs
  rcases a7L (show c0s k v = true from hk) with ⟨i,t',rfl,rfl⟩ | ⟨x,t',rfl,rfl⟩
  ·exact ReadsAll.cons (as:=[]) (Reads.int i t') (b15 t)
  ·exact ReadsAll.cons (as:=[]) (Reads.str x t') (b15 t)
theorem c6M {h:b8V} {ks:List Key} {b:v4} (x:a7F X.prog X.w h ks b):c5Q h (.ref b) (tupD ks) []:=by
 obtain ⟨o,items,n,e,c,d,hi⟩:=x
 exact .tuple e c d (b15 (X:=X) hi)
theorem b66:∀ ks:List Key,a1f (ks.map Aq.kD) = 0
 | []=>by simp [a1f]
 | k :: ks=>by
  rw [i8,a1f,b66 ks]
  cases k <;> simp [Aq.kD,a01]
theorem c55 (ks:List Key):(tupD ks).depth = 1:=by
 unfold tupD
 rw [a01,b66]
theorem b4r {R:m6 → (v4 × List Key) → Prop}:∀ {vs:List m6} {N:TL},vs = N.map (fun p=>a1z p.1) → (∀ p ∈ N,R (.ref p.1) p) → a1T R vs N
 | _,[],e,_=>by subst e; exact .nil
 | _,p :: N,e,h=>by
  subst e
  exact .cons (h p e6) (b4r rfl fun q hq=>h q (e8 _ hq))
theorem c1v:∀ {vs:List m6} {N:TL},a1T (fun v p=>v = a1z p.1) vs N → Vals (N.map fun p=>b4d p.1) vs
 | _,_,.nil=>.nil
 | _,_,.cons h t=>.cons (by rw [h]; rfl) (c1v t)
theorem cr_sortT (hc:X.calm = true) (hu:X.A.units + 64 < a82):d2g X (.builtin "sorted") (rSortT X.w X.K):=by
 intro pins s σ H vs us Q I r h
 obtain ⟨a,M,rfl,ha,ht,hb,hrw,q⟩:=h
 rw [c0p r]
 obtain ⟨P0,o,es,ep,t,R0⟩:∃ P o es ep t,TSet P X.w s.heap a M o es ep t:=(I.hok a _ ha).1
 have R:TSet X.prog X.w s.heap a M o es ep t:=TSet.any R0
 have hsz:es.size = M.length:=R.sz
 refine c7W kind_sorted plain_sorted entry_sorted (args_sorted1 _) ?_
 unfold Builtin.«sorted»
 refine e9 (m:=checkCount "sorted" 1 1 _) (j7 ?_)
 refine e9 (collect_set (A:=X.A.in1) (I.ok.hd hc) ⟨o,R.at_,R.exact_.1,R.data⟩ R.fits (by rw [hsz]; show M.length < 4096; omega) R.tab.ris R.led fun s1 vs k1 hz g1 o1 pm=>?_)
 obtain ⟨N,hN,pmN⟩:∃ N:TL,vs = N.map (fun p=>a1z p.1) ∧ N.Perm M:=by
  rw [R.rows] at pm
  have e:(b16 X.prog X.w M).map (·.2) = M.map fun p=>a1z p.1:=by
   unfold b16
   rw [w7]
   rfl
  rw [e] at pm
  have inv:∀ {xs ys:List m6},xs.Perm ys → ∀ M:TL,ys = M.map (fun p=>a1z p.1) → ∃ N:TL,xs = N.map (fun p=>a1z p.1) ∧ N.Perm M:=fun {xs ys} hp=>by
   induction hp with
   | nil=>intro M e; cases M with
    | nil=>exact ⟨[],rfl,.refl _⟩
    | cons _ _=>cases e
   | cons x hp ih=>intro M e; cases M with
    | nil=>cases e
    | cons m M =>
     rw [i8] at e
     injection e with e1 e2
     obtain ⟨N,f1,f2⟩:=ih M e2
     exact ⟨m :: N,by rw [i8,f1,e1],f2.cons m⟩
   | swap x y l=>intro M e; cases M with
    | nil=>cases e
    | cons m M=>cases M with
     | nil=>cases e
     | cons n M =>
      rw [i8,i8] at e
      injection e with e1 e2
      injection e2 with e2 e3
      exact ⟨n :: m :: M,by rw [i8,i8,e1,e2,e3],.swap _ _ _⟩
   | trans h1 h2 i1 i2=>intro M e; obtain ⟨N,f1,f2⟩:=i2 M e; obtain ⟨N',g1,g2⟩:=i1 N f1; exact ⟨N',g1,g2.trans f2⟩
  exact inv pm M rfl
 have hvl:vs.length = M.length:=by rw [hN,j3,pmN.length_eq]
 have small:M.length ≤ k8:=by rw [a1I]; omega
 refine e9 (wpAny_newList ?_ (by rw [hvl]; exact small))
 have hoL:(s1.heap.push (a6j "list" vs.toArray 0)).get? s1.heap.objs.size = some (a6j "list" vs.toArray 0):=a0Z _ rfl
 have tu:∀ p ∈ N,a7F X.prog X.w s.heap p.2 p.1:=fun p hp=>Inv.tupAt I (ht p (pmN.mem_iff.mp hp))
 have e1:a1T (fun v (p:v4 × List Key)=>v = a1z p.1) vs N:=b4r hN fun p hp=>rfl
 have e2:a1T (fun v (p:v4 × List Key)=>∃ as,c5Q (PySem.W.sortingHeap (s1.heap.push (a6j "list" vs.toArray 0)) s1.heap.objs.size vs) v (tupD p.2) as) vs N:=b4r hN fun p hp=>by
  refine ⟨[],c6M (X:=X) (b35 (tu p hp) fun c u e=>?_)⟩
  have q1:=k1 c u e
  exact PySem.W.sortingHeap_old (a6i (a6h q1)) (r6 _ q1)
 have hrN:AqU.Rows (N.map fun p=>tupD p.2):=hrw.perm fun d hd=>by
  obtain ⟨p,hp,rfl⟩:=e7.mp hd
  exact e7.mpr ⟨p,pmN.mem_iff.mp hp,rfl⟩
 refine e9 (a1w (AqU.sort_rows (s:={ s1 with heap:=s1.heap.push (a6j "list" vs.toArray 0) }) (enc:=fun p=>tupD p.2) (bs:=N) hoL e1 e2 hrN (by rw [pmN.length_eq]; exact small) (fun b _=>by rw [c55]; show X.A.units + 1 + 1 + 1 < a82; omega) fun out hol eo=>?_))
 obtain ⟨c,hc2⟩:=sortedHeap_at (vs:=vs) (out:=out.toArray) hoL
 have pms:=b8W N (a1s false fun p=>tupD p.2)
 have hv:=c1v eo
 have hlen:((N.mergeSort (a1s false fun p=>tupD p.2)).map fun p=>b4d p.1).length ≤ k8:=by
  rw [j3,pms.length_eq,pmN.length_eq]; exact small
 have hn:H s1.heap.objs.size = none:=I.hok.fresh hz
 have kk:∀ b u,s.heap.get? b = some u → (a30 (s1.heap.push (a6j "list" vs.toArray 0)) s1.heap.objs.size vs out.toArray).get? b = some u:=fun b u e=>by
  have q1:=k1 b u e
  have hlt:=a6h q1
  rw [sortedHeap_old (a6i hlt) (by rw [a6d]; exact b0l hlt)]
  exact r6 _ q1
 have J:Inv X pins σ (upd H s1.heap.objs.size (.lst ((N.mergeSort (a1s false fun p=>tupD p.2)).map fun p=>b4d p.1))) { s with heap:=a30 (s1.heap.push (a6j "list" vs.toArray 0)) s1.heap.objs.size vs out.toArray,gens:=s1.gens,drawn:=s1.drawn,toks:=s1.toks } :=
  I.call (ch:=[]) (Un.laid kk hz hn) (I.hok.laid kk hz ⟨hlen,out,c,hv,hc2⟩) (by rw [g1]; exact I.bare) (fun _ z=>nomatch z)
 refine j7 ⟨_,rfl,?_⟩
 have e:(⟨a30 (s1.heap.push (a6j "list" vs.toArray 0)) s1.heap.objs.size vs out.toArray,s1.gens,s1.drawn,s1.toks,s1.os⟩:z7) = { s with heap:=a30 (s1.heap.push (a6j "list" vs.toArray 0)) s1.heap.objs.size vs out.toArray,gens:=s1.gens,drawn:=s1.drawn,toks:=s1.toks }:=by
  rw [o1]
 show EP X pins σ Q (.ref s1.heap.objs.size) ⟨a30 (s1.heap.push (a6j "list" vs.toArray 0)) s1.heap.objs.size vs out.toArray,s1.gens,s1.drawn,s1.toks,s1.os⟩
 rw [e]
 exact ⟨.ref s1.heap.objs.size,_,J,rfl,q _ _ (pms.trans pmN) (a2y.mpr (AqS.pw_sort (fun p:v4 × List Key=>tupD p.2) _)) hn⟩
/-- len(s) -/
def rLenT (w:i6):List V → Hp → VK → Prop:=fun vs H Q=>∃ (a:v4) (M:TL),vs = [b4d a] ∧ H a = some (TSetO w a M) ∧ M.length ≤ 4000 ∧ Q (.int M.length) H
theorem cr_lenT:d2g X (.builtin "len") (rLenT X.w):=by
 intro pins s σ H vs us Q I r h
 obtain ⟨a,M,rfl,ha,hb,q⟩:=h
 rw [c0p r]
 obtain ⟨P0,o,es,ep,t,R0⟩:∃ P o es ep t,TSet P X.w s.heap a M o es ep t:=(I.hok a _ ha).1
 have R:TSet X.prog X.w s.heap a M o es ep t:=TSet.any R0
 exact call_len_set R.at_ R.exact_ R.data R.fits (by rw [R.sz]; omega) ⟨.int M.length,H,I.tok _,⟨_,by rw [R.sz]⟩,q⟩
end
end AqB
namespace AqB
open PySem PySem.Calls PySem.Spec PyProof.Rows L2 AqT
end AqB
namespace Aq
open PySem PySem.Spec PyProof.Rows L2
section
variable {K:b0} {W:WX}
open AqB (tupD)
theorem a6p {α:Type} [DecidableEq α]:∀ {l m:List α},l.Nodup → (∀ x ∈ l,x ∈ m) → l.length ≤ m.length
 | [],m,_,_=>a4D _
 | x :: l,m,h,hs=>by
  have hx:=hs x e6
  have nd:=a1d.mp h
  have hl:l.length ≤ (m.erase x).length:=a6p nd.2 fun y hy=>by
   have ne:y ≠ x:=fun e=>nd.1 (e ▸ hy)
   exact (List.mem_erase_of_ne ne).mpr (hs y (e8 _ hy))
  rw [List.length_erase_of_mem hx] at hl
  have:0 < m.length:=List.length_pos_of_mem hx
  rw [v6]; omega
def d2Q:DCl:=gC1 fun d P=>match d with
 | .list ds=>AqU.Rows ds ∧ (∀ d ∈ ds,d.depth ≤ 60) ∧ ∀ es,es.Perm ds → es.Pairwise AqS.leD → P (.newL es)
 | _=>False
def d3z:c8 → Option (List Key)
 | .tuple ds=>b0D ds
 | _=>none
def a7B:List c8 → Option (List (List Key))
 | []=>some []
 | d :: ds=>match d3z d,a7B ds with
  | some k,some ks=>some (k :: ks)
  | _,_=>none
theorem c6n (ks:List Key):b0D (ks.map kD) = some ks:=by
 induction ks with
 | nil=>rfl
 | cons k ks ih=>rw [i8,b0D,d2K,ih]
theorem b77 (kss:List (List Key)):a7B (kss.map tupD) = some kss:=by
 induction kss with
 | nil=>rfl
 | cons k ks ih=>rw [i8,a7B,ih]; show (match b0D (k.map kD),some ks with | some k,some ks=>some (k :: ks) | _,_=>none) = _; rw [c6n]
theorem c3B:∀ {ds:List c8} {ks:List Key},b0D ds = some ks → ds = ks.map kD
 | [],ks,e=>by cases e; rfl
 | d :: ds,ks,e=>by
  unfold b0D at e
  cases q1:dK d with
  | none=>simp [q1] at e
  | some k =>
   cases q2:b0D ds with
   | none=>simp [q1,q2] at e
   | some l =>
    simp only [q1,q2,a0g] at e
    subst e
    rw [i8,← c3B q2,← kD_dK q1]
theorem b5q {F:Hp}:∀ {xs:List V} {ds:List c8} {kss:List (List Key)},DrAll K F xs ds → a7B ds = some kss → ∃ L:AqT.TL,xs = L.map (fun p=>b4d p.1) ∧ L.map (·.2) = kss ∧ (∀ p ∈ L,SqT K F p.1 (p.2.map kV)) ∧ ds = kss.map tupD
 | _,_,kss,.nil,e=>by cases e; exact ⟨[],rfl,rfl,fun p hp=>by simp at hp,rfl⟩
 | _,_,kss,.cons (v:=v) (d:=d) (ds:=ds) h t,e=>by
  unfold a7B at e
  cases q1:d3z d with
  | none=>simp [q1] at e
  | some k =>
   cases q2:a7B ds with
   | none=>simp [q1,q2] at e
   | some l =>
    simp only [q1,q2,a0g] at e
    subst e
    obtain ⟨L,e1,e2,e3,e4⟩:=b5q t q2
    cases d with
    | tuple es =>
     have q1:b0D es = some k:=q1
     cases h with
     | @tup a xs _ h1 h2 =>
      have ev:=c3C h2 q1
      rw [ev] at h1
      refine ⟨(a,k) :: L,by rw [i8,e1],by rw [i8,e2],fun p hp=>?_,by rw [i8,← e4,tupD,← c3B q1]⟩
      rcases n8.mp hp with rfl | hp
      ·exact h1
      ·exact e3 p hp
    | _=>cases q1
theorem c9c {F:Hp}:∀ (N:AqT.TL),(∀ p ∈ N,SqT K F p.1 (p.2.map kV)) → DrAll K F (N.map fun p=>b4d p.1) (N.map fun p=>tupD p.2)
 | [],_=>.nil
 | p :: N,h=>.cons (.tup (h p e6) (c3y p.2)) (c9c N fun q hq=>h q (e8 _ hq))
def b5c (w:i6) (K:b0) (ta:TE):TE:=tCB (AqB.rSortT w K) (d3 (tCB (AqB.rSetT w K) (d3 ta p7)) p7)
def b9I (w:i6) (K:b0) (ta:TE):TE:=tCB (AqB.rLenT w) (d3 (tCB (AqB.rSetT w K) (d3 ta p7)) p7)
def kST3 (ds:List c8) (P:PK) (ρ:List AV) (o:Option (List (List Key))):Prop:=match o with
 | some kss=>kss.length ≤ 300 ∧ AqU.Rows ds ∧ ∀ es:List (List Key),es.Nodup → (∀ k,k ∈ es ↔ k ∈ kss) → (es.map tupD).Pairwise AqS.leD → P (.own (.ml none (es.map tupD))) ρ
 | none=>False
def kST2 (P:PK) (ρ:List AV) (r:RV):Prop:=match r with
 | .dat (.list ds)=>kST3 ds P ρ (a7B ds)
 | _=>False
def d12 (P:PK) (r:RV) (ρ:List AV):Prop:=kST2 P ρ r.hold
def b4g (a:AEx):AEx:=fun ρ PX P=>a ρ PX (d12 P)
def kLT3 (P:PK) (ρ:List AV) (o:Option (List (List Key))):Prop:=match o with
 | some kss=>kss.length ≤ 300 ∧ ∀ es:List (List Key),es.Nodup → (∀ k,k ∈ es ↔ k ∈ kss) → P (.dat (.int es.length)) ρ
 | none=>False
def kLT2 (P:PK) (ρ:List AV) (r:RV):Prop:=match r with
 | .dat (.list ds)=>kLT3 P ρ (a7B ds)
 | _=>False
def d11 (P:PK) (r:RV) (ρ:List AV):Prop:=kLT2 P ρ r.hold
def b8Z (a:AEx):AEx:=fun ρ PX P=>a ρ PX (d11 P)
theorem c2b {w:i6} {ta:TE} {a:AEx} (ha:ES K W ta a):ES K W (b5c w K ta) (b4g a):=fun C ρ PX P F H σ Q R h xs k =>
 ha C ρ PX _ F H σ _ R h xs fun v F1 H1 r ρ1 R1 s1 o1 p1=>by
  obtain ⟨F2,R2,s2,o2,n2⟩:=a2r R1 o1
  unfold d12 kST2 at p1
  split at p1
  ·rename_i ds e
   rw [e] at o2
   cases o2 with
   | lst q1 q2 =>
    unfold kST3 at p1
    split at p1
    ·rename_i kss ek
     obtain ⟨hb,hrw,hp⟩:=p1
     obtain ⟨L,e1,e2,e3,e4⟩:=b5q q2 ek
     subst e1
     have e3H:∀ p ∈ L,SqT K H1 p.1 (p.2.map kV):=fun p hp=>b6r R2.sub (e3 p hp)
     refine ⟨_,L,rfl,R2.sub _ _ q1,e3H,by rw [← j3 (f:=(·.2)),e2]; exact hb,fun b M hb2 of=>?_⟩
     have R3:=(R2.laidM (u:=AqB.TSetO w b M) hb2).1
     have sH:a5K H1 (upd H1 b (AqB.TSetO w b M)):=fun c u z=>by rw [a1V (a26 z hb2)]; exact z
     have ml:M.length ≤ L.length:=by
      have nd:=of.nd
      have sub:∀ x ∈ M.map (·.2),x ∈ L.map (·.2):=fun x hx=>by
       obtain ⟨p,hp,rfl⟩:=e7.mp hx
       exact a1p (of.sub p hp)
      have:=a6p nd sub
      rw [j3,j3] at this
      exact this
     have l74:L.length ≤ 300:=by rw [← j3 (f:=(·.2)),e2]; exact hb
     refine ⟨b,M,rfl,a0C,fun p hp=>b6r sH (e3H p (of.sub p hp)),by omega,hrw.perm fun d hd=>?_,fun p N pm pw hn=>?_⟩
     ·obtain ⟨x,hx,rfl⟩:=e7.mp hd
      rw [e4,← e2,w7]
      exact e7.mpr ⟨x,of.sub x hx,rfl⟩
     ·have inL:∀ x ∈ N,x ∈ L:=fun x hx=>of.sub x (pm.mem_iff.mp hx)
      have q:=hp (N.map (·.2)) ((pm.map (·.2)).nodup_iff.mpr of.nd) (fun k=>by
       rw [(pm.map (·.2)).mem_iff,← e2]
       constructor
       ·intro hk
        obtain ⟨x,hx,rfl⟩:=e7.mp hk
        exact a1p (of.sub x hx)
       ·intro hk
        obtain ⟨x,hx,rfl⟩:=e7.mp hk
        exact of.all x hx) (by rw [w7]; exact pw)
      rw [w7] at q
      exact (c8t R3 (P:=P) (Q:=Q) fun v' F' H' r' R' s' o' p'=>k v' F' H' r' ρ1 R' ((s1.trans s2).trans s') o' p').newL p _ _ hn (c9c N fun x hx=>e3 x (inL x hx)) q
    ·exact p1.elim
  ·exact p1.elim
theorem c4e {w:i6} {ta:TE} {a:AEx} (ha:ES K W ta a):ES K W (b9I w K ta) (b8Z a):=fun C ρ PX P F H σ Q R h xs k =>
 ha C ρ PX _ F H σ _ R h xs fun v F1 H1 r ρ1 R1 s1 o1 p1=>by
  obtain ⟨F2,R2,s2,o2,n2⟩:=a2r R1 o1
  unfold d11 kLT2 at p1
  split at p1
  ·rename_i ds e
   rw [e] at o2
   cases o2 with
   | lst q1 q2 =>
    unfold kLT3 at p1
    split at p1
    ·rename_i kss ek
     obtain ⟨hb,hp⟩:=p1
     obtain ⟨L,e1,e2,e3,e4⟩:=b5q q2 ek
     subst e1
     have e3H:∀ p ∈ L,SqT K H1 p.1 (p.2.map kV):=fun p hp=>b6r R2.sub (e3 p hp)
     have l74:L.length ≤ 300:=by rw [← j3 (f:=(·.2)),e2]; exact hb
     refine ⟨_,L,rfl,R2.sub _ _ q1,e3H,l74,fun b M hb2 of=>?_⟩
     have R3:=(R2.laidM (u:=AqB.TSetO w b M) hb2).1
     have ml:M.length ≤ L.length:=by
      have sub:∀ x ∈ M.map (·.2),x ∈ L.map (·.2):=fun x hx=>by
       obtain ⟨p,hp,rfl⟩:=e7.mp hx
       exact a1p (of.sub p hp)
      have:=a6p of.nd sub
      rw [j3,j3] at this
      exact this
     have q:=hp (M.map (·.2)) of.nd (fun k=>by
       rw [← e2]
       constructor
       ·intro hk
        obtain ⟨x,hx,rfl⟩:=e7.mp hk
        exact a1p (of.sub x hx)
       ·intro hk
        obtain ⟨x,hx,rfl⟩:=e7.mp hk
        exact of.all x hx)
     rw [j3] at q
     exact ⟨b,M,rfl,a0C,by omega,k _ F2 _ (.dat (.int M.length)) ρ1 R3 (s1.trans s2) (.int _) q⟩
    ·exact p1.elim
  ·exact p1.elim
def kSD2 (P:PK) (ρ:List AV) (o:Option AV):Prop:=match o with
 | some (.mdt _ es)=>es.length ≤ 4000 ∧ AqU.Rows (es.map fun p=>tupD p.1) ∧ ∀ ks:List (List Key),ks.Perm (es.map (·.1)) → (ks.map tupD).Pairwise AqS.leD → P (.own (.ml none (ks.map tupD))) ρ
 | _=>False
def kSD1 (P:PK) (r:RV) (ρ:List AV):Prop:=match r with
 | .bor i=>kSD2 P ρ (ρ[i]?)
 | _=>False
def c9Y (a:AEx):AEx:=fun ρ PX P=>a ρ PX (kSD1 P)
end
section
variable {ρ:List AV} {PX:PXT} {P:PK} {ds:List c8} {n:Nat}
open AqB (tupD)
theorem d1H {x:AEx}:b4g x ρ PX P = x ρ PX (d12 P):=rfl
theorem c7y:kST2 P ρ (.dat (.list ds)) = kST3 ds P ρ (a7B ds):=rfl
theorem c7z {kss:List (List Key)}:kST3 ds P ρ (some kss) = (kss.length ≤ 300 ∧ AqU.Rows ds ∧ ∀ es:List (List Key),es.Nodup → (∀ k,k ∈ es ↔ k ∈ kss) → (es.map tupD).Pairwise AqS.leD → P (.own (.ml none (es.map tupD))) ρ):=rfl
theorem c7u {x:AEx}:b8Z x ρ PX P = x ρ PX (d11 P):=rfl
theorem c7s:kLT2 P ρ (.dat (.list ds)) = kLT3 P ρ (a7B ds):=rfl
theorem c7t {kss:List (List Key)}:kLT3 P ρ (some kss) = (kss.length ≤ 300 ∧ ∀ es:List (List Key),es.Nodup → (∀ k,k ∈ es ↔ k ∈ kss) → P (.dat (.int es.length)) ρ):=rfl
theorem d1G {x:AEx}:c9Y x ρ PX P = x ρ PX (kSD1 P):=rfl
theorem c7w:kSD1 P (.bor n) ρ = kSD2 P ρ (ρ[n]?):=rfl
theorem c7x {p:Option Nat} {es:List (List Key × c8)}:kSD2 P ρ (some (.mdt p es)) = (es.length ≤ 4000 ∧ AqU.Rows (es.map fun p=>tupD p.1) ∧ ∀ ks:List (List Key),ks.Perm (es.map (·.1)) → (ks.map tupD).Pairwise AqS.leD → P (.own (.ml none (ks.map tupD))) ρ):=rfl
theorem c28 {ko:Out → Prop}:d2Q [.list ds] ko = (AqU.Rows ds ∧ (∀ d ∈ ds,d.depth ≤ 60) ∧ ∀ es,es.Perm ds → es.Pairwise AqS.leD → ko (.newL es)):=rfl
end
section
variable {X:Cx}
theorem c2H {e:Expr} {te:TE} {p q p2 pos:Pos} (hc:X.calm = true) (hu:X.A.units + 64 < a82) (he:PE X e te) (hg:Gl X "sorted") (hm:X.mg "sorted" = none) (hg2:Gl X "set") (hm2:X.mg "set" = none)
  (h1:z5 [.Call (.Name "set" q) [e] [] p2] X.env = (false,c9O (.Call (.Name "set" q) [e] [] p2) X.env) :: z5 [] X.env:=by rfl) (h2:z5 [e] X.env = (false,c9O e X.env) :: z5 [] X.env:=by rfl) :
  PE X (.Call (.Name "sorted" p) [.Call (.Name "set" q) [e] [] p2] [] pos) (b5c X.w X.K te) :=
 y5 (AqB.cr_sortT hc hu) hg hm (by decide +kernel) (c6 (a3H (AqB.cr_setT hc hu) hg2 hm2 (by decide +kernel) (c6 he d8 h2) (by decide) (by decide) h2 rfl) d8 h1) (by decide) (by decide) h1 rfl
theorem c4t {e:Expr} {te:TE} {p q p2 pos:Pos} (hc:X.calm = true) (hu:X.A.units + 64 < a82) (he:PE X e te) (hg:Gl X "len") (hm:X.mg "len" = none) (hg2:Gl X "set") (hm2:X.mg "set" = none)
  (h1:z5 [.Call (.Name "set" q) [e] [] p2] X.env = (false,c9O (.Call (.Name "set" q) [e] [] p2) X.env) :: z5 [] X.env:=by rfl) (h2:z5 [e] X.env = (false,c9O e X.env) :: z5 [] X.env:=by rfl) :
  PE X (.Call (.Name "len" p) [.Call (.Name "set" q) [e] [] p2] [] pos) (b9I X.w X.K te) :=
 y5 AqB.cr_lenT hg hm (by decide +kernel) (c6 (a3H (AqB.cr_setT hc hu) hg2 hm2 (by decide +kernel) (c6 he d8 h2) (by decide) (by decide) h2 rfl) d8 h1) (by decide) (by decide) h1 rfl
end
end Aq
namespace Aq
open PySem PySem.Spec PyProof.Rows L2 Da
/-- at a: a dict of the module, its keys and numbers -/
structure KTab (K:b0) (w:i6) (a:v4) (tab:List (Str × Int)):Prop where
 ex:∃ es n,KDict K w a es n ∧ ∀ z,∃ r,c3t K a z = some r ∧ (match b5o tab z,r with
  | some i,some u=>RelV (.int i) u
  | none,none=>True
  | _,_=>False)
def c61 (tab:List (Str × Int)) (d:Int) (ty:TE):TE:=fun σ H Q=>ty σ H fun y H2=>∃ z,y = .str z ∧ Q (.int ((b5o tab z).getD d)) H2
section
variable {X:Cx} {o e f:Expr} {apos cpos:Pos} {ty:TE}
theorem c8v {a:v4} {tab:List (Str × Int)} {d:Int} (D:KTab X.K X.w a tab) (ho:PE X o (tC (.ref a))) (he:PE X e ty) (hf:PE X f (tC (.int d))) (m:M2 X o "get" apos e f cpos):PE X (.Call (.Attribute o "get" apos) [e,f] [] cpos) (c61 tab d ty):=by
 refine ⟨fun pins s σ H Q I h=>?_⟩
 obtain ⟨es,n,kd,look⟩:=D.ex
 refine wpAny_Call_method m.base m.few m.line PySem.F.plainAttrs_dict d2n PySem.F.type_dict_get (thn (ho.run pins s σ H (fun x H1=>x = .ref a ∧ H1 = H) I ⟨rfl,rfl⟩) fun u s1 ⟨x,H1,I1,rx,ex,eH⟩=>?_)
 subst ex eH
 obtain rfl:u = a1z a:=rx
 have mp:=PySem.W.mapOf_K (prog:=X.prog) (w:=X.w) I1.kIn kd.at_ kd.lit
 refine ⟨mp.typeIs,fun b q=>by cases q; exact ⟨_,I1.kIn _ _ kd.at_,rfl⟩,?_⟩
 rw [m.trees]
 refine Calls.callWith_builtin rfl (Calls.evalArgs_plain (Calls.spliced_cons (thn (he.run pins s1 σ H1 _ I1 h) fun iv s2 ⟨y,H2,I2,ry,z,ez,q2⟩ =>
  Calls.spliced_cons (thn (hf.run pins s2 σ H2 (fun x H3=>x = .int d ∧ H3 = H2) I2 ⟨rfl,rfl⟩) fun fv s3 ⟨x,H3,I3,rf,ex,eH⟩=>Calls.spliced_nil ?_))))
 subst ez ex eH
 obtain ⟨t,rfl⟩:=ry
 obtain ⟨r,er,rr⟩:=look z
 have mp3:=PySem.W.mapOf_K (prog:=X.prog) (w:=X.w) I3.kIn kd.at_ kd.lit
 refine call_meetsIn d2n mp3.typeIs PySem.F.entry_dict_get (PySem.F.args_dict_get_3 _ _ _) (meets_dict_get_default (strKind X.prog X.w) a (strKind_is X.prog X.w z t) kd.low fv) ⟨_,mp3,?_⟩
 rw [PySem.W.find_K kd.at_ er]
 refine ⟨.int ((b5o tab z).getD d),H3,I3.tok _,?_,q2⟩
 cases e1:b5o tab z with
 | none =>
  rw [e1] at rr
  cases r with
  | none=>exact rf
  | some u=>exact rr.elim
 | some i =>
  rw [e1] at rr
  cases r with
  | none=>exact rr.elim
  | some u=>exact rr
end
section
variable {K:b0} {W:WX}
def kKG2 (tab:List (Str × Int)) (d:Int) (P:PK) (ρ:List AV) (x:c8):Prop:=match x with
 | .str z=>P (.dat (.int ((b5o tab z).getD d))) ρ
 | _=>False
def d21 (tab:List (Str × Int)) (d:Int) (P:PK) (r:RV) (ρ:List AV):Prop:=a0J (r.look ρ) fun x=>kKG2 tab d P ρ x
def c5X (tab:List (Str × Int)) (d:Int) (a:AEx):AEx:=fun ρ PX P=>a ρ PX (d21 tab d P)
theorem c8c {tab:List (Str × Int)} {d:Int} {ta:TE} {a:AEx} (ha:ES K W ta a):ES K W (c61 tab d ta) (c5X tab d a):=fun C ρ PX P F H σ Q R h xs k =>
 ha C ρ PX _ F H σ _ R h xs fun v F1 H1 r ρ1 R1 s1 o1 p1=>by
  obtain ⟨e,ee,p1⟩:=a0c p1
  have l:=o1.lk R1 ee
  unfold kKG2 at p1
  split at p1
  ·rename_i z
   rw [l.str]
   exact ⟨z,rfl,k _ F1 H1 (.dat (.int _)) ρ1 R1 s1 (.int _) p1⟩
  ·exact p1.elim
def litP (kvs:List (Str × Int)):List (TE × TE):=kvs.map fun p=>(tC (.str p.1),tC (.int p.2))
def c9t (kvs:List (Str × Int)):List (Key × V):=kvs.map fun p=>(.inr p.1,.int p.2)
def d0X (kvs:List (Str × Int)):List (c8 × c8):=kvs.map fun p=>(.str p.1,.int p.2)
theorem c6x {σ:a3j}:∀ {kvs:List (Str × Int)} {H:Hp} {Q:List (V × V) → Hp → Prop},Q ((c9t kvs).map fun kv=>(kV kv.1,kv.2)) H → tPairs (litP kvs) σ H Q
 | [],H,Q,h=>h
 | p :: kvs,H,Q,h=>by
  show tPairs (litP kvs) σ H fun ps H3=>Q ((V.str p.1,V.int p.2) :: ps) H3
  exact c6x h
theorem c6w {F:Hp}:∀ (kvs:List (Str × Int)),DrKV K F (c9t kvs) (d0X kvs)
 | []=>.nil
 | p :: kvs=>.cons (k:=.inr p.1) (.int _) (c6w kvs)
def c9V (kvs:List (Str × Int)):AEx:=fun ρ _ P=>P (.own (.mdk none (d0X kvs))) ρ
theorem c94 {kvs:List (Str × Int)} (hm:mergeK [] (c9t kvs) = c9t kvs) (hl:kvs.length ≤ 15):ES K W (tDisp (litP kvs)) (c9V kvs):=fun C ρ PX P F H σ Q R h xs k=>fun p hp=>by
 refine c6x (kvs:=kvs) (H:=upd H p (.dK [])) (Q:=fun ps H2=>H2 p = some (.dK []) ∧ ∃ kvs:List (Key × V),ps = kvs.map (fun kv=>(kV kv.1,kv.2)) ∧ kvs.length ≤ 15 ∧ Q (.ref p) (upd H2 p (.dK (mergeK [] kvs)))) ⟨a0C,c9t kvs,rfl,by unfold c9t; rw [j3]; exact hl,?_⟩
 rw [hm,upd_upd]
 obtain ⟨R',hF,h0,hm2⟩:=R.laidM (u:=.dK (c9t kvs)) hp
 exact k (.ref p) F _ (.own (.mdk none (d0X kvs))) ρ R' (.refl _) ⟨p,rfl,rfl,⟨p,c9t kvs,rfl,hF,a0C,c6w kvs,h0⟩,h0,hm2⟩ h
def gRep:DOp:=fun d e P=>match d,e with
 | .list a,.int k=>-(2 ^ 63) ≤ k ∧ k < 2 ^ 63 ∧ a.length * k.toNat ≤ k8 ∧ P (.newL (g5 k.toNat a).flatten)
 | _,_=>False
theorem c9d {F:Hp} {xs:List V} {ds:List c8} (h:DrAll K F xs ds):∀ n:Nat,DrAll K F (g5 n xs).flatten (g5 n ds).flatten
 | 0=>.nil
 | n + 1=>by rw [List.replicate_succ,List.replicate_succ,List.flatten_cons,List.flatten_cons]; exact h.append (c9d h n)
theorem d3o:R2S K rRep gRep:=fun F H x y d e Pd Q s hx hy h o=>by
 cases d with
 | list a =>
  cases e with
  | int k =>
   obtain ⟨l,xs,rfl,h1,h2⟩:=hx.list s
   rw [hy.int]
   exact ⟨l,k,xs,rfl,rfl,h1,h.1,h.2.1,by rw [h2.length]; exact h.2.2.1,fun p hp=>o.newL p _ _ hp (c9d h2 _) h.2.2.2⟩
  | _=>exact h.elim
 | _=>exact h.elim
def c39 (K:b0) (a:v4) (xs:List Str):Prop:=∃ (o:Obj) (its:Array m6) (n:Nat),K.lookup a = some o ∧ o.cls = .type "tuple" ∧ o.data = .seq its n ∧ its.size ≤ k8 ∧ Vals (xs.map V.str) its.toList
theorem c9b {F:Hp}:∀ (xs:List Str),DrAll K F (xs.map V.str) (xs.map v5)
 | []=>.nil
 | x :: xs=>.cons (.str x) (c9b xs)
theorem c39.dr {a:v4} {xs:List Str} (h:c39 K a xs) (F:Hp):Dr K F (.ref a) (.tuple (xs.map .str)):=.tup (.inr h) (c9b xs)
theorem c96 {a:v4} {xs:List Str} (h:c39 K a xs):ES K W (tC (.ref a)) (aC (.tuple (xs.map .str))):=fun C ρ PX P F H σ Q R hp _ k=>k _ F H (.dat _) ρ R (.refl _) (h.dr F) hp
end
section
variable {ρ:List AV} {PX:PXT} {P:PK}
theorem c23 {tab:List (Str × Int)} {d:Int} {x:AEx}:c5X tab d x ρ PX P = x ρ PX (d21 tab d P):=rfl
theorem d1B {tab:List (Str × Int)} {d:Int} {z:Str}:kKG2 tab d P ρ (.str z) = P (.dat (.int ((b5o tab z).getD d))) ρ:=rfl
theorem c7o {kvs:List (Str × Int)}:c9V kvs ρ PX P = P (.own (.mdk none (d0X kvs))) ρ:=rfl
theorem d06 {ds:List c8} {k:Int} {ko:Out → Prop}:gRep (.list ds) (.int k) ko = (-(2 ^ 63) ≤ k ∧ k < 2 ^ 63 ∧ ds.length * k.toNat ≤ k8 ∧ ko (.newL (g5 k.toNat ds).flatten)):=rfl
end
section
open He
theorem c0H {P:Params}:∀ {l:List DictEntry} {ks:List Str},l.map He.keyOf = keysIn P ks → ∀ z,z ∉ ks → l.find? (·.key.isStr z) = none ∧ l.any (·.refKey) = false
 | [],_,_,z,_=>⟨rfl,rfl⟩
 | e :: r,[],h,_,_=>by cases h
 | e :: r,k :: ks,h,z,hz=>by
  have h1:He.keyOf e :: r.map He.keyOf = some (k,PyData.keyHash P k) :: keysIn P ks:=h
  injection h1 with h2 h3
  obtain ⟨q1,q2⟩:=c0H h3 z fun m=>hz (e8 _ m)
  unfold He.keyOf at h2
  split at h2
  ·rename_i x t q
   have h4:=r9 h2
   obtain ⟨h5,h6⟩:=Prod.mk.inj h4
   subst h5
   have ne:¬ z = x:=fun e=>hz (e ▸ e6)
   have n1:e.key.isStr z = false:=by rw [q]; simp [Value.isStr]; exact fun e=>ne e.symm
   have n2:e.refKey = false:=by unfold DictEntry.refKey; rw [q]
   refine ⟨?_,?_⟩
   ·rw [a3G,n1]; exact q1
   ·rw [c0j,n2,q2]; rfl
  ·cases h2
theorem c56 {K:b0} {w:i6} {a:v4} {ks:List Str} (h:dicW K a = some (keysIn w.params ks)) {es:Array DictEntry} {n:Nat} (D:KDict K w a es n) {z:Str} (hz:z ∉ ks):c3t K a z = some none:=by
 unfold dicW at h
 rw [D.at_] at h
 dsimp only at h
 split at h
 ·obtain ⟨q1,q2⟩:=c0H (r9 h) z hz
  unfold c3t
  rw [D.at_]
  dsimp only
  rw [q1,q2]
  rfl
 ·cases h
theorem d0U {K:b0} {w:i6} {a:v4} {tab:List (Str × Int)} (h:dicW K a = some (keysIn w.params (tab.map (·.1)))) (hb:tabB K a tab = true):KTab K w a tab:=by
 obtain ⟨es,n,D⟩:=dicW_ok h
 refine ⟨es,n,D,fun z=>?_⟩
 by_cases hz:z ∈ tab.map (·.1)
 ·obtain ⟨p,hp,rfl⟩:=e7.mp hz
  have h2:=n3.mp hb p hp
  split at h2
  ·rename_i u t i e1 e2
   refine ⟨_,e1,?_⟩
   rw [e2]
   exact ⟨t,by rw [of_decide_eq_true h2]⟩
  ·cases h2
 ·refine ⟨none,c56 h D hz,?_⟩
  have:b5o tab z = none:=by
   unfold b5o
   rw [d1T,List.find?_eq_none]
   intro p hp
   simp only [decide_eq_true_eq]
   exact fun e=>hz (e7.mpr ⟨p,hp,e⟩)
  rw [this]
  trivial
theorem c3T:∀ {xs:List Str} {vs:List m6},c8P xs vs = true → Vals (xs.map V.str) vs
 | [],[],_=>.nil
 | x :: xs,.str y t :: vs,h=>by
  obtain ⟨h1,h2⟩:=ba (show (decide (y = x) && c8P xs vs) = true from h)
  exact .cons ⟨t,by rw [of_decide_eq_true h1]⟩ (c3T h2)
 | [],_ :: _,h=>by cases h
 | x :: xs,[],h=>by cases h
 | x :: xs,.none :: vs,h=>by cases h
 | x :: xs,.bool _ :: vs,h=>by cases h
 | x :: xs,.int _ _ :: vs,h=>by cases h
 | x :: xs,.float _ _ :: vs,h=>by cases h
 | x :: xs,.bytes _ _ :: vs,h=>by cases h
 | x :: xs,.ref _ :: vs,h=>by cases h
 | x :: xs,.type _ :: vs,h=>by cases h
 | x :: xs,.builtin _ :: vs,h=>by cases h
theorem c8o {K:b0} {a:v4} {xs:List Str} (h:d0V K a xs = true):c39 K a xs:=by
 unfold d0V at h
 split at h
 ·rename_i c d its n sl e
  obtain ⟨h1,h2⟩:=ba h
  obtain ⟨h3,h4⟩:=ba h2
  refine ⟨_,its,n,e,congrArg c85 (of_decide_eq_true h1),rfl,?_,c3T h3⟩
  have:=of_decide_eq_true h4
  rw [a1I]; omega
 ·cases h
theorem SaysT.tab {fa:List Fa} {fn:List DefD} {ts:List Tab} {w:i6} {K:b0} (c:SaysT fa fn ts w K) {i:Nat} {t:Tab} (h:ts[i]? = some t):dicW K (t.1 K) = some (keysIn w.params t.2):=by
 have e:ts.map (fun t=>dicW K (t.1 K)) = ts.map fun t=>some (keysIn w.params t.2):=congrArg a2T c
 have e2:=congrArg (fun l:List (Option (List (Option (Str × Int))))=>l[i]?) e
 simp only [z8,h,a0l,a0g] at e2
 exact e2
end
end Aq
namespace Aq
open PySem PySem.Spec PyProof.Rows L2 Da
variable {K:b0} {W:WX}
def kCn5 (P:PK) (ρ:List AV) (k:Int) (o:Option (List Int)):Prop:=match o with
 | some ns=>P (.dat (.int (ns.count k:Nat))) ρ
 | none=>False
def kCn4 (P:PK) (ρ:List AV) (o:Option c8) (es:List c8):Prop:=match o,es with
 | some (.list ds),[.int k]=>kCn5 P ρ k (a83 ds)
 | _,_=>False
def d2W (P:PK) (r1:RV) (rs:List RV) (ρ:List AV):Prop:=a24 (b4Y rs) (kCn4 P ρ (r1.look ρ))
def kCn2 (a:AAx) (PX:PXT) (P:PK) (r1:RV) (ρ:List AV) (o:Option c8):Prop:=match o with
 | some (.list _)=>a ρ PX (d2W P r1)
 | _=>False
def d2V (a:AAx) (PX:PXT) (P:PK) (r1:RV) (ρ:List AV):Prop:=kCn2 a PX P r1.hold ρ (r1.hold.look ρ)
def aCnt (b:AEx) (a:AAx):AEx:=fun ρ PX P=>b ρ PX (d2V a PX P)
def b85:c8 → Bool
 | .none=>true
 | .bool _=>true
 | .int _=>true
 | .str _=>true
 | _=>false
def kLnP (P:PK) (ρ:List AV) (r:RV):Prop:=match r with
 | .dat d=>b85 d = true ∧ P (.dat d) ρ
 | _=>False
def kLn2 (c:Ct) (P:PK) (ρ:List AV) (o:Option (List c8)):Prop:=match o with
 | some ds=>c (ds.map .dat) (fun r _=>kLnP P ρ r) X0
 | none=>False
def kLn (c:Ct) (P:PK) (rs:List RV) (ρ:List AV):Prop:=kLn2 c P ρ (b3p ρ rs)
def aLend (c:Ct) (a:AAx):AEx:=fun ρ PX P=>a ρ PX (kLn c P)
section
variable {ρ:List AV} {PX:PXT} {P:PK} {ds:List c8} {k:Int} {ns:List Int} {a:AAx} {r:RV}
theorem c7r {c:Ct}:aLend c a ρ PX P = a ρ PX (kLn c P):=rfl
theorem d1E {c:Ct}:kLn2 c P ρ (some ds) = c (ds.map .dat) (fun r _=>kLnP P ρ r) X0:=rfl
theorem d1F {d:c8}:kLnP P ρ (.dat d) = (b85 d = true ∧ P (.dat d) ρ):=rfl
theorem d1n {x:AEx}:aCnt x a ρ PX P = x ρ PX (d2V a PX P):=rfl
theorem d1k:kCn2 a PX P r ρ (some (.list ds)) = a ρ PX (d2W P r):=rfl
theorem d1l:kCn4 P ρ (some (.list ds)) [.int k] = kCn5 P ρ k (a83 ds):=rfl
theorem d1m:kCn5 P ρ k (some ns) = P (.dat (.int (ns.count k:Nat))) ρ:=rfl
end
end Aq
namespace Aq
open PySem PySem.Spec PyProof.Rows L2 Da
variable {K:b0} {W:WX}
def c4l:AV → AV
 | .ml _ _=>.un
 | .mdk _ _=>.un
 | .mdt _ _=>.un
 | .tr _ _=>.un
 | a=>a
def c6v:Option AV → AV
 | some (.ml _ ds)=>.dat (.list ds)
 | _=>.un
def lentA (i:Nat) (ρ:List AV):List AV:=(ρ.map c4l).set i (c6v ρ[i]?)
def kLE (P:PK) (ρ:List AV) (r:RV):Prop:=match r with
 | .dat d=>b85 d = true ∧ P (.dat d) ρ
 | .own (.ml none es)=>es.all b85 = true ∧ P (.own (.ml none es)) ρ
 | _=>False
def d2E (i:Nat) (e:AEx):AEx:=fun ρ PX P=>e (lentA i ρ) X0 (fun r _=>kLE P ρ r)
def kLR (P:PK) (ρ:List AV) (d:c8):Prop:=match d with
 | .int n=>(0 ≤ n ∧ n ≤ 1000000) ∧ P (.own (.ml none (rng 0 n.toNat))) ρ
 | _=>False
def d22 (P:PK) (r:RV) (ρ:List AV):Prop:=a0J (r.look ρ) (kLR P ρ)
def d2F (a:AEx):AEx:=fun ρ PX P=>a ρ PX (d22 P)
section
variable {ρ:List AV} {PX:PXT} {P:PK} {n:Int} {es:List c8} {d:c8} {p:Option Nat}
theorem c24 {i:Nat} {x:AEx}:d2E i x ρ PX P = x ((ρ.map c4l).set i (c6v ρ[i]?)) X0 (fun r _=>kLE P ρ r):=rfl
theorem c2X:c4l (.ml p es) = .un:=rfl
theorem c2Y:c4l (.dat d) = .dat d:=rfl
theorem c2Z {ns:List Int}:c4l (.scr ns) = .scr ns:=rfl
theorem c20:c4l .un = .un:=rfl
theorem b9P:c6v (some (.ml p es)) = .dat (.list es):=rfl
theorem d1C:kLE P ρ (.dat d) = (b85 d = true ∧ P (.dat d) ρ):=rfl
theorem d1D:kLE P ρ (.own (.ml none es)) = (es.all b85 = true ∧ P (.own (.ml none es)) ρ):=rfl
theorem c25 {x:AEx}:d2F x ρ PX P = x ρ PX (d22 P):=rfl
theorem z_lr:kLR P ρ (.int n) = ((0 ≤ n ∧ n ≤ 1000000) ∧ P (.own (.ml none (rng 0 n.toNat))) ρ):=rfl
end
end Aq
namespace Aq
open PySem PySem.Spec PyProof.Rows L2 Da
variable {K:b0} {W:WX}
def kTO3 (i:Nat) (P:PK) (ρ:List AV) (ds:List c8) (r:RV):Prop:=match r with
 | .dat d=>P (.tupO ds d) (ρ.set i .un)
 | _=>False
def kTO2 (i:Nat) (P:PK) (r:RV) (ρ:List AV) (o:Option AV):Prop:=match o with
 | some (.ml none ds)=>kTO3 i P ρ ds r.hold
 | _=>False
def kTO (i:Nat) (P:PK) (r:RV) (ρ:List AV):Prop:=kTO2 i P r ρ (ρ[i]?)
def kTD3 (P:PK) (ρ:List AV) (d0:c8) (r:RV):Prop:=match r with
 | .dat d=>P (.dat (.tuple [d0,d])) ρ
 | _=>False
def kTD2 (P:PK) (r:RV) (ρ:List AV) (o:Option AV):Prop:=match o with
 | some (.dat d0)=>kTD3 P ρ d0 r.hold
 | _=>False
def kTD (i:Nat) (P:PK) (r:RV) (ρ:List AV):Prop:=kTD2 P r ρ (ρ[i]?)
def kTO1 (i:Nat) (b:AEx) (ρ:List AV) (PX:PXT) (P:PK) (o:Option AV):Prop:=match o with
 | some (.ml none _)=>b ρ PX (kTO i P)
 | some (.dat _)=>b ρ PX (kTD i P)
 | _=>False
def aTupO (i:Nat) (b:AEx):AEx:=fun ρ PX P=>kTO1 i b ρ PX P (ρ[i]?)
def kAO (i j:Nat) (N:List AV → Prop) (r:RV) (ρ:List AV):Prop:=match r with
 | .tupO ds d=>N ((ρ.set i (.ml none ds)).set j (.dat d))
 | .dat (.tuple [a,b])=>N ((ρ.set i (.dat a)).set j (.dat b))
 | _=>False
def sAsgO (i j:Nat) (a:AEx):ASt:=fun D ρ=>a ρ D.ex (kAO i j D.nx)
def kIx5 (P:PK) (ρ:List AV) (k:Int) (o:Option (List Int)):Prop:=match o with
 | some ns=>k ∈ ns ∧ ∀ j:Nat,ns[j]? = some k → (∀ i:Nat,i < j → ns[i]? ≠ some k) → P (.dat (.int (j:Int))) ρ
 | none=>False
def kIx4 (P:PK) (ρ:List AV) (o:Option c8) (es:List c8):Prop:=match o,es with
 | some (.list ds),[.int k]=>kIx5 P ρ k (a83 ds)
 | _,_=>False
def d2Z (P:PK) (r1:RV) (rs:List RV) (ρ:List AV):Prop:=a24 (b4Y rs) (kIx4 P ρ (r1.look ρ))
def kIx2 (a:AAx) (PX:PXT) (P:PK) (r1:RV) (ρ:List AV) (o:Option c8):Prop:=match o with
 | some (.list _)=>a ρ PX (d2Z P r1)
 | _=>False
def d2Y (a:AAx) (PX:PXT) (P:PK) (r1:RV) (ρ:List AV):Prop:=kIx2 a PX P r1.hold ρ (r1.hold.look ρ)
def aIdx (b:AEx) (a:AAx):AEx:=fun ρ PX P=>b ρ PX (d2Y a PX P)
section
variable {ρ:List AV} {PX:PXT} {P:PK} {ds:List c8} {k:Int} {ns:List Int} {a:AAx} {r:RV} {n i j:Nat} {d e:c8} {D:AEnds} {N:List AV → Prop}
theorem c7A {x:AEx}:aTupO i x ρ PX P = kTO1 i x ρ PX P (ρ[i]?):=rfl
theorem d1L {x:AEx}:kTO1 i x ρ PX P (some (.ml none ds)) = x ρ PX (kTO i P):=rfl
theorem d1I {x:AEx}:kTO1 i x ρ PX P (some (.dat d)) = x ρ PX (kTD i P):=rfl
theorem d1J:kTD2 P r ρ (some (.dat d)) = kTD3 P ρ d r.hold:=rfl
theorem d1K:kTD3 P ρ d (.dat e) = P (.dat (.tuple [d,e])) ρ:=rfl
theorem d1M:kTO2 i P r ρ (some (.ml none ds)) = kTO3 i P ρ ds r.hold:=rfl
theorem d1N:kTO3 i P ρ ds (.dat d) = P (.tupO ds d) (ρ.set i .un):=rfl
theorem c7k {x:AEx}:sAsgO i j x D ρ = x ρ D.ex (kAO i j D.nx):=rfl
theorem d1h:kAO i j N (.tupO ds d) ρ = N ((ρ.set i (.ml none ds)).set j (.dat d)):=rfl
theorem d1i:kAO i j N (.dat (.tuple [d,e])) ρ = N ((ρ.set i (.dat d)).set j (.dat e)):=rfl
theorem c21:RV.hold (.tupO ds d) = .dat (.tuple [.list ds,d]):=rfl
theorem d05 {ρ':List AV} {is:List Nat}:bk P ρ is (.tupO ds d) ρ' = P (.tupO ds d) (a44 ρ' is 0 ρ):=rfl
theorem d1v {x:AEx}:aIdx x a ρ PX P = x ρ PX (d2Y a PX P):=rfl
theorem d1y:kIx2 a PX P r ρ (some (.list ds)) = a ρ PX (d2Z P r):=rfl
theorem d1z:kIx4 P ρ (some (.list ds)) [.int k] = kIx5 P ρ k (a83 ds):=rfl
theorem d1A:kIx5 P ρ k (some ns) = (k ∈ ns ∧ ∀ j:Nat,ns[j]? = some k → (∀ i:Nat,i < j → ns[i]? ≠ some k) → P (.dat (.int (j:Int))) ρ):=rfl
end
end Aq
namespace PySem
open Spec
end PySem
namespace L2
open PySem PySem.Spec PyProof.Rows
end L2
namespace Aq
open PySem PySem.Spec PyProof.Rows L2 Da
variable {K:b0} {W:WX}
def c6k (P:PD) (rs:List RV) (ρ:List AV):Prop:=match rs with
 | [.dat (.tuple ds)]=>P (c4d ds 0) ρ
 | _=>False
def d2C (a:AAx):AIt:=fun ρ PX P=>a ρ PX (c6k P)
theorem c2W {x:AAx} {P:PD} {ρ:List AV} {PX:PXT}:d2C x ρ PX P = x ρ PX (c6k P):=rfl
theorem b9O {P:PD} {ρ:List AV} {ds:List c8}:c6k P [.dat (.tuple ds)] ρ = P (c4d ds 0) ρ:=rfl
end Aq
section
open PySem L2 Aq
local macro_rules | `(tactic| simp? [$xs,*])=>`(tactic| try simp -implicitDefEqProofs [$xs,*,c2W,b9O,d1I,d1J,d1K,kTD,c7A,d1L,d1M,d1N,kTO,c7k,d1h,d1i,c21,d05,d1v,d1y,d1z,d1A,d2Y,d2Z,c24,c2X,c2Y,c2Z,c20,b9P,d1C,d1D,c25,z_lr,d22,c7r,d1E,d1F,kLn,b85,d1n,d1k,d1l,d1m,d2V,d2W,b0B,d1H,c7y,c7z,c7u,c7s,c7t,d1G,c7w,c7x,c28,d12,d11,c23,d1B,d21,c7o,d06,c3X,c7B,c7j,c3W,b9r,c6J,b9s,c6K,kIfE,d1w,c26,d1O,c1w,c7p,kDGb,kDGa,kDG1,c7n,d1q,z_dg,d1p,d1t,d1u,kDIb,kDIa,kDI1,d1s,z_di,d1r,kD2d,kD2c,kD2b,kD2a,kD20,kD2,c2Q,c7l,d1o,c7m,c22,kPt3,d27,kPt,c7q,c2R,c2S,c2T,c2U,c7v,kPT3,d24,kPT,c2V,b9L,b9M,b9N,kApp,d1j,d1x,o9,a5n,c2L,b9z,b9A,b8F,b8p,b8q,c29,b8L,b8M,b8N,b8O,b8P,b8Q,z_c,d2a,d2e,b2p,b5s,c5l,c5w,c5g,d15,b79,c5n,b8u,c5d,c5v,b8K,c5u,c49,d2b,c5m,b8w,b2t,a8W,d2c,b8B,b2u,b8C,b2v,d19,c5i,c5j,c5k,c5h,b8s,b8t,b8o,b2r,b0c,b0d,b8r,b2s,c5e,b8l,b8m,b8n,c5a,b8a,b8b,b8c,b8D,b2w,b8E,b2x,b8j,b2q,d18,c5f,c5x,d2d,c5r,c5s,b0b,b2o,a8U,b5r,b8d,b8e,b8f,a1h,b2n,b8h,c27,b8i,d17,c5p,b8A,b8x,b8y,b8z,c5q,c5b,b8g,c5o,b8v,c5t,b8G,b8H,b8I,b8J,b2y,a8X,a8Y,a8Z,c5c,b8k,d16,a8V,c6l,d0E,d0D,d0C,d0B,d0T,kUn,d0r,d0q,d0p,d0s,d0t,d0o,d0n,d0m,d0l,b4y,b4x,c2y,Aq.kTup,c2m,d0y,d0k,kCB,c2j,c2i,c2h,d0H,d0G,d0F,c2p,c2o,c2n,c2l,d0v,c2x,c2w,d0S,d0h,kOr,d0A,d0P,d0O,d0N,d0M,c2q,c2r,c7Q,d0z,c9m,c7P,d0i,c2s,c2t,d0J,b9c,b4w,c2k,kIf,c9n,d0L,d0j,d0I,c0M,c2v,c2u,c0L,b4z,kGs,b1Q,b1R,b1S,b1T,b1W,b1X,a91,a8L,a68,a8M,a92,a8P,b13,b1Z,b10,a8N,a8O,b7R,b7S,b7T,b7U,b7V,b7W,b7X,b7M,b7N,b7O,b7P,c4R,c4S,c4T,q_I,b7i,b7j,b7k,b7l,c4v,c4w,c4H,c4I,c4D,c4E,c4F,c4J,c4K,c4L,c4U,c4V,c4W,b7H,b7I,b7J,c4y,c4z,c4Y,b7K,b7L,c4x,b7w,b7x,b1U,b1V,b11,b12,c4O,c4A,c4C,c4P,b1Y,c4G,b1P,d13,a4Q,a46,b7Q,b7m,b7n,a5p,a90,b1O,b7o,b7p,b7q,b7r,b7s,b7t,b7u,b7v,b7y,b7z,b7A,b7B,b7C,b7D,b7E,c4N,c4B,c4M,c4Q,c4X,b7F,b7G,gEq,gNe,gLt,gLe,gGt,gGe,a3q,ixo,d1W,d1X,d1Y,d1Z,d10,shp,b17,a8R,a8S,a1I])
local macro_rules | `(tactic| simp?! [$xs,*])=>`(tactic| try simp -implicitDefEqProofs [$xs,*,b8F,b8p,b8q,c29,b8L,b8M,b8N,b8O,b8P,b8Q,z_c,d2a,d2e,b2p,b5s,c5l,c5w,c5g,d15,b79,c5n,b8u,c5d,c5v,b8K,c5u,c49,d2b,c5m,b8w,b2t,a8W,d2c,b8B,b2u,b8C,b2v,d19,c5i,c5j,c5k,c5h,b8s,b8t,b8o,b2r,b0c,b0d,b8r,b2s,c5e,b8l,b8m,b8n,c5a,b8a,b8b,b8c,b8D,b2w,b8E,b2x,b8j,b2q,d18,c5f,c5x,d2d,c5r,c5s,b0b,b2o,a8U,b5r,b8d,b8e,b8f,a1h,b2n,b8h,c27,b8i,d17,c5p,b8A,b8x,b8y,b8z,c5q,c5b,b8g,c5o,b8v,c5t,b8G,b8H,b8I,b8J,b2y,a8X,a8Y,a8Z,c5c,b8k,d16,a8V,c6l,d0E,d0D,d0C,d0B,d0T,kUn,d0r,d0q,d0p,d0s,d0t,d0o,d0n,d0m,d0l,b4y,b4x,c2y,Aq.kTup,c2m,d0y,d0k,kCB,c2j,c2i,c2h,d0H,d0G,d0F,c2p,c2o,c2n,c2l,d0v,c2x,c2w,d0S,d0h,kOr,d0A,d0P,d0O,d0N,d0M,c2q,c2r,c7Q,d0z,c9m,c7P,d0i,c2s,c2t,d0J,b9c,b4w,c2k,kIf,c9n,d0L,d0j,d0I,c0M,c2v,c2u,c0L,b4z,kGs,b1Q,b1R,b1S,b1T,b1W,b1X,a91,a8L,a68,a8M,a92,a8P,b13,b1Z,b10,a8N,a8O,b7R,b7S,b7T,b7U,b7V,b7W,b7X,b7M,b7N,b7O,b7P,c4R,c4S,c4T,q_I,b7i,b7j,b7k,b7l,c4v,c4w,c4H,c4I,c4D,c4E,c4F,c4J,c4K,c4L,c4U,c4V,c4W,b7H,b7I,b7J,c4y,c4z,c4Y,b7K,b7L,c4x,b7w,b7x,b1U,b1V,b11,b12,c4O,c4A,c4C,c4P,b1Y,c4G,b1P,d13,a4Q,a46,b7Q,b7m,b7n,a5p,a90,b1O,b7o,b7p,b7q,b7r,b7s,b7t,b7u,b7v,b7y,b7z,b7A,b7B,b7C,b7D,b7E,c4N,c4B,c4M,c4Q,c4X,b7F,b7G,gEq,gNe,gLt,gLe,gGt,gGe,a3q,ixo,d1W,d1X,d1Y,d1Z,d10,shp,b17,a8R,a8S,a1I])
local macro_rules | `(tactic| dsimp? [$xs,*])=>`(tactic| simp -implicitDefEqProofs [$xs,*,c2W,b9O,d1I,d1J,d1K,kTD,c7A,d1L,d1M,d1N,kTO,c7k,d1h,d1i,c21,d05,d1v,d1y,d1z,d1A,d2Y,d2Z,c24,c2X,c2Y,c2Z,c20,b9P,d1C,d1D,c25,z_lr,d22,c7r,d1E,d1F,kLn,b85,d1n,d1k,d1l,d1m,d2V,d2W,b0B,d1H,c7y,c7z,c7u,c7s,c7t,d1G,c7w,c7x,c28,d12,d11,c23,d1B,d21,c7o,d06,c3X,c7B,c7j,c3W,b9r,c6J,b9s,c6K,kIfE,d1w,c26,d1O,c1w,c7p,kDGb,kDGa,kDG1,c7n,d1q,z_dg,d1p,d1t,d1u,kDIb,kDIa,kDI1,d1s,z_di,d1r,kD2d,kD2c,kD2b,kD2a,kD20,kD2,c2Q,c7l,d1o,c7m,c22,kPt3,d27,kPt,c7q,c2R,c2S,c2T,c2U,c7v,kPT3,d24,kPT,c2V,b9L,b9M,b9N,kApp,d1j,d1x,o9,a5n,c2L,b9z,b9A,b8F,b8p,b8q,c29,b8L,b8M,b8N,b8O,b8P,b8Q,z_c,d2a,d2e,b2p,b5s,c5l,c5w,c5g,d15,b79,c5n,b8u,c5d,c5v,b8K,c5u,c49,d2b,c5m,b8w,b2t,a8W,d2c,b8B,b2u,b8C,b2v,d19,c5i,c5j,c5k,c5h,b8s,b8t,b8o,b2r,b0c,b0d,b8r,b2s,c5e,b8l,b8m,b8n,c5a,b8a,b8b,b8c,b8D,b2w,b8E,b2x,b8j,b2q,d18,c5f,c5x,d2d,c5r,c5s,b0b,b2o,a8U,b5r,b8d,b8e,b8f,a1h,b2n,b8h,c27,b8i,d17,c5p,b8A,b8x,b8y,b8z,c5q,c5b,b8g,c5o,b8v,c5t,b8G,b8H,b8I,b8J,b2y,a8X,a8Y,a8Z,c5c,b8k,d16,a8V,c6l,d0E,d0D,d0C,d0B,d0T,kUn,d0r,d0q,d0p,d0s,d0t,d0o,d0n,d0m,d0l,b4y,b4x,c2y,Aq.kTup,c2m,d0y,d0k,kCB,c2j,c2i,c2h,d0H,d0G,d0F,c2p,c2o,c2n,c2l,d0v,c2x,c2w,d0S,d0h,kOr,d0A,d0P,d0O,d0N,d0M,c2q,c2r,c7Q,d0z,c9m,c7P,d0i,c2s,c2t,d0J,b9c,b4w,c2k,kIf,c9n,d0L,d0j,d0I,c0M,c2v,c2u,c0L,b4z,kGs,b1Q,b1R,b1S,b1T,b1W,b1X,a91,a8L,a68,a8M,a92,a8P,b13,b1Z,b10,a8N,a8O,b7R,b7S,b7T,b7U,b7V,b7W,b7X,b7M,b7N,b7O,b7P,c4R,c4S,c4T,q_I,b7i,b7j,b7k,b7l,c4v,c4w,c4H,c4I,c4D,c4E,c4F,c4J,c4K,c4L,c4U,c4V,c4W,b7H,b7I,b7J,c4y,c4z,c4Y,b7K,b7L,c4x,b7w,b7x,b1U,b1V,b11,b12,c4O,c4A,c4C,c4P,b1Y,c4G,b1P,d13,a4Q,a46,b7Q,b7m,b7n,a5p,a90,b1O,b7o,b7p,b7q,b7r,b7s,b7t,b7u,b7v,b7y,b7z,b7A,b7B,b7C,b7D,b7E,c4N,c4B,c4M,c4Q,c4X,b7F,b7G,gEq,gNe,gLt,gLe,gGt,gGe,a3q,ixo,d1W,d1X,d1Y,d1Z,d10,shp,b17,a8R,a8S])
local macro_rules | `(tactic| dsimp?! [$xs,*])=>`(tactic| simp -implicitDefEqProofs [$xs,*,b8F,b8p,b8q,c29,b8L,b8M,b8N,b8O,b8P,b8Q,z_c,d2a,d2e,b2p,b5s,c5l,c5w,c5g,d15,b79,c5n,b8u,c5d,c5v,b8K,c5u,c49,d2b,c5m,b8w,b2t,a8W,d2c,b8B,b2u,b8C,b2v,d19,c5i,c5j,c5k,c5h,b8s,b8t,b8o,b2r,b0c,b0d,b8r,b2s,c5e,b8l,b8m,b8n,c5a,b8a,b8b,b8c,b8D,b2w,b8E,b2x,b8j,b2q,d18,c5f,c5x,d2d,c5r,c5s,b0b,b2o,a8U,b5r,b8d,b8e,b8f,a1h,b2n,b8h,c27,b8i,d17,c5p,b8A,b8x,b8y,b8z,c5q,c5b,b8g,c5o,b8v,c5t,b8G,b8H,b8I,b8J,b2y,a8X,a8Y,a8Z,c5c,b8k,d16,a8V,c6l,d0E,d0D,d0C,d0B,d0T,kUn,d0r,d0q,d0p,d0s,d0t,d0o,d0n,d0m,d0l,b4y,b4x,c2y,Aq.kTup,c2m,d0y,d0k,kCB,c2j,c2i,c2h,d0H,d0G,d0F,c2p,c2o,c2n,c2l,d0v,c2x,c2w,d0S,d0h,kOr,d0A,d0P,d0O,d0N,d0M,c2q,c2r,c7Q,d0z,c9m,c7P,d0i,c2s,c2t,d0J,b9c,b4w,c2k,kIf,c9n,d0L,d0j,d0I,c0M,c2v,c2u,c0L,b4z,kGs,b1Q,b1R,b1S,b1T,b1W,b1X,a91,a8L,a68,a8M,a92,a8P,b13,b1Z,b10,a8N,a8O,b7R,b7S,b7T,b7U,b7V,b7W,b7X,b7M,b7N,b7O,b7P,c4R,c4S,c4T,q_I,b7i,b7j,b7k,b7l,c4v,c4w,c4H,c4I,c4D,c4E,c4F,c4J,c4K,c4L,c4U,c4V,c4W,b7H,b7I,b7J,c4y,c4z,c4Y,b7K,b7L,c4x,b7w,b7x,b1U,b1V,b11,b12,c4O,c4A,c4C,c4P,b1Y,c4G,b1P,d13,a4Q,a46,b7Q,b7m,b7n,a5p,a90,b1O,b7o,b7p,b7q,b7r,b7s,b7t,b7u,b7v,b7y,b7z,b7A,b7B,b7C,b7D,b7E,c4N,c4B,c4M,c4Q,c4X,b7F,b7G,gEq,gNe,gLt,gLe,gGt,gGe,a3q,ixo,d1W,d1X,d1Y,d1Z,d10,shp,b17,a8R,a8S])
local macro_rules | `(tactic| simp_all? [$xs,*])=>`(tactic| simp -implicitDefEqProofs only [$xs,*,c2W,b9O,d1I,d1J,d1K,kTD,c7A,d1L,d1M,d1N,kTO,c7k,d1h,d1i,c21,d05,d1v,d1y,d1z,d1A,d2Y,d2Z,c24,c2X,c2Y,c2Z,c20,b9P,d1C,d1D,c25,z_lr,d22,c7r,d1E,d1F,kLn,b85,d1n,d1k,d1l,d1m,d2V,d2W,b0B,d1H,c7y,c7z,c7u,c7s,c7t,d1G,c7w,c7x,c28,d12,d11,c23,d1B,d21,c7o,d06,c3X,c7B,c7j,c3W,b9r,c6J,b9s,c6K,kIfE,d1w,c26,d1O,c1w,c7p,kDGb,kDGa,kDG1,c7n,d1q,z_dg,d1p,d1t,d1u,kDIb,kDIa,kDI1,d1s,z_di,d1r,kD2d,kD2c,kD2b,kD2a,kD20,kD2,c2Q,c7l,d1o,c7m,c22,kPt3,d27,kPt,c7q,c2R,c2S,c2T,c2U,c7v,kPT3,d24,kPT,c2V,b9L,b9M,b9N,kApp,d1j,d1x,o9,a5n,c2L,b9z,b9A,b8F,b8p,b8q,c29,b8L,b8M,b8N,b8O,b8P,b8Q,z_c,d2a,d2e,b2p,b5s,c5l,c5w,c5g,d15,b79,c5n,b8u,c5d,c5v,b8K,c5u,c49,d2b,c5m,b8w,b2t,a8W,d2c,b8B,b2u,b8C,b2v,d19,c5i,c5j,c5k,c5h,b8s,b8t,b8o,b2r,b0c,b0d,b8r,b2s,c5e,b8l,b8m,b8n,c5a,b8a,b8b,b8c,b8D,b2w,b8E,b2x,b8j,b2q,d18,c5f,c5x,d2d,c5r,c5s,b0b,b2o,a8U,b5r,b8d,b8e,b8f,a1h,b2n,b8h,c27,b8i,d17,c5p,b8A,b8x,b8y,b8z,c5q,c5b,b8g,c5o,b8v,c5t,b8G,b8H,b8I,b8J,b2y,a8X,a8Y,a8Z,c5c,b8k,d16,a8V,c6l,d0E,d0D,d0C,d0B,d0T,kUn,d0r,d0q,d0p,d0s,d0t,d0o,d0n,d0m,d0l,b4y,b4x,c2y,Aq.kTup,c2m,d0y,d0k,kCB,c2j,c2i,c2h,d0H,d0G,d0F,c2p,c2o,c2n,c2l,d0v,c2x,c2w,d0S,d0h,kOr,d0A,d0P,d0O,d0N,d0M,c2q,c2r,c7Q,d0z,c9m,c7P,d0i,c2s,c2t,d0J,b9c,b4w,c2k,kIf,c9n,d0L,d0j,d0I,c0M,c2v,c2u,c0L,b4z,kGs,b1Q,b1R,b1S,b1T,b1W,b1X,a91,a8L,a68,a8M,a92,a8P,b13,b1Z,b10,a8N,a8O,b7R,b7S,b7T,b7U,b7V,b7W,b7X,b7M,b7N,b7O,b7P,c4R,c4S,c4T,q_I,b7i,b7j,b7k,b7l,c4v,c4w,c4H,c4I,c4D,c4E,c4F,c4J,c4K,c4L,c4U,c4V,c4W,b7H,b7I,b7J,c4y,c4z,c4Y,b7K,b7L,c4x,b7w,b7x,b1U,b1V,b11,b12,c4O,c4A,c4C,c4P,b1Y,c4G,b1P,d13,a4Q,a46,b7Q,b7m,b7n,a5p,a90,b1O,b7o,b7p,b7q,b7r,b7s,b7t,b7u,b7v,b7y,b7z,b7A,b7B,b7C,b7D,b7E,c4N,c4B,c4M,c4Q,c4X,b7F,b7G,gEq,gNe,gLt,gLe,gGt,gGe,a3q,ixo,d1W,d1X,d1Y,d1Z,d10,shp,b17,a8R,a8S,a1c,d2l,a0l,Option.bind_some,c9K,c9J,List.set_cons_zero,List.set_cons_succ,if_true,if_false,a5b,c7U,z9,reduceCtorEq])
local macro_rules | `(tactic| simp_all?! [$xs,*])=>`(tactic| simp -implicitDefEqProofs only [$xs,*,b8F,b8p,b8q,c29,b8L,b8M,b8N,b8O,b8P,b8Q,z_c,d2a,d2e,b2p,b5s,c5l,c5w,c5g,d15,b79,c5n,b8u,c5d,c5v,b8K,c5u,c49,d2b,c5m,b8w,b2t,a8W,d2c,b8B,b2u,b8C,b2v,d19,c5i,c5j,c5k,c5h,b8s,b8t,b8o,b2r,b0c,b0d,b8r,b2s,c5e,b8l,b8m,b8n,c5a,b8a,b8b,b8c,b8D,b2w,b8E,b2x,b8j,b2q,d18,c5f,c5x,d2d,c5r,c5s,b0b,b2o,a8U,b5r,b8d,b8e,b8f,a1h,b2n,b8h,c27,b8i,d17,c5p,b8A,b8x,b8y,b8z,c5q,c5b,b8g,c5o,b8v,c5t,b8G,b8H,b8I,b8J,b2y,a8X,a8Y,a8Z,c5c,b8k,d16,a8V,c6l,d0E,d0D,d0C,d0B,d0T,kUn,d0r,d0q,d0p,d0s,d0t,d0o,d0n,d0m,d0l,b4y,b4x,c2y,Aq.kTup,c2m,d0y,d0k,kCB,c2j,c2i,c2h,d0H,d0G,d0F,c2p,c2o,c2n,c2l,d0v,c2x,c2w,d0S,d0h,kOr,d0A,d0P,d0O,d0N,d0M,c2q,c2r,c7Q,d0z,c9m,c7P,d0i,c2s,c2t,d0J,b9c,b4w,c2k,kIf,c9n,d0L,d0j,d0I,c0M,c2v,c2u,c0L,b4z,kGs,b1Q,b1R,b1S,b1T,b1W,b1X,a91,a8L,a68,a8M,a92,a8P,b13,b1Z,b10,a8N,a8O,b7R,b7S,b7T,b7U,b7V,b7W,b7X,b7M,b7N,b7O,b7P,c4R,c4S,c4T,q_I,b7i,b7j,b7k,b7l,c4v,c4w,c4H,c4I,c4D,c4E,c4F,c4J,c4K,c4L,c4U,c4V,c4W,b7H,b7I,b7J,c4y,c4z,c4Y,b7K,b7L,c4x,b7w,b7x,b1U,b1V,b11,b12,c4O,c4A,c4C,c4P,b1Y,c4G,b1P,d13,a4Q,a46,b7Q,b7m,b7n,a5p,a90,b1O,b7o,b7p,b7q,b7r,b7s,b7t,b7u,b7v,b7y,b7z,b7A,b7B,b7C,b7D,b7E,c4N,c4B,c4M,c4Q,c4X,b7F,b7G,gEq,gNe,gLt,gLe,gGt,gGe,a3q,ixo,d1W,d1X,d1Y,d1Z,d10,shp,b17,a8R,a8S,a1c,d2l,a0l,Option.bind_some,c9K,c9J,List.set_cons_zero,List.set_cons_succ,if_true,if_false,a5b,c7U,z9,reduceCtorEq])
local macro_rules | `(term| nofun)=>`((by first | exact Or.inl rfl | exact Or.inr rfl))
set_option maxHeartbeats 2000000
namespace Cw
open PySem L2 Aq
local macro_rules | `(tactic| walk_at "aq")=>`(tactic| dsimp?! [a1h])
def a9M:List Str:=["draws", "many", "found", "wide"]
def b06 (w:i6) (K:b0):TS :=
 (a1a (a27 (tOp b4X (tOp b14 (tOp (rIx K) (i3 0) (tC (.int 1))) (tC (.int 69621))) (tC (.int 2147483647))) (gSub (i3 0) (tC (.int 1)) rSetL))
 (a1a (a27 (tOp (a0A K) (tOp b14 (i3 2) (tC (.int 268435456))) (tOp b9t (tOp b4X (tOp b14 (tOp (rIx K) (i3 0) (tC (.int 1))) (tOp (a0A K) (tOp b9t (tOp (rIx K) (i3 0) (tC (.int 1))) (tC (.int 128))) (tC (.int 3)))) (tC (.int 2147483629))) (tC (.int 8)))) (t8 2))
 (a27 (tOp b14 (i3 3) (tC (.int 268435456))) (t8 3))))
def a6Y:ASt :=
 (a0I (c8E (aOp c6d (aOp c4k (aOp gIx (i9 0) (aC (.int 1))) (aC (.int 69621))) (aC (.int 2147483647))) (i9 0) (aC (.int 1)))
 (a0I (a2I 2 (aOp a3e (aOp c4k (i9 2) (aC (.int 268435456))) (aOp c7O (aOp c6d (aOp c4k (aOp gIx (i9 0) (aC (.int 1))) (aOp a3e (aOp c7O (aOp gIx (i9 0) (aC (.int 1))) (aC (.int 128))) (aC (.int 3)))) (aC (.int 2147483629))) (aC (.int 8)))))
 (a2I 3 (aOp c4k (i9 3) (aC (.int 268435456))))))
theorem b6t {w:i6} {K:b0} (W:WX):SS K W (b06 w K) a6Y :=
 (m4 (b5b (f6 b0P (f6 a71 (f6 v3 c9 d5) d5) d5) c9 d5)
 (m4 (w3 (f6 y9 (f6 a71 c9 d5) (f6 b26 (f6 b0P (f6 a71 (f6 v3 c9 d5) (f6 y9 (f6 b26 (f6 v3 c9 d5) d5) d5)) d5) d5)))
 (w3 (f6 a71 c9 d5))))
def b07 (w:i6) (K:b0):TS :=
 (a3I (tOp b4X (i3 2) (i3 1)))
def a6Z:ASt :=
 (a2w (aOp c6d (i9 2) (i9 1)))
theorem b6u {w:i6} {K:b0} (W:WX):SS K W (b07 w K) a6Z :=
 (t9 (f6 b0P c9 c9))
def b08 (w:i6) (K:b0):TS :=
 (a1a (a27 (tC (.int 0)) (t8 2))
 (a1a (a27 (tC (.int 1)) (t8 3))
 (a1a (tWhile (a1L (tOp c7R (i3 3) (i3 1))) (b06 w K))
 (b07 w K))))
def a60:ASt :=
 (a0I (a2I 2 (aC (.int 0)))
 (a0I (a2I 3 (aC (.int 1)))
 (a0I (c9B (a4J (aOp gLt (i9 3) (i9 1))) a6Y)
 a6Z)))
theorem b6v {w:i6} {K:b0} (W:WX):SS K W (b08 w K) a60 :=
 (m4 (w3 d5)
 (m4 (w3 d5)
 (m4 (c8O (w6 (f6 a4A c9 c9)) (b6t  W))
 (b6u  W))))
def b5e (w:i6) (K:b0):TS :=
 (a1a (a6k (a1L (tOp c9z (tOp (rIx K) (i3 0) (tC (.int 0))) (tC (.int 0)))) (a1a (a27 (tOp b4X (tOp (rIx K) (i3 0) (tC (.int 0))) (i3 1)) (t8 2))
 (a1a (a27 (tOp b9t (tOp (rIx K) (i3 0) (tC (.int 0))) (i3 1)) (gSub (i3 0) (tC (.int 0)) rSetL))
 (a3I (i3 2)))) a2k)
 (b08 w K))
def a6X:ASt :=
 (a0I (sIf (a4J (aOp gGt (aOp gIx (i9 0) (aC (.int 0))) (aC (.int 0)))) (a0I (a2I 2 (aOp c6d (aOp gIx (i9 0) (aC (.int 0))) (i9 1)))
 (a0I (c8E (aOp c7O (aOp gIx (i9 0) (aC (.int 0))) (i9 1)) (i9 0) (aC (.int 0)))
 (a2w (i9 2)))) a1D)
 a60)
theorem c1e {w:i6} {K:b0} (W:WX):SS K W (b5e w K) a6X :=
 (m4 (a06 (w6 (f6 a4A (f6 v3 c9 d5) d5)) (m4 (w3 (f6 b0P (f6 v3 c9 d5) c9))
 (m4 (b5b (f6 b26 (f6 v3 c9 d5) c9) c9 d5)
 (t9 c9))) y4)
 (b6v  W))
/-- what a pair of draws is -/
def Dw (a b:Int):Prop:=0 ≤ a ∧ a < 10 ^ 120 ∧ 0 ≤ b ∧ b < 2147483648
def d7:Ct:=fun ρ P _=>∃ a b n,ρ = [.ml (some 0) [.int a,.int b],.dat (.int n)] ∧ Dw a b ∧ 1 ≤ n ∧ n ≤ 10 ^ 40 ∧ ∀ k a' b' ρ',0 ≤ k → k < n → Dw a' b' → a87 ρ' 0 = some (.ml (some 0) [.int a',.int b']) → P (.dat (.int k)) ρ'
theorem b9e (ρ:List AV) (P:RV → List AV → Prop) (PX:PXT) (h:d7 ρ P PX):ρ.length = 2:=by
 obtain ⟨a,b,n,rfl,_⟩:=h
 rfl
theorem b6o (ρ:List AV) (P:RV → List AV → Prop) (PX:PXT) (h:d7 ρ P PX):a6X { nx:=fun ρ'=>P (.dat .none) ρ',rt:=P,ex:=PX } (ρ ++ g5 (a9M.length - ρ.length) .un):=by
 have eN:a9M.length = 4:=rfl
 obtain ⟨a,b,n,rfl,⟨ha,ha2,hb,hb2⟩,hn,hn2,h⟩:=h
 unfold a6X
 simp only [eN]
 walk_at "aq"
 split
 ·rename_i h0
  refine ⟨by omega,c0D (by omega) (a3F (by omega) (by omega)),?_⟩
  refine h _ (a / n) b _ (a1y _ (by omega)) (a0K _ (by omega)) ⟨Int.ediv_nonneg ha (by omega),?_,hb,hb2⟩ rfl
  exact Int.lt_of_le_of_lt (Int.ediv_le_self _ ha) ha2
 ·unfold a60
  walk_at "aq"
  refine ⟨fun m ρ=>∃ b' f w,ρ = [.ml (some 0) [.int a,.int b'],.dat (.int n),.dat (.int f),.dat (.int w)] ∧ 0 ≤ b' ∧ b' < 2147483648 ∧ 0 ≤ f ∧ f < w ∧ 1 ≤ w ∧ w ≤ n * 268435456 ∧ m = (n - w).toNat,⟨_,b,0,1,rfl,hb,hb2,by omega,by omega,by omega,by omega,rfl⟩,?_⟩
  rintro m ρ ⟨b',f,w,rfl,k1,k2,k3,k4,k5,k6,k7⟩
  walk_at "aq"
  split
  ·rename_i hw
   unfold a6Y
   walk_at "aq"
   have x1:0 ≤ b' * 69621 % 2147483647:=a1y _ (by decide)
   have x2:b' * 69621 % 2147483647 < 2147483647:=a0K _ (by decide)
   generalize b' * 69621 % 2147483647 = x at x1 x2 ⊢
   have y1:0 ≤ x * (x / 128 + 3) % 2147483629:=a1y _ (by decide)
   have y2:x * (x / 128 + 3) % 2147483629 < 2147483629:=a0K _ (by decide)
   refine ⟨b4I (a3F (by omega) (by omega)) (a3F (by decide) (by decide)),b4I (a3F (by omega) (by omega)) (a3F (by decide) (by decide)),c0D (by decide) (a3F (by decide) (by decide)),b4I (a3F (by omega) (by omega)) (a3F (by omega) (by omega)),
    c0D (by decide) (a3F (by decide) (by decide)),b4I (a3F (by omega) (by omega)) (a3F (by decide) (by decide)),(n - w * 268435456).toNat,by omega,x,_,_,⟨rfl,rfl,rfl⟩,x1,by omega,?_⟩
   generalize x * (x / 128 + 3) % 2147483629 = y at y1 y2 ⊢
   exact ⟨by omega,by omega,by omega,by omega,rfl⟩
  ·unfold a6Z
   walk_at "aq"
   refine ⟨by omega,h _ a b' _ (a1y _ (by omega)) (a0K _ (by omega)) ⟨ha,ha2,k1,k2⟩ rfl⟩
end Cw
namespace Cw
open PySem L2 Aq
def a0e:c8 → Int → Int → Bool
 | .int i,lo,hi=>decide (lo ≤ i) && decide (i ≤ hi)
 | _,_,_=>false
def a66 (n:Int):c8 → Bool
 | .tuple ds=>(ds.length:Int) == n
 | _=>false
def a84 (c:Nat):Bool:=decide (97 ≤ c) && decide (c ≤ 122)
def a0b (s:Str):Bool:=decide (1 ≤ s.length) && (decide (s.length ≤ 8) && s.cps.toList.all a84)
def v0:c8 → Bool
 | .str s=>a0b s
 | _=>false
/-- a text that is not too long -/
def okS:c8 → Prop
 | .str s=>s.length ≤ k8
 | _=>True
local macro_rules | `(tactic| walk_at "aq")=>`(tactic| dsimp?! [a66,v0])
local macro_rules | `(tactic| walk_at "ao")=>`(tactic| simp_all?! [a66,v0])
def a9N:List Str:=["thing", "low", "high"]
def b5n (w:i6) (K:b0):TS :=
 (a3I (b3k K (b6a K "int" (i3 0)) (b3k K (tNotT K (b6a K "bool" (i3 0))) (tChain c6L c6L (i3 1) (i3 0) (i3 2)))))
def a64:ASt :=
 (a2w (a6T (b58 "int" (i9 0)) (a6T (c76 (b58 "bool" (i9 0))) (c0w gLe gLe (i9 1) (i9 0) (i9 2)))))
theorem c1n {w:i6} {K:b0} (a11:IsiOk K "bool") (b6P:IsiOk K "int") (W:WX):SS K W (b5n w K) a64 :=
 (t9 (a2G (a3v b6P c9) (a2G (c59 (a3v a11 c9)) (b88 a4A a4A c9 c9 c9))))
def b1w:List Str:=["thing", "many"]
def b76 (w:i6) (K:b0):TS :=
 (a3I (b3k K (b6a K "tuple" (i3 0)) (tOp (c1V K) (tCB (a4R K) (d3 (i3 0) p7)) (i3 1))))
def a8H:ASt :=
 (a2w (a6T (b58 "tuple" (i9 0)) (aOp gEq (aCB b4u (d4 (i9 0) p8)) (i9 1))))
theorem c2O {w:i6} {K:b0} (j9:IsiOk K "tuple") (W:WX):SS K W (b76 w K) a8H :=
 (t9 (a2G (a3v j9 c9) (f6 a33 (a10 a3W (c7 c9 d9)) c9)))
def b0q:List Str:=["thing", "sign"]
def c1r (w:i6) (K:b0):TS :=
 (a3I (b3k K (b6a K "str" (i3 0)) (b3k K (tChain c6L c6L (tC (.int 1)) (tCB (a4R K) (d3 (i3 0) p7)) (tC (.int 8))) (tCB (rAll K) (d3 (tLc (b68 K (i3 0)) (t8 1) c18 (tOp (c8z K) (i3 1) (tC (.str "abcdefghijklmnopqrstuvwxyz"))) [1]) p7)))))
def b0s:ASt :=
 (a2w (a6T (b58 "str" (i9 0)) (a6T (c0w gLe gLe (aC (.int 1)) (aCB b4u (d4 (i9 0) p8)) (aC (.int 8))) (aCB c9j (d4 (aLc (a6m (i9 0)) [1] (gN 1) c0f (aOp (gIn false) (i9 1) (aC (.str "abcdefghijklmnopqrstuvwxyz")))) p8)))))
theorem c46 {w:i6} {K:b0} (a0E:IsiOk K "str") (W:WX):SS K W (c1r w K) b0s :=
 (t9 (a2G (a3v a0E c9) (a2G (b88 a4A a4A d5 (a10 a3W (c7 c9 d9)) d5) (a10 b7Y (c7 (a7X (a34 c9) a0p a52 (f6 c40 c9 t6) (by decide)) d9)))))
def w9:Ct:=fun ρ P _=>∃ d lo hi,ρ = [.dat d,.dat (.int lo),.dat (.int hi)] ∧ ∀ ρ',P (.dat (.bool (a0e d lo hi))) ρ'
theorem b9g (ρ:List AV) (P:RV → List AV → Prop) (PX:PXT) (h:w9 ρ P PX):ρ.length = 3:=by
 obtain ⟨_,_,_,rfl,_⟩:=h
 rfl
theorem b6q (ρ:List AV) (P:RV → List AV → Prop) (PX:PXT) (h:w9 ρ P PX):a64 { nx:=fun ρ'=>P (.dat .none) ρ',rt:=P,ex:=PX } (ρ ++ g5 (a9N.length - ρ.length) .un):=by
 have eN:a9N.length = 3:=rfl
 obtain ⟨d,lo,hi,rfl,h⟩:=h
 unfold a64
 simp only [eN]
 cases d with
 | int i =>
  walk_at "aq"
  split
  ·rename_i c
   have e:a0e (.int i) lo hi = decide (i ≤ hi):=by simp [a0e,c]
   rw [← e]
   exact h _
  ·rename_i c
   have e:a0e (.int i) lo hi = false:=by simp [a0e,c]
   rw [← e]
   exact h _
 | _ =>
  walk_at "aq"
  exact h _
def a2o:Ct:=fun ρ P _=>∃ d n,ρ = [.dat d,.dat (.int n)] ∧ ∀ ρ',P (.dat (.bool (a66 n d))) ρ'
theorem c0O (ρ:List AV) (P:RV → List AV → Prop) (PX:PXT) (h:a2o ρ P PX):ρ.length = 2:=by
 obtain ⟨_,_,rfl,_⟩:=h
 rfl
theorem b9q (ρ:List AV) (P:RV → List AV → Prop) (PX:PXT) (h:a2o ρ P PX):a8H { nx:=fun ρ'=>P (.dat .none) ρ',rt:=P,ex:=PX } (ρ ++ g5 (b1w.length - ρ.length) .un):=by
 have eN:b1w.length = 2:=rfl
 obtain ⟨d,n,rfl,h⟩:=h
 unfold a8H
 simp only [eN]
 cases d with
 | tuple ds =>
  walk_at "aq"
  exact h _
 | _ =>
  walk_at "aq"
  exact h _
theorem b4E (c:Nat):decide (c ∈ (a0q "abcdefghijklmnopqrstuvwxyz").cps.toList) = a84 c:=by
 have e:(a0q "abcdefghijklmnopqrstuvwxyz").cps.toList = List.range' 97 26:=by decide +kernel
 rw [e]
 unfold a84
 rw [← Bool.decide_and]
 congr 1
 rw [List.mem_range'_1]
 exact propext ⟨fun h=>by omega,fun h=>by omega⟩
def a1C:Ct:=fun ρ P _=>∃ d,ρ = [.dat d] ∧ okS d ∧ ∀ ρ',P (.dat (.bool (v0 d))) ρ'
theorem c2A (ρ:List AV) (P:RV → List AV → Prop) (PX:PXT) (h:a1C ρ P PX):ρ.length = 1:=by
 obtain ⟨_,rfl,_⟩:=h
 rfl
theorem c03 (ρ:List AV) (P:RV → List AV → Prop) (PX:PXT) (h:a1C ρ P PX):b0s { nx:=fun ρ'=>P (.dat .none) ρ',rt:=P,ex:=PX } (ρ ++ g5 (b0q.length - ρ.length) .un):=by
 have eN:b0q.length = 2:=rfl
 obtain ⟨d,rfl,ok,h⟩:=h
 unfold b0s
 simp only [eN]
 cases d with
 | str s =>
  have ok':s.length ≤ k8:=ok
  walk_at "aq"
  refine ⟨ok',?_⟩
  split
  ·rename_i c1
   split
   ·rename_i c2
    refine b6e (fun d=>[.dat (.str s),.dat d]) (fun d=>.bool (match d with
     | .str z=>b3G (a0q "abcdefghijklmnopqrstuvwxyz") z
     | _=>false)) _ _ (fun d _ k hk=>hk) (fun d _=>rfl) (fun d hd k hk=>?_) ?_ ?_
    ·obtain ⟨c,_,rfl⟩:=e7.mp hd
     exact hk
    ·simp [a7G]
     exact ok'
    ·have e:((a7G s).map fun d=>a0v (match d with
       | .str z=>b3G (a0q "abcdefghijklmnopqrstuvwxyz") z
       | _=>false)) = (s.cps.toList.map a84).map a0v:=by
      simp [a7G,b73]
      intro a _
      have:=b4E a
      simpa using this
     rw [e]
     walk_at "ao"
     have e2:v0 (.str s) = (s.cps.toList.map a84).all id:=by
      have c1':1 ≤ s.length:=by omega
      have c2':s.length ≤ 8:=by omega
      simp [v0,a0b,c1',c2',a9l]
     rw [← e2]
     exact h _
   ·rename_i c2
    have e2:v0 (.str s) = false:=by
     have c2':¬ s.length ≤ 8:=by omega
     simp [v0,a0b,c2']
    have e3:decide ((s.length:Int) ≤ 8) = false:=decide_eq_false c2
    rw [e3,← e2]
    exact h _
  ·rename_i c1
   have e2:v0 (.str s) = false:=by
    have c1':¬ 1 ≤ s.length:=by omega
    simp [v0,a0b,c1']
   rw [← e2]
   exact h _
 | _ =>
  walk_at "aq"
  exact h _
end Cw
namespace Cw
open PySem L2 Aq
mutual
def okB (b:Nat):c8 → Bool
 | .str s=>decide (s.length ≤ b) && a0j s
 | .list ds=>decide (ds.length ≤ b) && c3L b ds
 | .tuple ds=>decide (ds.length ≤ b) && c3L b ds
 | .dict _=>false
 | _=>true
def c3L (b:Nat):List c8 → Bool
 | []=>true
 | d :: ds=>okB b d && c3L b ds
end
abbrev okD (d:c8):Bool:=okB 10000 d
theorem b9j {b:Nat}:∀ {ds:List c8} {d:c8},c3L b ds = true → d ∈ ds → okB b d = true
 | [],_,_,h=>by simp at h
 | e :: ds,d,o,h=>by
  rw [c3L,m5] at o
  rcases n8.mp h with rfl | h
  ·exact o.1
  ·exact b9j o.2 h
theorem c2E {b:Nat}:∀ {ds:List c8},(∀ d ∈ ds,okB b d = true) → c3L b ds = true
 | [],_=>by rw [c3L]
 | e :: ds,h=>by
  rw [c3L,m5]
  exact ⟨h e e6,c2E fun d hd=>h d (e8 _ hd)⟩
mutual
theorem c0A {b:Nat}:∀ d:c8,okB b d = true → d.canLay0 = true
 | .none,_=>by simp [a09]
 | .bool _,_=>by simp [a09]
 | .int _,_=>by simp [a09]
 | .str s,h=>by
  rw [okB,m5] at h
  rw [a09]
  exact h.2
 | .list ds,h=>by
  rw [okB,m5] at h
  rw [a09]
  exact b1x ds h.2
 | .tuple ds,h=>by
  rw [okB,m5] at h
  rw [a09]
  exact b1x ds h.2
 | .dict _,h=>by rw [okB] at h; cases h
theorem b1x {b:Nat}:∀ ds:List c8,c3L b ds = true → a1W ds = true
 | [],_=>by simp [a1W]
 | d :: ds,h=>by
  rw [c3L,m5] at h
  rw [a1W,c0A d h.1,b1x ds h.2]
  rfl
end
mutual
theorem c3K {b c:Nat} (hb:b ≤ c):∀ d:c8,okB b d = true → okB c d = true
 | .none,_=>by simp [okB]
 | .bool _,_=>by simp [okB]
 | .int _,_=>by simp [okB]
 | .str s,h=>by
  rw [okB,m5,decide_eq_true_eq] at h ⊢
  exact ⟨a0f h.1 hb,h.2⟩
 | .list ds,h=>by
  rw [okB,m5,decide_eq_true_eq] at h ⊢
  exact ⟨a0f h.1 hb,b4L hb ds h.2⟩
 | .tuple ds,h=>by
  rw [okB,m5,decide_eq_true_eq] at h ⊢
  exact ⟨a0f h.1 hb,b4L hb ds h.2⟩
 | .dict _,h=>by rw [okB] at h; cases h
theorem b4L {b c:Nat} (hb:b ≤ c):∀ ds:List c8,c3L b ds = true → c3L c ds = true
 | [],_=>by rw [c3L]
 | d :: ds,h=>by
  rw [c3L,m5] at h ⊢
  exact ⟨c3K hb d h.1,b4L hb ds h.2⟩
end
theorem d3t {b:Nat} {d:c8} (h:okB b d = true) (hd:d.depth ≤ 64):a0k d = true:=by
 unfold a0k
 rw [c0A d h,decide_eq_true hd]
 rfl
theorem c9v {d:c8} (h:okD d = true):okS d:=by
 cases d with
 | str s =>
  rw [okD,okB,m5,decide_eq_true_eq] at h
  exact a0f h.1 (by decide)
 | _=>trivial
theorem okT {b:Nat} {ds:List c8} (h:okB b (.tuple ds) = true):ds.length ≤ b ∧ ∀ d ∈ ds,okB b d = true:=by
 rw [okB,m5,decide_eq_true_eq] at h
 exact ⟨h.1,fun d hd=>b9j h.2 hd⟩
theorem okL {b:Nat} {ds:List c8} (h:okB b (.list ds) = true):ds.length ≤ b ∧ ∀ d ∈ ds,okB b d = true:=by
 rw [okB,m5,decide_eq_true_eq] at h
 exact ⟨h.1,fun d hd=>b9j h.2 hd⟩
def a2v:c8 → List c8
 | .tuple ds=>ds
 | _=>[]
def b4t (d:c8):c8:=(a2v d).getD 0 .none
def e0:Str:=⟨#[]⟩
def nmS (d:c8):Str:=match b4t d with
 | .str s=>s
 | _=>e0
def a9v (ns:List Str):Bool:=(a1j (ns.length - 1)).all fun i=>a99 (ns.getD i e0) (ns.getD (i + 1) e0)
def a4g (many:Int) (r:c8):Bool:=a66 many r && v0 (b4t r)
def a0H (many most:Int):c8 → Bool
 | .tuple ds=>decide (1 ≤ (ds.length:Int)) && (decide ((ds.length:Int) ≤ most) && (ds.all (a4g many) && a9v (ds.map nmS)))
 | _=>false
theorem a69 {many:Int} {r:c8} (hm:1 ≤ many) (h:a4g many r = true):∃ s ds,r = .tuple (.str s :: ds) ∧ a0b s = true ∧ ((ds.length:Int) + 1 = many):=by
 unfold a4g at h
 rw [m5] at h
 obtain ⟨h1,h2⟩:=h
 cases r with
 | tuple es =>
  have e:(es.length:Int) = many:=by simpa [a66] using h1
  cases es with
  | nil=>simp at e; omega
  | cons x ds =>
   have h2':v0 x = true:=h2
   cases x with
   | str s=>exact ⟨s,ds,rfl,h2',by simpa using e⟩
   | _=>cases h2'
 | _=>cases h1
theorem c9s {s:Str} (h:a0b s = true):s.length ≤ 8:=by
 unfold a0b at h
 simp at h
 exact h.2.1
theorem c2g {many:Int} {r:c8} (hm:1 ≤ many) (h:a66 many r = true):∃ x ds,r = .tuple (x :: ds):=by
 cases r with
 | tuple es =>
  have e:(es.length:Int) = many:=by simpa [a66] using h
  cases es with
  | nil=>simp at e; omega
  | cons x ds=>exact ⟨x,ds,rfl⟩
 | _=>cases h
end Cw
namespace Cw
open PySem L2 Aq
local macro_rules | `(tactic| walk_at "aq")=>`(tactic| dsimp?! [a1h])
local macro_rules | `(tactic| walk_at "ao")=>`(tactic| simp_all?! [a1h])
def a6l:List Str:=["thing", "many", "most", "row", "k"]
def b3g (w:i6) (K:b0):TS :=
 (a3I (tCB (rAll K) (d3 (tLc (iRng2 (d3 (tC (.int 1)) (d3 (tCB (a4R K) (d3 (i3 0) p7)) p7))) (t8 4) c18 (tOp c7R (tOp (rIx K) (tOp (rIx K) (i3 0) (tOp b9w (i3 4) (tC (.int 1)))) (tC (.int 0))) (tOp (rIx K) (tOp (rIx K) (i3 0) (i3 4)) (tC (.int 0)))) [4]) p7)))
def a7P:ASt :=
 (a2w (aCB c9j (d4 (aLc (c9X (d4 (aC (.int 1)) (d4 (aCB b4u (d4 (i9 0) p8)) p8))) [4] (gN 4) c0f (aOp gLt (aOp gIx (aOp gIx (i9 0) (aOp c0J (i9 4) (aC (.int 1)))) (aC (.int 0))) (aOp gIx (aOp gIx (i9 0) (i9 4)) (aC (.int 0))))) p8)))
theorem b9G {w:i6} {K:b0} (j9:IsiOk K "tuple") (W:WX):SS K W (b3g w K) a7P :=
 (t9 (a10 b7Y (c7 (a7X (d0e (c7 d5 (c7 (a10 a3W (c7 c9 d9)) d9))) a0p a52 (f6 a4A (f6 v3 (f6 v3 c9 (f6 b70 c9 d5)) d5) (f6 v3 (f6 v3 c9 c9) d5)) (by decide)) d9)))
def b3h (w:i6) (K:b0):TS :=
 (a1a (a6k (b8X (a6M K (tCB (rAll K) (d3 (tLc (b68 K (i3 0)) (t8 3) c18 (b3k K (r8 (spOf K a2o) [] E0 (d3 (i3 3) (d3 (i3 1) p7))) (r8 (spOf K a1C) [] E0 (d3 (tOp (rIx K) (i3 3) (tC (.int 0))) p7))) [3]) p7)))) (a3I (tC (.bl false))) a2k)
 (b3g w K))
def a7Q:ASt :=
 (a0I (sIf (a8F (a6U (aCB c9j (d4 (aLc (a6m (i9 0)) [3] (gN 3) c0f (a6T (k9 a2o (d4 (i9 3) (d4 (i9 1) p8))) (k9 a1C (d4 (aOp gIx (i9 3) (aC (.int 0))) p8)))) p8)))) (a2w (aC (.bool false))) a1D)
 a7P)
theorem b9H {w:i6} {K:b0} (j9:IsiOk K "tuple") (W:WX):SS K W (b3h w K) a7Q :=
 (m4 (a06 (a1r (a04 (a10 b7Y (c7 (a7X (a34 c9) a0p a52 (a2G (i5 (c7 c9 (c7 c9 d9))) (i5 (c7 (f6 v3 c9 d5) d9))) (by decide)) d9)))) (t9 a3E) y4)
 (b9G  j9 W))
def b75 (w:i6) (K:b0):TS :=
 (a1a (a6k (tOr (b8X (a6M K (b6a K "tuple" (i3 0)))) (b8X (a1L (tChain c6L c6L (tC (.int 1)) (tCB (a4R K) (d3 (i3 0) p7)) (i3 2))))) (a3I (tC (.bl false))) a2k)
 (b3h w K))
def a8G:ASt :=
 (a0I (sIf (aOr (a8F (a6U (b58 "tuple" (i9 0)))) (a8F (a4J (c0w gLe gLe (aC (.int 1)) (aCB b4u (d4 (i9 0) p8)) (i9 2))))) (a2w (aC (.bool false))) a1D)
 a7Q)
theorem c2N {w:i6} {K:b0} (j9:IsiOk K "tuple") (W:WX):SS K W (b75 w K) a8G :=
 (m4 (a06 (a6b (a1r (a04 (a3v j9 c9))) (a1r (w6 (b88 a4A a4A d5 (a10 a3W (c7 c9 d9)) c9)))) (t9 a3E) y4)
 (b9H  j9 W))
def a3u:Ct:=fun ρ P _=>∃ d many most,ρ = [.dat d,.dat (.int many),.dat (.int most)] ∧ okD d = true ∧ 1 ≤ many ∧ ∀ ρ',P (.dat (.bool (a0H many most d))) ρ'
theorem c0N (ρ:List AV) (P:RV → List AV → Prop) (PX:PXT) (h:a3u ρ P PX):ρ.length = 3:=by
 obtain ⟨_,_,_,rfl,_⟩:=h
 rfl
theorem b9p (ρ:List AV) (P:RV → List AV → Prop) (PX:PXT) (h:a3u ρ P PX):a8G { nx:=fun ρ'=>P (.dat .none) ρ',rt:=P,ex:=PX } (ρ ++ g5 (a6l.length - ρ.length) .un):=by
 have eN:a6l.length = 5:=rfl
 obtain ⟨d,many,most,rfl,ok,hm,h⟩:=h
 unfold a8G
 simp only [eN]
 cases d with
 | tuple ds =>
  obtain ⟨hl,ok2⟩:=okT ok
  walk_at "aq"
  by_cases c1:1 ≤ (ds.length:Int)
  ·by_cases c2:(ds.length:Int) ≤ most
   ·rw [if_pos c1,if_neg (by omega)]
    unfold a7Q
    walk_at "aq"
    refine b6e (fun d=>[.dat (.tuple ds),.dat (.int many),.dat (.int most),.dat d,.un]) (fun d=>.bool (a4g many d)) _ _ (fun d _ k hk=>hk) (fun d _=>rfl) (fun d hd k hk=>?_) ?_ ?_
    ·walk_at "aq"
     refine ⟨d,many,rfl,fun ρ'=>?_⟩
     walk_at "aq"
     cases c3:a66 many d with
     | true =>
      obtain ⟨x,es,rfl⟩:=c2g hm c3
      walk_at "aq"
      refine ⟨x,rfl,c9v ((okT (ok2 _ hd)).2 x e6),fun ρ'=>?_⟩
      have e:a4g many (.tuple (x :: es)) = v0 x:=by simp [a4g,c3,b4t,a2v]
      rw [← e]
      exact hk
     | false =>
      have e:a4g many d = false:=by simp [a4g,c3]
      rw [if_neg (by simp),← e]
      exact hk
    ·simp [k8]
     omega
    ·have e:(ds.map fun d=>a0v (a4g many d)) = (ds.map (a4g many)).map a0v:=by simp
     rw [e]
     walk_at "ao"
     cases c3:(ds.map (a4g many)).all id with
     | false =>
      walk_at "ao"
      have e:a0H many most (.tuple ds) = false:=by
       have c3':ds.all (a4g many) = false:=by simpa [a9l] using c3
       simp only [a0H,c3',a08,a9K]
      rw [← e]
      exact h _
     | true =>
      walk_at "ao"
      have c3':ds.all (a4g many) = true:=by
       rw [a9l] at c3
       exact c3
      unfold a7P
      walk_at "aq"
      refine ⟨by omega,?_⟩
      have sh:∀ j,j < ds.length → ∃ s es,ds[j]? = some (.tuple (.str s :: es)) ∧ (ds.map nmS).getD j e0 = s:=by
       intro j hj
       obtain ⟨s,es,e1,_⟩:=a69 hm (n3.mp c3' _ (c30 hj))
       refine ⟨s,es,by rw [j5 hj,e1],?_⟩
       rw [a80,z8,j5 hj,e1]
       rfl
      refine b6e (fun d=>[.dat (.tuple ds),.dat (.int many),.dat (.int most),.un,.dat d]) (fun d=>.bool (match d with
       | .int k=>a99 ((ds.map nmS).getD (k - 1).toNat e0) ((ds.map nmS).getD k.toNat e0)
       | _=>false)) _ _ (fun d _ k hk=>hk) (fun d _=>rfl) (fun d hd k hk=>?_) ?_ ?_
      ·obtain ⟨i,rfl,h1,h2⟩:=b4H hd
       obtain ⟨s,es,e1,e2⟩:=sh (i - 1).toNat (by omega)
       obtain ⟨s',es',e1',e2'⟩:=sh i.toNat (by omega)
       walk_at "aq"
       rw [a9R (by omega) (by omega),e1]
       walk_at "aq"
       rw [a9R (by omega) (by omega),e1']
       walk_at "aq"
       simp only [e2,e2'] at hk
       exact hk
      ·rw [a72]
       simp [k8]
       omega
      ·rw [c6O]
       have e:a0H many most (.tuple ds) = ((a1j (ds.length - 1)).map fun i=>a99 ((ds.map nmS).getD i e0) ((ds.map nmS).getD (i + 1) e0)).all id:=by
        simp only [a0H,c1,c2,c3',decide_true,y0,a9v,a9l,j3]
        rfl
       have e':((a1j (ds.length - 1)).map fun (i:Nat)=>a0v (a99 ((ds.map nmS).getD ((1:Int) + (i:Int) - 1).toNat e0) ((ds.map nmS).getD ((1:Int) + (i:Int)).toNat e0))) = ((a1j (ds.length - 1)).map fun i=>a99 ((ds.map nmS).getD i e0) ((ds.map nmS).getD (i + 1) e0)).map a0v:=by
        rw [w7]
        refine a4C fun i _=>?_
        have q1:((1:Int) + (i:Int) - 1).toNat = i:=by omega
        have q2:((1:Int) + (i:Int)).toNat = i + 1:=by omega
        rw [q1,q2]
        rfl
       rw [e']
       walk_at "ao"
       rw [← e]
       exact h _
   ·have e:a0H many most (.tuple ds) = false:=by simp [a0H,c2]
    rw [← e,if_pos c1,if_pos (by omega)]
    exact h _
  ·have e:a0H many most (.tuple ds) = false:=by simp [a0H,c1]
   rw [← e]
   simp only [c1,if_false]
   exact h _
 | _ =>
  walk_at "aq"
  exact h _
end Cw
namespace Cw
open PySem L2 Aq
theorem uniq {α:Type} {r:α → α → Prop} (asym:∀ a b,r a b → ¬ r b a):∀ {xs ys:List α},xs.Pairwise r → ys.Pairwise r → (∀ k,k ∈ xs ↔ k ∈ ys) → xs = ys
 | [],[],_,_,_=>rfl
 | [],y :: ys,_,_,h=>by simpa using (h y).mpr e6
 | x :: xs,[],_,_,h=>by simpa using (h x).mp e6
 | x :: xs,y :: ys,hx,hy,h=>by
  rw [c0k] at hx hy
  have e:x = y:=by
   rcases n8.mp ((h x).mp e6) with e | h1
   ·exact e
   ·rcases n8.mp ((h y).mpr e6) with e | h2
    ·exact e.symm
    ·exact absurd (hy.1 x h1) (asym _ _ (hx.1 y h2))
  subst e
  have irr:∀ k,r x k → k ≠ x:=fun k hk e=>by subst e; exact asym _ _ hk hk
  rw [uniq asym hx.2 hy.2 fun k=>?_]
  constructor
  ·intro hk
   rcases n8.mp ((h k).mp (e8 _ hk)) with e | h1
   ·exact absurd e (irr k (hx.1 k hk))
   ·exact h1
  ·intro hk
   rcases n8.mp ((h k).mpr (e8 _ hk)) with e | h1
   ·exact absurd e (irr k (hy.1 k hk))
   ·exact h1
theorem b9b {α:Type} {xs:List α} {i:Nat} {x:α} (h:i < xs.length):xs.getD i x = xs[i]:=by
 rw [a80,j5 h]
 rfl
def sLt (a b:Str):Prop:=a99 a b = true
theorem b9y {a b:Str}:sLt a b ↔ a.cps.toList < b.cps.toList:=by
 unfold sLt a99
 rw [decide_eq_true_eq]
theorem c8D (a b:Str) (h:sLt a b):¬ sLt b a:=by
 rw [b9y] at *
 exact fun h'=>List.lt_irrefl _ (List.lt_trans h h')
theorem c6V {a b c:Str} (h:sLt a b) (h':sLt b c):sLt a c:=by
 rw [b9y] at *
 exact List.lt_trans h h'
theorem c6U {a b:Str} (h:¬ sLt a b) (hne:a ≠ b):sLt b a:=by
 rw [b9y] at *
 rcases List.le_iff_lt_or_eq.mp (List.not_lt.mp h) with q | q
 ·exact q
 ·exact absurd (PySem.W.str_of_cps q.symm) hne
theorem c05 {α:Type} {r:α → α → Prop} (tr:∀ a b c,r a b → r b c → r a c):∀ {xs:List α},(∀ i (h:i + 1 < xs.length),r xs[i] xs[i + 1]) → xs.Pairwise r
 | [],_=>.nil
 | [x],_=>List.pairwise_singleton _ _
 | x :: y :: xs,h=>by
  have ih:=c05 (xs:=y :: xs) tr fun i hi=>by
   have q:=h (i + 1) (by simpa using hi)
   exact q
  refine c0k.mpr ⟨fun z hz=>?_,ih⟩
  have h0:r x y:=h 0 (by simp)
  rcases n8.mp hz with rfl | hz
  ·exact h0
  ·exact tr _ _ _ h0 ((c0k.mp ih).1 z hz)
theorem a8Q {ns:List Str}:a9v ns = true ↔ ns.Pairwise sLt:=by
 unfold a9v
 rw [n3]
 constructor
 ·intro h
  refine c05 (r:=sLt) (fun _ _ _=>c6V) fun i hi=>?_
  have q:=h i (a25.mpr (by omega))
  rw [b9b (by omega),b9b hi] at q
  exact q
 ·intro h i hi
  rw [a25] at hi
  rw [b9b (by omega),b9b (by omega)]
  exact List.pairwise_iff_getElem.mp h i (i + 1) (by omega) (by omega) (by omega)
theorem c6u {a b:Str} (h:AqS.leD (.str a) (.str b)) (hne:a ≠ b):sLt a b:=by
 unfold AqS.leD at h
 rw [PySem.W.dataLt_str] at h
 refine c6U (fun q=>?_) (Ne.symm hne)
 rw [b9y] at q
 rw [decide_eq_false_iff_not] at h
 exact h q
theorem b4s:∀ xs ys:List Str,a0V (xs.map .str) (ys.map .str) = decide (xs = ys)
 | [],[]=>rfl
 | [],_ :: _=>rfl
 | _ :: _,[]=>rfl
 | x :: xs,y :: ys=>by
  rw [i8,i8,a0V,b4s xs ys,i7]
  by_cases h1:x = y
  ·by_cases h2:xs = ys <;> simp [h1,h2]
  ·simp [h1]
theorem b7b:∀ ns:List Str,b6c (ns.map .str) = some (ns.map .inr)
 | []=>rfl
 | n :: ns=>by
  rw [i8,b6c,b7b ns]
  rfl
theorem strs_of:∀ {ys:List Key} {ns:List Str},(∀ k,k ∈ ys → k ∈ ns.map Sum.inr) → ∃ zs:List Str,ys = zs.map .inr
 | [],_,_=>⟨[],rfl⟩
 | y :: ys,ns,h=>by
  obtain ⟨zs,rfl⟩:=strs_of (ys:=ys) (ns:=ns) fun k hk=>h k (e8 _ hk)
  obtain ⟨z,_,rfl⟩:=e7.mp (h y e6)
  exact ⟨z :: zs,rfl⟩
theorem b41 {ys:List Key} {ns:List Str} (nd:ys.Nodup) (hm:∀ k,k ∈ ys ↔ k ∈ ns.map Sum.inr) (pw:(ys.map kD).Pairwise AqS.leD):∃ zs:List Str,ys = zs.map .inr ∧ zs.Pairwise sLt ∧ ∀ z,z ∈ zs ↔ z ∈ ns:=by
 obtain ⟨zs,rfl⟩:=strs_of fun k hk=>(hm k).mp hk
 refine ⟨zs,rfl,?_,fun z=>?_⟩
 ·rw [w7,a2y] at pw
  have nd':zs.Pairwise (· ≠ ·):=(a2y.mp nd).imp fun h e=>h (by rw [e])
  exact (pw.and nd').imp fun h=>c6u h.1 h.2
 ·have:=hm (.inr z)
  simpa using this
theorem b9x {ys:List Key} {ns:List Str} (nd:ys.Nodup) (hm:∀ k,k ∈ ys ↔ k ∈ ns.map Sum.inr) (pw:(ys.map kD).Pairwise AqS.leD):i7 (.list (ns.map .str)) (.list (ys.map kD)) = a9v ns:=by
 obtain ⟨zs,rfl,pz,hz⟩:=b41 nd hm pw
 have e:(zs.map Sum.inr).map kD = zs.map v5:=by rw [w7]; rfl
 rw [e,i7,b4s]
 cases c:a9v ns with
 | true=>exact decide_eq_true (uniq c8D (a8Q.mp c) pz fun k=>(hz k).symm)
 | false =>
  refine decide_eq_false fun e=>?_
  rw [← e,← a8Q,c] at pz
  cases pz
end Cw
namespace Cw
open PySem L2 Aq
local macro_rules | `(tactic| walk_at "aq")=>`(tactic| dsimp?! [a1h])
local macro_rules | `(tactic| walk_at "ao")=>`(tactic| simp_all?! [a1h])
def a5q (d:c8):Bool:=a0e ((a2v d).getD 1 .none) 0 1000000000 && a0e ((a2v d).getD 2 .none) 1 1000
def a5l (d:c8):Bool:=a0e ((a2v d).getD 1 .none) 1 1000
def a2x:c8 → Bool
 | .tuple [r,c,m]=>a0H 3 12 r && (a0H 2 6 c && ((a2v r).all a5q && ((a2v c).all a5l && a0e m 1 1000)))
 | _=>false
theorem a43 {many most:Int} {d:c8} (h:a0H many most d = true):∃ ds,d = .tuple ds ∧ 1 ≤ ds.length ∧ (ds.length:Int) ≤ most ∧ (∀ r ∈ ds,a4g many r = true) ∧ a9v (ds.map nmS) = true:=by
 cases d with
 | tuple ds =>
  simp only [a0H,m5,decide_eq_true_eq,n3] at h
  exact ⟨ds,rfl,by omega,h.2.1,h.2.2.1,h.2.2.2⟩
 | _=>cases h
theorem row3 {r:c8} (h:a4g 3 r = true):∃ s x y,r = .tuple [.str s,x,y] ∧ a0b s = true:=by
 obtain ⟨s,ds,rfl,hs,hl⟩:=a69 (by decide) h
 match ds,hl with
 | [x,y],_=>exact ⟨s,x,y,rfl,hs⟩
 | [],hl=>simp at hl
 | [_],hl=>simp at hl
 | _ :: _ :: _ :: _,hl=>simp at hl; omega
theorem row2 {r:c8} (h:a4g 2 r = true):∃ s x,r = .tuple [.str s,x] ∧ a0b s = true:=by
 obtain ⟨s,ds,rfl,hs,hl⟩:=a69 (by decide) h
 match ds,hl with
 | [x],_=>exact ⟨s,x,rfl,hs⟩
 | [],hl=>simp at hl
 | _ :: _ :: _,hl=>simp at hl; omega
theorem c9k {d:c8} (h:a66 3 d = true):∃ x y z,d = .tuple [x,y,z]:=by
 cases d with
 | tuple ds =>
  have e:(ds.length:Int) = 3:=by simpa [a66] using h
  match ds,e with
  | [x,y,z],_=>exact ⟨x,y,z,rfl⟩
  | [],e=>simp at e
  | [_],e=>simp at e
  | [_,_],e=>simp at e
  | _ :: _ :: _ :: _ :: _,e=>simp at e; omega
 | _=>cases h
theorem c3A {d:c8} (h:a66 3 d = false):a2x d = false:=by
 unfold a2x
 split
 ·simp [a66] at h
 ·rfl
theorem okT3 {x y z:c8} (h:okD (.tuple [x,y,z]) = true):okD x = true ∧ okD y = true ∧ okD z = true :=
 ⟨(okT h).2 _ (by simp),(okT h).2 _ (by simp),(okT h).2 _ (by simp)⟩
def a3M:List Str:=["thing", "row"]
def a8i (w:i6) (K:b0):TS :=
 (a3I (b3k K (tCB (rAll K) (d3 (tLc (b68 K (tOp (rIx K) (i3 0) (tC (.int 1)))) (t8 1) c18 (r8 (spOf K w9) [] E0 (d3 (tOp (rIx K) (i3 1) (tC (.int 1))) (d3 (tC (.int 1)) (d3 (tC (.int 1000)) p7)))) [1]) p7)) (r8 (spOf K w9) [] E0 (d3 (tOp (rIx K) (i3 0) (tC (.int 2))) (d3 (tC (.int 1)) (d3 (tC (.int 1000)) p7))))))
def a5h:ASt :=
 (a2w (a6T (aCB c9j (d4 (aLc (a6m (aOp gIx (i9 0) (aC (.int 1)))) [1] (gN 1) c0f (k9 w9 (d4 (aOp gIx (i9 1) (aC (.int 1))) (d4 (aC (.int 1)) (d4 (aC (.int 1000)) p8))))) p8)) (k9 w9 (d4 (aOp gIx (i9 0) (aC (.int 2))) (d4 (aC (.int 1)) (d4 (aC (.int 1000)) p8))))))
theorem b3A {w:i6} {K:b0} (W:WX):SS K W (a8i w K) a5h :=
 (t9 (a2G (a10 b7Y (c7 (a7X (a34 (f6 v3 c9 d5)) a0p a52 (i5 (c7 (f6 v3 c9 d5) (c7 d5 (c7 d5 d9)))) (by decide)) d9)) (i5 (c7 (f6 v3 c9 d5) (c7 d5 (c7 d5 d9))))))
def a8j (w:i6) (K:b0):TS :=
 (a1a (a6k (b8X (a6M K (tCB (rAll K) (d3 (tLc (b68 K (tOp (rIx K) (i3 0) (tC (.int 0)))) (t8 1) c18 (b3k K (r8 (spOf K w9) [] E0 (d3 (tOp (rIx K) (i3 1) (tC (.int 1))) (d3 (tC (.int 0)) (d3 (tC (.int 1000000000)) p7)))) (r8 (spOf K w9) [] E0 (d3 (tOp (rIx K) (i3 1) (tC (.int 2))) (d3 (tC (.int 1)) (d3 (tC (.int 1000)) p7))))) [1]) p7)))) (a3I (tC (.bl false))) a2k)
 (a8i w K))
def a5i:ASt :=
 (a0I (sIf (a8F (a6U (aCB c9j (d4 (aLc (a6m (aOp gIx (i9 0) (aC (.int 0)))) [1] (gN 1) c0f (a6T (k9 w9 (d4 (aOp gIx (i9 1) (aC (.int 1))) (d4 (aC (.int 0)) (d4 (aC (.int 1000000000)) p8)))) (k9 w9 (d4 (aOp gIx (i9 1) (aC (.int 2))) (d4 (aC (.int 1)) (d4 (aC (.int 1000)) p8)))))) p8)))) (a2w (aC (.bool false))) a1D)
 a5h)
theorem b3B {w:i6} {K:b0} (W:WX):SS K W (a8j w K) a5i :=
 (m4 (a06 (a1r (a04 (a10 b7Y (c7 (a7X (a34 (f6 v3 c9 d5)) a0p a52 (a2G (i5 (c7 (f6 v3 c9 d5) (c7 d5 (c7 d5 d9)))) (i5 (c7 (f6 v3 c9 d5) (c7 d5 (c7 d5 d9))))) (by decide)) d9)))) (t9 a3E) y4)
 (b3A  W))
def a8k (w:i6) (K:b0):TS :=
 (a1a (a6k (tOr (b8X (a6M K (r8 (spOf K a3u) [] E0 (d3 (tOp (rIx K) (i3 0) (tC (.int 0))) (d3 (tC (.int 3)) (d3 (tC (.int 12)) p7)))))) (b8X (a6M K (r8 (spOf K a3u) [] E0 (d3 (tOp (rIx K) (i3 0) (tC (.int 1))) (d3 (tC (.int 2)) (d3 (tC (.int 6)) p7))))))) (a3I (tC (.bl false))) a2k)
 (a8j w K))
def a5j:ASt :=
 (a0I (sIf (aOr (a8F (a6U (k9 a3u (d4 (aOp gIx (i9 0) (aC (.int 0))) (d4 (aC (.int 3)) (d4 (aC (.int 12)) p8)))))) (a8F (a6U (k9 a3u (d4 (aOp gIx (i9 0) (aC (.int 1))) (d4 (aC (.int 2)) (d4 (aC (.int 6)) p8))))))) (a2w (aC (.bool false))) a1D)
 a5i)
theorem b3C {w:i6} {K:b0} (W:WX):SS K W (a8k w K) a5j :=
 (m4 (a06 (a6b (a1r (a04 (i5 (c7 (f6 v3 c9 d5) (c7 d5 (c7 d5 d9)))))) (a1r (a04 (i5 (c7 (f6 v3 c9 d5) (c7 d5 (c7 d5 d9))))))) (t9 a3E) y4)
 (b3B  W))
def b1b (w:i6) (K:b0):TS :=
 (a1a (a6k (b8X (a6M K (r8 (spOf K a2o) [] E0 (d3 (i3 0) (d3 (tC (.int 3)) p7))))) (a3I (tC (.bl false))) a2k)
 (a8k w K))
def a41:ASt :=
 (a0I (sIf (a8F (a6U (k9 a2o (d4 (i9 0) (d4 (aC (.int 3)) p8))))) (a2w (aC (.bool false))) a1D)
 a5j)
theorem b6y {w:i6} {K:b0} (W:WX):SS K W (b1b w K) a41 :=
 (m4 (a06 (a1r (a04 (i5 (c7 c9 (c7 d5 d9))))) (t9 a3E) y4)
 (b3C  W))
def a2M:Ct:=fun ρ P _=>∃ d,ρ = [.dat d] ∧ okD d = true ∧ ∀ ρ',P (.dat (.bool (a2x d))) ρ'
theorem b4B (ρ:List AV) (P:RV → List AV → Prop) (PX:PXT) (h:a2M ρ P PX):ρ.length = 1:=by
 obtain ⟨_,rfl,_⟩:=h
 rfl
theorem b3v (ρ:List AV) (P:RV → List AV → Prop) (PX:PXT) (h:a2M ρ P PX):a41 { nx:=fun ρ'=>P (.dat .none) ρ',rt:=P,ex:=PX } (ρ ++ g5 (a3M.length - ρ.length) .un):=by
 have eN:a3M.length = 2:=rfl
 obtain ⟨d,rfl,ok,h⟩:=h
 unfold a41
 simp only [eN]
 walk_at "aq"
 refine ⟨d,3,rfl,fun ρ'=>?_⟩
 walk_at "aq"
 cases c1:a66 3 d with
 | false =>
  rw [if_neg (by simp),← c3A c1]
  exact h _
 | true =>
  rw [if_pos rfl]
  obtain ⟨x,y,z,rfl⟩:=c9k c1
  obtain ⟨okx,oky,okz⟩:=okT3 ok
  unfold a5j
  walk_at "aq"
  refine ⟨x,3,12,rfl,okx,by decide,fun ρ'=>?_⟩
  walk_at "aq"
  cases c2:a0H 3 12 x with
  | false =>
   have e:a2x (.tuple [x,y,z]) = false:=by simp [a2x,c2]
   rw [if_neg (by simp),← e]
   exact h _
  | true =>
   rw [if_pos rfl]
   refine ⟨y,2,6,rfl,oky,by decide,fun ρ'=>?_⟩
   walk_at "aq"
   cases c3:a0H 2 6 y with
   | false =>
    have e:a2x (.tuple [x,y,z]) = false:=by simp [a2x,c3]
    rw [if_neg (by simp),← e]
    exact h _
   | true =>
    rw [if_pos rfl]
    obtain ⟨rs,rfl,_,lr,hr,_⟩:=a43 c2
    obtain ⟨cs,rfl,_,lc,hc,_⟩:=a43 c3
    unfold a5i
    walk_at "aq"
    refine c9q (fun d=>[.dat (.tuple [.tuple rs,.tuple cs,z]),.dat d]) a5q _ (fun d _ k hk=>hk) (fun d _=>rfl) (fun d hd k hk=>?_) (by omega) ?_
    ·obtain ⟨s,u,v,rfl,_⟩:=row3 (hr d hd)
     walk_at "aq"
     refine ⟨u,0,1000000000,rfl,fun ρ'=>?_⟩
     walk_at "aq"
     cases c4:a0e u 0 1000000000 with
     | false =>
      have e:a5q (.tuple [.str s,u,v]) = false:=by simp [a5q,a2v,c4]
      rw [if_neg (by simp),← e]
      exact hk
     | true =>
      rw [if_pos rfl]
      refine ⟨v,1,1000,rfl,fun ρ'=>?_⟩
      have e:a5q (.tuple [.str s,u,v]) = a0e v 1 1000:=by simp [a5q,a2v,c4]
      walk_at "aq"
      rw [← e]
      exact hk
    ·walk_at "ao"
     rw [a9l]
     cases c4:rs.all (id ∘ a5q) with
     | false =>
      have e:a2x (.tuple [.tuple rs,.tuple cs,z]) = false:=by
       have c4':rs.all a5q = false:=c4
       simp only [a2x,a2v,c4',a08,a9K]
      walk_at "ao"
      rw [← e]
      exact h _
     | true =>
      have c4':rs.all a5q = true:=c4
      walk_at "ao"
      unfold a5h
      walk_at "aq"
      refine c9q (fun d=>[.dat (.tuple [.tuple rs,.tuple cs,z]),.dat d]) a5l _ (fun d _ k hk=>hk) (fun d _=>rfl) (fun d hd k hk=>?_) (by omega) ?_
      ·obtain ⟨s,u,rfl,_⟩:=row2 (hc d hd)
       walk_at "aq"
       refine ⟨u,1,1000,rfl,fun ρ'=>?_⟩
       exact hk
      ·walk_at "ao"
       rw [a9l]
       cases c5:cs.all (id ∘ a5l) with
       | false =>
        have e:a2x (.tuple [.tuple rs,.tuple cs,z]) = false:=by
         have c5':cs.all a5l = false:=c5
         simp only [a2x,a2v,c5',a08,a9K]
        walk_at "ao"
        rw [← e]
        exact h _
       | true =>
        have c5':cs.all a5l = true:=c5
        walk_at "aq"
        refine ⟨z,1,1000,rfl,fun ρ'=>?_⟩
        have e:a2x (.tuple [.tuple rs,.tuple cs,z]) = a0e z 1 1000:=by
         simp only [a2x,a2v,c2,c3,c4',c5',y0]
        rw [← e]
        exact h _
end Cw
namespace Cw
open PySem L2 Aq
local macro_rules | `(tactic| walk_at "aq")=>`(tactic| dsimp?! [a1h])
theorem a65 {n:Nat}:∀ {ds:List c8},(∀ d ∈ ds,d.depth ≤ n) → a1f ds ≤ n
 | [],_=>by simp [a1f]
 | d :: ds,h=>by
  rw [a1f]
  exact Nat.max_le.mpr ⟨h d e6,a65 fun e he=>h e (e8 _ he)⟩
theorem a7W {n:Nat}:∀ {ds:List c8} {d:c8},a1f ds ≤ n → d ∈ ds → d.depth ≤ n
 | [],_,_,h=>by simp at h
 | e :: ds,d,h,hd=>by
  rw [a1f] at h
  rcases n8.mp hd with rfl | hd
  ·exact a0f (Nat.le_max_left _ _) h
  ·exact a7W (a0f (Nat.le_max_right _ _) h) hd
def a0t (b n:Nat) (d:c8):Prop:=okB b d = true ∧ d.depth ≤ n
abbrev Fine (n:Nat) (d:c8):Prop:=a0t 10000 n d
theorem a0t.mono {b n m:Nat} {d:c8} (h:a0t b n d) (l:n ≤ m):a0t b m d:=⟨h.1,a0f h.2 l⟩
theorem a0t.wid {b c n:Nat} {d:c8} (h:a0t b n d) (l:b ≤ c):a0t c n d:=⟨c3K l d h.1,h.2⟩
theorem a0t.shp {b n:Nat} {d:c8} (h:a0t b n d) (l:n ≤ 64):a0k d = true:=d3t h.1 (a0f h.2 l)
theorem a2H {b n:Nat} {ds:List c8} (hl:ds.length ≤ b) (h:∀ d ∈ ds,a0t b n d):a0t b (n + 1) (.list ds):=by
 refine ⟨?_,?_⟩
 ·rw [okB,decide_eq_true hl,c2E fun d hd=>(h d hd).1]
  rfl
 ·rw [a01]
  exact d3I (a65 fun d hd=>(h d hd).2) 1
theorem a3d {b n:Nat} {ds:List c8} (hl:ds.length ≤ b) (h:∀ d ∈ ds,a0t b n d):a0t b (n + 1) (.tuple ds):=by
 refine ⟨?_,?_⟩
 ·rw [okB,decide_eq_true hl,c2E fun d hd=>(h d hd).1]
  rfl
 ·rw [a01]
  exact d3I (a65 fun d hd=>(h d hd).2) 1
theorem a1E {b n:Nat} {i:Int}:a0t b n (.int i):=⟨by simp [okB],by rw [a01]; exact a4D _⟩
theorem a8J {b n:Nat} {s:Str} (h1:s.length ≤ b) (h2:a0j s = true):a0t b n (.str s):=⟨by rw [okB,decide_eq_true h1,h2]; rfl,by rw [a01]; exact a4D _⟩
theorem a0t.tup {b n:Nat} {ds:List c8} (h:a0t b (n + 1) (.tuple ds)):ds.length ≤ b ∧ ∀ d ∈ ds,a0t b n d:=by
 have q:=okT h.1
 have q2:=h.2
 rw [a01] at q2
 exact ⟨q.1,fun d hd=>⟨q.2 d hd,a7W (by omega) hd⟩⟩
theorem a0t.lst {b n:Nat} {ds:List c8} (h:a0t b (n + 1) (.list ds)):ds.length ≤ b ∧ ∀ d ∈ ds,a0t b n d:=by
 have q:=okL h.1
 have q2:=h.2
 rw [a01] at q2
 exact ⟨q.1,fun d hd=>⟨q.2 d hd,a7W (by omega) hd⟩⟩
theorem a0t.str {b n:Nat} {s:Str} (h:a0t b n (.str s)):s.length ≤ b ∧ a0j s = true:=by
 have q:=h.1
 rw [okB,m5,decide_eq_true_eq] at q
 exact q
theorem c4i {s:Str} (h:a0j s = true) {d:c8} (hd:d ∈ a7G s):Fine 0 d:=by
 unfold a7G at hd
 obtain ⟨c,hc,rfl⟩:=e7.mp hd
 refine a8J (by simp [c14]) ?_
 unfold a0j at *
 rw [c0h] at h
 simpa using h c (by simpa using hc)
def a4j:List Str:=["thing", "sign"]
def a7o (w:i6) (K:b0):TS :=
 (a3I (tOp (c1V K) (tLc (b68 K (i3 0)) (t8 1) (a1L (tOp (b9v K) (i3 1) (tC (.str "abcdefghijklmnopqrstuvwxyz")))) (i3 1) [1]) (b0j p7)))
def a4K:ASt :=
 (a2w (aOp gEq (aLc (a6m (i9 0)) [1] (gN 1) (a4J (aOp (gIn true) (i9 1) (aC (.str "abcdefghijklmnopqrstuvwxyz")))) (i9 1)) (a5J p8)))
theorem b19 {w:i6} {K:b0} (a0E:IsiOk K "str") (W:WX):SS K W (a7o w K) a4K :=
 (t9 (f6 a33 (a7X (a34 c9) a0p (w6 (f6 c8y c9 t6)) c9 (by decide)) (a0x d9)))
def a9A (w:i6) (K:b0):TS :=
 (a1a (a6k (tOr (b8X (a6M K (b6a K "str" (i3 0)))) (tOr (a1L (tOp c7R (tCB (a4R K) (d3 (i3 0) p7)) (tC (.int 1)))) (a1L (tOp c9z (tCB (a4R K) (d3 (i3 0) p7)) (tC (.int 8)))))) (a3I (tC (.bl false))) a2k)
 (a7o w K))
def a4m:ASt :=
 (a0I (sIf (aOr (a8F (a6U (b58 "str" (i9 0)))) (aOr (a4J (aOp gLt (aCB b4u (d4 (i9 0) p8)) (aC (.int 1)))) (a4J (aOp gGt (aCB b4u (d4 (i9 0) p8)) (aC (.int 8)))))) (a2w (aC (.bool false))) a1D)
 a4K)
theorem b43 {w:i6} {K:b0} (a0E:IsiOk K "str") (W:WX):SS K W (a9A w K) a4m :=
 (m4 (a06 (a6b (a1r (a04 (a3v a0E c9))) (a6b (w6 (f6 a4A (a10 a3W (c7 c9 d9)) d5)) (w6 (f6 a4A (a10 a3W (c7 c9 d9)) d5)))) (t9 a3E) y4)
 (b19  a0E W))
def a0w:Ct:=fun ρ P _=>∃ d,ρ = [.dat d] ∧ okD d = true ∧ ∀ ρ',P (.dat (.bool (v0 d))) ρ'
theorem b3m (ρ:List AV) (P:RV → List AV → Prop) (PX:PXT) (h:a0w ρ P PX):ρ.length = 1:=by
 obtain ⟨_,rfl,_⟩:=h
 rfl
theorem b1K (ρ:List AV) (P:RV → List AV → Prop) (PX:PXT) (h:a0w ρ P PX):a4m { nx:=fun ρ'=>P (.dat .none) ρ',rt:=P,ex:=PX } (ρ ++ g5 (a4j.length - ρ.length) .un):=by
 have eN:a4j.length = 2:=rfl
 obtain ⟨d,rfl,ok,h⟩:=h
 unfold a4m
 simp only [eN]
 cases d with
 | str s =>
  obtain ⟨ok',ok2⟩:=a0t.str (b:=10000) (n:=0) ⟨ok,by simp [a01]⟩
  have ok3:s.length ≤ k8:=a0f ok' (by decide)
  walk_at "aq"
  refine ⟨ok3,?_⟩
  split
  ·rename_i c
   have e:v0 (.str s) = false:=by simp [v0,a0b]; omega
   rw [← e]
   exact h _
  ·rename_i c
   refine ⟨ok3,?_⟩
   split
   ·rename_i c
    have e:v0 (.str s) = false:=by simp [v0,a0b]; omega
    rw [← e]
    exact h _
   ·rename_i c1
    unfold a4K
    walk_at "aq"
    refine b7c (fun d=>[.dat (.str s),.dat d]) (fun d=>match d with
     | .str z=>!b3G (a0q "abcdefghijklmnopqrstuvwxyz") z
     | _=>false) (fun d=>d) _ _ (fun d _ k hk=>hk) (fun d _=>rfl) (fun d hd k hk=>?_) (fun d hd _ k hk=>hk) ?_ ?_
    ·obtain ⟨c,_,rfl⟩:=e7.mp hd
     walk_at "aq"
     exact hk
    ·simp [a7G]
     exact ok3
    ·walk_at "aq"
     refine ⟨?_,by decide +kernel,?_⟩
     ·refine a0t.shp (b:=10000) (n:=1) (a2H ?_ fun d hd=>c4i ok2 (c5M.mp hd).1) (by decide)
      refine a0f (d2j _ _) ?_
      simp [a7G]
      exact ok'
     ·have e:v0 (.str s) = a0V ((a7G s).filter fun d=>match d with
       | .str z=>!b3G (a0q "abcdefghijklmnopqrstuvwxyz") z
       | _=>false) []:=by
       have e1:v0 (.str s) = s.cps.toList.all a84:=by
        have c1':1 ≤ s.length:=by omega
        have c2':s.length ≤ 8:=by omega
        simp [v0,a0b,c1',c2']
       have e2:((a7G s).filter fun d=>match d with
        | .str z=>!b3G (a0q "abcdefghijklmnopqrstuvwxyz") z
        | _=>false) = a7G ⟨(s.cps.toList.filter fun c=>!a84 c).toArray⟩:=by
        unfold a7G
        rw [List.filter_map]
        congr 1
        refine List.filter_congr fun c _=>?_
        show (!b3G _ _) = _
        rw [b73,b4E]
       rw [e1,e2]
       cases q:s.cps.toList.filter fun c=>!a84 c with
       | nil =>
        have q':=List.filter_eq_nil_iff.mp q
        have:s.cps.toList.all a84 = true:=n3.mpr fun c hc=>by simpa using q' c hc
        rw [this]
        rfl
       | cons c cs =>
        have hc:c ∈ s.cps.toList.filter fun c=>!a84 c:=by rw [q]; exact e6
        have hc':=c5M.mp hc
        have:s.cps.toList.all a84 = false:=by
         rw [← b2T,n3]
         intro h
         rw [h c hc'.1] at hc'
         simp at hc'
        rw [this]
        rfl
      rw [← e]
      exact h _
 | _ =>
  walk_at "aq"
  exact h _
def a6Q:List Str:=["thing", "low", "high"]
def b09 (w:i6) (K:b0):TS :=
 (a3I (b3k K (b6a K "int" (i3 0)) (b3k K (tNotT K (b6a K "bool" (i3 0))) (b3k K (tOp c6L (i3 1) (i3 0)) (tOp c6L (i3 0) (i3 2))))))
def a40:ASt :=
 (a2w (a6T (b58 "int" (i9 0)) (a6T (c76 (b58 "bool" (i9 0))) (a6T (aOp gLe (i9 1) (i9 0)) (aOp gLe (i9 0) (i9 2))))))
theorem b6w {w:i6} {K:b0} (a11:IsiOk K "bool") (b6P:IsiOk K "int") (W:WX):SS K W (b09 w K) a40 :=
 (t9 (a2G (a3v b6P c9) (a2G (c59 (a3v a11 c9)) (a2G (f6 a4A c9 c9) (f6 a4A c9 c9)))))
def r4:Ct:=fun ρ P _=>∃ d lo hi,ρ = [.dat d,.dat (.int lo),.dat (.int hi)] ∧ ∀ ρ',P (.dat (.bool (a0e d lo hi))) ρ'
theorem b4A (ρ:List AV) (P:RV → List AV → Prop) (PX:PXT) (h:r4 ρ P PX):ρ.length = 3:=by
 obtain ⟨_,_,_,rfl,_⟩:=h
 rfl
theorem b3u (ρ:List AV) (P:RV → List AV → Prop) (PX:PXT) (h:r4 ρ P PX):a40 { nx:=fun ρ'=>P (.dat .none) ρ',rt:=P,ex:=PX } (ρ ++ g5 (a6Q.length - ρ.length) .un):=by
 have eN:a6Q.length = 3:=rfl
 obtain ⟨d,lo,hi,rfl,h⟩:=h
 unfold a40
 simp only [eN]
 cases d with
 | int i =>
  walk_at "aq"
  split
  ·rename_i c
   have e:a0e (.int i) lo hi = decide (i ≤ hi):=by simp [a0e,c]
   rw [← e]
   exact h _
  ·rename_i c
   have e:a0e (.int i) lo hi = decide (lo ≤ i):=by simp [a0e,c]
   rw [← e]
   exact h _
 | _ =>
  walk_at "aq"
  exact h _
end Cw
namespace Cw
open PySem L2 Aq
local macro_rules | `(tactic| walk_at "aq")=>`(tactic| dsimp?! [a1h])
theorem a6u {s:Str} (h:a0b s = true):a0j s = true:=by
 unfold a0b at h
 simp only [m5,n3] at h
 unfold a0j
 rw [c0h]
 intro c hc
 have q:=h.2.2 c (by simpa using hc)
 unfold a84 at q
 simp at q ⊢
 omega
theorem a1N {b n:Nat} {s:Str} (h:a0b s = true) (hb:8 ≤ b:=by decide):a0t b n (.str s):=a8J (a0f (c9s h) hb) (a6u h)
theorem b4l:∀ {zs:List Str},(∀ z ∈ zs,a0j z = true) → a1W (zs.map .str) = true
 | [],_=>by simp [a1W]
 | z :: zs,h=>by
  rw [i8,a1W,b4l fun y hy=>h y (e8 _ hy),a09,h z e6]
  rfl
theorem c3R {zs:List Str} (h:∀ z ∈ zs,a0j z = true):a0k (.list (zs.map .str)) = true:=by
 unfold a0k
 have e:(c5P (zs.map .str)).depth ≤ 64:=by
  rw [a01]
  have:a1f (zs.map .str) ≤ 0:=a65 fun d hd=>by
   obtain ⟨z,_,rfl⟩:=e7.mp hd
   simp [a01]
  omega
 rw [a09,b4l h,decide_eq_true e]
 rfl
def a2J:List Str:=["thing", "long", "most", "row", "names"]
def a5s (w:i6) (K:b0):TS :=
 (a6k (tOr (b8X (a6M K (b6a K "tuple" (i3 3)))) (tOr (a1L (tOp (rNeD K) (tCB (a4R K) (d3 (i3 3) p7)) (i3 1))) (b8X (a6M K (r8 (spOf K a0w) [] E0 (d3 (tOp (rIx K) (i3 3) (tC (.int 0))) p7)))))) (a3I (tC (.bl false))) a2k)
def a3k:ASt :=
 (sIf (aOr (a8F (a6U (b58 "tuple" (i9 3)))) (aOr (a4J (aOp gNe (aCB b4u (d4 (i9 3) p8)) (i9 1))) (a8F (a6U (k9 a0w (d4 (aOp gIx (i9 3) (aC (.int 0))) p8)))))) (a2w (aC (.bool false))) a1D)
theorem a9b {w:i6} {K:b0} (j9:IsiOk K "tuple") (W:WX):SS K W (a5s w K) a3k :=
 (a06 (a6b (a1r (a04 (a3v j9 c9))) (a6b (w6 (f6 c06 (a10 a3W (c7 c9 d9)) c9)) (a1r (a04 (i5 (c7 (f6 v3 c9 d5) d9)))))) (t9 a3E) y4)
def a5t (w:i6) (K:b0):TS :=
 (a1a (a27 (tLc (b68 K (i3 0)) (t8 3) c18 (tOp (rIx K) (i3 3) (tC (.int 0))) [3]) (t8 4))
 (a3I (tOp (c1V K) (i3 4) (b9J w K (i3 4)))))
def a3l:ASt :=
 (a0I (a2I 4 (aLc (a6m (i9 0)) [3] (gN 3) c0f (aOp gIx (i9 3) (aC (.int 0)))))
 (a2w (aOp gEq (i9 4) (b31 (i9 4)))))
theorem a9c {w:i6} {K:b0} (j9:IsiOk K "tuple") (W:WX):SS K W (a5t w K) a3l :=
 (m4 (w3 (a7X (a34 c9) a0p a52 (f6 v3 c9 d5) (by decide)))
 (t9 (f6 a33 c9 (c4f c9))))
def a5u (w:i6) (K:b0):TS :=
 (a1a (tFor (b68 K (i3 0)) (t8 3) (a5s w K))
 (a5t w K))
def a3m:ASt :=
 (a0I (c45 (a6m (i9 0)) (gN 3) a3k)
 a3l)
theorem a9d {w:i6} {K:b0} (j9:IsiOk K "tuple") (W:WX):SS K W (a5u w K) a3m :=
 (m4 (a8e (a34 c9) a0p (a9b  j9 W))
 (a9c  j9 W))
def a6x (w:i6) (K:b0):TS :=
 (a1a (a6k (tOr (b8X (a6M K (b6a K "tuple" (i3 0)))) (tOr (a1L (tOp c7R (tCB (a4R K) (d3 (i3 0) p7)) (tC (.int 1)))) (a1L (tOp c9z (tCB (a4R K) (d3 (i3 0) p7)) (i3 2))))) (a3I (tC (.bl false))) a2k)
 (a5u w K))
def a2K:ASt :=
 (a0I (sIf (aOr (a8F (a6U (b58 "tuple" (i9 0)))) (aOr (a4J (aOp gLt (aCB b4u (d4 (i9 0) p8)) (aC (.int 1)))) (a4J (aOp gGt (aCB b4u (d4 (i9 0) p8)) (i9 2))))) (a2w (aC (.bool false))) a1D)
 a3m)
theorem b0Z {w:i6} {K:b0} (j9:IsiOk K "tuple") (W:WX):SS K W (a6x w K) a2K :=
 (m4 (a06 (a6b (a1r (a04 (a3v j9 c9))) (a6b (w6 (f6 a4A (a10 a3W (c7 c9 d9)) d5)) (w6 (f6 a4A (a10 a3W (c7 c9 d9)) c9)))) (t9 a3E) y4)
 (a9d  j9 W))
def a0G:Ct:=fun ρ P _=>∃ d many most,ρ = [.dat d,.dat (.int many),.dat (.int most)] ∧ okD d = true ∧ (1 ≤ many ∧ most ≤ 1000) ∧ ∀ ρ',P (.dat (.bool (a0H many most d))) ρ'
theorem a9S (ρ:List AV) (P:RV → List AV → Prop) (PX:PXT) (h:a0G ρ P PX):ρ.length = 3:=by
 obtain ⟨_,_,_,rfl,_⟩:=h
 rfl
theorem a88 (ρ:List AV) (P:RV → List AV → Prop) (PX:PXT) (h:a0G ρ P PX):a2K { nx:=fun ρ'=>P (.dat .none) ρ',rt:=P,ex:=PX } (ρ ++ g5 (a2J.length - ρ.length) .un):=by
 have eN:a2J.length = 5:=rfl
 obtain ⟨d,many,most,rfl,ok,⟨hm,hmo⟩,h⟩:=h
 unfold a2K
 simp only [eN]
 cases d with
 | tuple ds =>
  obtain ⟨hl,ok2⟩:=okT ok
  walk_at "aq"
  split
  ·rename_i c1
   have e:a0H many most (.tuple ds) = false:=by
    have:¬ 1 ≤ (ds.length:Int):=by omega
    simp [a0H,this]
   rw [← e]
   exact h _
  ·rename_i c1
   split
   ·rename_i c2
    have e:a0H many most (.tuple ds) = false:=by
     have:¬ (ds.length:Int) ≤ most:=by omega
     simp [a0H,this]
    rw [← e]
    exact h _
   ·rename_i c2
    unfold a3m
    walk_at "aq"
    refine c9i (fun x=>[.dat (.tuple ds),.dat (.int many),.dat (.int most),x,.un]) (a4g many) (fun _ _=>rfl) ds .un (fun r hr N hN=>?_) fun hall x=>?_
    ·unfold a3k
     have no:a4g many r = false → a0H many most (.tuple ds) = false:=by
      intro e
      have:ds.all (a4g many) = false:=by
       rw [← b2T,n3]
       intro h
       rw [h r hr] at e
       cases e
      simp [a0H,this]
     cases r with
     | tuple es =>
      walk_at "aq"
      by_cases c3:(es.length:Int) = many
      ·rw [if_pos c3]
       obtain ⟨x,es,rfl⟩:∃ x es',es = x :: es':=by
        cases es with
        | nil=>simp at c3; omega
        | cons x es'=>exact ⟨x,es',rfl⟩
       walk_at "aq"
       refine ⟨x,rfl,(okT (ok2 _ hr)).2 x e6,fun ρ'=>?_⟩
       walk_at "aq"
       have e:a4g many (.tuple (x :: es)) = v0 x:=by
        have c3':((x :: es).length:Int) = many:=c3
        simp only [a4g,a66,c3',b4t,a2v,beq_self_eq_true,y0]
        rfl
       cases c4:v0 x with
       | true =>
        rw [if_pos rfl]
        exact hN (by rw [e,c4])
       | false =>
        rw [if_neg (by simp),← no (by rw [e,c4])]
        exact h _
      ·rw [if_neg c3,← no (by simp [a4g,a66,c3])]
       exact h _
     | _ =>
      walk_at "aq"
      rw [← no rfl]
      exact h _
    ·unfold a3l
     walk_at "aq"
     have sh:∀ r ∈ ds,∃ s es,r = .tuple (.str s :: es) ∧ nmS r = s ∧ a0b s = true:=by
      intro r hr
      obtain ⟨s,es,rfl,q,_⟩:=a69 hm (hall r hr)
      exact ⟨s,es,rfl,rfl,q⟩
     refine b6e (fun d=>[.dat (.tuple ds),.dat (.int many),.dat (.int most),.dat d,.un]) (fun d=>.str (nmS d)) _ _ (fun d _ k hk=>hk) (fun d _=>rfl) (fun d hd k hk=>?_) ?_ ?_
     ·obtain ⟨s,es,rfl,e,_⟩:=sh d hd
      walk_at "aq"
      exact hk
     ·simp [k8]
      omega
     ·have e:(ds.map fun d=>v5 (nmS d)) = (ds.map nmS).map v5:=by simp
      rw [a1c,e]
      walk_at "aq"
      have e':(ds.map (v5 ∘ nmS)) = (ds.map nmS).map v5:=by simp
      rw [e']
      refine .inr ?_
      unfold b31
      walk_at "aq"
      rw [e',b7b]
      refine ⟨?_,?_,fun ys nd hm pw=>?_⟩
      ·refine AqS.fewK ?_
       simp [a7M]
       omega
      ·exact PySem.W.AllAlike.of fun _ _=>rfl
      ·walk_at "aq"
       rw [e']
       have okn:∀ z ∈ ds.map nmS,a0j z = true:=by
        intro z hz
        obtain ⟨r,hr,rfl⟩:=e7.mp hz
        obtain ⟨s,es,_,e,q⟩:=sh r hr
        rw [e]
        exact a6u q
       refine ⟨c3R okn,?_,?_⟩
       ·obtain ⟨zs,rfl,_,hz⟩:=b41 nd hm pw
        rw [w7]
        exact c3R fun z h=>okn z ((hz z).mp h)
       ·have q:=b9x nd hm pw
        rw [i7] at q
        have c1':1 ≤ (ds.length:Int):=by omega
        have c2':(ds.length:Int) ≤ most:=by omega
        have c3:ds.all (a4g many) = true:=n3.mpr hall
        have e2:a0H many most (.tuple ds) = a9v (ds.map nmS):=by simp only [a0H,c1',c2',c3,decide_true,y0]
        rw [q,← e2]
        exact h _
 | _ =>
  walk_at "aq"
  exact h _
end Cw
namespace Cw
open PySem L2 Aq
local macro_rules | `(tactic| walk_at "aq")=>`(tactic| dsimp?! [a1h])
def a3L:List Str:=["thing", "rank", "pence", "days", "chest", "part"]
def a4U (w:i6) (K:b0):TS :=
 (a6k (tOr (b8X (a6M K (r8 (spOf K r4) [] E0 (d3 (i3 2) (d3 (tC (.int 0)) (d3 (tOp a21 (tC (.int 10)) (tC (.int 9))) p7)))))) (b8X (a6M K (r8 (spOf K r4) [] E0 (d3 (i3 3) (d3 (tC (.int 1)) (d3 (tC (.int 1000)) p7))))))) (a3I (tC (.bl false))) a2k)
def a2V:ASt :=
 (sIf (aOr (a8F (a6U (k9 r4 (d4 (i9 2) (d4 (aC (.int 0)) (d4 (aOp a8K (aC (.int 10)) (aC (.int 9))) p8)))))) (a8F (a6U (k9 r4 (d4 (i9 3) (d4 (aC (.int 1)) (d4 (aC (.int 1000)) p8))))))) (a2w (aC (.bool false))) a1D)
theorem a78 {w:i6} {K:b0} (j9:IsiOk K "tuple") (W:WX):SS K W (a4U w K) a2V :=
 (a06 (a6b (a1r (a04 (i5 (c7 c9 (c7 d5 (c7 (f6 a1q d5 d5) d9)))))) (a1r (a04 (i5 (c7 c9 (c7 d5 (c7 d5 d9))))))) (t9 a3E) y4)
def a4V (w:i6) (K:b0):TS :=
 (a6k (b8X (a6M K (r8 (spOf K r4) [] E0 (d3 (i3 5) (d3 (tC (.int 1)) (d3 (tC (.int 1000)) p7)))))) (a3I (tC (.bl false))) a2k)
def a2W:ASt :=
 (sIf (a8F (a6U (k9 r4 (d4 (i9 5) (d4 (aC (.int 1)) (d4 (aC (.int 1000)) p8)))))) (a2w (aC (.bool false))) a1D)
theorem a79 {w:i6} {K:b0} (j9:IsiOk K "tuple") (W:WX):SS K W (a4V w K) a2W :=
 (a06 (a1r (a04 (i5 (c7 c9 (c7 d5 (c7 d5 d9)))))) (t9 a3E) y4)
def a4W (w:i6) (K:b0):TS :=
 (a3I (r8 (spOf K r4) [] E0 (d3 (tOp (rIx K) (i3 0) (tC (.int 2))) (d3 (tC (.int 1)) (d3 (tC (.int 1000)) p7)))))
def a2X:ASt :=
 (a2w (k9 r4 (d4 (aOp gIx (i9 0) (aC (.int 2))) (d4 (aC (.int 1)) (d4 (aC (.int 1000)) p8)))))
theorem a8a {w:i6} {K:b0} (j9:IsiOk K "tuple") (W:WX):SS K W (a4W w K) a2X :=
 (t9 (i5 (c7 (f6 v3 c9 d5) (c7 d5 (c7 d5 d9)))))
def a4X (w:i6) (K:b0):TS :=
 (a1a (tFor (b68 K (tOp (rIx K) (i3 0) (tC (.int 1)))) (gTup K 2 (gCons (t8 4) (gCons (t8 5) gNil))) (a4V w K))
 (a4W w K))
def a2Y:ASt :=
 (a0I (c45 (a6m (aOp gIx (i9 0) (aC (.int 1)))) (gT 2 (a9t (gN 4) (a9t (gN 5) c6e))) a2W)
 a2X)
theorem a8b {w:i6} {K:b0} (j9:IsiOk K "tuple") (W:WX):SS K W (a4X w K) a2Y :=
 (m4 (a8e (a34 (f6 v3 c9 d5)) (c6g (a7Y a0p (a7Y a0p c6f))) (a79  j9 W))
 (a8a  j9 W))
def a4Y (w:i6) (K:b0):TS :=
 (a1a (tFor (b68 K (tOp (rIx K) (i3 0) (tC (.int 0)))) (gTup K 3 (gCons (t8 1) (gCons (t8 2) (gCons (t8 3) gNil)))) (a4U w K))
 (a4X w K))
def a2Z:ASt :=
 (a0I (c45 (a6m (aOp gIx (i9 0) (aC (.int 0)))) (gT 3 (a9t (gN 1) (a9t (gN 2) (a9t (gN 3) c6e)))) a2V)
 a2Y)
theorem a8c {w:i6} {K:b0} (j9:IsiOk K "tuple") (W:WX):SS K W (a4Y w K) a2Z :=
 (m4 (a8e (a34 (f6 v3 c9 d5)) (c6g (a7Y a0p (a7Y a0p (a7Y a0p c6f)))) (a78  j9 W))
 (a8b  j9 W))
def a4Z (w:i6) (K:b0):TS :=
 (a1a (a6k (tOr (b8X (a6M K (r8 (spOf K a0G) [] E0 (d3 (tOp (rIx K) (i3 0) (tC (.int 0))) (d3 (tC (.int 3)) (d3 (tC (.int 12)) p7)))))) (b8X (a6M K (r8 (spOf K a0G) [] E0 (d3 (tOp (rIx K) (i3 0) (tC (.int 1))) (d3 (tC (.int 2)) (d3 (tC (.int 6)) p7))))))) (a3I (tC (.bl false))) a2k)
 (a4Y w K))
def a20:ASt :=
 (a0I (sIf (aOr (a8F (a6U (k9 a0G (d4 (aOp gIx (i9 0) (aC (.int 0))) (d4 (aC (.int 3)) (d4 (aC (.int 12)) p8)))))) (a8F (a6U (k9 a0G (d4 (aOp gIx (i9 0) (aC (.int 1))) (d4 (aC (.int 2)) (d4 (aC (.int 6)) p8))))))) (a2w (aC (.bool false))) a1D)
 a2Z)
theorem a8d {w:i6} {K:b0} (j9:IsiOk K "tuple") (W:WX):SS K W (a4Z w K) a20 :=
 (m4 (a06 (a6b (a1r (a04 (i5 (c7 (f6 v3 c9 d5) (c7 d5 (c7 d5 d9)))))) (a1r (a04 (i5 (c7 (f6 v3 c9 d5) (c7 d5 (c7 d5 d9))))))) (t9 a3E) y4)
 (a8c  j9 W))
def a5Y (w:i6) (K:b0):TS :=
 (a1a (a6k (tOr (b8X (a6M K (b6a K "tuple" (i3 0)))) (a1L (tOp (rNeD K) (tCB (a4R K) (d3 (i3 0) p7)) (tC (.int 3))))) (a3I (tC (.bl false))) a2k)
 (a4Z w K))
def a2s:ASt :=
 (a0I (sIf (aOr (a8F (a6U (b58 "tuple" (i9 0)))) (a4J (aOp gNe (aCB b4u (d4 (i9 0) p8)) (aC (.int 3))))) (a2w (aC (.bool false))) a1D)
 a20)
theorem a95 {w:i6} {K:b0} (j9:IsiOk K "tuple") (W:WX):SS K W (a5Y w K) a2s :=
 (m4 (a06 (a6b (a1r (a04 (a3v j9 c9))) (w6 (f6 c06 (a10 a3W (c7 c9 d9)) d5))) (t9 a3E) y4)
 (a8d  j9 W))
def a1k:Ct:=fun ρ P _=>∃ d,ρ = [.dat d] ∧ okD d = true ∧ ∀ ρ',P (.dat (.bool (a2x d))) ρ'
theorem a86 (ρ:List AV) (P:RV → List AV → Prop) (PX:PXT) (h:a1k ρ P PX):ρ.length = 1:=by
 obtain ⟨_,rfl,_⟩:=h
 rfl
theorem a70 (ρ:List AV) (P:RV → List AV → Prop) (PX:PXT) (h:a1k ρ P PX):a2s { nx:=fun ρ'=>P (.dat .none) ρ',rt:=P,ex:=PX } (ρ ++ g5 (a3L.length - ρ.length) .un):=by
 have eN:a3L.length = 6:=rfl
 obtain ⟨d,rfl,ok,h⟩:=h
 unfold a2s
 simp only [eN]
 cases c1:a66 3 d with
 | false =>
  rw [c3A c1] at h
  cases d with
  | tuple ds =>
   walk_at "aq"
   have c:¬ (ds.length:Int) = 3:=by simpa [a66] using c1
   rw [if_neg c]
   exact h _
  | _ =>
   walk_at "aq"
   exact h _
 | true =>
  obtain ⟨x,y,z,rfl⟩:=c9k c1
  obtain ⟨okx,oky,okz⟩:=okT3 ok
  walk_at "aq"
  unfold a20
  walk_at "aq"
  refine ⟨x,3,12,rfl,okx,by decide,fun ρ'=>?_⟩
  walk_at "aq"
  cases c2:a0H 3 12 x with
  | false =>
   have e:a2x (.tuple [x,y,z]) = false:=by simp [a2x,c2]
   rw [if_neg (by simp),← e]
   exact h _
  | true =>
   rw [if_pos rfl]
   refine ⟨y,2,6,rfl,oky,by decide,fun ρ'=>?_⟩
   walk_at "aq"
   cases c3:a0H 2 6 y with
   | false =>
    have e:a2x (.tuple [x,y,z]) = false:=by simp [a2x,c3]
    rw [if_neg (by simp),← e]
    exact h _
   | true =>
    rw [if_pos rfl]
    obtain ⟨rs,rfl,_,lr,hr,_⟩:=a43 c2
    obtain ⟨cs,rfl,_,lc,hc,_⟩:=a43 c3
    unfold a2Z
    walk_at "aq"
    refine c2d (fun (q:AV × AV × AV)=>[.dat (.tuple [.tuple rs,.tuple cs,z]),q.1,q.2.1,q.2.2,.un,.un]) (fun d=>(.dat ((a2v d).getD 0 .none),.dat ((a2v d).getD 1 .none),.dat ((a2v d).getD 2 .none))) a5q rs (.un,.un,.un) (fun d hd q k hk=>?_) (fun d hd N hN=>?_) (fun hall q=>?_)
    ·obtain ⟨s,u,v,rfl,_⟩:=row3 (hr d hd)
     walk_at "aq"
     exact hk
    ·obtain ⟨s,u,v,rfl,_⟩:=row3 (hr d hd)
     have no:a5q (.tuple [.str s,u,v]) = false → a2x (.tuple [.tuple rs,.tuple cs,z]) = false:=by
      intro e
      have:rs.all a5q = false:=by
       rw [← b2T,n3]
       intro h
       rw [h _ hd] at e
       cases e
      simp only [a2x,a2v,this,a08,a9K]
     have er:a5q (.tuple [.str s,u,v]) = (a0e u 0 1000000000 && a0e v 1 1000):=rfl
     unfold a2V
     walk_at "aq"
     refine ⟨a4P (by decide) (by decide) (by decide),u,0,1000000000,rfl,fun ρ'=>?_⟩
     walk_at "aq"
     cases c4:a0e u 0 1000000000 with
     | false =>
      rw [if_neg (by simp),← no (by rw [er,c4]; rfl)]
      exact h _
     | true =>
      rw [if_pos rfl]
      refine ⟨v,1,1000,rfl,fun ρ'=>?_⟩
      walk_at "aq"
      cases c5:a0e v 1 1000 with
      | false =>
       rw [if_neg (by simp),← no (by rw [er,c4,c5]; rfl)]
       exact h _
      | true =>
       rw [if_pos rfl]
       exact hN (by rw [er,c4,c5]; rfl)
    ·have c4':rs.all a5q = true:=n3.mpr hall
     obtain ⟨q1,q2,q3⟩:=q
     unfold a2Y
     walk_at "aq"
     refine c2d (fun (q:AV × AV)=>[.dat (.tuple [.tuple rs,.tuple cs,z]),q1,q2,q3,q.1,q.2]) (fun d=>(.dat ((a2v d).getD 0 .none),.dat ((a2v d).getD 1 .none))) a5l cs (.un,.un) (fun d hd q k hk=>?_) (fun d hd N hN=>?_) (fun hall q=>?_)
     ·obtain ⟨s,u,rfl,_⟩:=row2 (hc d hd)
      walk_at "aq"
      exact hk
     ·obtain ⟨s,u,rfl,_⟩:=row2 (hc d hd)
      have no:a5l (.tuple [.str s,u]) = false → a2x (.tuple [.tuple rs,.tuple cs,z]) = false:=by
       intro e
       have:cs.all a5l = false:=by
        rw [← b2T,n3]
        intro h
        rw [h _ hd] at e
        cases e
       simp only [a2x,a2v,this,a08,a9K]
      have er:a5l (.tuple [.str s,u]) = a0e u 1 1000:=rfl
      unfold a2W
      walk_at "aq"
      refine ⟨u,1,1000,rfl,fun ρ'=>?_⟩
      walk_at "aq"
      cases c5:a0e u 1 1000 with
      | false =>
       rw [if_neg (by simp),← no (by rw [er,c5])]
       exact h _
      | true =>
       rw [if_pos rfl]
       exact hN (by rw [er,c5])
     ·have c5':cs.all a5l = true:=n3.mpr hall
      obtain ⟨q4,q5⟩:=q
      unfold a2X
      walk_at "aq"
      refine ⟨z,1,1000,rfl,fun ρ'=>?_⟩
      have e:a2x (.tuple [.tuple rs,.tuple cs,z]) = a0e z 1 1000:=by
       simp only [a2x,a2v,c2,c3,c4',c5',y0]
      rw [← e]
      exact h _
end Cw
namespace Cw
open PySem L2 Aq
local macro_rules | `(tactic| walk_at "aq")=>`(tactic| dsimp?! [a1h])
def a7N:List Str:=["script", "k", "cell"]
def a9z (w:i6) (K:b0):TS :=
 (a3I (b0j (d3 (tOp b14 (i3 2) (tCB d08 (d3 (tOp rGeA (i3 2) (tOp a21 (tC (.int 10)) (tC (.int 18)))) p7))) (d3 (tOp (a0A K) (tC (.int 1)) (tOp b4X (tOp (a0A K) (tOp b14 (i3 2) (tC (.int 69621))) (tOp b14 (tC (.int 86028121)) (tOp (a0A K) (i3 1) (tC (.int 1))))) (tC (.int 2147483646)))) p7))))
def a4l:ASt :=
 (a2w (a5J (d4 (aOp c4k (i9 2) (aCB gInt (d4 (aOp gGe (i9 2) (aOp a8K (aC (.int 10)) (aC (.int 18)))) p8))) (d4 (aOp a3e (aC (.int 1)) (aOp c6d (aOp a3e (aOp c4k (i9 2) (aC (.int 69621))) (aOp c4k (aC (.int 86028121)) (aOp a3e (i9 1) (aC (.int 1))))) (aC (.int 2147483646)))) p8))))
theorem b42 {w:i6} {K:b0} (W:WX):SS K W (a9z w K) a4l :=
 (t9 (a0x (c7 (f6 a71 c9 (a10 d3m (c7 (f6 a4A c9 (f6 a1q d5 d5)) d9))) (c7 (f6 y9 d5 (f6 b0P (f6 y9 (f6 a71 c9 d5) (f6 a71 d5 (f6 y9 c9 d5))) d5)) d9))))
def b3b (w:i6) (K:b0):TS :=
 (a1a (a27 (tOp b14 (tC (.int 15485863)) (i3 1)) (t8 2))
 (a1a (a6k (a1L (tOp c7R (i3 1) (tCB (a4R K) (d3 (i3 0) p7)))) (a27 (tOp b4X (tOp (rIx K) (i3 0) (i3 1)) (tOp b14 (tOp a21 (tC (.int 10)) (tC (.int 60))) (tOp a21 (tC (.int 10)) (tC (.int 60))))) (t8 2)) (a6k (a1L (tOp c9z (tCB (a4R K) (d3 (i3 0) p7)) (tC (.int 0)))) (a27 (tOp (a0A K) (tOp b4X (tOp (rIx K) (i3 0) (tOp b4X (i3 1) (tCB (a4R K) (d3 (i3 0) p7)))) (tOp a21 (tC (.int 10)) (tC (.int 15)))) (tOp b14 (tC (.int 15485863)) (i3 1))) (t8 2)) a2k))
 (a9z w K)))
def a5N:ASt :=
 (a0I (a2I 2 (aOp c4k (aC (.int 15485863)) (i9 1)))
 (a0I (sIf (a4J (aOp gLt (i9 1) (c2a 0))) (a2I 2 (aOp c6d (d2D 0 (i9 1)) (aOp c4k (aOp a8K (aC (.int 10)) (aC (.int 60))) (aOp a8K (aC (.int 10)) (aC (.int 60)))))) (sIf (a4J (aOp gGt (c2a 0) (aC (.int 0)))) (a2I 2 (aOp a3e (aOp c6d (d2D 0 (aOp c6d (i9 1) (c2a 0))) (aOp a8K (aC (.int 10)) (aC (.int 15)))) (aOp c4k (aC (.int 15485863)) (i9 1)))) a1D))
 a4l))
theorem b9B {w:i6} {K:b0} (W:WX):SS K W (b3b w K) a5N :=
 (m4 (w3 (f6 a71 d5 c9))
 (m4 (a06 (w6 (f6 a4A c9 b89)) (w3 (f6 b0P (c9e c9) (f6 a71 (f6 a1q d5 d5) (f6 a1q d5 d5)))) (a06 (w6 (f6 a4A b89 d5)) (w3 (f6 y9 (f6 b0P (c9e (f6 b0P c9 b89)) (f6 a1q d5 d5)) (f6 a71 d5 c9))) y4))
 (b42  W)))
def a3s:Ct:=fun ρ P _=>∃ ns k,ρ = [.scr ns,.dat (.int k)] ∧ 0 ≤ k ∧ k ≤ 1000 ∧ ∀ a b ρ',Dw a b → P (.own (.ml none [.int a,.int b])) ρ'
theorem b6f (ρ:List AV) (P:RV → List AV → Prop) (PX:PXT) (h:a3s ρ P PX):ρ.length = 2:=by
 obtain ⟨_,_,rfl,_⟩:=h
 rfl
theorem b4S (ρ:List AV) (P:RV → List AV → Prop) (PX:PXT) (h:a3s ρ P PX):a5N { nx:=fun ρ'=>P (.dat .none) ρ',rt:=P,ex:=PX } (ρ ++ g5 (a7N.length - ρ.length) .un):=by
 have eN:a7N.length = 3:=rfl
 obtain ⟨ns,k,rfl,h0,h1,h⟩:=h
 unfold a5N
 simp only [eN]
 walk_at "aq"
 have fin:∀ c:Int,0 ≤ c → c < 10 ^ 120 → a4l { nx:=fun ρ'=>P (.dat .none) ρ',rt:=P,ex:=PX } [.scr ns,.dat (.int k),.dat (.int c)]:=by
  intro c hc0 hc1
  unfold a4l
  walk_at "aq"
  have x1:0 ≤ (c * 69621 + 86028121 * (k + 1)) % 2147483646:=a1y _ (by decide)
  have x2:(c * 69621 + 86028121 * (k + 1)) % 2147483646 < 2147483646:=a0K _ (by decide)
  refine ⟨a4P (by decide) (by decide) (by decide),b4I (a3F (by omega) (by omega)) (a3F (by split <;> decide) (by split <;> decide)),b4I (a3F (by omega) (by omega)) (a3F (by decide) (by decide)),b4I (a3F (by decide) (by decide)) (a3F (by omega) (by omega)),by decide,h _ _ _ ⟨?_,?_,by omega,by omega⟩⟩
  ·split <;> omega
  ·split <;> omega
 refine ⟨b4I (a3F (by decide) (by decide)) (a3F (by omega) (by omega)),?_⟩
 have at_:∀ i:Int,0 ≤ i → i < ns.length → ∃ z,atI ns i = some z:=by
  intro i hi0 hi1
  rw [a9R hi0 hi1,j5 (by omega)]
  exact ⟨_,rfl⟩
 split
 ·rename_i c
  obtain ⟨z,ez⟩:=at_ k h0 c
  rw [ez]
  walk_at "aq"
  exact ⟨a4P (by decide) (by decide) (by decide),b4I (a3F (by decide) (by decide)) (a3F (by decide) (by decide)),fin _ (a1y _ (by decide)) (a0K _ (by decide))⟩
 ·split
  ·rename_i c
   obtain ⟨z,ez⟩:=at_ (k % ns.length) (a1y _ (by omega)) (a0K _ (by omega))
   have x1:0 ≤ z % 1000000000000000:=a1y _ (by decide)
   have x2:z % 1000000000000000 < 1000000000000000:=a0K _ (by decide)
   refine ⟨by omega,?_⟩
   rw [ez]
   walk_at "aq"
   exact ⟨a4P (by decide) (by decide) (by decide),b4I (a3F (by decide) (by decide)) (a3F (by omega) (by omega)),fin _ (by omega) (by omega)⟩
  ·exact fin _ (by omega) (by omega)
end Cw
namespace Cw
open PySem L2 Aq
local macro_rules | `(tactic| walk_at "aq")=>`(tactic| dsimp?! [a1h])
local macro_rules | `(tactic| walk_at "ao")=>`(tactic| simp_all?! [a1h])
theorem a05 {a b n:Int} {i:Nat} {p:Option Nat} {ρ1:List AV} {P:RV → List AV → Prop} (hd:Dw a b) (h1:1 ≤ n) (h2:n ≤ 10 ^ 40) (ht:(ρ1[i]?).bind AV.tag = p) (h:∀ k a' b',0 ≤ k → k < n → Dw a' b' → P (.dat (.int k)) (ρ1.set i (.ml p [.int a',.int b']))):d7 [.ml (some 0) [.int a,.int b],.dat (.int n)] (bk P ρ1 [i]) X0:=by
 refine ⟨a,b,n,rfl,hd,h1,h2,fun k a' b' ρ' hk hk' hd' ho=>?_⟩
 rw [a5p,a1g ho,a4Q,a46,ht]
 exact h k a' b' hk hk' hd'
theorem a2E {α:Type} {xs:List α} {i:Int} (h0:0 ≤ i) (h1:i < xs.length):∃ x ∈ xs,atI xs i = some x:=by
 rw [a9R h0 h1,j5 (by omega)]
 exact ⟨_,c30 _,rfl⟩
theorem c4m:∀ cs:List Nat,c0o (a0q "") (cs.map fun c=>(⟨#[c]⟩:Str)) = ⟨cs.toArray⟩:=by
 intro cs
 have e:(cs.map fun c=>(⟨#[c]⟩:Str)) = (cs.map fun c=>[c]).map SX.S:=by rw [w7]; rfl
 have e0:a0q "" = SX.S []:=rfl
 rw [e,e0,SX.join_S]
 congr 2
 induction cs with
 | nil=>rfl
 | cons c cs ih =>
  cases cs with
  | nil=>rfl
  | cons d cs =>
   have ih':=ih (by simp)
   rw [i8] at ih'
   rw [i8,i8,TL.joinL,ih']
   rfl
def c7f:c8 → Str
 | .str s=>s
 | _=>e0
theorem c6H {es:List c8} {xs:List Str} (h:es.Perm (xs.map .str)):∃ ns:List Str,ns.Perm xs ∧ es = ns.map .str:=by
 refine ⟨es.map c7f,?_,?_⟩
 ·have q:=h.map c7f
  rw [w7] at q
  have e:xs.map (c7f ∘ v5) = xs:=by
   have:(c7f ∘ v5) = id:=rfl
   rw [this,List.map_id]
  rw [e] at q
  exact q
 ·rw [w7]
  have:∀ d ∈ es,(v5 ∘ c7f) d = d:=by
   intro d hd
   obtain ⟨x,_,rfl⟩:=e7.mp (h.mem_iff.mp hd)
   rfl
  rw [a4C this]
  simp
theorem c1c {es:List c8} {xs:List Str} (h:es.Perm (xs.map .str)) (nd:xs.Nodup) (pw:es.Pairwise AqS.leD):∃ ns:List Str,ns.Perm xs ∧ es = ns.map .str ∧ ns.Pairwise sLt:=by
 obtain ⟨ns,hp,rfl⟩:=c6H h
 refine ⟨ns,hp,rfl,?_⟩
 rw [a2y] at pw
 have nd':ns.Pairwise (· ≠ ·):=hp.nodup_iff.mpr nd
 exact (pw.and nd').imp fun h=>c6u h.1 h.2
theorem b4K:∀ xs:List Str,noDics (xs.map .str) = true
 | []=>by rw [d2k,noDics]
 | x :: xs=>by rw [i8,noDics,b4K xs]; rfl
def c6B (cs:List Nat) (f t:Int) (k:Int):Str:=⟨(cs ++ [97 + ((f + t * k) % 26).toNat]).toArray⟩
theorem d0Z {cs:List Nat} {f t k:Int} (hcs:∀ c ∈ cs,a84 c = true) (hl:cs.length ≤ 7):a0b (c6B cs f t k) = true:=by
 unfold a0b c6B
 have h1:0 ≤ (f + t * k) % 26:=a1y _ (by decide)
 have h2:(f + t * k) % 26 < 26:=a0K _ (by decide)
 simp only [m5,decide_eq_true_eq,n3,c14]
 refine ⟨by simp,by simp; omega,fun c hc=>?_⟩
 rcases v8.mp hc with hc | hc
 ·exact hcs c hc
 ·simp at hc
  subst hc
  simp [a84]
  omega
theorem c8s {cs:List Nat} {f t k k':Int} (ht:t = 1 ∨ t = 3 ∨ t = 5 ∨ t = 7) (h0:0 ≤ k) (h1:k < 26) (h0':0 ≤ k') (h1':k' < 26) (h:c6B cs f t k = c6B cs f t k'):k = k':=by
 unfold c6B at h
 simp at h
 rcases ht with rfl | rfl | rfl | rfl <;> omega
def a4y:List Str:=["draws", "many", "letters", "stem", "first", "step", "k"]
def b3d (w:i6) (K:b0):TS :=
 (a1a (a27 (tC (.str "abcdefghijklmnopqrstuvwxyz")) (t8 2))
 (a1a (a27 (tM1 (c8A K) (tC (.str "")) (tLc (d2v (d3 (tOp (rIx K) (b0j (d3 (tC (.int 0)) (d3 (tC (.int 1)) (d3 (tC (.int 2)) (d3 (tC (.int 7)) p7))))) (r8 (spOf K d7) [] E0 (d3 (i3 0) (d3 (tC (.int 4)) p7)))) p7)) (t8 6) c18 (tOp (rIx K) (i3 2) (r8 (spOf K d7) [] E0 (d3 (i3 0) (d3 (tC (.int 26)) p7)))) [6])) (t8 3))
 (a1a (a27 (r8 (spOf K d7) [] E0 (d3 (i3 0) (d3 (tC (.int 26)) p7))) (t8 4))
 (a1a (a27 (tOp (rIx K) (b0j (d3 (tC (.int 1)) (d3 (tC (.int 3)) (d3 (tC (.int 5)) (d3 (tC (.int 7)) p7))))) (r8 (spOf K d7) [] E0 (d3 (i3 0) (d3 (tC (.int 4)) p7)))) (t8 5))
 (a3I (tCB (AqS.rSortD K) (d3 (tLc (d2v (d3 (i3 1) p7)) (t8 6) c18 (tOp (a0A K) (i3 3) (tOp (rIx K) (i3 2) (tOp b4X (tOp (a0A K) (i3 4) (tOp b14 (i3 5) (i3 6))) (tC (.int 26))))) [6]) p7)))))))
def a5P:ASt :=
 (a0I (a2I 2 (aC (.str "abcdefghijklmnopqrstuvwxyz")))
 (a0I (a2I 3 (c74 (aC (.str "")) (aLc (b4f (d4 (aOp gIx (a5J (d4 (aC (.int 0)) (d4 (aC (.int 1)) (d4 (aC (.int 2)) (d4 (aC (.int 7)) p8))))) (k9 d7 (d4 (i9 0) (d4 (aC (.int 4)) p8)))) p8)) [6] (gN 6) c0f (aOp gIx (i9 2) (k9 d7 (d4 (i9 0) (d4 (aC (.int 26)) p8)))))))
 (a0I (a2I 4 (k9 d7 (d4 (i9 0) (d4 (aC (.int 26)) p8))))
 (a0I (a2I 5 (aOp gIx (a5J (d4 (aC (.int 1)) (d4 (aC (.int 3)) (d4 (aC (.int 5)) (d4 (aC (.int 7)) p8))))) (k9 d7 (d4 (i9 0) (d4 (aC (.int 4)) p8)))))
 (a2w (aCB d0d (d4 (aLc (b4f (d4 (i9 1) p8)) [6] (gN 6) c0f (aOp a3e (i9 3) (aOp gIx (i9 2) (aOp c6d (aOp a3e (i9 4) (aOp c4k (i9 5) (i9 6))) (aC (.int 26)))))) p8)))))))
theorem b9D {w:i6} {K:b0} (W:WX):SS K W (b3d w K) a5P :=
 (m4 (w3 t6)
 (m4 (w3 (c58 t6 (a7X (a67 (c7 (f6 v3 (a0x (c7 d5 (c7 d5 (c7 d5 (c7 d5 d9))))) (i5 (c7 c9 (c7 d5 d9)))) d9)) a0p a52 (f6 v3 c9 (i5 (c7 c9 (c7 d5 d9)))) (by decide))))
 (m4 (w3 (i5 (c7 c9 (c7 d5 d9))))
 (m4 (w3 (f6 v3 (a0x (c7 d5 (c7 d5 (c7 d5 (c7 d5 d9))))) (i5 (c7 c9 (c7 d5 d9)))))
 (t9 (a10 d07 (c7 (a7X (a67 (c7 c9 d9)) a0p a52 (f6 y9 c9 (f6 v3 c9 (f6 b0P (f6 y9 c9 (f6 a71 c9 c9)) d5))) (by decide)) d9)))))))
def LET:Str:=a0q "abcdefghijklmnopqrstuvwxyz"
theorem c0P:LET.cps.toList = List.range' 97 26:=by decide +kernel
theorem b7d {i:Int} (h0:0 ≤ i) (h1:i < 26):atI LET.cps.toList i = some (97 + i.toNat):=by
 rw [c0P,a9R h0 (by simpa using h1),List.getElem?_range' (by omega)]
 simp
theorem b4D:LET.length ≤ k8:=by decide +kernel
def y8:Ct:=fun ρ P _=>∃ a b n,ρ = [.ml (some 0) [.int a,.int b],.dat (.int n)] ∧ Dw a b ∧ 0 ≤ n ∧ n ≤ 26 ∧ ∀ (ns:List Str) a' b' ρ',(ns.length:Int) = n → (∀ s ∈ ns,a0b s = true) → ns.Pairwise sLt → (∀ s ∈ ns,s.length ≠ 4) → Dw a' b' → a87 ρ' 0 = some (.ml (some 0) [.int a',.int b']) → P (.own (.ml none (ns.map .str))) ρ'
theorem b6h (ρ:List AV) (P:RV → List AV → Prop) (PX:PXT) (h:y8 ρ P PX):ρ.length = 2:=by
 obtain ⟨_,_,_,rfl,_⟩:=h
 rfl
theorem b4U (ρ:List AV) (P:RV → List AV → Prop) (PX:PXT) (h:y8 ρ P PX):a5P { nx:=fun ρ'=>P (.dat .none) ρ',rt:=P,ex:=PX } (ρ ++ g5 (a4y.length - ρ.length) .un):=by
 have eN:a4y.length = 7:=rfl
 obtain ⟨a,b,n,rfl,hd,hn,hn2,h⟩:=h
 unfold a5P
 simp only [eN]
 walk_at "aq"
 refine ⟨by decide,a05 hd (by decide) (by decide) rfl fun k1 a1 b1 l1 u1 hd1=>?_⟩
 obtain ⟨x,hx,ex⟩:=a2E (xs:=[m7 0,m7 1,m7 2,m7 7]) l1 (by simpa using u1)
 walk_at "ao"
 rw [ex]
 obtain ⟨m,rfl,hm⟩:∃ m:Int,x = .int m ∧ 0 ≤ m ∧ m ≤ 7 ∧ m ≠ 3:=by
  simp at hx
  rcases hx with rfl | rfl | rfl | rfl <;> exact ⟨_,rfl,by decide,by decide,by decide⟩
 walk_at "ao"
 refine ⟨by omega,?_⟩
 refine c6s (fun ds acc ρ=>∃ (cs:List Nat) (a b:Int),acc = cs.map (fun c=>v5 ⟨#[c]⟩) ∧ (∀ c ∈ cs,a84 c = true) ∧ cs.length + ds.length = m.toNat ∧ Dw a b ∧ ρ = [.ml (some 0) [.int a,.int b],.dat (.int n),.dat (.str LET),.un,.un,.un,.un]) ?_ ?_ _ _ _ ?_
 ·rintro d ds acc ρ ⟨cs,a,b,rfl,hcs,hl,hd,rfl⟩ N hN
  walk_at "aq"
  refine a05 hd (by decide) (by decide) rfl fun k a' b' l u hd'=>?_
  walk_at "aq"
  refine ⟨b4D,?_⟩
  rw [b7d l u]
  walk_at "aq"
  refine ⟨?_,hN _ _ ⟨cs ++ [97 + k.toNat],a',b',by simp,?_,?_,hd',rfl⟩⟩
  ·simp at hl
   simp [k8]
   omega
  ·intro c hc
   rcases v8.mp hc with hc | hc
   ·exact hcs c hc
   ·simp at hc
    subst hc
    simp [a84]
    omega
  ·simp at hl ⊢
   omega
 ·rintro acc ρ ⟨cs,a,b,rfl,hcs,hl,hd,rfl⟩
  have e1:(cs.map fun c=>v5 ⟨#[c]⟩) = (cs.map fun c=>(⟨#[c]⟩:Str)).map v5:=by rw [w7]; rfl
  rw [e1]
  walk_at "ao"
  rw [c1p]
  walk_at "ao"
  rw [c4m]
  refine ⟨?_,?_⟩
  ·have:((cs.map fun c=>(⟨#[c]⟩:Str)).map (·.length)).sum = cs.length:=by
    rw [w7]
    clear hcs hl e1
    induction cs with
    | nil=>rfl
    | cons c cs ih=>simp_all [c14]; omega
   rw [this]
   simp at hl ⊢
   have:(a0q "").length = 0:=rfl
   rw [this]
   omega
  walk_at "aq"
  refine a05 hd (by decide) (by decide) rfl fun f a2 b2 l2 u2 hd2=>?_
  walk_at "aq"
  refine ⟨by decide,a05 hd2 (by decide) (by decide) rfl fun k3 a3 b3 l3 u3 hd3=>?_⟩
  obtain ⟨y,hy,ey⟩:=a2E (xs:=[m7 1,m7 3,m7 5,m7 7]) l3 (by simpa using u3)
  walk_at "ao"
  rw [ey]
  obtain ⟨t,rfl,ht⟩:∃ t:Int,y = .int t ∧ (t = 1 ∨ t = 3 ∨ t = 5 ∨ t = 7):=by
   simp at hy
   rcases hy with rfl | rfl | rfl | rfl <;> exact ⟨_,rfl,by decide⟩
  walk_at "ao"
  refine ⟨by omega,?_⟩
  have hl3:cs.length = m.toNat:=by simpa using hl
  have hl':cs.length ≤ 7:=by omega
  refine b6e (fun d=>[.ml (some 0) [.int a3,.int b3],.dat (.int n),.dat (.str LET),.dat (.str ⟨cs.toArray⟩),.dat (.int f),.dat (.int t),.dat d]) (fun d=>match d with
   | .int k=>.str (c6B cs f t k)
   | _=>.none) _ _ (fun d _ k hk=>hk) (fun d _=>rfl) (fun d hd k hk=>?_) ?_ ?_
  ·obtain ⟨i,rfl,i0,i1⟩:=b4H hd
   have q1:0 ≤ (f + t * i) % 26:=a1y _ (by decide)
   have q2:(f + t * i) % 26 < 26:=a0K _ (by decide)
   walk_at "aq"
   refine ⟨b4I (a3F (by omega) (by omega)) (a3F (by omega) (by omega)),b4D,?_⟩
   rw [b7d q1 q2]
   walk_at "aq"
   refine ⟨?_,?_⟩
   ·simp [c14,k8]
    omega
   ·have e:(⟨cs.toArray⟩:Str) ++ ⟨#[97 + ((f + t * i) % 26).toNat]⟩ = c6B cs f t i:=SX.S_cat cs [97 + ((f + t * i) % 26).toNat]
    rw [e]
    exact hk
  ·rw [a72]
   simp [k8]
   omega
  ·rw [c6O]
   have e2:((a1j n.toNat).map fun (i:Nat)=>v5 (c6B cs f t (0 + (i:Int)))) = ((a1j n.toNat).map fun (i:Nat)=>c6B cs f t (0 + (i:Int))).map v5:=by rw [w7]; rfl
   rw [e2]
   walk_at "ao"
   refine ⟨PySem.W.AllAlike.of fun _ _=>rfl,c9L fun b=>⟨(fun h=>by cases h),(fun _ h=>by cases h)⟩,?_,b4K _,fun es hp pw=>?_⟩
   ·intro d hd
    obtain ⟨z,_,rfl⟩:=e7.mp hd
    simp [a01]
   ·have nd:((a1j n.toNat).map fun (i:Nat)=>c6B cs f t (0 + (i:Int))).Nodup:=by
     refine a2y.mpr ?_
     refine List.Pairwise.imp_of_mem (R:=(· ≠ ·)) (fun hx hy hne e=>hne ?_) List.nodup_range
     rw [a25] at hx hy
     have:=c8s ht (by omega) (by omega) (by omega) (by omega) e
     omega
    obtain ⟨ns,hp',rfl,ps⟩:=c1c hp nd pw
    refine h ns a3 b3 _ ?_ ?_ ps ?_ hd3 rfl
    ·rw [hp'.length_eq]
     simp
     omega
    ·intro s hs
     obtain ⟨i,_,rfl⟩:=e7.mp (hp'.mem_iff.mp hs)
     exact d0Z hcs hl'
    ·intro s hs
     obtain ⟨i,_,rfl⟩:=e7.mp (hp'.mem_iff.mp hs)
     simp [c6B,c14]
     omega
 ·exact ⟨[],a1,b1,rfl,by simp,by simp [rng],hd1,rfl⟩
end Cw
namespace Cw
open PySem L2 Aq
structure Art where
 ranks:List (Str × Int × Int)
 chests:List (Str × Int)
 month:Int
def a2l (r:Str × Int × Int):c8:=.tuple [.str r.1,.int r.2.1,.int r.2.2]
def a5k (c:Str × Int):c8:=.tuple [.str c.1,.int c.2]
def Art.d (A:Art):c8:=.tuple [.tuple (A.ranks.map a2l),.tuple (A.chests.map a5k),.int A.month]
structure Art.Ok (A:Art):Prop where
 r1:1 ≤ A.ranks.length
 r2:A.ranks.length ≤ 12
 rn:∀ r ∈ A.ranks,a0b r.1 = true
 rp:∀ r ∈ A.ranks,0 ≤ r.2.1 ∧ r.2.1 ≤ 1000000000
 rd:∀ r ∈ A.ranks,1 ≤ r.2.2 ∧ r.2.2 ≤ 1000
 rs:(A.ranks.map (·.1)).Pairwise sLt
 c1:1 ≤ A.chests.length
 c2:A.chests.length ≤ 6
 cn:∀ r ∈ A.chests,a0b r.1 = true
 cp:∀ r ∈ A.chests,1 ≤ r.2 ∧ r.2 ≤ 1000
 cs:(A.chests.map (·.1)).Pairwise sLt
 m:1 ≤ A.month ∧ A.month ≤ 1000
theorem c6C (rs:List (Str × Int × Int)):(rs.map a2l).map nmS = rs.map (·.1):=by rw [w7]; rfl
theorem c4p (rs:List (Str × Int)):(rs.map a5k).map nmS = rs.map (·.1):=by rw [w7]; rfl
theorem a1K {i lo hi:Int}:a0e (.int i) lo hi = true ↔ lo ≤ i ∧ i ≤ hi:=by simp [a0e]
theorem a4i {d:c8} {lo hi:Int} (h:a0e d lo hi = true):∃ i,d = .int i ∧ lo ≤ i ∧ i ≤ hi:=by
 cases d with
 | int i=>exact ⟨i,rfl,a1K.mp h⟩
 | _=>cases h
theorem Art.Ok.is {A:Art} (h:A.Ok):a2x A.d = true:=by
 have e1:a0H 3 12 (.tuple (A.ranks.map a2l)) = true:=by
  have q:(A.ranks.map a2l).all (a4g 3) = true:=by
   rw [n3]
   intro r hr
   obtain ⟨x,hx,rfl⟩:=e7.mp hr
   have:=h.rn x hx
   simp [a4g,a2l,a66,b4t,a2v,v0,this]
  have q2:a9v ((A.ranks.map a2l).map nmS) = true:=by
   rw [c6C,a8Q]
   exact h.rs
  have h1:=h.r1
  have h2:=h.r2
  have l1:1 ≤ ((A.ranks.map a2l).length:Int):=by rw [j3]; omega
  have l2:((A.ranks.map a2l).length:Int) ≤ 12:=by rw [j3]; omega
  simp only [a0H,q,q2,l1,l2,decide_true,y0]
 have e2:a0H 2 6 (.tuple (A.chests.map a5k)) = true:=by
  have q:(A.chests.map a5k).all (a4g 2) = true:=by
   rw [n3]
   intro r hr
   obtain ⟨x,hx,rfl⟩:=e7.mp hr
   have:=h.cn x hx
   simp [a4g,a5k,a66,b4t,a2v,v0,this]
  have q2:a9v ((A.chests.map a5k).map nmS) = true:=by
   rw [c4p,a8Q]
   exact h.cs
  have h1:=h.c1
  have h2:=h.c2
  have l1:1 ≤ ((A.chests.map a5k).length:Int):=by rw [j3]; omega
  have l2:((A.chests.map a5k).length:Int) ≤ 6:=by rw [j3]; omega
  simp only [a0H,q,q2,l1,l2,decide_true,y0]
 have e3:(A.ranks.map a2l).all a5q = true:=by
  rw [n3]
  intro r hr
  obtain ⟨x,hx,rfl⟩:=e7.mp hr
  show (a0e (.int x.2.1) 0 1000000000 && a0e (.int x.2.2) 1 1000) = true
  rw [a1K.mpr (h.rp x hx),a1K.mpr (h.rd x hx)]
  rfl
 have e4:(A.chests.map a5k).all a5l = true:=by
  rw [n3]
  intro r hr
  obtain ⟨x,hx,rfl⟩:=e7.mp hr
  exact a1K.mpr (h.cp x hx)
 have e5:a0e (.int A.month) 1 1000 = true:=a1K.mpr h.m
 simp only [a2x,Art.d,a2v,e1,e2,e3,e4,e5,y0]
theorem c0I {r:Str × Int × Int} (h:a0b r.1 = true):a0t 100 1 (a2l r):=by
 refine a3d (by simp) fun d hd=>?_
 simp at hd
 rcases hd with rfl | rfl | rfl
 ·exact a1N h
 ·exact a1E
 ·exact a1E
theorem c4h {r:Str × Int} (h:a0b r.1 = true):a0t 100 1 (a5k r):=by
 refine a3d (by simp) fun d hd=>?_
 simp at hd
 rcases hd with rfl | rfl
 ·exact a1N h
 ·exact a1E
theorem c8d {A:Art} (h1:A.ranks.length ≤ 100) (h2:A.chests.length ≤ 100) (h3:∀ r ∈ A.ranks,a0b r.1 = true) (h4:∀ r ∈ A.chests,a0b r.1 = true):a0t 100 3 A.d:=by
 refine a3d (by simp) fun d hd=>?_
 simp at hd
 rcases hd with rfl | rfl | rfl
 ·refine a3d (by simpa using h1) fun d hd=>?_
  obtain ⟨x,hx,rfl⟩:=e7.mp hd
  exact c0I (h3 x hx)
 ·refine a3d (by simpa using h2) fun d hd=>?_
  obtain ⟨x,hx,rfl⟩:=e7.mp hd
  exact c4h (h4 x hx)
 ·exact a1E
theorem Art.Ok.fine {A:Art} (h:A.Ok):a0t 100 3 A.d:=c8d (a0f h.r2 (by decide)) (a0f h.c2 (by decide)) h.rn h.cn
end Cw
namespace Cw
open PySem L2 Aq
local macro_rules | `(tactic| walk_at "aq")=>`(tactic| dsimp?! [a1h])
local macro_rules | `(tactic| walk_at "ao")=>`(tactic| simp_all?! [a1h])
def a3K:List Str:=["draws", "great", "ranks", "name", "pence", "chests", "month"]
def a6v (w:i6) (K:b0):TS :=
 (a1a (a27 (tOp (rIx K) (b0j (d3 (r8 (spOf K d7) [] E0 (d3 (i3 0) (d3 (tC (.int 9)) p7))) (d3 (tOp (a0A K) (tC (.int 1)) (r8 (spOf K d7) [] E0 (d3 (i3 0) (d3 (tC (.int 40)) p7)))) (d3 (tC (.int 480)) (d3 (r8 (spOf K d7) [] E0 (d3 (i3 0) (d3 (tOp (a0A K) (i3 1) (tC (.int 1))) p7))) p7))))) (r8 (spOf K d7) [] E0 (d3 (i3 0) (d3 (tC (.int 4)) p7)))) (t8 4))
 (c17 (tBM K "list" c9R (i3 2) (d3 (b57 (d3 (i3 3) (d3 (i3 4) (d3 (tOp (rIx K) (b0j (d3 (tC (.int 1)) (d3 (tC (.int 28)) (d3 (tOp (a0A K) (tC (.int 1)) (r8 (spOf K d7) [] E0 (d3 (i3 0) (d3 (tC (.int 30)) p7)))) (d3 (tOp (a0A K) (tC (.int 1)) (r8 (spOf K d7) [] E0 (d3 (i3 0) (d3 (tC (.int 9)) p7)))) p7))))) (r8 (spOf K d7) [] E0 (d3 (i3 0) (d3 (tC (.int 4)) p7)))) p7)))) p7))))
def a39:ASt :=
 (a0I (a2I 4 (aOp gIx (a5J (d4 (k9 d7 (d4 (i9 0) (d4 (aC (.int 9)) p8))) (d4 (aOp a3e (aC (.int 1)) (k9 d7 (d4 (i9 0) (d4 (aC (.int 40)) p8)))) (d4 (aC (.int 480)) (d4 (k9 d7 (d4 (i9 0) (d4 (aOp a3e (i9 1) (aC (.int 1))) p8))) p8))))) (k9 d7 (d4 (i9 0) (d4 (aC (.int 4)) p8)))))
 (a9a (aMt a9U (i9 2) (d4 (a7H (d4 (i9 3) (d4 (i9 4) (d4 (aOp gIx (a5J (d4 (aC (.int 1)) (d4 (aC (.int 28)) (d4 (aOp a3e (aC (.int 1)) (k9 d7 (d4 (i9 0) (d4 (aC (.int 30)) p8)))) (d4 (aOp a3e (aC (.int 1)) (k9 d7 (d4 (i9 0) (d4 (aC (.int 9)) p8)))) p8))))) (k9 d7 (d4 (i9 0) (d4 (aC (.int 4)) p8)))) p8)))) p8))))
theorem b0X {w:i6} {K:b0} (W:WX):SS K W (a6v w K) a39 :=
 (m4 (w3 (f6 v3 (a0x (c7 (i5 (c7 c9 (c7 d5 d9))) (c7 (f6 y9 d5 (i5 (c7 c9 (c7 d5 d9)))) (c7 d5 (c7 (i5 (c7 c9 (c7 (f6 y9 c9 d5) d9))) d9))))) (i5 (c7 c9 (c7 d5 d9)))))
 (a3X (b6b a7Z c9 (c7 (a1l (c7 c9 (c7 c9 (c7 (f6 v3 (a0x (c7 d5 (c7 d5 (c7 (f6 y9 d5 (i5 (c7 c9 (c7 d5 d9)))) (c7 (f6 y9 d5 (i5 (c7 c9 (c7 d5 d9)))) d9))))) (i5 (c7 c9 (c7 d5 d9)))) d9)))) d9))))
def a6w (w:i6) (K:b0):TS :=
 (a1a (a27 (tLc (b68 K (r8 (spOf K y8) [] E0 (d3 (i3 0) (d3 (tOp (a0A K) (tC (.int 1)) (r8 (spOf K d7) [] E0 (d3 (i3 0) (d3 (tC (.int 3)) p7)))) p7)))) (t8 3) c18 (b57 (d3 (i3 3) (d3 (tOp (a0A K) (tC (.int 1)) (r8 (spOf K d7) [] E0 (d3 (i3 0) (d3 (tC (.int 9)) p7)))) p7))) [3]) (t8 5))
 (a1a (a27 (tOp (rIx K) (b0j (d3 (tC (.int 1)) (d3 (tC (.int 7)) (d3 (tOp (a0A K) (tC (.int 1)) (r8 (spOf K d7) [] E0 (d3 (i3 0) (d3 (tC (.int 12)) p7)))) (d3 (tC (.int 28)) p7))))) (r8 (spOf K d7) [] E0 (d3 (i3 0) (d3 (tC (.int 4)) p7)))) (t8 6))
 (a3I (b57 (d3 (tCB (c2K K) (d3 (i3 2) p7)) (d3 (tCB (c2K K) (d3 (i3 5) p7)) (d3 (i3 6) p7)))))))
def a4a:ASt :=
 (a0I (a2I 5 (aLc (a6m (k9 y8 (d4 (i9 0) (d4 (aOp a3e (aC (.int 1)) (k9 d7 (d4 (i9 0) (d4 (aC (.int 3)) p8)))) p8)))) [3] (gN 3) c0f (a7H (d4 (i9 3) (d4 (aOp a3e (aC (.int 1)) (k9 d7 (d4 (i9 0) (d4 (aC (.int 9)) p8)))) p8)))))
 (a0I (a2I 6 (aOp gIx (a5J (d4 (aC (.int 1)) (d4 (aC (.int 7)) (d4 (aOp a3e (aC (.int 1)) (k9 d7 (d4 (i9 0) (d4 (aC (.int 12)) p8)))) (d4 (aC (.int 28)) p8))))) (k9 d7 (d4 (i9 0) (d4 (aC (.int 4)) p8)))))
 (a2w (a7H (d4 (aCB b9a (d4 (i9 2) p8)) (d4 (aCB b9a (d4 (i9 5) p8)) (d4 (i9 6) p8)))))))
theorem b0Y {w:i6} {K:b0} (W:WX):SS K W (a6w w K) a4a :=
 (m4 (w3 (a7X (a34 (i5 (c7 c9 (c7 (f6 y9 d5 (i5 (c7 c9 (c7 d5 d9)))) d9)))) a0p a52 (a1l (c7 c9 (c7 (f6 y9 d5 (i5 (c7 c9 (c7 d5 d9)))) d9))) (by decide)))
 (m4 (w3 (f6 v3 (a0x (c7 d5 (c7 d5 (c7 (f6 y9 d5 (i5 (c7 c9 (c7 d5 d9)))) (c7 d5 d9))))) (i5 (c7 c9 (c7 d5 d9)))))
 (t9 (a1l (c7 (a10 b7Z (c7 c9 d9)) (c7 (a10 b7Z (c7 c9 d9)) (c7 c9 d9)))))))
def a8f (w:i6) (K:b0):TS :=
 (a1a (a27 (b0j p7) (t8 2))
 (a1a (tFor (b68 K (r8 (spOf K y8) [] E0 (d3 (i3 0) (d3 (tOp (a0A K) (tC (.int 1)) (r8 (spOf K d7) [] E0 (d3 (i3 0) (d3 (tC (.int 4)) p7)))) p7)))) (t8 3) (a6v w K))
 (a6w w K)))
def a3P:ASt :=
 (a0I (a2I 2 (a5J p8))
 (a0I (c45 (a6m (k9 y8 (d4 (i9 0) (d4 (aOp a3e (aC (.int 1)) (k9 d7 (d4 (i9 0) (d4 (aC (.int 4)) p8)))) p8)))) (gN 3) a39)
 a4a))
theorem b3x {w:i6} {K:b0} (W:WX):SS K W (a8f w K) a3P :=
 (m4 (w3 (a0x d9))
 (m4 (a8e (a34 (i5 (c7 c9 (c7 (f6 y9 d5 (i5 (c7 c9 (c7 d5 d9)))) d9)))) a0p (b0X  W))
 (b0Y  W)))
/-- what drawn articles are -/
structure ArtG (great:Int) (A:Art):Prop where
 ok:A.Ok
 rl:A.ranks.length ≤ 4
 cl:A.chests.length ≤ 3
 rp:∀ r ∈ A.ranks,r.2.1 ≤ 480 ∨ r.2.1 ≤ great
 rd:∀ r ∈ A.ranks,r.2.2 ≤ 30
 mo:A.month ≤ 28
 cp:∀ r ∈ A.chests,r.2 ≤ 9
def a0P:Ct:=fun ρ P _=>∃ a b great,ρ = [.ml (some 0) [.int a,.int b],.dat (.int great)] ∧ Dw a b ∧ 0 ≤ great ∧ great ≤ 1000000000 ∧ ∀ (A:Art) a' b' ρ',ArtG great A → Dw a' b' → a87 ρ' 0 = some (.ml (some 0) [.int a',.int b']) → P (.dat A.d) ρ'
theorem c6A {a b n:Int} {i:Nat} {p:Option Nat} {ρ1:List AV} {P:RV → List AV → Prop} (hd:Dw a b) (h1:0 ≤ n) (h2:n ≤ 26) (ht:(ρ1[i]?).bind AV.tag = p) (h:∀ (ns:List Str) a' b',(ns.length:Int) = n → (∀ s ∈ ns,a0b s = true) → ns.Pairwise sLt → Dw a' b' → P (.own (.ml none (ns.map .str))) (ρ1.set i (.ml p [.int a',.int b']))):y8 [.ml (some 0) [.int a,.int b],.dat (.int n)] (bk P ρ1 [i]) X0:=by
 refine ⟨a,b,n,rfl,hd,h1,h2,fun ns a' b' ρ' e1 e2 e3 e4 hd' ho=>?_⟩
 rw [a90,a1g ho,a4Q,a46,ht]
 exact h ns a' b' e1 e2 e3 hd'
theorem c6z {a b n:Int} {i:Nat} {p:Option Nat} {ρ1:List AV} {P:RV → List AV → Prop} (hd:Dw a b) (h1:0 ≤ n) (h2:n ≤ 26) (ht:(ρ1[i]?).bind AV.tag = p) (h:∀ (ns:List Str) a' b',(ns.length:Int) = n → (∀ s ∈ ns,a0b s = true) → ns.Pairwise sLt → (∀ s ∈ ns,s.length ≠ 4) → Dw a' b' → P (.own (.ml none (ns.map .str))) (ρ1.set i (.ml p [.int a',.int b']))):y8 [.ml (some 0) [.int a,.int b],.dat (.int n)] (bk P ρ1 [i]) X0:=by
 refine ⟨a,b,n,rfl,hd,h1,h2,fun ns a' b' ρ' e1 e2 e3 e4 hd' ho=>?_⟩
 rw [a90,a1g ho,a4Q,a46,ht]
 exact h ns a' b' e1 e2 e3 e4 hd'
theorem b1A (ρ:List AV) (P:RV → List AV → Prop) (PX:PXT) (h:a0P ρ P PX):ρ.length = 2:=by
 obtain ⟨_,_,_,rfl,_⟩:=h
 rfl
theorem b0L (ρ:List AV) (P:RV → List AV → Prop) (PX:PXT) (h:a0P ρ P PX):a3P { nx:=fun ρ'=>P (.dat .none) ρ',rt:=P,ex:=PX } (ρ ++ g5 (a3K.length - ρ.length) .un):=by
 have eN:a3K.length = 7:=rfl
 obtain ⟨a,b,great,rfl,hd,hg,hg2,h⟩:=h
 unfold a3P
 simp only [eN]
 walk_at "aq"
 refine a05 hd (by decide) (by decide) rfl fun k1 a1 b1 l1 u1 hd1=>?_
 walk_at "aq"
 refine c6A hd1 (by omega) (by omega) rfl fun ns a2 b2 e1 e2 e3 hd2=>?_
 walk_at "aq"
 refine b0A (fun ds ρ=>∃ (rk:List (Str × Int × Int)) (a9o:List Str) (a b:Int) (x y:AV),ds = a9o.map .str ∧ rk.map (·.1) ++ a9o = ns ∧ (∀ r ∈ rk,0 ≤ r.2.1 ∧ (r.2.1 ≤ 480 ∨ r.2.1 ≤ great) ∧ 1 ≤ r.2.2 ∧ r.2.2 ≤ 30) ∧ Dw a b ∧ ρ = [.ml (some 0) [.int a,.int b],.dat (.int great),.ml none (rk.map a2l),x,y,.un,.un]) ?_ ?_ _ _ ⟨[],ns,a2,b2,.un,.un,rfl,rfl,by simp,hd2,rfl⟩
 ·rintro d ds ρ ⟨rk,a9o,a,b,x,y,hds,hns,hrk,hd,rfl⟩ N hN
  cases a9o with
  | nil=>cases hds
  | cons s a9o =>
   rw [i8] at hds
   cases hds
   unfold a39
   walk_at "aq"
   refine a05 hd (by decide) (by decide) rfl fun p1 a1 b1 l1 u1 hd1=>?_
   walk_at "aq"
   refine a05 hd1 (by decide) (by decide) rfl fun p2 a2 b2 l2 u2 hd2=>?_
   walk_at "aq"
   refine a05 hd2 (by omega) (by omega) rfl fun p3 a3 b3 l3 u3 hd3=>?_
   walk_at "aq"
   refine ⟨by decide,a05 hd3 (by decide) (by decide) rfl fun p4 a4 b4 l4 u4 hd4=>?_⟩
   obtain ⟨z,hz,ez⟩:=a2E (xs:=[m7 p1,m7 (1 + p2),m7 480,m7 p3]) l4 (by simpa using u4)
   walk_at "ao"
   rw [ez]
   obtain ⟨pe,rfl,hpe⟩:∃ t:Int,z = .int t ∧ 0 ≤ t ∧ (t ≤ 480 ∨ t ≤ great):=by
    simp at hz
    rcases hz with rfl | rfl | rfl | rfl <;> exact ⟨_,rfl,by omega,by omega⟩
   walk_at "aq"
   refine a1P ?_
   walk_at "aq"
   refine a05 hd4 (by decide) (by decide) rfl fun q1 a5 b5 l5 u5 hd5=>?_
   walk_at "aq"
   refine a05 hd5 (by decide) (by decide) rfl fun q2 a6 b6 l6 u6 hd6=>?_
   walk_at "aq"
   refine ⟨by decide,a05 hd6 (by decide) (by decide) rfl fun q3 a7 b7 l7 u7 hd7=>?_⟩
   obtain ⟨z,hz,ez⟩:=a2E (xs:=[m7 1,m7 28,m7 (1 + q1),m7 (1 + q2)]) l7 (by simpa using u7)
   walk_at "ao"
   rw [ez]
   obtain ⟨da,rfl,hda⟩:∃ t:Int,z = .int t ∧ 1 ≤ t ∧ t ≤ 30:=by
    simp at hz
    rcases hz with rfl | rfl | rfl | rfl <;> exact ⟨_,rfl,by omega,by omega⟩
   walk_at "ao"
   have hlen:rk.length + (a9o.length + 1) = ns.length:=by rw [← hns]; simp
   refine ⟨by show 3 ≤ k8; decide,?_,hN _ ⟨rk ++ [(s,pe,da)],a9o,a7,b7,.dat (.str s),.dat (.int pe),rfl,?_,?_,hd7,?_⟩⟩
   ·simp [k8]
    omega
   ·simpa using hns
   ·intro r hr
    rcases v8.mp hr with hr | hr
    ·exact hrk r hr
    ·simp at hr
     subst hr
     exact ⟨hpe.1,hpe.2,hda.1,hda.2⟩
   ·simp [a2l]
 ·rintro ρ ⟨rk,a9o,a,b,x,y,hds,hns,hrk,hd,rfl⟩
  have hr0:a9o = []:=by
   cases a9o with
   | nil=>rfl
   | cons _ _=>cases hds
  subst hr0
  rw [a1b] at hns
  unfold a4a
  walk_at "aq"
  refine a05 hd (by decide) (by decide) rfl fun c1 a1 b1 l1 u1 hd1=>?_
  walk_at "aq"
  refine c6A hd1 (by omega) (by omega) rfl fun cs a2 b2 f1 f2 f3 hd2=>?_
  walk_at "aq"
  refine c6s (fun ds acc ρ=>∃ (ck:List (Str × Int)) (a9o:List Str) (a b:Int),ds = a9o.map .str ∧ acc = ck.map a5k ∧ ck.map (·.1) ++ a9o = cs ∧ (∀ r ∈ ck,1 ≤ r.2 ∧ r.2 ≤ 9) ∧ Dw a b ∧ ρ = [.ml (some 0) [.int a,.int b],.dat (.int great),.ml none (rk.map a2l),.un,y,.un,.un]) ?_ ?_ _ _ _ ⟨[],cs,a2,b2,rfl,rfl,rfl,by simp,hd2,rfl⟩
  ·rintro d ds acc ρ ⟨ck,a9o,a,b,hds,rfl,hcs,hck,hd,rfl⟩ N hN
   cases a9o with
   | nil=>cases hds
   | cons s a9o =>
    rw [i8] at hds
    cases hds
    walk_at "aq"
    refine a05 hd (by decide) (by decide) rfl fun p1 a1 b1 l1 u1 hd1=>?_
    walk_at "aq"
    have hlen:ck.length + (a9o.length + 1) = cs.length:=by rw [← hcs]; simp
    refine ⟨by decide,?_,hN _ _ ⟨ck ++ [(s,1 + p1)],a9o,a1,b1,rfl,by simp [a5k],by simpa using hcs,?_,hd1,rfl⟩⟩
    ·simp [k8]
     omega
    ·intro r hr
     rcases v8.mp hr with hr | hr
     ·exact hck r hr
     ·simp at hr
      subst hr
      exact ⟨by show 1 ≤ 1 + p1; omega,by show 1 + p1 ≤ 9; omega⟩
  ·rintro acc ρ ⟨ck,a9o,a,b,hds,rfl,hcs,hck,hd,rfl⟩
   have hr0:a9o = []:=by
    cases a9o with
    | nil=>rfl
    | cons _ _=>cases hds
   subst hr0
   rw [a1b] at hcs
   walk_at "aq"
   refine a05 hd (by decide) (by decide) rfl fun q1 a3 b3 l3 u3 hd3=>?_
   walk_at "aq"
   refine ⟨by decide,a05 hd3 (by decide) (by decide) rfl fun q2 a4 b4 l4 u4 hd4=>?_⟩
   obtain ⟨z,hz,ez⟩:=a2E (xs:=[m7 1,m7 7,m7 (1 + q1),m7 28]) l4 (by simpa using u4)
   walk_at "ao"
   rw [ez]
   obtain ⟨mo,rfl,hmo⟩:∃ t:Int,z = .int t ∧ 1 ≤ t ∧ t ≤ 28:=by
    simp at hz
    rcases hz with rfl | rfl | rfl | rfl <;> exact ⟨_,rfl,by omega,by omega⟩
   walk_at "ao"
   refine a8o ?_
   walk_at "ao"
   refine a8o ?_
   walk_at "ao"
   have lr:rk.length = ns.length:=by rw [← hns]; simp
   have lc:ck.length = cs.length:=by rw [← hcs]; simp
   refine ⟨by show 3 ≤ k8; decide,h ⟨rk,ck,mo⟩ a4 b4 _ ⟨⟨?_,?_,?_,?_,?_,?_,?_,?_,?_,?_,?_,?_⟩,?_,?_,?_,?_,?_,?_⟩ hd4 rfl⟩
   ·show 1 ≤ rk.length
    omega
   ·show rk.length ≤ 12
    omega
   ·exact fun r hr=>e2 _ (by rw [← hns]; exact a1p hr)
   ·intro r hr
    have:=hrk r hr
    omega
   ·intro r hr
    have:=hrk r hr
    omega
   ·show (rk.map (·.1)).Pairwise sLt
    rw [hns]
    exact e3
   ·show 1 ≤ ck.length
    omega
   ·show ck.length ≤ 6
    omega
   ·exact fun r hr=>f2 _ (by rw [← hcs]; exact a1p hr)
   ·intro r hr
    have:=hck r hr
    omega
   ·show (ck.map (·.1)).Pairwise sLt
    rw [hcs]
    exact f3
   ·show 1 ≤ mo ∧ mo ≤ 1000
    omega
   ·show rk.length ≤ 4
    omega
   ·show ck.length ≤ 3
    omega
   ·exact fun r hr=>(hrk r hr).2.1
   ·exact fun r hr=>(hrk r hr).2.2.2
   ·exact hmo.2
   ·exact fun r hr=>(hck r hr).2
end Cw
namespace Cw
open PySem L2 Aq
local macro_rules | `(tactic| walk_at "aq")=>`(tactic| dsimp?! [a1h])
local macro_rules | `(tactic| walk_at "ao")=>`(tactic| simp_all?! [a1h])
theorem d2S {a b:Prop} [Decidable a] [Decidable b] {x y:Prop}:(if a then x else if b then x else y) = if a ∨ b then x else y:=by
 by_cases h:a <;> by_cases h':b <;> simp [h,h']
def c1t:List c8:=[.int 0,.int 1,.int (-1),.bool true,.bool false,.none,.str "",.str "a",.str "ab",.str "A",.str "abcdefghi",.str "lost",.str "joins",.int 1000000000000,.int 1000000000001,.int 1000,.int 1001,.int 1000000001,.tuple [],.list []]
theorem c7c:c1t.all (fun d=>okB 100 d && decide (d.depth ≤ 1)) = true:=by decide +kernel
theorem c4j {d:c8} (h:d ∈ c1t):a0t 100 1 d:=by
 have q:=n3.mp c7c d h
 rw [m5,decide_eq_true_eq] at q
 exact q
/-- a thing of any kind, not too deep -/
def a0m (n:Nat):Ct:=fun ρ P _=>∃ a b k,ρ = [.ml (some 0) [.int a,.int b],.dat (.int k)] ∧ Dw a b ∧ 0 ≤ k ∧ k < n ∧ ∀ d a' b' ρ',a0t 100 (k.toNat + 1) d → Dw a' b' → a87 ρ' 0 = some (.ml (some 0) [.int a',.int b']) → P (.dat d) ρ'
def a5M:List Str:=["draws", "deep", "way", "some", "parts", "k"]
def a9H (w:i6) (K:b0) (n:Nat):TS :=
 (a1a (a27 (tLc (d2v (d3 (r8 (spOf K d7) [] E0 (d3 (i3 0) (d3 (tC (.int 7)) p7))) p7)) (t8 5) c18 (r8 (spOf K (a0m n)) [] E0 (d3 (i3 0) (d3 (tOp b9w (i3 1) (tC (.int 1))) p7))) [5]) (t8 4))
 (a3I (tOp (rIx K) (b0j (d3 (i3 4) (d3 (tCB (c2K K) (d3 (i3 4) p7)) (d3 (tCB (c2K K) (d3 (i3 4) p7)) p7)))) (tOp b9w (i3 2) (tC (.int 6))))))
def a6a (n:Nat):ASt :=
 (a0I (a2I 4 (aLc (b4f (d4 (k9 d7 (d4 (i9 0) (d4 (aC (.int 7)) p8))) p8)) [5] (gN 5) c0f (k9 (a0m n) (d4 (i9 0) (d4 (aOp c0J (i9 1) (aC (.int 1))) p8)))))
 (a2w (aOp gIx (a5J (d4 (i9 4) (d4 (aCB b9a (d4 (i9 4) p8)) (d4 (aCB b9a (d4 (i9 4) p8)) p8)))) (aOp c0J (i9 2) (aC (.int 6))))))
theorem b5a {w:i6} {K:b0} {n:Nat} (W:WX):SS K W (a9H w K n) (a6a n) :=
 (m4 (w3 (a7X (a67 (c7 (i5 (c7 c9 (c7 d5 d9))) d9)) a0p a52 (i5 (c7 c9 (c7 (f6 b70 c9 d5) d9))) (by decide)))
 (t9 (f6 v3 (a0x (c7 c9 (c7 (a10 b7Z (c7 c9 d9)) (c7 (a10 b7Z (c7 c9 d9)) d9)))) (f6 b70 c9 d5))))
def b3f (w:i6) (K:b0) (n:Nat):TS :=
 (a1a (a27 (r8 (spOf K d7) [] E0 (d3 (i3 0) (d3 (tC (.int 9)) p7))) (t8 2))
 (a1a (a6k (tOr (a1L (tOp c7R (i3 2) (tC (.int 6)))) (a1L (tOp (c1V K) (i3 1) (tC (.int 0))))) (a1a (a27 (b0j (d3 (tC (.int 0)) (d3 (tC (.int 1)) (d3 (tUn (rU fun i=>.int (-i)) (tC (.int 1))) (d3 (tC (.bl true)) (d3 (tC (.bl false)) (d3 (tC .non) (d3 (tC (.str "")) (d3 (tC (.str "a")) (d3 (tC (.str "ab")) (d3 (tC (.str "A")) (d3 (tC (.str "abcdefghi")) (d3 (tC (.str "lost")) (d3 (tC (.str "joins")) (d3 (tOp a21 (tC (.int 10)) (tC (.int 12))) (d3 (tOp (a0A K) (tOp a21 (tC (.int 10)) (tC (.int 12))) (tC (.int 1))) p7)))))))))))))))) (t8 3))
 (a3I (tOp (rIx K) (tOp (a0A K) (i3 3) (b0j (d3 (tC (.int 1000)) (d3 (tC (.int 1001)) (d3 (tOp (a0A K) (tOp a21 (tC (.int 10)) (tC (.int 9))) (tC (.int 1))) (d3 (b57 p7) (d3 (b0j p7) p7))))))) (r8 (spOf K d7) [] E0 (d3 (i3 0) (d3 (tC (.int 20)) p7)))))) a2k)
 (a9H w K n)))
def a5R (n:Nat):ASt :=
 (a0I (a2I 2 (k9 d7 (d4 (i9 0) (d4 (aC (.int 9)) p8))))
 (a0I (sIf (aOr (a4J (aOp gLt (i9 2) (aC (.int 6)))) (a4J (aOp gEq (i9 1) (aC (.int 0))))) (a0I (a2I 3 (a5J (d4 (aC (.int 0)) (d4 (aC (.int 1)) (d4 (aUn d2P (aC (.int 1))) (d4 (aC (.bool true)) (d4 (aC (.bool false)) (d4 (aC .none) (d4 (aC (.str "")) (d4 (aC (.str "a")) (d4 (aC (.str "ab")) (d4 (aC (.str "A")) (d4 (aC (.str "abcdefghi")) (d4 (aC (.str "lost")) (d4 (aC (.str "joins")) (d4 (aOp a8K (aC (.int 10)) (aC (.int 12))) (d4 (aOp a3e (aOp a8K (aC (.int 10)) (aC (.int 12))) (aC (.int 1))) p8)))))))))))))))))
 (a2w (aOp gIx (aOp a3e (i9 3) (a5J (d4 (aC (.int 1000)) (d4 (aC (.int 1001)) (d4 (aOp a3e (aOp a8K (aC (.int 10)) (aC (.int 9))) (aC (.int 1))) (d4 (a7H p8) (d4 (a5J p8) p8))))))) (k9 d7 (d4 (i9 0) (d4 (aC (.int 20)) p8)))))) a1D)
 (a6a n)))
theorem b9F {w:i6} {K:b0} {n:Nat} (W:WX):SS K W (b3f w K n) (a5R n) :=
 (m4 (w3 (i5 (c7 c9 (c7 d5 d9))))
 (m4 (a06 (a6b (w6 (f6 a4A c9 d5)) (w6 (f6 a33 c9 d5))) (m4 (w3 (a0x (c7 d5 (c7 d5 (c7 (c99 c7e d5) (c7 a3E (c7 a3E (c7 c9f (c7 t6 (c7 t6 (c7 t6 (c7 t6 (c7 t6 (c7 t6 (c7 t6 (c7 (f6 a1q d5 d5) (c7 (f6 y9 (f6 a1q d5 d5) d5) d9)))))))))))))))))
 (t9 (f6 v3 (f6 y9 c9 (a0x (c7 d5 (c7 d5 (c7 (f6 y9 (f6 a1q d5 d5) d5) (c7 (a1l d9) (c7 (a0x d9) d9))))))) (i5 (c7 c9 (c7 d5 d9)))))) y4)
 (b5a  W)))
theorem b6j (n:Nat) (ρ:List AV) (P:RV → List AV → Prop) (PX:PXT) (h:a0m (n + 1) ρ P PX):ρ.length = 2:=by
 obtain ⟨_,_,_,rfl,_⟩:=h
 rfl
theorem b9i (ρ:List AV) (P:RV → List AV → Prop) (PX:PXT):¬ a0m 0 ρ P PX:=by
 rintro ⟨_,_,_,_,_,h0,h1,_⟩
 omega
theorem b4W (n:Nat) (ρ:List AV) (P:RV → List AV → Prop) (PX:PXT) (h:a0m (n + 1) ρ P PX):a5R n { nx:=fun ρ'=>P (.dat .none) ρ',rt:=P,ex:=PX } (ρ ++ g5 (a5M.length - ρ.length) .un):=by
 have eN:a5M.length = 6:=rfl
 obtain ⟨a,b,k,rfl,hd,h0,h1,h⟩:=h
 unfold a5R
 simp only [eN]
 walk_at "aq"
 refine a05 hd (by decide) (by decide) rfl fun way a1 b1 l1 u1 hd1=>?_
 walk_at "aq"
 rw [d2S]
 split
 ·refine ⟨a4P (by decide) (by decide) (by decide),by decide,a8o ?_⟩
  walk_at "aq"
  refine ⟨a4P (by decide) (by decide) (by decide),by decide,by decide,a05 hd1 (by decide) (by decide) rfl fun k2 a2 b2 l2 u2 hd2=>?_⟩
  obtain ⟨z,hz,ez⟩:=a2E (xs:=c1t) l2 (by simpa [c1t] using u2)
  unfold c1t at ez
  walk_at "ao"
  rw [ez]
  walk_at "ao"
  exact h z a2 b2 _ ((c4j hz).mono (by omega)) hd2 rfl
 ·rename_i hw
  unfold a6a
  walk_at "aq"
  refine a05 hd1 (by decide) (by decide) rfl fun m a2 b2 l2 u2 hd2=>?_
  walk_at "aq"
  refine ⟨by omega,?_⟩
  refine c6s (fun ds acc ρ=>∃ (a b:Int),(∀ d ∈ acc,a0t 100 k.toNat d) ∧ acc.length + ds.length ≤ 7 ∧ Dw a b ∧ ρ = [.ml (some 0) [.int a,.int b],.dat (.int k),.dat (.int way),.un,.un,.un]) ?_ ?_ _ _ _ ⟨a2,b2,by simp,by rw [a72]; simp; omega,hd2,rfl⟩
  ·rintro d ds acc ρ ⟨a,b,hf,hl,hd,rfl⟩ N hN
   walk_at "aq"
   refine ⟨a,b,k - 1,rfl,hd,by omega,by omega,fun e a' b' ρ' he hd' ho=>?_⟩
   rw [a5p,a1g ho]
   walk_at "aq"
   simp only [v6] at hl
   refine ⟨by simp [k8]; omega,hN _ _ ⟨a',b',?_,by simp; omega,hd',rfl⟩⟩
   intro x hx
   rcases v8.mp hx with hx | hx
   ·exact hf x hx
   ·simp at hx
    subst hx
    exact he.mono (by omega)
  ·rintro acc ρ ⟨a,b,hf,hl,hd,rfl⟩
   walk_at "ao"
   refine a8o ?_
   walk_at "ao"
   refine ⟨by show 3 ≤ k8; decide,?_⟩
   obtain ⟨z,hz,ez⟩:=a2E (xs:=[c5P acc,a2Q acc,a2Q acc]) (i:=way - 6) (by omega) (by simp; omega)
   rw [ez]
   walk_at "ao"
   have hl':acc.length ≤ 100:=by simp at hl; omega
   have hz':a0t 100 (k.toNat + 1) z:=by
    simp at hz
    rcases hz with rfl | rfl
    ·exact a2H hl' hf
    ·exact a3d hl' hf
   exact h z a b _ hz' hd rfl
end Cw
namespace Cw
open PySem L2 Aq
local macro_rules | `(tactic| walk_at "aq")=>`(tactic| dsimp?! [a1h])
local macro_rules | `(tactic| walk_at "ao")=>`(tactic| simp_all?! [a1h])
theorem c6T {n d:Nat} {i:Int} (h:0 ≤ i):HT.sIx n d (some i) = min i.toNat n:=by
 show (if i < 0 then (i + (n:Int)).toNat else min i.toNat n) = _
 rw [if_neg (by omega)]
def c7a:List c8:=[.int 0,.int 1,.int (-1),.int 1000,.int 1001,.int 1000000,.int 1000001,.int 1000000000,.int 1000000001,.int 1000000000000,.int 1000000000001,.none,.bool true]
theorem c8Q:c7a.all (fun d=>okB 100 d && decide (d.depth ≤ 1)) = true:=by decide +kernel
theorem c6b {d:c8} (h:d ∈ c7a):a0t 100 1 d:=by
 have q:=n3.mp c8Q d h
 rw [m5,decide_eq_true_eq] at q
 exact q
theorem c1o {x y:Str} (h:a0j x = true) (h':a0j y = true):a0j (x ++ y) = true:=by
 unfold a0j at *
 rw [Str.cps_append,Array.all_append,h,h']
 rfl
def SeqOf (d:c8) (ds:List c8):Prop:=d = .tuple ds ∨ d = .list ds
/-- what is otherwise -/
def a0h (n:Nat):Ct:=fun ρ P _=>∃ a b d k B m ds,ρ = [.ml (some 0) [.int a,.int b],.dat d,.dat (.int k)] ∧ Dw a b ∧ SeqOf d ds ∧ ds.length ≤ B ∧ (∀ e ∈ ds,a0t B m e) ∧ 100 ≤ B ∧ B ≤ 900 ∧ m ≤ 50 ∧ 0 ≤ k ∧ k < n ∧
 ∀ (es:List c8) a' b' ρ',es.length ≤ B + 10 → (∀ e ∈ es,a0t (B + 10) (m + 4) e) → Dw a' b' → a87 ρ' 0 = some (.ml (some 0) [.int a',.int b']) → P (.dat (.tuple es)) ρ' ∧ P (.own (.ml none es)) ρ'
theorem b1E (ρ:List AV) (P:RV → List AV → Prop) (PX:PXT):¬ a0h 0 ρ P PX:=by
 rintro ⟨_,_,_,k,_,_,_,_,_,_,_,_,_,_,_,h0,h1,_⟩
 omega
def a4I:List Str:=["draws", "thing", "deep", "parts", "at", "way", "near"]
def a5Z (w:i6) (K:b0) (n:Nat):TS :=
 (a3I (tCB (c2K K) (d3 (i3 3) p7)))
def a2t (n:Nat):ASt :=
 (a2w (aCB b9a (d4 (i9 3) p8)))
theorem a96 {w:i6} {K:b0} {n:Nat} (a0E:IsiOk K "str") (j9:IsiOk K "tuple") (W:WX):SS K W (a5Z w K n) (a2t n) :=
 (t9 (a10 b7Z (c7 c9 d9)))
def a50 (w:i6) (K:b0) (n:Nat):TS :=
 (a1a (a27 (r8 (spOf K d7) [] E0 (d3 (i3 0) (d3 (tC (.int 8)) p7))) (t8 5))
 (a1a (a6k (a1L (tOp (c1V K) (i3 5) (tC (.int 0)))) (c17 (tBM K "list" rPopAt (i3 3) (d3 (i3 4) p7))) (a6k (a1L (tOp (c1V K) (i3 5) (tC (.int 1)))) (c17 (tBM K "list" b9u (i3 3) (d3 (i3 4) (d3 (tOp (rIx K) (i3 3) (i3 4)) p7)))) (a6k (a1L (tOp (c1V K) (i3 5) (tC (.int 2)))) (AqS.tSetSl (tRevL K (tSl (c07 K) (i3 3) (tPart (i3 4)) (tPart (tOp (a0A K) (i3 4) (tC (.int 2)))))) (i3 3) (tPart (i3 4)) (tPart (tOp (a0A K) (i3 4) (tC (.int 2))))) (a6k (a1L (tOp (c1V K) (i3 5) (tC (.int 3)))) (a27 (r8 (spOf K (a0m 4)) [] E0 (d3 (i3 0) (d3 (tC (.int 2)) p7))) (gSub (i3 3) (i3 4) rSetL)) (a6k (a1L (tOp (c1V K) (i3 5) (tC (.int 4)))) (a1a (a27 (b0j (d3 (tC (.int 0)) (d3 (tC (.int 1)) (d3 (tUn (rU fun i=>.int (-i)) (tC (.int 1))) (d3 (tC (.int 1000)) (d3 (tC (.int 1001)) (d3 (tOp a21 (tC (.int 10)) (tC (.int 6))) (d3 (tOp (a0A K) (tOp a21 (tC (.int 10)) (tC (.int 6))) (tC (.int 1))) (d3 (tOp a21 (tC (.int 10)) (tC (.int 9))) (d3 (tOp (a0A K) (tOp a21 (tC (.int 10)) (tC (.int 9))) (tC (.int 1))) (d3 (tOp a21 (tC (.int 10)) (tC (.int 12))) (d3 (tOp (a0A K) (tOp a21 (tC (.int 10)) (tC (.int 12))) (tC (.int 1))) (d3 (tC .non) (d3 (tC (.bl true)) p7)))))))))))))) (t8 6))
 (a27 (tOp (rIx K) (i3 6) (r8 (spOf K d7) [] E0 (d3 (i3 0) (d3 (tC (.int 13)) p7)))) (gSub (i3 3) (i3 4) rSetL))) (a6k (tAnd (a1L (tOp (c1V K) (i3 5) (tC (.int 5)))) (a6M K (b6a K "tuple" (tOp (rIx K) (i3 3) (i3 4))))) (a27 (tCB (c3P K) (d3 (tOp (rIx K) (i3 3) (i3 4)) p7)) (gSub (i3 3) (i3 4) rSetL)) (a6k (tAnd (a1L (tOp (c1V K) (i3 5) (tC (.int 6)))) (a6M K (b6a K "str" (tOp (rIx K) (i3 3) (i3 4))))) (a27 (tOp (a0A K) (tOp (rIx K) (i3 3) (i3 4)) (tOp (rIx K) (b0j (d3 (tC (.str "a")) (d3 (tC (.str "A")) (d3 (tC (.str " ")) (d3 (tC (.str "bbbbbbbb")) p7))))) (r8 (spOf K d7) [] E0 (d3 (i3 0) (d3 (tC (.int 4)) p7))))) (gSub (i3 3) (i3 4) rSetL)) (a3I (i3 3)))))))))
 (a5Z w K n)))
def a2u (n:Nat):ASt :=
 (a0I (a2I 5 (k9 d7 (d4 (i9 0) (d4 (aC (.int 8)) p8))))
 (a0I (sIf (a4J (aOp gEq (i9 5) (aC (.int 0)))) (a9a (aMt c3F (i9 3) (d4 (i9 4) p8))) (sIf (a4J (aOp gEq (i9 5) (aC (.int 1)))) (a9a (aMt b4G (i9 3) (d4 (i9 4) (d4 (aOp gIx (i9 3) (i9 4)) p8)))) (sIf (a4J (aOp gEq (i9 5) (aC (.int 2)))) (c6X (c9W (aSl (i9 3) (c0y (i9 4)) (c0y (aOp a3e (i9 4) (aC (.int 2)))))) (i9 3) (c0y (i9 4)) (c0y (aOp a3e (i9 4) (aC (.int 2))))) (sIf (a4J (aOp gEq (i9 5) (aC (.int 3)))) (c8E (k9 (a0m 4) (d4 (i9 0) (d4 (aC (.int 2)) p8))) (i9 3) (i9 4)) (sIf (a4J (aOp gEq (i9 5) (aC (.int 4)))) (a0I (a2I 6 (a5J (d4 (aC (.int 0)) (d4 (aC (.int 1)) (d4 (aUn d2P (aC (.int 1))) (d4 (aC (.int 1000)) (d4 (aC (.int 1001)) (d4 (aOp a8K (aC (.int 10)) (aC (.int 6))) (d4 (aOp a3e (aOp a8K (aC (.int 10)) (aC (.int 6))) (aC (.int 1))) (d4 (aOp a8K (aC (.int 10)) (aC (.int 9))) (d4 (aOp a3e (aOp a8K (aC (.int 10)) (aC (.int 9))) (aC (.int 1))) (d4 (aOp a8K (aC (.int 10)) (aC (.int 12))) (d4 (aOp a3e (aOp a8K (aC (.int 10)) (aC (.int 12))) (aC (.int 1))) (d4 (aC .none) (d4 (aC (.bool true)) p8)))))))))))))))
 (c8E (aOp gIx (i9 6) (k9 d7 (d4 (i9 0) (d4 (aC (.int 13)) p8)))) (i9 3) (i9 4))) (sIf (c73 (a4J (aOp gEq (i9 5) (aC (.int 5)))) (a6U (b58 "tuple" (aOp gIx (i9 3) (i9 4))))) (c8E (aCB c2e (d4 (aOp gIx (i9 3) (i9 4)) p8)) (i9 3) (i9 4)) (sIf (c73 (a4J (aOp gEq (i9 5) (aC (.int 6)))) (a6U (b58 "str" (aOp gIx (i9 3) (i9 4))))) (c8E (aOp a3e (aOp gIx (i9 3) (i9 4)) (aOp gIx (a5J (d4 (aC (.str "a")) (d4 (aC (.str "A")) (d4 (aC (.str " ")) (d4 (aC (.str "bbbbbbbb")) p8))))) (k9 d7 (d4 (i9 0) (d4 (aC (.int 4)) p8))))) (i9 3) (i9 4)) (a2w (i9 3)))))))))
 (a2t n)))
theorem a97 {w:i6} {K:b0} {n:Nat} (a0E:IsiOk K "str") (j9:IsiOk K "tuple") (W:WX):SS K W (a50 w K n) (a2u n) :=
 (m4 (w3 (i5 (c7 c9 (c7 d5 d9))))
 (m4 (a06 (w6 (f6 a33 c9 d5)) (a3X (b6b c8r c9 (c7 c9 d9))) (a06 (w6 (f6 a33 c9 d5)) (a3X (b6b c0S c9 (c7 c9 (c7 (f6 v3 c9 c9) d9)))) (a06 (w6 (f6 a33 c9 d5)) (c8N (c97 (c98 c9 (b1J c9) (b1J (f6 y9 c9 d5)))) c9 (b1J c9) (b1J (f6 y9 c9 d5))) (a06 (w6 (f6 a33 c9 d5)) (b5b (i5 (c7 c9 (c7 d5 d9))) c9 c9) (a06 (w6 (f6 a33 c9 d5)) (m4 (w3 (a0x (c7 d5 (c7 d5 (c7 (c99 c7e d5) (c7 d5 (c7 d5 (c7 (f6 a1q d5 d5) (c7 (f6 y9 (f6 a1q d5 d5) d5) (c7 (f6 a1q d5 d5) (c7 (f6 y9 (f6 a1q d5 d5) d5) (c7 (f6 a1q d5 d5) (c7 (f6 y9 (f6 a1q d5 d5) d5) (c7 c9f (c7 a3E d9)))))))))))))))
 (b5b (f6 v3 c9 (i5 (c7 c9 (c7 d5 d9)))) c9 c9)) (a06 (b5p (w6 (f6 a33 c9 d5)) (a04 (a3v j9 (f6 v3 c9 c9)))) (b5b (a10 c2J (c7 (f6 v3 c9 c9) d9)) c9 c9) (a06 (b5p (w6 (f6 a33 c9 d5)) (a04 (a3v a0E (f6 v3 c9 c9)))) (b5b (f6 y9 (f6 v3 c9 c9) (f6 v3 (a0x (c7 t6 (c7 t6 (c7 t6 (c7 t6 d9))))) (i5 (c7 c9 (c7 d5 d9))))) c9 c9) (t9 c9))))))))
 (a96  a0E j9 W)))
def a51 (w:i6) (K:b0) (n:Nat):TS :=
 (a1a (a27 (r8 (spOf K d7) [] E0 (d3 (i3 0) (d3 (tCB (a4R K) (d3 (i3 3) p7)) p7))) (t8 4))
 (a1a (a6k (tAnd (a6M K (b6a K "tuple" (tOp (rIx K) (i3 3) (i3 4)))) (tAnd (a1L (tOp c9z (i3 2) (tC (.int 0)))) (a1L (tOp c9z (r8 (spOf K d7) [] E0 (d3 (i3 0) (d3 (tC (.int 4)) p7))) (tC (.int 0)))))) (a1a (a27 (r8 (spOf K (a0h n)) [] E0 (d3 (i3 0) (d3 (tOp (rIx K) (i3 3) (i3 4)) (d3 (tOp b9w (i3 2) (tC (.int 1))) p7)))) (gSub (i3 3) (i3 4) rSetL))
 (a3I (tCB (c2K K) (d3 (i3 3) p7)))) a2k)
 (a50 w K n)))
def a3R (n:Nat):ASt :=
 (a0I (a2I 4 (k9 d7 (d4 (i9 0) (d4 (aCB b4u (d4 (i9 3) p8)) p8))))
 (a0I (sIf (c73 (a6U (b58 "tuple" (aOp gIx (i9 3) (i9 4)))) (c73 (a4J (aOp gGt (i9 2) (aC (.int 0)))) (a4J (aOp gGt (k9 d7 (d4 (i9 0) (d4 (aC (.int 4)) p8))) (aC (.int 0)))))) (a0I (c8E (k9 (a0h n) (d4 (i9 0) (d4 (aOp gIx (i9 3) (i9 4)) (d4 (aOp c0J (i9 2) (aC (.int 1))) p8)))) (i9 3) (i9 4))
 (a2w (aCB b9a (d4 (i9 3) p8)))) a1D)
 (a2u n)))
theorem a98 {w:i6} {K:b0} {n:Nat} (a0E:IsiOk K "str") (j9:IsiOk K "tuple") (W:WX):SS K W (a51 w K n) (a3R n) :=
 (m4 (w3 (i5 (c7 c9 (c7 (a10 a3W (c7 c9 d9)) d9))))
 (m4 (a06 (b5p (a04 (a3v j9 (f6 v3 c9 c9))) (b5p (w6 (f6 a4A c9 d5)) (w6 (f6 a4A (i5 (c7 c9 (c7 d5 d9))) d5)))) (m4 (b5b (i5 (c7 c9 (c7 (f6 v3 c9 c9) (c7 (f6 b70 c9 d5) d9)))) c9 c9)
 (t9 (a10 b7Z (c7 c9 d9)))) y4)
 (a97  a0E j9 W)))
def a7y (w:i6) (K:b0) (n:Nat):TS :=
 (a1a (a27 (tCB (c3P K) (d3 (i3 1) p7)) (t8 3))
 (a1a (a6k (a1L (tOp (c1V K) (i3 3) (b0j p7))) (a3I (b57 (d3 (r8 (spOf K (a0m 4)) [] E0 (d3 (i3 0) (d3 (tC (.int 1)) p7))) p7))) a2k)
 (a51 w K n)))
def a3b (n:Nat):ASt :=
 (a0I (a2I 3 (aCB c2e (d4 (i9 1) p8)))
 (a0I (sIf (a4J (aOp gEq (i9 3) (a5J p8))) (a2w (a7H (d4 (k9 (a0m 4) (d4 (i9 0) (d4 (aC (.int 1)) p8))) p8))) a1D)
 (a3R n)))
theorem b2j {w:i6} {K:b0} {n:Nat} (a0E:IsiOk K "str") (j9:IsiOk K "tuple") (W:WX):SS K W (a7y w K n) (a3b n) :=
 (m4 (w3 (a10 c2J (c7 c9 d9)))
 (m4 (a06 (w6 (f6 a33 c9 (a0x d9))) (t9 (a1l (c7 (i5 (c7 c9 (c7 d5 d9))) d9))) y4)
 (a98  a0E j9 W)))
theorem b0G (n:Nat) (ρ:List AV) (P:RV → List AV → Prop) (PX:PXT) (h:a0h (n + 1) ρ P PX):ρ.length = 3:=by
 obtain ⟨_,_,_,_,_,_,_,rfl,_⟩:=h
 rfl
theorem a9Z (n:Nat) (ρ:List AV) (P:RV → List AV → Prop) (PX:PXT) (h:a0h (n + 1) ρ P PX):a3b n { nx:=fun ρ'=>P (.dat .none) ρ',rt:=P,ex:=PX } (ρ ++ g5 (a4I.length - ρ.length) .un):=by
 have eN:a4I.length = 7:=rfl
 obtain ⟨a,b,d,k,B,m,ds,rfl,hd,hq,hl,hf,hB,hB2,hm,h0,h1,h⟩:=h
 unfold a3b
 simp only [eN]
 have shd:a0k (.list ds) = true:=a0t.shp (b:=B) (n:=m + 1) (a2H hl hf) (by omega)
 have st:∀ D:AEnds,D.ex = PX → D.nx [.ml (some 0) [.int a,.int b],.dat d,.dat (.int k),.ml none ds,.un,.un,.un] → a2I 3 (aCB c2e (d4 (i9 1) p8)) D [.ml (some 0) [.int a,.int b],.dat d,.dat (.int k),.un,.un,.un,.un]:=by
  intro D _ hD
  rcases hq with rfl | rfl <;> (walk_at "aq"; exact hD)
 rw [c27]
 refine st _ rfl ?_
 walk_at "aq"
 refine a1P ?_
 walk_at "aq"
 refine ⟨shd,rfl,?_⟩
 have fin:∀ (es:List c8) a' b' (x4 x5 x6:AV),es.length ≤ B + 10 → (∀ e ∈ es,a0t (B + 10) (m + 4) e) → Dw a' b' → a2t n { nx:=fun ρ'=>P (RV.dat PyData.none) ρ',rt:=P,ex:=PX } [.ml (some 0) [.int a',.int b'],.dat d,.dat (.int k),.ml none es,x4,x5,x6]:=by
  intro es a' b' x4 x5 x6 h1 h2 h3
  unfold a2t
  walk_at "ao"
  refine a8o ?_
  walk_at "ao"
  exact (h es a' b' _ h1 h2 h3 rfl).1
 have hf':∀ e ∈ ds,a0t (B + 10) (m + 4) e:=fun e he=>((hf e he).wid (by omega)).mono (by omega)
 have th:∀ {e:c8} {j:Nat},j ≤ 4 → a0t 100 j e → a0t (B + 10) (m + 4) e:=fun hj he=>(he.wid (by omega)).mono (by omega)
 clear st shd eN
 cases ds with
 | nil =>
  rw [if_pos (by rw [a0V])]
  refine ⟨a,b,1,rfl,hd,by decide,by decide,fun e a' b' ρ' he hd' ho=>?_⟩
  rw [a5p,a1g ho]
  walk_at "aq"
  refine ⟨by decide,(h [e] a' b' _ ?_ ?_ hd' rfl).1⟩
  ·simp
  ·intro x hx
   simp at hx
   subst hx
   exact th (by decide) he
 | cons y ys =>
  rw [if_neg (by simp [a0V])]
  unfold a3R
  walk_at "ao"
  refine a1P ?_
  walk_at "ao"
  refine ⟨by simp,?_⟩
  have l0:1 ≤ (y :: ys).length:=by simp
  generalize y :: ys = ds at *
  refine a05 hd (by omega) (by omega) rfl fun i a1 b1 i0 i1 hd1=>?_
  walk_at "ao"
  refine a1P ?_
  walk_at "ao"
  obtain ⟨e,he,ee⟩:=a2E i0 i1
  have ix:ixN ds.length i = some i.toNat:=by unfold ixN; rw [if_pos i0,if_pos i1]
  have fset:∀ (es:List c8) (x:c8) (j:Nat),es.length ≤ B → (∀ e ∈ es,a0t (B + 10) (m + 4) e) → a0t (B + 10) (m + 4) x → (es.set j x).length ≤ B + 10 ∧ ∀ e ∈ es.set j x,a0t (B + 10) (m + 4) e:=by
   intro es x j h1 h2 h3
   refine ⟨by rw [o8]; omega,fun e he=>?_⟩
   rcases List.mem_or_eq_of_mem_set he with q | q
   ·exact h2 e q
   ·rw [q]; exact h3
  have tail:∀ a' b',Dw a' b' → a2u n { nx:=fun ρ'=>P (RV.dat PyData.none) ρ',rt:=P,ex:=PX } [.ml (some 0) [.int a',.int b'],.dat d,.dat (.int k),.ml none ds,.dat (.int i),.un,.un]:=by
   intro a2 b2 hd2
   unfold a2u
   walk_at "aq"
   refine a05 hd2 (by decide) (by decide) rfl fun w a3 b3 w0 w1 hd3=>?_
   walk_at "aq"
   split
   ·-- one fewer
    refine a1P ?_
    walk_at "aq"
    refine ⟨⟨i0,by omega⟩,?_⟩
    have hi:i.toNat < ds.length:=by omega
    rw [j5 hi]
    walk_at "aq"
    exact fin _ a3 b3 _ _ _ (by rw [List.length_eraseIdx]; split <;> omega) (fun x hx=>hf' x (List.mem_of_mem_eraseIdx hx)) hd3
   split
   ·-- one twice
    refine a1P ?_
    walk_at "aq"
    refine a1P ?_
    walk_at "aq"
    rw [ee]
    walk_at "aq"
    refine ⟨⟨by simp [k8]; omega,i0,by omega⟩,?_⟩
    refine fin _ a3 b3 _ _ _ (by simp; omega) (fun x hx=>?_) hd3
    simp at hx
    rcases hx with hx | rfl | hx
    ·exact hf' x (a37 hx)
    ·exact hf' _ he
    ·exact hf' x (a7f hx)
   split
   ·-- two exchanged
    refine a1P ?_
    walk_at "aq"
    refine a1P ?_
    walk_at "aq"
    have cl:(b59 ds (some i) (some (i + 2))).length ≤ ds.length:=by
     unfold b59
     rw [b2V,c31]
     omega
    have cm:∀ x ∈ b59 ds (some i) (some (i + 2)),x ∈ ds:=fun x hx=>a7f (a37 hx)
    have c2:(b59 ds (some i) (some (i + 2))).length ≤ 2:=by
     have s1:HT.sIx ds.length 0 (some i) = i.toNat:=by
      rw [c6T (by omega)]
      omega
     have s2:HT.sIx ds.length ds.length (some (i + 2)) ≤ i.toNat + 2:=by
      rw [c6T (by omega)]
      omega
     unfold b59
     rw [b2V,s1]
     omega
    refine ⟨⟨i0,by omega,by omega,by simp [k8]; omega⟩,?_⟩
    refine fin _ a3 b3 _ _ _ ?_ (fun x hx=>?_) hd3
    ·simp
     omega
    ·simp at hx
     rcases hx with hx | hx | hx
     ·exact hf' x (a37 hx)
     ·exact hf' x (cm x hx)
     ·exact hf' x (a7f hx)
   split
   ·-- a thing
    refine ⟨a3,b3,2,rfl,hd3,by decide,by decide,fun x a' b' ρ' hx hd' ho=>?_⟩
    rw [a5p,a1g ho]
    walk_at "ao"
    refine a1P ?_
    walk_at "ao"
    rw [ix]
    walk_at "ao"
    obtain ⟨v1,v2⟩:=fset ds x i.toNat hl hf' (th (by decide) hx)
    exact fin _ a' b' _ _ _ v1 v2 hd'
   split
   ·refine ⟨a4P (by decide) (by decide) (by decide),a4P (by decide) (by decide) (by decide),a4P (by decide) (by decide) (by decide),by decide,a8o ?_⟩
    walk_at "aq"
    refine a05 hd3 (by decide) (by decide) rfl fun z a4 b4 z0 z1 hd4=>?_
    obtain ⟨x,hx,ex⟩:=a2E (xs:=c7a) z0 (by simpa [c7a] using z1)
    unfold c7a at ex
    walk_at "ao"
    rw [ex]
    walk_at "ao"
    refine a1P ?_
    walk_at "ao"
    rw [ix]
    walk_at "ao"
    obtain ⟨v1,v2⟩:=fset ds x i.toNat hl hf' (th (by decide) (c6b hx))
    exact fin _ a4 b4 _ _ _ v1 v2 hd4
   have back:∀ a' b' (x5 x6:AV),Dw a' b' → P (.own (.ml none ds)) [.ml (some 0) [.int a',.int b'],.dat d,.dat (.int k),.un,.dat (.int i),x5,x6]:=fun a' b' x5 x6 hd'=>(h ds a' b' _ (by omega) hf' hd' rfl).2
   split
   ·-- a list for a tuple
    refine a1P ?_
    walk_at "ao"
    rw [ee]
    walk_at "ao"
    cases ct:isT "tuple" e with
    | true =>
     obtain ⟨es,rfl⟩:∃ es,e = .tuple es:=by
      cases e with
      | tuple es=>exact ⟨es,rfl⟩
      | _=>cases ct
     walk_at "ao"
     refine a1P ?_
     walk_at "ao"
     rw [ee]
     walk_at "ao"
     refine a1P ?_
     walk_at "ao"
     rw [ix]
     walk_at "ao"
     have fe:=hf' _ he
     obtain ⟨q1,q2⟩:=a0t.tup (n:=m + 3) fe
     obtain ⟨v1,v2⟩:=fset ds (.list es) i.toNat hl hf' (a2H q1 q2)
     exact fin _ a3 b3 _ _ _ v1 v2 hd3
    | false =>
     walk_at "ao"
     rename_i hw5 
     subst hw5
     walk_at "aq"
     refine a1P ?_
     walk_at "aq"
     exact back _ _ _ _ hd3
   split
   ·-- a longer text
    refine a1P ?_
    walk_at "ao"
    rw [ee]
    walk_at "ao"
    cases ct:isT "str" e with
    | true =>
     obtain ⟨z,rfl⟩:∃ z,e = .str z:=by
      cases e with
      | str z=>exact ⟨z,rfl⟩
      | _=>cases ct
     walk_at "ao"
     refine a1P ?_
     walk_at "ao"
     rw [ee]
     walk_at "ao"
     refine ⟨by show 4 ≤ k8; decide,by simp,a05 hd3 (by decide) (by decide) rfl fun u a4 b4 u0 u1 hd4=>?_⟩
     obtain ⟨x,hx,ex⟩:=a2E (xs:=[v5 "a",v5 "A",v5 " ",v5 "bbbbbbbb"]) u0 (by simpa using u1)
     walk_at "ao"
     rw [ex]
     obtain ⟨y,rfl,hy⟩:∃ y,x = .str y ∧ y.length ≤ 8 ∧ a0j y = true:=by
      simp at hx
      rcases hx with rfl | rfl | rfl | rfl <;> exact ⟨_,rfl,by decide +kernel,by decide +kernel⟩
     walk_at "ao"
     obtain ⟨q1,q2⟩:=(hf _ he).str
     refine ⟨by simp [k8]; omega,a1P ?_⟩
     walk_at "ao"
     rw [ix]
     walk_at "ao"
     have fz:a0t (B + 10) (m + 4) (.str (z ++ y)):=by
      refine a8J ?_ ?_
      ·have:(z ++ y).length = z.length + y.length:=Str.length_append z y
       omega
      ·exact c1o q2 hy.2
     obtain ⟨v1,v2⟩:=fset ds (.str (z ++ y)) i.toNat hl hf' fz
     exact fin _ a4 b4 _ _ _ v1 v2 hd4
    | false =>
     walk_at "ao"
     refine a1P ?_
     walk_at "aq"
     exact back _ _ _ _ hd3
   ·refine a1P ?_
    walk_at "aq"
    exact back _ _ _ _ hd3
  rw [ee]
  walk_at "ao"
  cases ct:isT "tuple" e with
  | false =>
   rw [if_neg (by simp)]
   exact tail a1 b1 hd1
  | true =>
   rw [if_pos rfl]
   by_cases hk:0 < k
   ·rw [if_pos (decide_eq_true hk)]
    refine ⟨by simp,a05 hd1 (by decide) (by decide) rfl fun w a2 b2 w0 w1 hd2=>?_⟩
    walk_at "aq"
    split
    ·refine a1P ?_
     walk_at "ao"
     rw [ee]
     walk_at "ao"
     obtain ⟨es,rfl⟩:∃ es,e = .tuple es:=by
      cases e with
      | tuple es=>exact ⟨es,rfl⟩
      | _=>cases ct
     have fe:=hf _ he
     obtain ⟨m',rfl⟩:∃ m',m = m' + 1:=by
      cases m with
      | zero =>
       have:=fe.2
       simp [a01] at this
      | succ m'=>exact ⟨m',rfl⟩
     obtain ⟨q1,q2⟩:=fe.tup
     refine ⟨by simp,a2,b2,.tuple es,k - 1,B,m',es,rfl,hd2,.inl rfl,q1,q2,hB,hB2,by omega,by omega,by omega,fun us a' b' ρ' u1 u2 hd' ho=>?_⟩
     have us':∀ x,(x = a2Q us ∨ x = c5P us) → a0t (B + 10) (m' + 1 + 4) x:=by
      rintro x (rfl | rfl)
      ·exact (a3d u1 u2).mono (by omega)
      ·exact (a2H u1 u2).mono (by omega)
     refine ⟨?_,?_⟩
     ·rw [a5p,a1g ho]
      walk_at "ao"
      refine a1P ?_
      walk_at "ao"
      rw [ix]
      walk_at "ao"
      refine a8o ?_
      walk_at "ao"
      obtain ⟨v1,v2⟩:=fset ds (.tuple us) i.toNat hl hf' (us' _ (.inl rfl))
      exact (h _ a' b' _ v1 v2 hd' rfl).1
     ·rw [a90,a1g ho]
      walk_at "ao"
      refine a1P ?_
      walk_at "ao"
      rw [ix]
      walk_at "ao"
      refine a8o ?_
      walk_at "ao"
      obtain ⟨v1,v2⟩:=fset ds (.list us) i.toNat hl hf' (us' _ (.inr rfl))
      exact (h _ a' b' _ v1 v2 hd' rfl).1
    ·exact tail a2 b2 hd2
   ·rw [if_neg (by simpa using hk)]
    exact tail a1 b1 hd1
end Cw
namespace Cw
open PySem L2 Aq
local macro_rules | `(tactic| walk_at "ax")=>`(tactic| simp? [a1h])
local macro_rules | `(tactic| walk_at "bw")=>`(tactic| (refine a1P ?_; walk_at "ax"))
def a23:List Str:=["e", "some", "words", "k"]
def a9C (w:i6) (K:b0) (v:V) (bs:Str → Bool):TS :=
 (a1a (a27 (b0j (d3 (c1q 0 v (bs "Faulty")) (d3 (c1q 0 v (bs "NoArticles")) (d3 (c1q 0 v (bs "NoMan")) (d3 (c1q 0 v (bs "NoPage")) p7))))) (t8 1))
 (a1a (a27 (tOp (a0A K) (i3 1) (b0j (d3 (c1q 0 v (bs "NoPages")) (d3 (c1q 0 v (bs "NoRank")) (d3 (c1q 0 v (bs "NoRow")) (d3 (c1q 0 v (bs "NoSum")) p7)))))) (t8 1))
 (a1a (a27 (tOp (a0A K) (i3 1) (b0j (d3 (c1q 0 v (bs "NoText")) (d3 (c1q 0 v (bs "NotThere")) (d3 (c1q 0 v (bs "NothingLeft")) (d3 (c1q 0 v (bs "TooMany")) p7)))))) (t8 1))
 (a1a (a27 (tOp (a0A K) (i3 1) (b0j (d3 (c1q 0 v (bs "TooMuch")) (d3 (c1q 0 v (bs "Twice")) (d3 (c1q 0 v (bs "ValueError")) p7))))) (t8 1))
 (a1a (a27 (b0j (d3 (tC (.str "Faulty")) (d3 (tC (.str "NoArticles")) (d3 (tC (.str "NoMan")) (d3 (tC (.str "NoPage")) (d3 (tC (.str "NoPages")) (d3 (tC (.str "NoRank")) (d3 (tC (.str "NoRow")) (d3 (tC (.str "NoSum")) (d3 (tC (.str "NoText")) (d3 (tC (.str "NotThere")) p7))))))))))) (t8 2))
 (a1a (a27 (tOp (a0A K) (i3 2) (b0j (d3 (tC (.str "NothingLeft")) (d3 (tC (.str "TooMany")) (d3 (tC (.str "TooMuch")) (d3 (tC (.str "Twice")) (d3 (tC (.str "+")) p7))))))) (t8 2))
 (a3I (tM1 (c8A K) (tC (.str "")) (tLc (d2v (d3 (tC (.int 15)) p7)) (t8 3) (a6M K (tOp (rIx K) (i3 1) (i3 3))) (tOp (rIx K) (i3 2) (i3 3)) [3])))))))))
def a4o (v:V) (bs:Str → Bool):ASt :=
 (a0I (a2I 1 (a5J (d4 (c0x 0 v (bs "Faulty")) (d4 (c0x 0 v (bs "NoArticles")) (d4 (c0x 0 v (bs "NoMan")) (d4 (c0x 0 v (bs "NoPage")) p8))))))
 (a0I (a2I 1 (aOp a3e (i9 1) (a5J (d4 (c0x 0 v (bs "NoPages")) (d4 (c0x 0 v (bs "NoRank")) (d4 (c0x 0 v (bs "NoRow")) (d4 (c0x 0 v (bs "NoSum")) p8)))))))
 (a0I (a2I 1 (aOp a3e (i9 1) (a5J (d4 (c0x 0 v (bs "NoText")) (d4 (c0x 0 v (bs "NotThere")) (d4 (c0x 0 v (bs "NothingLeft")) (d4 (c0x 0 v (bs "TooMany")) p8)))))))
 (a0I (a2I 1 (aOp a3e (i9 1) (a5J (d4 (c0x 0 v (bs "TooMuch")) (d4 (c0x 0 v (bs "Twice")) (d4 (c0x 0 v (bs "ValueError")) p8))))))
 (a0I (a2I 2 (a5J (d4 (aC (.str "Faulty")) (d4 (aC (.str "NoArticles")) (d4 (aC (.str "NoMan")) (d4 (aC (.str "NoPage")) (d4 (aC (.str "NoPages")) (d4 (aC (.str "NoRank")) (d4 (aC (.str "NoRow")) (d4 (aC (.str "NoSum")) (d4 (aC (.str "NoText")) (d4 (aC (.str "NotThere")) p8))))))))))))
 (a0I (a2I 2 (aOp a3e (i9 2) (a5J (d4 (aC (.str "NothingLeft")) (d4 (aC (.str "TooMany")) (d4 (aC (.str "TooMuch")) (d4 (aC (.str "Twice")) (d4 (aC (.str "+")) p8))))))))
 (a2w (c74 (aC (.str "")) (aLc (b4f (d4 (aC (.int 15)) p8)) [3] (gN 3) (a6U (aOp gIx (i9 1) (i9 3))) (aOp gIx (i9 2) (i9 3)))))))))))
theorem b45 {w:i6} {K:b0} {v:V} {bs:Str → Bool} (W:WX):SS K W (a9C w K v bs) (a4o v bs) :=
 (m4 (w3 (a0x (c7 a5m (c7 a5m (c7 a5m (c7 a5m d9))))))
 (m4 (w3 (f6 y9 c9 (a0x (c7 a5m (c7 a5m (c7 a5m (c7 a5m d9)))))))
 (m4 (w3 (f6 y9 c9 (a0x (c7 a5m (c7 a5m (c7 a5m (c7 a5m d9)))))))
 (m4 (w3 (f6 y9 c9 (a0x (c7 a5m (c7 a5m (c7 a5m d9))))))
 (m4 (w3 (a0x (c7 t6 (c7 t6 (c7 t6 (c7 t6 (c7 t6 (c7 t6 (c7 t6 (c7 t6 (c7 t6 (c7 t6 d9))))))))))))
 (m4 (w3 (f6 y9 c9 (a0x (c7 t6 (c7 t6 (c7 t6 (c7 t6 (c7 t6 d9))))))))
 (t9 (c58 t6 (a7X (a67 (c7 d5 d9)) a0p (a04 (f6 v3 c9 c9)) (f6 v3 c9 c9) (by decide))))))))))
def kWs:List Str:=["Faulty", "NoArticles", "NoMan", "NoPage", "NoPages", "NoRank", "NoRow", "NoSum", "NoText", "NotThere", "NothingLeft", "TooMany", "TooMuch", "Twice", "+"]
def ixD:c8 → Nat
 | .int i=>i.toNat
 | _=>0
theorem b84 {α:Type} {f:α → c8} {xs:List α} {i:Int} {b:α} (h0:0 ≤ i) (h1:i < xs.length):atI (xs.map f) i = some (f (xs.getD i.toNat b)):=by
 have hn:i.toNat < xs.length:=by omega
 rw [a9R h0 (by rw [j3]; exact h1),z8,j5 hn,a80,j5 hn]
 rfl
theorem c8l:∀ x ∈ kNs,((rng 0 15).filter fun d=>(kYs.map fun y=>x == y || y == "ValueError").getD (ixD d) false).map (fun d=>kWs.getD (ixD d) "") = [x, "+"] ∧ ([x, "+"].map (·.length)).sum + [x, "+"].length * ("" : Str).length ≤ 16777216 ∧ c0o "" [x, "+"] = x ++ "+" := by decide +kernel
theorem b1M (v:V) (x:Str) (hx:x ∈ kNs) (bs:Str → Bool) (hb:∀ y ∈ kYs,bs y = (x == y || y == "ValueError")) (ρ:List AV) (P:RV → List AV → Prop) (PX:PXT) (h:b2Y v (x ++ "+") ρ P PX):a4o v bs { nx:=fun ρ'=>P (.dat .none) ρ',rt:=P,ex:=PX } (ρ ++ g5 (a23.length - ρ.length) .un):=by
 have eN:a23.length = 4:=rfl
 obtain ⟨rfl,h⟩:=h
 unfold a4o
 simp only [eN]
 walk_at "ax"
 walk_at "bw"
 walk_at "bw"
 walk_at "bw"
 walk_at "bw"
 refine b7c (fun d=>[.opq v,.ml none ((kYs.map bs).map .bool),.ml none (kWs.map .str),.dat d]) (fun d=>(kYs.map bs).getD (ixD d) false) (fun d=>.str (kWs.getD (ixD d) "")) _ _ ?_ ?_ ?_ ?_ ?_ ?_
 ·intro d _ k hk
  exact hk
 ·intro d _
  rfl
 ·intro d hd k hk
  obtain ⟨i,rfl,h1,h2⟩:=b4H hd
  walk_at "ax"
  walk_at "bw"
  rw [← w7,b84 (b:=false) h1 (by rw [j3]; exact h2)]
  exact hk
 ·intro d hd _ k hk
  obtain ⟨i,rfl,h1,h2⟩:=b4H hd
  walk_at "ax"
  walk_at "bw"
  rw [b84 (xs:=kWs) (b:=("" : Str)) h1 (by exact h2)]
  rw [w7] at hk
  exact hk
 ·rw [a72,a1I]
  decide
 ·have e1:kYs.map bs = kYs.map fun y=>x == y || y == "ValueError" := a4C hb
  have e2:=c8l x hx
  rw [a1c,e1]
  have e3:(((rng 0 15).filter fun d=>(kYs.map fun y=>x == y || y == "ValueError").getD (ixD d) false).map fun d=>v5 (kWs.getD (ixD d) "")) = [x, "+"].map .str:=by
   rw [← e2.1,w7]
   rfl
  rw [e3]
  have e4:c7P "" (c9n { nx:=fun ρ'=>P (.dat .none) ρ',rt:=P,ex:=PX }) (.own (.ml none ([x, "+"].map .str))) [.opq v,.ml none ((kYs.map bs).map .bool),.ml none (kWs.map .str),.un]:=by
   unfold c7P
   rw [a91,a68,a92,b0c,c1p,b0d]
   refine ⟨e2.2.1,?_⟩
   rw [e2.2.2]
   exact h _
  exact e4
end Cw
namespace Cw
open PySem L2 Aq
local macro_rules | `(tactic| walk_at "ax")=>`(tactic| simp? [a1h])
def a5g:List Str:=["articles"]
def a8n (w:i6) (K:b0) (W:WX) (ev:Str → m6):TS :=
 (a6k (b8X (a6M K (r8 (spOf K a2M) [] E0 (d3 (i3 0) p7)))) (c9D W (ev "NoArticles")) a2k)
def a3T (ev:Str → m6):ASt :=
 (sIf (a8F (a6U (k9 a2M (d4 (i9 0) p8)))) (c6W (ev "NoArticles")) a1D)
theorem b3F {w:i6} {K:b0} {ev:Str → m6} (W:WX):SS K W (a8n w K W ev) (a3T ev) :=
 (a06 (a1r (a04 (i5 (c7 c9 d9)))) c8M y4)
def a0Q (ev:Str → m6):Ct:=fun ρ P PX=>∃ d,ρ = [.dat d] ∧ okD d = true ∧ (a2x d = true → ∀ ρ',P (.dat .none) ρ') ∧ (a2x d = false → ∀ ρ',PX (ev "NoArticles") none ρ')
theorem b1D (ev:Str → m6) (ρ:List AV) (P:RV → List AV → Prop) (PX:PXT) (h:a0Q ev ρ P PX):ρ.length = 1:=by
 obtain ⟨_,rfl,_⟩:=h
 rfl
theorem b0O (ev:Str → m6) (ρ:List AV) (P:RV → List AV → Prop) (PX:PXT) (h:a0Q ev ρ P PX):a3T ev { nx:=fun ρ'=>P (.dat .none) ρ',rt:=P,ex:=PX } (ρ ++ g5 (a5g.length - ρ.length) .un):=by
 have eN:a5g.length = 1:=rfl
 obtain ⟨d,rfl,hd,h1,h2⟩:=h
 unfold a3T
 simp only [eN]
 walk_at "ax"
 refine ⟨d,rfl,hd,fun ρ'=>?_⟩
 cases e:a2x d with
 | true =>
  walk_at "ax"
  exact h1 e _
 | false =>
  walk_at "ax"
  exact h2 e _
end Cw
namespace Cw
open PySem L2 Aq
theorem Art.inj {A B:Art} (h:A.d = B.d):A.ranks = B.ranks ∧ A.chests = B.chests ∧ A.month = B.month:=by
 have inj1:∀ xs ys:List (Str × Int × Int),xs.map a2l = ys.map a2l → xs = ys:=fun xs=>by
  induction xs with
  | nil=>intro ys h; cases ys with
   | nil=>rfl
   | cons _ _=>cases h
  | cons x xs ih=>intro ys h; cases ys with
   | nil=>cases h
   | cons y ys =>
    rw [i8,i8] at h
    injection h with a b
    rw [ih ys b]
    unfold a2l at a
    injection a with a
    injection a with a1 a
    injection a with a2 a
    injection a with a3 a
    injection a1 with a1
    injection a2 with a2
    injection a3 with a3
    rw [show x = y from Prod.ext a1 (Prod.ext a2 a3)]
 have inj2:∀ xs ys:List (Str × Int),xs.map a5k = ys.map a5k → xs = ys:=fun xs=>by
  induction xs with
  | nil=>intro ys h; cases ys with
   | nil=>rfl
   | cons _ _=>cases h
  | cons x xs ih=>intro ys h; cases ys with
   | nil=>cases h
   | cons y ys =>
    rw [i8,i8] at h
    injection h with a b
    rw [ih ys b]
    unfold a5k at a
    injection a with a
    injection a with a1 a
    injection a with a2 a
    injection a1 with a1
    injection a2 with a2
    rw [show x = y from Prod.ext a1 a2]
 unfold Art.d at h
 injection h with h
 injection h with h1 h
 injection h with h2 h
 injection h with h3 h
 injection h1 with h1
 injection h2 with h2
 injection h3 with h3
 exact ⟨inj1 _ _ h1,inj2 _ _ h2,h3⟩
end Cw
namespace Cw
open PySem L2 Aq
inductive Pg where
 | turn (w man:Str) (day:Int) (rank:Str)
 | leaves (man:Str) (day:Int)
 | away (man:Str) (day to:Int)
 | gave (w man:Str) (day pence:Int) (by_:Str)
 | home (man:Str) (day pence times:Int) (by_:Str)
 | fine (man:Str) (day pence:Int)
 | lost (day to:Int)
 deriving DecidableEq
def Pg.k:Pg → List Key
 | .turn w m d r=>[.inr w,.inr m,.inl d,.inr r]
 | .leaves m d=>[.inr "leaves",.inr m,.inl d]
 | .away m d t=>[.inr "away",.inr m,.inl d,.inl t]
 | .gave w m d p b=>[.inr w,.inr m,.inl d,.inl p,.inr b]
 | .home m d p t b=>[.inr "home",.inr m,.inl d,.inl p,.inl t,.inr b]
 | .fine m d p=>[.inr "fine",.inr m,.inl d,.inl p]
 | .lost d t=>[.inr "lost",.inl d,.inl t]
def Pg.d (p:Pg):c8:=AqB.tupD p.k
def b0C (d:Int):Prop:=0 ≤ d ∧ d ≤ 1000000000000
def b4v (d:Int):Prop:=1 ≤ d ∧ d ≤ 1000000000
def Pg.Ok (A:Art):Pg → Prop
 | .turn w m d r=>(w = "joins" ∨ w = "ranked") ∧ a0b m = true ∧ b0C d ∧ r ∈ A.ranks.map (·.1)
 | .leaves m d=>a0b m = true ∧ b0C d
 | .away m d t=>a0b m = true ∧ b0C d ∧ d ≤ t ∧ t ≤ 1000000000000
 | .gave w m d p b=>(w = "advance" ∨ w = "slops") ∧ a0b m = true ∧ b0C d ∧ b4v p ∧ a0b b = true
 | .home m d p t b=>a0b m = true ∧ b0C d ∧ b4v p ∧ (1 ≤ t ∧ t ≤ 1000000) ∧ a0b b = true
 | .fine m d p=>a0b m = true ∧ b0C d ∧ b4v p
 | .lost d t=>b0C d ∧ 0 ≤ t ∧ t ≤ d
def Pg.man:Pg → Option Str
 | .turn _ m _ _=>some m
 | .leaves m _=>some m
 | .away m _ _=>some m
 | .gave _ m _ _ _=>some m
 | .home m _ _ _ _=>some m
 | .fine m _ _=>some m
 | .lost _ _=>none
theorem Pg.inj {A:Art} {p q:Pg} (hp:p.Ok A) (hq:q.Ok A) (h:p.k = q.k):p = q:=by
 cases p <;> cases q <;> simp [Pg.k,Pg.Ok,o9] at h hp hq ⊢
 all_goals first
  | exact h
  | (obtain ⟨h1,h2⟩:=h; rcases hp.1 with e | e <;> simp [e,o9] at h1)
  | (obtain ⟨h1,h2⟩:=h; rcases hq.1 with e | e <;> simp [e,o9] at h1)
  | (obtain ⟨h1,h2⟩:=h; rcases hp.1 with e | e <;> rcases hq.1 with e' | e' <;> simp [e,e',o9] at h1)
theorem Pg.cmp {A:Art} {p q:Pg} (hp:p.Ok A) (hq:q.Ok A):AqU.cmpAll (p.k.map kD) (q.k.map kD) = true:=by
 cases p <;> cases q <;> simp [Pg.k,Pg.Ok,o9,AqU.cmpAll,kD,PySem.W.alike,i7,a5n] at hp hq ⊢
 all_goals first
  | (rcases hp.1 with e | e <;> rcases hq.1 with e' | e' <;> simp [e,e',o9,a5n,PySem.W.alike] <;> done)
  | (rcases hp.1 with e | e <;> simp [e,o9,a5n] <;> done)
  | (rcases hq.1 with e | e <;> simp [e,o9,a5n] <;> done)
theorem Pg.head (p:Pg):∃ w r,p.k = .inr w :: r:=by cases p <;> exact ⟨_,_,rfl⟩
theorem a9V:∀ ks:List Key,noDics (ks.map kD) = true
 | []=>by rw [d2k,noDics]
 | .inl i :: ks=>by rw [i8,noDics,a9V ks]; rfl
 | .inr i :: ks=>by rw [i8,noDics,a9V ks]; rfl
theorem Pg.rows {A:Art} {ps:List Pg} (h:∀ p ∈ ps,p.Ok A):AqU.Rows (ps.map Pg.d):=by
 refine ⟨fun d hd=>?_,fun x r hx y q hy=>?_,fun xs hx ys hy=>?_,fun d hd=>?_⟩
 ·obtain ⟨p,_,rfl⟩:=e7.mp hd
  obtain ⟨w,r,e⟩:=p.head
  exact ⟨_,_,by rw [Pg.d,AqB.tupD,e]; rfl⟩
 ·obtain ⟨p,_,e1⟩:=e7.mp hx
  obtain ⟨p',_,e2⟩:=e7.mp hy
  obtain ⟨w,r',e3⟩:=p.head
  obtain ⟨w',r'',e4⟩:=p'.head
  rw [Pg.d,AqB.tupD,e3] at e1
  rw [Pg.d,AqB.tupD,e4] at e2
  cases e1
  cases e2
  rfl
 ·obtain ⟨p,hp,e1⟩:=e7.mp hx
  obtain ⟨p',hp',e2⟩:=e7.mp hy
  cases e1
  cases e2
  exact Pg.cmp (h p hp) (h p' hp')
 ·obtain ⟨p,hp,rfl⟩:=e7.mp hd
  show noDic (.tuple (p.k.map kD)) = true
  rw [noDic,a9V]
theorem c6c {A:Art} (hA:A.Ok) {p:Pg} (h:p.Ok A) {n:Nat}:a0t 100 (n + 1) p.d:=by
 refine a3d (by cases p <;> simp [Pg.k]) fun d hd=>?_
 have fs:∀ s:String,s.toList.length ≤ 20 → a0t 100 n (.str (m8 s)):=fun s hs=>a8J (by rw [b9h]; omega) (b04 s)
 cases p with
 | turn w m da r =>
  obtain ⟨h1,h2,h3,h4⟩:=h
  obtain ⟨x,hx,rfl⟩:=e7.mp h4
  simp [Pg.k,kD] at hd
  rcases hd with rfl | rfl | rfl | rfl
  ·rcases h1 with rfl | rfl <;> exact fs _ (by decide)
  ·exact a1N h2
  ·exact a1E
  ·exact a1N (hA.rn x hx)
 | leaves m da =>
  simp [Pg.k,kD] at hd
  rcases hd with rfl | rfl | rfl
  ·exact fs _ (by decide)
  ·exact a1N h.1
  ·exact a1E
 | away m da t =>
  simp [Pg.k,kD] at hd
  rcases hd with rfl | rfl | rfl | rfl
  ·exact fs _ (by decide)
  ·exact a1N h.1
  ·exact a1E
  ·exact a1E
 | gave w m da pe b =>
  obtain ⟨h1,h2,h3,h4,h5⟩:=h
  simp [Pg.k,kD] at hd
  rcases hd with rfl | rfl | rfl | rfl | rfl
  ·rcases h1 with rfl | rfl <;> exact fs _ (by decide)
  ·exact a1N h2
  ·exact a1E
  ·exact a1E
  ·exact a1N h5
 | home m da pe t b =>
  obtain ⟨h2,h3,h4,h5,h6⟩:=h
  simp [Pg.k,kD] at hd
  rcases hd with rfl | rfl | rfl | rfl | rfl | rfl
  ·exact fs _ (by decide)
  ·exact a1N h2
  ·exact a1E
  ·exact a1E
  ·exact a1E
  ·exact a1N h6
 | fine m da pe =>
  simp [Pg.k,kD] at hd
  rcases hd with rfl | rfl | rfl | rfl
  ·exact fs _ (by decide)
  ·exact a1N h.1
  ·exact a1E
  ·exact a1E
 | lost da t =>
  simp [Pg.k,kD] at hd
  rcases hd with rfl | rfl | rfl
  ·exact fs _ (by decide)
  ·exact a1E
  ·exact a1E
end Cw
namespace Cw
open PySem L2 Aq
local macro_rules | `(tactic| walk_at "ao")=>`(tactic| simp_all? [a1h])
local macro_rules | `(tactic| walk_at "ax")=>`(tactic| simp? [a1h])
local macro_rules | `(tactic| walk_at "bw")=>`(tactic| (refine a1P ?_; walk_at "ax"))
def a38:List Str:=["draws", "articles", "man", "far", "found", "day", "there", "turn", "word", "page"]
def a5v (w:i6) (K:b0):TS :=
 (a1a (c17 (tBM K "list" c9R (i3 4) (d3 (i3 9) p7)))
 (a27 (tCB (c41 K) (d3 (tOp a21 (tC (.int 10)) (tC (.int 12))) (d3 (tOp (a0A K) (tOp (a0A K) (i3 5) (tC (.int 1))) (r8 (spOf K d7) [] E0 (d3 (i3 0) (d3 (tOp (rIx K) (b0j (d3 (tC (.int 3)) (d3 (tOp (a0A K) (tC (.int 1)) (tOp b9t (i3 3) (tC (.int 3)))) p7))) (r8 (spOf K d7) [] E0 (d3 (i3 0) (d3 (tC (.int 2)) p7)))) p7)))) p7))) (t8 5)))
def a0D:ASt :=
 (a0I (a9a (aMt a9U (i9 4) (d4 (i9 9) p8)))
 (a2I 5 (aCB d0c (d4 (aOp a8K (aC (.int 10)) (aC (.int 12))) (d4 (aOp a3e (aOp a3e (i9 5) (aC (.int 1))) (k9 d7 (d4 (i9 0) (d4 (aOp gIx (a5J (d4 (aC (.int 3)) (d4 (aOp a3e (aC (.int 1)) (aOp c7O (i9 3) (aC (.int 3)))) p8))) (k9 d7 (d4 (i9 0) (d4 (aC (.int 2)) p8)))) p8)))) p8)))))
theorem a9e {w:i6} {K:b0} (W:WX):SS K W (a5v w K) a0D :=
 (m4 (a3X (b6b a7Z c9 (c7 c9 d9)))
 (w3 (a10 c3O (c7 (f6 a1q d5 d5) (c7 (f6 y9 (f6 y9 c9 d5) (i5 (c7 c9 (c7 (f6 v3 (a0x (c7 d5 (c7 (f6 y9 d5 (f6 b26 c9 d5)) d9))) (i5 (c7 c9 (c7 d5 d9)))) d9)))) d9)))))
def a5w (w:i6) (K:b0):TS :=
 (a1a (a27 (tOp (rNeD K) (i3 8) (tC (.str "leaves"))) (t8 6))
 (a1a (a27 (b57 (d3 (i3 8) (d3 (i3 2) (d3 (i3 5) p7)))) (t8 9))
 (a1a (a6k (a6M K (i3 6)) (a27 (tOp (a0A K) (i3 9) (b57 (d3 (tOp (rIx K) (tOp (rIx K) (tOp (rIx K) (i3 1) (tC (.int 0))) (r8 (spOf K d7) [] E0 (d3 (i3 0) (d3 (tCB (a4R K) (d3 (tOp (rIx K) (i3 1) (tC (.int 0))) p7)) p7)))) (tC (.int 0))) p7))) (t8 9)) a2k)
 (a5v w K))))
def a19:ASt :=
 (a0I (a2I 6 (aOp gNe (i9 8) (aC (.str "leaves"))))
 (a0I (a2I 9 (a7H (d4 (i9 8) (d4 (i9 2) (d4 (i9 5) p8)))))
 (a0I (sIf (a6U (i9 6)) (a2I 9 (aOp a3e (i9 9) (a7H (d4 (aOp gIx (aOp gIx (aOp gIx (i9 1) (aC (.int 0))) (k9 d7 (d4 (i9 0) (d4 (aCB b4u (d4 (aOp gIx (i9 1) (aC (.int 0))) p8)) p8)))) (aC (.int 0))) p8)))) a1D)
 a0D)))
theorem a9f {w:i6} {K:b0} (W:WX):SS K W (a5w w K) a19 :=
 (m4 (w3 (f6 c06 c9 t6))
 (m4 (w3 (a1l (c7 c9 (c7 c9 (c7 c9 d9)))))
 (m4 (a06 (a04 c9) (w3 (f6 y9 c9 (a1l (c7 (f6 v3 (f6 v3 (f6 v3 c9 d5) (i5 (c7 c9 (c7 (a10 a3W (c7 (f6 v3 c9 d5) d9)) d9)))) d5) d9)))) y4)
 (a9e  W))))
def a5x (w:i6) (K:b0):TS :=
 (a1a (a27 (tC (.str "joins")) (t8 8))
 (a1a (a6k (a6M K (i3 6)) (a27 (tOp (rIx K) (b0j (d3 (tC (.str "ranked")) (d3 (tC (.str "leaves")) p7))) (tOp b9t (r8 (spOf K d7) [] E0 (d3 (i3 0) (d3 (tC (.int 5)) p7))) (tC (.int 3)))) (t8 8)) a2k)
 (a5w w K)))
def a3n:ASt :=
 (a0I (a2I 8 (aC (.str "joins")))
 (a0I (sIf (a6U (i9 6)) (a2I 8 (aOp gIx (a5J (d4 (aC (.str "ranked")) (d4 (aC (.str "leaves")) p8))) (aOp c7O (k9 d7 (d4 (i9 0) (d4 (aC (.int 5)) p8))) (aC (.int 3))))) a1D)
 a19))
theorem a9g {w:i6} {K:b0} (W:WX):SS K W (a5x w K) a3n :=
 (m4 (w3 t6)
 (m4 (a06 (a04 c9) (w3 (f6 v3 (a0x (c7 t6 (c7 t6 d9))) (f6 b26 (i5 (c7 c9 (c7 d5 d9))) d5))) y4)
 (a9f  W)))
def a5y (w:i6) (K:b0):TS :=
 (a3I (i3 4))
def a3o:ASt :=
 (a2w (i9 4))
theorem a9h {w:i6} {K:b0} (W:WX):SS K W (a5y w K) a3o :=
 (t9 c9)
def a6B (w:i6) (K:b0):TS :=
 (a1a (a27 (b0j p7) (t8 4))
 (a1a (a27 (r8 (spOf K d7) [] E0 (d3 (i3 0) (d3 (tOp (a0A K) (tC (.int 1)) (tOp b9t (i3 3) (tC (.int 3)))) p7))) (t8 5))
 (a1a (a27 (tC (.bl false)) (t8 6))
 (a1a (tFor (d2v (d3 (tOp (a0A K) (tC (.int 1)) (r8 (spOf K d7) [] E0 (d3 (i3 0) (d3 (tC (.int 6)) p7)))) p7)) (t8 7) (a5x w K))
 (a5y w K)))))
def a2L:ASt :=
 (a0I (a2I 4 (a5J p8))
 (a0I (a2I 5 (k9 d7 (d4 (i9 0) (d4 (aOp a3e (aC (.int 1)) (aOp c7O (i9 3) (aC (.int 3)))) p8))))
 (a0I (a2I 6 (aC (.bool false)))
 (a0I (c45 (b4f (d4 (aOp a3e (aC (.int 1)) (k9 d7 (d4 (i9 0) (d4 (aC (.int 6)) p8)))) p8)) (gN 7) a3n)
 a3o))))
theorem b03 {w:i6} {K:b0} (W:WX):SS K W (a6B w K) a2L :=
 (m4 (w3 (a0x d9))
 (m4 (w3 (i5 (c7 c9 (c7 (f6 y9 d5 (f6 b26 c9 d5)) d9))))
 (m4 (w3 a3E)
 (m4 (a8e (a67 (c7 (f6 y9 d5 (i5 (c7 c9 (c7 d5 d9)))) d9)) a0p (a9g  W))
 (a9h  W)))))
def a1x:Ct:=fun ρ P _=>∃ a b man far,∃ A:Art,ρ = [.ml (some 0) [.int a,.int b],.dat A.d,.dat (.str man),.dat (.int far)] ∧ Dw a b ∧ A.Ok ∧ a0b man = true ∧ 0 ≤ far ∧ far ≤ 1000000000000 ∧
 ∀ (ps:List Pg) a' b' ρ',1 ≤ ps.length → ps.length ≤ 6 → (∀ p ∈ ps,p.Ok A ∧ p.man = some man) → Dw a' b' → a87 ρ' 0 = some (.ml (some 0) [.int a',.int b']) → P (.own (.ml none (ps.map Pg.d))) ρ'
theorem a9T (ρ:List AV) (P:RV → List AV → Prop) (PX:PXT) (h:a1x ρ P PX):ρ.length = 4:=by
 obtain ⟨_,_,_,_,_,rfl,_⟩:=h
 rfl
/-- the day behind a turn -/
theorem c8R {D:AEnds} {a b far da:Int} {man:Str} {A:Art} {ps:List Pg} {x6 x7 x8:AV} (hd:Dw a b) (hf:0 ≤ far) (hf2:far ≤ 1000000000000) (hda:b0C da) {p:Pg} (hl:ps.length ≤ 10)
  (hN:∀ a b da,Dw a b → b0C da → D.nx [.ml (some 0) [.int a,.int b],.dat A.d,.dat (.str man),.dat (.int far),.ml none ((ps ++ [p]).map Pg.d),.dat (.int da),x6,x7,x8,.dat p.d]) :
  a0D D [.ml (some 0) [.int a,.int b],.dat A.d,.dat (.str man),.dat (.int far),.ml none (ps.map Pg.d),.dat (.int da),x6,x7,x8,.dat p.d]:=by
 unfold a0D
 walk_at "ax"
 walk_at "bw"
 refine ⟨by omega,a4P (by decide) (by decide) (by decide),c0D (by decide) (a3F (by decide) (by decide)),a05 hd (by decide) (by decide) rfl fun k1 a1 b1 l1 u1 hd1=>?_⟩
 obtain ⟨z,hz,ez⟩:=a2E (xs:=[m7 3,m7 (1 + far / 3)]) l1 (by simpa using u1)
 walk_at "ao"
 rw [ez]
 obtain ⟨m,rfl,hm⟩:∃ t:Int,z = .int t ∧ 1 ≤ t ∧ t ≤ 1000000000000:=by
  simp at hz
  rcases hz with rfl | rfl <;> exact ⟨_,rfl,by omega,by omega⟩
 walk_at "ax"
 refine a05 hd1 (by omega) (by omega) rfl fun k2 a2 b2 l2 u2 hd2=>?_
 walk_at "ax"
 unfold b0C at hda
 have e:(ps ++ [p]).map Pg.d = ps.map Pg.d ++ [p.d]:=by simp
 rw [e] at hN
 split
 ·exact hN _ _ _ hd2 ⟨by omega,by omega⟩
 ·exact hN _ _ _ hd2 ⟨by omega,by omega⟩
theorem a89 (ρ:List AV) (P:RV → List AV → Prop) (PX:PXT) (h:a1x ρ P PX):a2L { nx:=fun ρ'=>P (.dat .none) ρ',rt:=P,ex:=PX } (ρ ++ g5 (a38.length - ρ.length) .un):=by
 have eN:a38.length = 10:=rfl
 obtain ⟨a,b,man,far,A,rfl,hd,hA,hm,hf,hf2,h⟩:=h
 unfold a2L
 simp only [eN]
 walk_at "ax"
 refine ⟨c0D (by decide) (a3F (by decide) (by decide)),a05 hd (by omega) (by omega) rfl fun da a1 b1 l1 u1 hd1=>?_⟩
 walk_at "ax"
 refine a05 hd1 (by decide) (by decide) rfl fun n a2 b2 l2 u2 hd2=>?_
 walk_at "ax"
 refine ⟨by omega,?_⟩
 refine b0A (fun ds ρ=>∃ (ps:List Pg) (a b da:Int) (th:Bool) (x7 x8 x9:AV),(ps.length + ds.length:Int) = 1 + n ∧ (∀ p ∈ ps,p.Ok A ∧ p.man = some man) ∧ Dw a b ∧ b0C da ∧ ρ = [.ml (some 0) [.int a,.int b],.dat A.d,.dat (.str man),.dat (.int far),.ml none (ps.map Pg.d),.dat (.int da),.dat (.bool th),x7,x8,x9]) ?_ ?_ _ _ ⟨[],a2,b2,da,false,.un,.un,.un,by simp [a72]; omega,by simp,hd2,⟨by omega,by omega⟩,rfl⟩
 ·rintro d ds ρ ⟨ps,a,b,da,th,x7,x8,x9,hl,hps,hd,hda,rfl⟩ N hN
  obtain ⟨N0,hN0⟩:∃ N0:AEnds,N0 = ({ nx:=N,rt:=P,bk:=fun _=>True,ct:=N,ex:=PX }:AEnds):=⟨_,rfl⟩
  have hN':∀ (D:AEnds),D.nx = N → ∀ a b (th:Bool) (x7 x8:AV),Dw a b → ∀ p:Pg,p.Ok A → p.man = some man → a0D D [.ml (some 0) [.int a,.int b],.dat A.d,.dat (.str man),.dat (.int far),.ml none (ps.map Pg.d),.dat (.int da),.dat (.bool th),x7,x8,.dat p.d]:=by
   intro D hD a b th x7 x8 hd p hp hpm
   refine c8R hd hf hf2 hda (by simp at hl; omega) fun a b da hd hda=>?_
   rw [hD]
   refine hN _ ⟨ps ++ [p],a,b,da,th,x7,x8,_,by simp at hl ⊢; omega,fun q hq=>?_,hd,hda,rfl⟩
   rcases v8.mp hq with hq | hq
   ·exact hps q hq
   ·simp at hq
    subst hq
    exact ⟨hp,hpm⟩
  have hR:∀ (D:AEnds),D.nx = N → ∀ (w:Str) a b (th:Bool) (x7 x9:AV),Dw a b → w = "joins" ∨ w = "ranked" ∨ w = "leaves" → a19 D [.ml (some 0) [.int a,.int b],.dat A.d,.dat (.str man),.dat (.int far),.ml none (ps.map Pg.d),.dat (.int da),.dat (.bool th),x7,.dat (.str w),x9]:=by
   intro D hD w a b th x7 x9 hd hw
   have r1:=hA.r1
   have r2:=hA.r2
   unfold a19
   have go:w = "joins" ∨ w = "ranked" → ∀ r ∈ A.ranks,∀ a b,Dw a b → a0D D [.ml (some 0) [.int a,.int b],.dat A.d,.dat (.str man),.dat (.int far),.ml none (ps.map Pg.d),.dat (.int da),.dat (.bool true),x7,.dat (.str w),.dat (.tuple [.str w,.str man,.int da,.str r.1])]:=by
    intro hw r hr a b hd
    exact hN' D hD a b true x7 _ hd (.turn w man da r.1) ⟨hw,hm,hda,a1p hr⟩ rfl
   have gl:w = "leaves" → a0D D [.ml (some 0) [.int a,.int b],.dat A.d,.dat (.str man),.dat (.int far),.ml none (ps.map Pg.d),.dat (.int da),.dat (.bool false),x7,.dat (.str w),.dat (.tuple [.str w,.str man,.int da])]:=by
    intro hw
    subst hw
    exact hN' D hD a b false x7 _ hd (.leaves man da) ⟨hm,hda⟩ rfl
   unfold Art.d at *
   rcases hw with rfl | rfl | rfl
   ·walk_at "ax"
    refine a05 hd (by omega) (by omega) rfl fun k a1 b1 l1 u1 hd1=>?_
    obtain ⟨z,hz,ez⟩:=a2E (xs:=A.ranks.map a2l) l1 (by rw [j3]; exact u1)
    walk_at "ao"
    rw [ez]
    obtain ⟨r,hr,rfl⟩:=e7.mp hz
    unfold a2l
    walk_at "ax"
    exact go (.inl rfl) r hr _ _ hd1
   ·walk_at "ax"
    refine a05 hd (by omega) (by omega) rfl fun k a1 b1 l1 u1 hd1=>?_
    obtain ⟨z,hz,ez⟩:=a2E (xs:=A.ranks.map a2l) l1 (by rw [j3]; exact u1)
    walk_at "ao"
    rw [ez]
    obtain ⟨r,hr,rfl⟩:=e7.mp hz
    unfold a2l
    walk_at "ax"
    exact go (.inr rfl) r hr _ _ hd1
   ·walk_at "ax"
    exact gl rfl
  unfold a3n
  walk_at "ax"
  cases th with
  | false =>
   walk_at "ax"
   exact hR _ rfl _ a b _ _ _ hd (.inl rfl)
  | true =>
   walk_at "ax"
   refine a05 hd (by decide) (by decide) rfl fun k a1 b1 l1 u1 hd1=>?_
   walk_at "ax"
   obtain ⟨z,hz,ez⟩:=a2E (xs:=[v5 "ranked",v5 "leaves"]) (i:=k / 3) (by omega) (by simp; omega)
   refine ⟨c0D (by decide) (a3F (by decide) (by decide)),?_⟩
   rw [ez]
   simp at hz
   rcases hz with rfl | rfl
   ·walk_at "ax"
    exact hR _ rfl _ _ _ _ _ _ hd1 (.inr (.inl rfl))
   ·walk_at "ax"
    exact hR _ rfl _ _ _ _ _ _ hd1 (.inr (.inr rfl))
 ·rintro ρ ⟨ps,a,b,da,th,x7,x8,x9,hl,hps,hd,hda,rfl⟩
  unfold a3o
  walk_at "ax"
  walk_at "bw"
  exact h ps a b _ (by simp at hl; omega) (by simp at hl; omega) hps hd rfl
end Cw
namespace Cw
open PySem L2 Aq
local macro_rules | `(tactic| walk_at "ao")=>`(tactic| simp_all? [a1h])
local macro_rules | `(tactic| walk_at "ax")=>`(tactic| simp? [a1h])
local macro_rules | `(tactic| walk_at "bw")=>`(tactic| (refine a1P ?_; walk_at "ax"))
def a5f:List Str:=["draws", "man", "bearers", "far", "great", "day", "bearer", "pence", "way"]
def a6y (w:i6) (K:b0):TS :=
 (a3I (b57 (d3 (tOp (rIx K) (b0j (d3 (tC (.str "advance")) (d3 (tC (.str "slops")) (d3 (tC (.str "slops")) p7)))) (tOp b9w (i3 8) (tC (.int 5)))) (d3 (i3 1) (d3 (i3 5) (d3 (i3 7) (d3 (i3 6) p7)))))))
def a4b:ASt :=
 (a2w (a7H (d4 (aOp gIx (a5J (d4 (aC (.str "advance")) (d4 (aC (.str "slops")) (d4 (aC (.str "slops")) p8)))) (aOp c0J (i9 8) (aC (.int 5)))) (d4 (i9 1) (d4 (i9 5) (d4 (i9 7) (d4 (i9 6) p8)))))))
theorem b00 {w:i6} {K:b0} (W:WX):SS K W (a6y w K) a4b :=
 (t9 (a1l (c7 (f6 v3 (a0x (c7 t6 (c7 t6 (c7 t6 d9)))) (f6 b70 c9 d5)) (c7 c9 (c7 c9 (c7 c9 (c7 c9 d9)))))))
def a6z (w:i6) (K:b0):TS :=
 (a1a (a6k (a1L (tOp (c1V K) (i3 8) (tC (.int 4)))) (a3I (b57 (d3 (tC (.str "fine")) (d3 (i3 1) (d3 (i3 5) (d3 (i3 7) p7)))))) a2k)
 (a6y w K))
def a4c:ASt :=
 (a0I (sIf (a4J (aOp gEq (i9 8) (aC (.int 4)))) (a2w (a7H (d4 (aC (.str "fine")) (d4 (i9 1) (d4 (i9 5) (d4 (i9 7) p8)))))) a1D)
 a4b)
theorem b01 {w:i6} {K:b0} (W:WX):SS K W (a6z w K) a4c :=
 (m4 (a06 (w6 (f6 a33 c9 d5)) (t9 (a1l (c7 t6 (c7 c9 (c7 c9 (c7 c9 d9)))))) y4)
 (b00  W))
def a6A (w:i6) (K:b0):TS :=
 (a1a (a6k (a1L (tOp (c1V K) (i3 8) (tC (.int 3)))) (a3I (b57 (d3 (tC (.str "away")) (d3 (i3 1) (d3 (i3 5) (d3 (tCB (c41 K) (d3 (tOp a21 (tC (.int 10)) (tC (.int 12))) (d3 (tOp (a0A K) (i3 5) (r8 (spOf K d7) [] E0 (d3 (i3 0) (d3 (tOp (rIx K) (b0j (d3 (tC (.int 5)) (d3 (tOp (a0A K) (tC (.int 1)) (tOp b9t (i3 3) (tC (.int 2)))) p7))) (r8 (spOf K d7) [] E0 (d3 (i3 0) (d3 (tC (.int 2)) p7)))) p7)))) p7))) p7)))))) a2k)
 (a6z w K))
def a4d:ASt :=
 (a0I (sIf (a4J (aOp gEq (i9 8) (aC (.int 3)))) (a2w (a7H (d4 (aC (.str "away")) (d4 (i9 1) (d4 (i9 5) (d4 (aCB d0c (d4 (aOp a8K (aC (.int 10)) (aC (.int 12))) (d4 (aOp a3e (i9 5) (k9 d7 (d4 (i9 0) (d4 (aOp gIx (a5J (d4 (aC (.int 5)) (d4 (aOp a3e (aC (.int 1)) (aOp c7O (i9 3) (aC (.int 2)))) p8))) (k9 d7 (d4 (i9 0) (d4 (aC (.int 2)) p8)))) p8)))) p8))) p8)))))) a1D)
 a4c)
theorem b02 {w:i6} {K:b0} (W:WX):SS K W (a6A w K) a4d :=
 (m4 (a06 (w6 (f6 a33 c9 d5)) (t9 (a1l (c7 t6 (c7 c9 (c7 c9 (c7 (a10 c3O (c7 (f6 a1q d5 d5) (c7 (f6 y9 c9 (i5 (c7 c9 (c7 (f6 v3 (a0x (c7 d5 (c7 (f6 y9 d5 (f6 b26 c9 d5)) d9))) (i5 (c7 c9 (c7 d5 d9)))) d9)))) d9))) d9)))))) y4)
 (b01  W))
def a8h (w:i6) (K:b0):TS :=
 (a1a (a27 (r8 (spOf K d7) [] E0 (d3 (i3 0) (d3 (tOp (a0A K) (i3 3) (tC (.int 1))) p7))) (t8 5))
 (a1a (a27 (tOp (rIx K) (i3 2) (r8 (spOf K d7) [] E0 (d3 (i3 0) (d3 (tCB (a4R K) (d3 (i3 2) p7)) p7)))) (t8 6))
 (a1a (a27 (tOp (rIx K) (b0j (d3 (tOp (a0A K) (tC (.int 1)) (r8 (spOf K d7) [] E0 (d3 (i3 0) (d3 (tC (.int 9)) p7)))) (d3 (tOp (a0A K) (tC (.int 1)) (r8 (spOf K d7) [] E0 (d3 (i3 0) (d3 (tC (.int 60)) p7)))) (d3 (tOp (a0A K) (tC (.int 1)) (r8 (spOf K d7) [] E0 (d3 (i3 0) (d3 (i3 4) p7)))) p7)))) (r8 (spOf K d7) [] E0 (d3 (i3 0) (d3 (tC (.int 3)) p7)))) (t8 7))
 (a1a (a27 (r8 (spOf K d7) [] E0 (d3 (i3 0) (d3 (tC (.int 8)) p7))) (t8 8))
 (a1a (a6k (a1L (tOp c7R (i3 8) (tC (.int 3)))) (a3I (b57 (d3 (tC (.str "home")) (d3 (i3 1) (d3 (i3 5) (d3 (i3 7) (d3 (tOp (rIx K) (b0j (d3 (tOp (a0A K) (tC (.int 1)) (r8 (spOf K d7) [] E0 (d3 (i3 0) (d3 (tC (.int 9)) p7)))) (d3 (tOp (a0A K) (tC (.int 1)) (r8 (spOf K d7) [] E0 (d3 (i3 0) (d3 (i3 4) p7)))) p7))) (tOp b9t (i3 8) (tC (.int 2)))) (d3 (i3 6) p7)))))))) a2k)
 (a6A w K))))))
def a3S:ASt :=
 (a0I (a2I 5 (k9 d7 (d4 (i9 0) (d4 (aOp a3e (i9 3) (aC (.int 1))) p8))))
 (a0I (a2I 6 (aOp gIx (i9 2) (k9 d7 (d4 (i9 0) (d4 (aCB b4u (d4 (i9 2) p8)) p8)))))
 (a0I (a2I 7 (aOp gIx (a5J (d4 (aOp a3e (aC (.int 1)) (k9 d7 (d4 (i9 0) (d4 (aC (.int 9)) p8)))) (d4 (aOp a3e (aC (.int 1)) (k9 d7 (d4 (i9 0) (d4 (aC (.int 60)) p8)))) (d4 (aOp a3e (aC (.int 1)) (k9 d7 (d4 (i9 0) (d4 (i9 4) p8)))) p8)))) (k9 d7 (d4 (i9 0) (d4 (aC (.int 3)) p8)))))
 (a0I (a2I 8 (k9 d7 (d4 (i9 0) (d4 (aC (.int 8)) p8))))
 (a0I (sIf (a4J (aOp gLt (i9 8) (aC (.int 3)))) (a2w (a7H (d4 (aC (.str "home")) (d4 (i9 1) (d4 (i9 5) (d4 (i9 7) (d4 (aOp gIx (a5J (d4 (aOp a3e (aC (.int 1)) (k9 d7 (d4 (i9 0) (d4 (aC (.int 9)) p8)))) (d4 (aOp a3e (aC (.int 1)) (k9 d7 (d4 (i9 0) (d4 (i9 4) p8)))) p8))) (aOp c7O (i9 8) (aC (.int 2)))) (d4 (i9 6) p8)))))))) a1D)
 a4d)))))
theorem b3z {w:i6} {K:b0} (W:WX):SS K W (a8h w K) a3S :=
 (m4 (w3 (i5 (c7 c9 (c7 (f6 y9 c9 d5) d9))))
 (m4 (w3 (f6 v3 c9 (i5 (c7 c9 (c7 (a10 a3W (c7 c9 d9)) d9)))))
 (m4 (w3 (f6 v3 (a0x (c7 (f6 y9 d5 (i5 (c7 c9 (c7 d5 d9)))) (c7 (f6 y9 d5 (i5 (c7 c9 (c7 d5 d9)))) (c7 (f6 y9 d5 (i5 (c7 c9 (c7 c9 d9)))) d9)))) (i5 (c7 c9 (c7 d5 d9)))))
 (m4 (w3 (i5 (c7 c9 (c7 d5 d9))))
 (m4 (a06 (w6 (f6 a4A c9 d5)) (t9 (a1l (c7 t6 (c7 c9 (c7 c9 (c7 c9 (c7 (f6 v3 (a0x (c7 (f6 y9 d5 (i5 (c7 c9 (c7 d5 d9)))) (c7 (f6 y9 d5 (i5 (c7 c9 (c7 c9 d9)))) d9))) (f6 b26 c9 d5)) (c7 c9 d9)))))))) y4)
 (b02  W))))))
def a1B:Ct:=fun ρ P _=>∃ a b man far great,∃ (A:Art) (bs:List Str),ρ = [.ml (some 0) [.int a,.int b],.dat (.str man),.dat (.list (bs.map .str)),.dat (.int far),.dat (.int great)] ∧ Dw a b ∧ a0b man = true ∧ 1 ≤ bs.length ∧ bs.length ≤ 26 ∧ (∀ x ∈ bs,a0b x = true) ∧ 0 ≤ far ∧ far ≤ 1000000000000 ∧ 1 ≤ great ∧ great ≤ 1000000 ∧
 ∀ (p:Pg) a' b' ρ',p.Ok A → p.man = some man → Dw a' b' → a87 ρ' 0 = some (.ml (some 0) [.int a',.int b']) → P (.dat p.d) ρ'
theorem b1C (ρ:List AV) (P:RV → List AV → Prop) (PX:PXT) (h:a1B ρ P PX):ρ.length = 5:=by
 obtain ⟨_,_,_,_,_,_,_,rfl,_⟩:=h
 rfl
theorem b0N (ρ:List AV) (P:RV → List AV → Prop) (PX:PXT) (h:a1B ρ P PX):a3S { nx:=fun ρ'=>P (.dat .none) ρ',rt:=P,ex:=PX } (ρ ++ g5 (a5f.length - ρ.length) .un):=by
 have eN:a5f.length = 9:=rfl
 obtain ⟨a,b,man,far,great,A,bs,rfl,hd,hm,b1,b2,hb,f0,f1,g0,g1,h⟩:=h
 unfold a3S
 simp only [eN]
 walk_at "ax"
 refine a05 hd (by omega) (by omega) rfl fun da a1 b1 l1 u1 hd1=>?_
 have hda:b0C da:=⟨by omega,by omega⟩
 walk_at "ax"
 refine a05 hd1 (by omega) (by omega) rfl fun kb a2 b2 l2 u2 hd2=>?_
 obtain ⟨z,hz,ez⟩:=a2E (xs:=bs.map v5) l2 (by rw [j3]; exact u2)
 walk_at "ao"
 rw [ez]
 obtain ⟨be,hbe,rfl⟩:=e7.mp hz
 have nb:=hb be hbe
 walk_at "ax"
 refine a05 hd2 (by decide) (by decide) rfl fun p1 a3 b3 l3 u3 hd3=>?_
 walk_at "ax"
 refine a05 hd3 (by decide) (by decide) rfl fun p2 a4 b4 l4 u4 hd4=>?_
 walk_at "ax"
 refine a05 hd4 (by omega) (by omega) rfl fun p3 a5 b5 l5 u5 hd5=>?_
 walk_at "ax"
 refine a05 hd5 (by decide) (by decide) rfl fun p4 a6 b6 l6 u6 hd6=>?_
 obtain ⟨z,hz,ez⟩:=a2E (xs:=[m7 (1 + p1),m7 (1 + p2),m7 (1 + p3)]) l6 (by simpa using u6)
 walk_at "ao"
 rw [ez]
 obtain ⟨pe,rfl,hpe⟩:∃ t:Int,z = .int t ∧ b4v t:=by
  unfold b4v
  simp at hz
  rcases hz with rfl | rfl | rfl <;> exact ⟨_,rfl,by omega,by omega⟩
 walk_at "ax"
 refine a05 hd6 (by decide) (by decide) rfl fun way a7 b7 l7 u7 hd7=>?_
 walk_at "ax"
 split
 ·rename_i hw
  refine a05 hd7 (by decide) (by decide) rfl fun t1 a8 b8 l8 u8 hd8=>?_
  walk_at "ax"
  refine a05 hd8 (by omega) (by omega) rfl fun t2 a9 b9 l9 u9 hd9=>?_
  walk_at "ax"
  obtain ⟨z,hz,ez⟩:=a2E (xs:=[m7 (1 + t1),m7 (1 + t2)]) (i:=way / 2) (by omega) (by simp; omega)
  refine ⟨c0D (by decide) (a3F (by decide) (by decide)),?_⟩
  rw [ez]
  obtain ⟨ti,rfl,hti⟩:∃ t:Int,z = .int t ∧ 1 ≤ t ∧ t ≤ 1000000:=by
   simp at hz
   rcases hz with rfl | rfl <;> exact ⟨_,rfl,by omega,by omega⟩
  walk_at "ax"
  exact h (.home man da pe ti be) a9 b9 _ ⟨hm,hda,hpe,hti,nb⟩ rfl hd9 rfl
 ·rename_i hw
  unfold a4d
  walk_at "ax"
  split
  ·rename_i h3
   refine ⟨a4P (by decide) (by decide) (by decide),c0D (by decide) (a3F (by decide) (by decide)),a05 hd7 (by decide) (by decide) rfl fun t1 a8 b8 l8 u8 hd8=>?_⟩
   obtain ⟨z,hz,ez⟩:=a2E (xs:=[m7 5,m7 (1 + far / 2)]) l8 (by simpa using u8)
   walk_at "ao"
   rw [ez]
   obtain ⟨m,rfl,hm2⟩:∃ t:Int,z = .int t ∧ 1 ≤ t ∧ t ≤ 1000000000000:=by
    simp at hz
    rcases hz with rfl | rfl <;> exact ⟨_,rfl,by omega,by omega⟩
   walk_at "ax"
   refine a05 hd8 (by omega) (by omega) rfl fun t2 a9 b9 l9 u9 hd9=>?_
   walk_at "ax"
   unfold b0C at hda
   split
   ·exact h (.away man da _) a9 b9 _ ⟨hm,hda,by omega,by omega⟩ rfl hd9 rfl
   ·exact h (.away man da _) a9 b9 _ ⟨hm,hda,by omega,by omega⟩ rfl hd9 rfl
  ·rename_i h3
   unfold a4c
   walk_at "ax"
   split
   ·exact h (.fine man da pe) a7 b7 _ ⟨hm,hda,hpe⟩ rfl hd7 rfl
   ·rename_i h4
    unfold a4b
    obtain ⟨z,hz,ez⟩:=a2E (xs:=[v5 "advance",v5 "slops",v5 "slops"]) (i:=way - 5) (by omega) (by simp; omega)
    walk_at "ax"
    rw [ez]
    simp at hz
    rcases hz with rfl | rfl
    ·walk_at "ax"
     exact h (.gave "advance" man da pe be) a7 b7 _ ⟨.inl rfl,hm,hda,hpe,nb⟩ rfl hd7 rfl
    ·walk_at "ax"
     exact h (.gave "slops" man da pe be) a7 b7 _ ⟨.inr rfl,hm,hda,hpe,nb⟩ rfl hd7 rfl
theorem c8B (lo:Int) (n:Nat):rng lo (n + 1) = .int lo :: rng (lo + 1) n:=by
 unfold rng
 rw [List.range_succ_eq_map,i8,w7]
 congr 1
 ·simp
 ·refine a4C fun i _=>?_
  show m7 (lo + ((i + 1:Nat):Int)) = .int (lo + 1 + i)
  congr 1
  omega
def a4G:List Str:=["draws", "many", "order", "k"]
def a5W (w:i6) (K:b0):TS :=
 (c17 (tBM K "list" b9u (i3 2) (d3 (r8 (spOf K d7) [] E0 (d3 (i3 0) (d3 (tOp (a0A K) (i3 3) (tC (.int 1))) p7))) (d3 (i3 3) p7))))
def a3N:ASt :=
 (a9a (aMt b4G (i9 2) (d4 (k9 d7 (d4 (i9 0) (d4 (aOp a3e (i9 3) (aC (.int 1))) p8))) (d4 (i9 3) p8))))
theorem a93 {w:i6} {K:b0} (W:WX):SS K W (a5W w K) a3N :=
 (a3X (b6b c0S c9 (c7 (i5 (c7 c9 (c7 (f6 y9 c9 d5) d9))) (c7 c9 d9))))
def a5X (w:i6) (K:b0):TS :=
 (a3I (i3 2))
def a3O:ASt :=
 (a2w (i9 2))
theorem a94 {w:i6} {K:b0} (W:WX):SS K W (a5X w K) a3O :=
 (t9 c9)
def a7n (w:i6) (K:b0):TS :=
 (a1a (a27 (b0j p7) (t8 2))
 (a1a (tFor (d2v (d3 (i3 1) p7)) (t8 3) (a5W w K))
 (a5X w K)))
def a28:ASt :=
 (a0I (a2I 2 (a5J p8))
 (a0I (c45 (b4f (d4 (i9 1) p8)) (gN 3) a3N)
 a3O))
theorem b18 {w:i6} {K:b0} (W:WX):SS K W (a7n w K) a28 :=
 (m4 (w3 (a0x d9))
 (m4 (a8e (a67 (c7 c9 d9)) a0p (a93  W))
 (a94  W)))
/-- the numbers below n, in some order -/
def a1J:Ct:=fun ρ P _=>∃ a b n,ρ = [.ml (some 0) [.int a,.int b],.dat (.int n)] ∧ Dw a b ∧ 0 ≤ n ∧ n ≤ 500 ∧
 ∀ (os:List Nat) a' b' ρ',os.Perm (a1j n.toNat) → Dw a' b' → a87 ρ' 0 = some (.ml (some 0) [.int a',.int b']) → P (.own (.ml none (os.map fun (i:Nat)=>m7 (i:Int)))) ρ'
theorem b0E (ρ:List AV) (P:RV → List AV → Prop) (PX:PXT) (h:a1J ρ P PX):ρ.length = 2:=by
 obtain ⟨_,_,_,rfl,_⟩:=h
 rfl
theorem a9X (ρ:List AV) (P:RV → List AV → Prop) (PX:PXT) (h:a1J ρ P PX):a28 { nx:=fun ρ'=>P (.dat .none) ρ',rt:=P,ex:=PX } (ρ ++ g5 (a4G.length - ρ.length) .un):=by
 have eN:a4G.length = 4:=rfl
 obtain ⟨a,b,n,rfl,hd,n0,n1,h⟩:=h
 unfold a28
 simp only [eN]
 walk_at "ax"
 refine ⟨by omega,?_⟩
 refine b0A (fun ds ρ=>∃ (os:List Nat) (m:Nat) (a b:Int) (x:AV),ds = rng (m:Int) (n.toNat - m) ∧ m ≤ n.toNat ∧ os.Perm (a1j m) ∧ Dw a b ∧ ρ = [.ml (some 0) [.int a,.int b],.dat (.int n),.ml none (os.map fun (i:Nat)=>m7 (i:Int)),x]) ?_ ?_ _ _ ⟨[],0,a,b,_,by simp,by omega,by simp,hd,rfl⟩
 ·rintro d ds ρ ⟨os,m,a,b,x,hds,hm,hp,hd,rfl⟩ N hN
  obtain ⟨q,hq⟩:∃ q,n.toNat - m = q + 1:=by
   cases e:n.toNat - m with
   | zero=>rw [e] at hds; cases hds
   | succ q=>exact ⟨q,rfl⟩
  rw [hq,c8B] at hds
  cases hds
  have ol:os.length = m:=by rw [hp.length_eq,List.length_range]
  unfold a3N
  walk_at "ax"
  walk_at "bw"
  refine a05 hd (by omega) (by omega) rfl fun k a1 b1 l1 u1 hd1=>?_
  walk_at "ax"
  refine ⟨by omega,hN _ ⟨os.take k.toNat ++ m :: os.drop k.toNat,m + 1,a1,b1,.dat (.int (m:Int)),?_,by omega,?_,hd1,?_⟩⟩
  ·have:n.toNat - (m + 1) = q:=by omega
   rw [this]
   rfl
  ·rw [List.range_succ]
   refine List.Perm.trans ?_ (hp.append_right [m])
   refine List.Perm.trans List.perm_middle ?_
   rw [d2m]
   exact (c7L m os).symm
  ·simp
 ·rintro ρ ⟨os,m,a,b,x,hds,hm,hp,hd,rfl⟩
  have e:m = n.toNat:=by
   have:=congrArg a7K hds
   rw [a72,List.length_nil] at this
   omega
  subst e
  unfold a3O
  walk_at "ax"
  walk_at "bw"
  exact h os a b _ hp hd rfl
end Cw
namespace Cw
open PySem L2 Aq
local macro_rules | `(tactic| walk_at "ao")=>`(tactic| simp_all? [a1h])
local macro_rules | `(tactic| walk_at "ax")=>`(tactic| simp? [a1h])
local macro_rules | `(tactic| walk_at "bw")=>`(tactic| (refine a1P ?_; walk_at "ax"))
local macro_rules | `(tactic| walk_at "fw")=>`(tactic| (refine a8o ?_; walk_at "ax"))
/-- pages of some crew -/
structure BookOk (A:Art) (ps:List Pg) (crew:List Str):Prop where
 ok:∀ p ∈ ps,p.Ok A
 nd:ps.Nodup
 few:ps.length ≤ 43
 men:∀ p ∈ ps,∀ m,p.man = some m → m ∈ crew
 all:∀ m ∈ crew,∃ p ∈ ps,p.man = some m
 one:∀ p ∈ ps,∀ q ∈ ps,p.man = none → q.man = none → p = q
theorem c6p:∀ {ps:List Pg} {kss:List (List Key)},(∀ k,k ∈ kss → k ∈ ps.map Pg.k) → ∃ qs:List Pg,kss = qs.map Pg.k ∧ ∀ q ∈ qs,q ∈ ps
 | ps,[],_=>⟨[],rfl,by simp⟩
 | ps,k :: kss,h=>by
  obtain ⟨qs,e,hq⟩:=c6p (ps:=ps) (kss:=kss) fun k hk=>h k (e8 _ hk)
  obtain ⟨p,hp,rfl⟩:=e7.mp (h k e6)
  refine ⟨p :: qs,by rw [e]; rfl,fun q hq'=>?_⟩
  rcases n8.mp hq' with rfl | hq'
  ·exact hp
  ·exact hq q hq'
theorem d0Y (ps:List Pg):ps.map Pg.d = (ps.map Pg.k).map AqB.tupD:=by rw [w7]; rfl
theorem c0T {α β:Type} (f:α → β):∀ {l:List α},(l.map f).Nodup → l.Nodup
 | [],_=>b6Z
 | x :: l,h=>by
  rw [i8,a1d] at h
  exact a1d.mpr ⟨fun hx=>h.1 (a1p hx),c0T f h.2⟩
def a4z:List Str:=["draws", "articles", "crew", "far", "great", "most", "found", "bearers", "man", "day", "k"]
def a9D (w:i6) (K:b0):TS :=
 (a1a (c17 (tBM K "list" rExtend (i3 6) (d3 (r8 (spOf K a1x) [] E0 (d3 (i3 0) (d3 (i3 1) (d3 (i3 8) (d3 (i3 3) p7))))) p7)))
 (c17 (tBM K "list" rExtend (i3 6) (d3 (tLc (d2v (d3 (r8 (spOf K d7) [] E0 (d3 (i3 0) (d3 (tOp (a0A K) (i3 5) (tC (.int 1))) p7))) p7)) (t8 10) c18 (r8 (spOf K a1B) [] E0 (d3 (i3 0) (d3 (i3 8) (d3 (i3 7) (d3 (i3 3) (d3 (i3 4) p7)))))) [10]) p7))))
def a58:ASt :=
 (a0I (a9a (aMt b4F (i9 6) (d4 (k9 a1x (d4 (i9 0) (d4 (i9 1) (d4 (i9 8) (d4 (i9 3) p8))))) p8)))
 (a9a (aMt b4F (i9 6) (d4 (aLc (b4f (d4 (k9 d7 (d4 (i9 0) (d4 (aOp a3e (i9 5) (aC (.int 1))) p8))) p8)) [10] (gN 10) c0f (k9 a1B (d4 (i9 0) (d4 (i9 8) (d4 (i9 7) (d4 (i9 3) (d4 (i9 4) p8))))))) p8))))
theorem b46 {w:i6} {K:b0} (W:WX):SS K W (a9D w K) a58 :=
 (m4 (a3X (b6b c0R c9 (c7 (i5 (c7 c9 (c7 c9 (c7 c9 (c7 c9 d9))))) d9)))
 (a3X (b6b c0R c9 (c7 (a7X (a67 (c7 (i5 (c7 c9 (c7 (f6 y9 c9 d5) d9))) d9)) a0p a52 (i5 (c7 c9 (c7 c9 (c7 c9 (c7 c9 (c7 c9 d9)))))) (by decide)) d9))))
def a9E (w:i6) (K:b0):TS :=
 (a1a (a27 (b5c w K (i3 6)) (t8 6))
 (a3I (tLc (b68 K (r8 (spOf K a1J) [] E0 (d3 (i3 0) (d3 (tCB (a4R K) (d3 (i3 6) p7)) p7)))) (t8 10) c18 (tOp (rIx K) (i3 6) (i3 10)) [10])))
def a4p:ASt :=
 (a0I (a2I 6 (b4g (i9 6)))
 (a2w (aLc (a6m (k9 a1J (d4 (i9 0) (d4 (aCB b4u (d4 (i9 6) p8)) p8)))) [10] (gN 10) c0f (aOp gIx (i9 6) (i9 10)))))
theorem b47 {w:i6} {K:b0} (W:WX):SS K W (a9E w K) a4p :=
 (m4 (w3 (c2b c9))
 (t9 (a7X (a34 (i5 (c7 c9 (c7 (a10 a3W (c7 c9 d9)) d9)))) a0p a52 (f6 v3 c9 c9) (by decide))))
def a9F (w:i6) (K:b0):TS :=
 (a1a (a6k (a1L (tOp (c1V K) (r8 (spOf K d7) [] E0 (d3 (i3 0) (d3 (tC (.int 3)) p7))) (tC (.int 0)))) (a1a (a27 (r8 (spOf K d7) [] E0 (d3 (i3 0) (d3 (tOp (a0A K) (i3 3) (tC (.int 1))) p7))) (t8 9))
 (c17 (tBM K "list" c9R (i3 6) (d3 (b57 (d3 (tC (.str "lost")) (d3 (i3 9) (d3 (tOp b9w (i3 9) (r8 (spOf K d7) [] E0 (d3 (i3 0) (d3 (tOp (rIx K) (b0j (d3 (tC (.int 1)) (d3 (tOp (a0A K) (tCB (c41 K) (d3 (i3 9) (d3 (tC (.int 9)) p7))) (tC (.int 1))) (d3 (tOp (a0A K) (i3 9) (tC (.int 1))) p7)))) (r8 (spOf K d7) [] E0 (d3 (i3 0) (d3 (tC (.int 3)) p7)))) p7)))) p7)))) p7)))) a2k)
 (a9E w K))
def a59:ASt :=
 (a0I (sIf (a4J (aOp gEq (k9 d7 (d4 (i9 0) (d4 (aC (.int 3)) p8))) (aC (.int 0)))) (a0I (a2I 9 (k9 d7 (d4 (i9 0) (d4 (aOp a3e (i9 3) (aC (.int 1))) p8))))
 (a9a (aMt a9U (i9 6) (d4 (a7H (d4 (aC (.str "lost")) (d4 (i9 9) (d4 (aOp c0J (i9 9) (k9 d7 (d4 (i9 0) (d4 (aOp gIx (a5J (d4 (aC (.int 1)) (d4 (aOp a3e (aCB d0c (d4 (i9 9) (d4 (aC (.int 9)) p8))) (aC (.int 1))) (d4 (aOp a3e (i9 9) (aC (.int 1))) p8)))) (k9 d7 (d4 (i9 0) (d4 (aC (.int 3)) p8)))) p8)))) p8)))) p8)))) a1D)
 a4p)
theorem b48 {w:i6} {K:b0} (W:WX):SS K W (a9F w K) a59 :=
 (m4 (a06 (w6 (f6 a33 (i5 (c7 c9 (c7 d5 d9))) d5)) (m4 (w3 (i5 (c7 c9 (c7 (f6 y9 c9 d5) d9))))
 (a3X (b6b a7Z c9 (c7 (a1l (c7 t6 (c7 c9 (c7 (f6 b70 c9 (i5 (c7 c9 (c7 (f6 v3 (a0x (c7 d5 (c7 (f6 y9 (a10 c3O (c7 c9 (c7 d5 d9))) d5) (c7 (f6 y9 c9 d5) d9)))) (i5 (c7 c9 (c7 d5 d9)))) d9)))) d9)))) d9)))) y4)
 (b47  W))
def b3e (w:i6) (K:b0):TS :=
 (a1a (a27 (b0j p7) (t8 6))
 (a1a (a27 (r8 (spOf K y8) [] E0 (d3 (i3 0) (d3 (tC (.int 3)) p7))) (t8 7))
 (a1a (tFor (b68 K (i3 2)) (t8 8) (a9D w K))
 (a9F w K))))
def a5Q:ASt :=
 (a0I (a2I 6 (a5J p8))
 (a0I (a2I 7 (k9 y8 (d4 (i9 0) (d4 (aC (.int 3)) p8))))
 (a0I (c45 (a6m (i9 2)) (gN 8) a58)
 a59)))
theorem b9E {w:i6} {K:b0} (W:WX):SS K W (b3e w K) a5Q :=
 (m4 (w3 (a0x d9))
 (m4 (w3 (i5 (c7 c9 (c7 d5 d9))))
 (m4 (a8e (a34 c9) a0p (b46  W))
 (b48  W))))
def a1M:Ct:=fun ρ P _=>∃ a b far great most,∃ (A:Art) (crew:List Str),ρ = [.ml (some 0) [.int a,.int b],.dat A.d,.dat (.list (crew.map .str)),.dat (.int far),.dat (.int great),.dat (.int most)] ∧ Dw a b ∧ A.Ok ∧ 1 ≤ crew.length ∧ crew.length ≤ 3 ∧ (∀ x ∈ crew,a0b x = true) ∧ 0 ≤ far ∧ far ≤ 1000000000000 ∧ 1 ≤ great ∧ great ≤ 1000000 ∧ 0 ≤ most ∧ most ≤ 8 ∧
 ∀ (ps:List Pg) a' b' ρ',BookOk A ps crew → Dw a' b' → a87 ρ' 0 = some (.ml (some 0) [.int a',.int b']) → P (.own (.ml none (ps.map Pg.d))) ρ'
theorem b6i (ρ:List AV) (P:RV → List AV → Prop) (PX:PXT) (h:a1M ρ P PX):ρ.length = 6:=by
 obtain ⟨_,_,_,_,_,_,_,rfl,_⟩:=h
 rfl
theorem c9x {qs:List Pg}:∀ {os:List Nat},(∀ i ∈ os,i < qs.length) → (os.filterMap fun i=>qs[i]?).map Pg.d = os.map fun i=>(qs.map Pg.d).getD i .none
 | [],_=>rfl
 | i :: os,h=>by
  have hi:=h i e6
  rw [List.filterMap_cons,j5 hi,i8,i8,c9x fun j hj=>h j (e8 _ hj)]
  congr 1
  simp [List.getD,hi]
def pgAt (ds:List c8):c8 → c8
 | .int i=>ds.getD i.toNat .none
 | _=>.none
/-- each once, in a drawn order -/
theorem c01 {A:Art} {crew:List Str} {ps:List Pg} (hok:∀ p ∈ ps,p.Ok A) (few:ps.length ≤ 43) (men:∀ p ∈ ps,∀ m,p.man = some m → m ∈ crew) (all:∀ m ∈ crew,∃ p ∈ ps,p.man = some m) (one:∀ p ∈ ps,∀ q ∈ ps,p.man = none → q.man = none → p = q)
  {a b:Int} (hd:Dw a b) {D:AEnds} {x1 x2 x3 x4 x5 x7 x8 x9:AV} (h:∀ (ps:List Pg) a' b' ρ',BookOk A ps crew → Dw a' b' → a87 ρ' 0 = some (.ml (some 0) [.int a',.int b']) → D.rt (.own (.ml none (ps.map Pg.d))) ρ') :
  a4p D [.ml (some 0) [.int a,.int b],x1,x2,x3,x4,x5,.ml none (ps.map Pg.d),x7,x8,x9,.un]:=by
 unfold a4p
 walk_at "ax"
 walk_at "fw"
 rw [show a7B (ps.map Pg.d) = some (ps.map Pg.k) by rw [d0Y,b77]]
 walk_at "ax"
 refine ⟨by omega,Pg.rows hok,fun es nd mem pw=>?_⟩
 obtain ⟨qs,rfl,hq⟩:=c6p (ps:=ps) (kss:=es) fun k hk=>by
  have:=(mem k).mp hk
  simpa using this
 have nq:qs.Nodup:=c0T Pg.k nd
 have pq:∀ p ∈ ps,p ∈ qs:=fun p hp=>by
  have:=(mem p.k).mpr (by simpa using ⟨p,hp,rfl⟩)
  obtain ⟨q,hq1,e⟩:=e7.mp this
  rw [← Pg.inj (hok q (hq q hq1)) (hok p hp) e]
  exact hq1
 have lq:qs.length ≤ 43:=by
  have:=a6p nd (m:=ps.map Pg.k) fun k hk=>by
   have:=(mem k).mp hk
   simpa using this
  simp at this
  omega
 rw [← d0Y]
 walk_at "bw"
 refine ⟨a,b,(qs.length:Int),by simp,hd,by omega,by omega,fun os a1 b1 ρ' hp hd1 ho=>?_⟩
 rw [a90,a1g ho]
 walk_at "ax"
 have hi:∀ i ∈ os,i < qs.length:=fun i hi=>by
  have:=hp.mem_iff.mp hi
  simpa using this
 have ol:os.length = qs.length:=by rw [hp.length_eq]; simp
 refine b6e (fun y=>[.ml (some 0) [.int a1,.int b1],x1,x2,x3,x4,x5,.ml none (qs.map Pg.d),x7,x8,x9,.dat y]) (pgAt (qs.map Pg.d)) _ _ ?_ ?_ ?_ ?_ ?_
 ·intro y _ k hk
  exact hk
 ·intro y _
  rfl
 ·intro y hy k hk
  obtain ⟨i,hi2,rfl⟩:=e7.mp hy
  have hi3:=hi i hi2
  walk_at "ax"
  walk_at "bw"
  rw [a9R (by omega) (by simp; omega)]
  have e:pgAt (qs.map Pg.d) (.int (i:Int)) = (qs[i]).d:=by simp [pgAt,hi3]
  rw [e] at hk
  simp [hi3]
  exact hk
 ·rw [a1I]
  simp
  omega
 ·walk_at "ax"
  have e:os.map (pgAt (qs.map Pg.d) ∘ fun (i:Nat)=>m7 (i:Int)) = (os.filterMap fun i=>qs[i]?).map Pg.d:=by
   rw [c9x hi]
   refine a4C fun i _=>?_
   show (qs.map Pg.d).getD ((i:Int).toNat) .none = _
   rw [c1X]
  rw [e]
  have pm:(os.filterMap fun i=>qs[i]?).Perm qs:=by
   have:=hp.filterMap (fun i=>qs[i]?)
   rw [c1X,AqT.all_at] at this
   exact this
  refine h _ a1 b1 _ ⟨fun p hp2=>hok p (hq p (pm.mem_iff.mp hp2)),pm.nodup_iff.mpr nq,by rw [pm.length_eq]; exact lq,fun p hp2=>men p (hq p (pm.mem_iff.mp hp2)),fun m hm=>?_,fun p hp2 q hq2=>one p (hq p (pm.mem_iff.mp hp2)) q (hq q (pm.mem_iff.mp hq2))⟩ hd1 rfl
  obtain ⟨p,hp2,e⟩:=all m hm
  exact ⟨p,pm.mem_iff.mpr (pq p hp2),e⟩
theorem b4V (ρ:List AV) (P:RV → List AV → Prop) (PX:PXT) (h:a1M ρ P PX):a5Q { nx:=fun ρ'=>P (.dat .none) ρ',rt:=P,ex:=PX } (ρ ++ g5 (a4z.length - ρ.length) .un):=by
 have eN:a4z.length = 11:=rfl
 obtain ⟨a,b,far,great,most,A,crew,rfl,hd,hA,c1,c2,hc,f0,f1,g0,g1,m0,m1,h⟩:=h
 unfold a5Q
 simp only [eN]
 walk_at "ax"
 refine c6A hd (by decide) (by decide) rfl fun bs a1 b1 e1 e2 e3 hd1=>?_
 walk_at "ax"
 refine b0A (fun ds ρ=>∃ (ps:List Pg) (a9o:List Str) (done:List Str) (a b:Int) (x7 x8:AV),ds = a9o.map .str ∧ done ++ a9o = crew ∧ ps.length ≤ 14 * done.length ∧ (∀ p ∈ ps,p.Ok A ∧ ∃ m ∈ done,p.man = some m) ∧ (∀ m ∈ done,∃ p ∈ ps,p.man = some m) ∧ Dw a b ∧ (x7 = .ml none (bs.map .str) ∨ x7 = .dat (.list (bs.map .str))) ∧ ρ = [.ml (some 0) [.int a,.int b],.dat A.d,.dat (.list (crew.map .str)),.dat (.int far),.dat (.int great),.dat (.int most),.ml none (ps.map Pg.d),x7,x8,.un,.un]) ?_ ?_ _ _ ⟨[],crew,[],a1,b1,_,_,rfl,rfl,by simp,by simp,by simp,hd1,.inl rfl,rfl⟩
 ·rintro d ds ρ ⟨ps,a9o,done,a,b,x7,x8,hds,hc2,hl,hps,hdn,hd,hx7,rfl⟩ N hN
  cases a9o with
  | nil=>cases hds
  | cons man a9o =>
   rw [i8] at hds
   cases hds
   have hm:man ∈ crew:=by rw [← hc2]; exact a2j _ e6
   have hdl:done.length ≤ 2:=by
    have:=congrArg a7K hc2
    rw [a2i,v6] at this
    omega
   unfold a58
   walk_at "ax"
   walk_at "bw"
   refine ⟨a,b,man,far,A,rfl,hd,hA,hc man hm,f0,f1,fun qs a2 b2 ρ' l1 l2 hq hd2 ho=>?_⟩
   rw [a90,a1g ho]
   walk_at "ax"
   refine ⟨by omega,?_⟩
   walk_at "bw"
   refine a05 hd2 (by omega) (by omega) rfl fun n a3 b3 l3 u3 hd3=>?_
   walk_at "ax"
   refine ⟨by omega,?_⟩
   refine c6s (fun ds acc ρ=>∃ (rs:List Pg) (a b:Int) (x7:AV),acc = rs.map Pg.d ∧ (rs.length + ds.length:Int) = n ∧ (∀ p ∈ rs,p.Ok A ∧ p.man = some man) ∧ Dw a b ∧ (x7 = .ml none (bs.map .str) ∨ x7 = .dat (.list (bs.map .str))) ∧ ρ = [.ml (some 0) [.int a,.int b],.dat A.d,.dat (.list (crew.map .str)),.dat (.int far),.dat (.int great),.dat (.int most),.ml none (ps.map Pg.d ++ qs.map Pg.d),x7,.dat (.str man),.un,.un]) ?_ ?_ _ _ _ ⟨[],a3,b3,x7,rfl,by simp [a72]; omega,by simp,hd3,hx7,rfl⟩
   ·rintro d ds acc ρ ⟨rs,a,b,x7,rfl,hrl,hrs,hd,hx7,rfl⟩ N2 hN2
    have bl:(bs.length:Int) = 3:=e1
    rcases hx7 with rfl | rfl
    ·walk_at "ax"
     walk_at "fw"
     refine ⟨a,b,man,far,great,A,bs,rfl,hd,hc man hm,by omega,by omega,e2,f0,f1,g0,g1,fun p a4 b4 ρ' hp hpm hd4 ho=>?_⟩
     rw [a5p,a1g ho]
     walk_at "ax"
     refine ⟨by simp at hrl; omega,hN2 _ _ ⟨rs ++ [p],a4,b4,_,by simp,by simp at hrl ⊢; omega,fun q hq=>?_,hd4,.inr rfl,rfl⟩⟩
     rcases v8.mp hq with hq | hq
     ·exact hrs q hq
     ·simp at hq
      subst hq
      exact ⟨hp,hpm⟩
    ·walk_at "ax"
     refine ⟨a,b,man,far,great,A,bs,rfl,hd,hc man hm,by omega,by omega,e2,f0,f1,g0,g1,fun p a4 b4 ρ' hp hpm hd4 ho=>?_⟩
     rw [a5p,a1g ho]
     walk_at "ax"
     refine ⟨by simp at hrl; omega,hN2 _ _ ⟨rs ++ [p],a4,b4,_,by simp,by simp at hrl ⊢; omega,fun q hq=>?_,hd4,.inr rfl,rfl⟩⟩
     rcases v8.mp hq with hq | hq
     ·exact hrs q hq
     ·simp at hq
      subst hq
      exact ⟨hp,hpm⟩
   ·rintro acc ρ ⟨rs,a,b,x7,rfl,hrl,hrs,hd,hx7,rfl⟩
    walk_at "ax"
    have hrl:(rs.length:Int) = n:=by simpa using hrl
    refine ⟨by omega,hN _ ⟨ps ++ qs ++ rs,a9o,done ++ [man],a,b,x7,.dat (.str man),rfl,by simpa using hc2,by simp; omega,fun p hp=>?_,fun m hm2=>?_,hd,hx7,by simp⟩⟩
    ·rcases v8.mp hp with hp | hp
     ·rcases v8.mp hp with hp | hp
      ·obtain ⟨z1,m,z2,z3⟩:=hps p hp
       exact ⟨z1,m,a0o _ z2,z3⟩
      ·exact ⟨(hq p hp).1,man,by simp,(hq p hp).2⟩
     ·exact ⟨(hrs p hp).1,man,by simp,(hrs p hp).2⟩
    ·rcases v8.mp hm2 with hm2 | hm2
     ·obtain ⟨p,hp,e⟩:=hdn m hm2
      exact ⟨p,by simp [hp],e⟩
     ·simp at hm2
      subst hm2
      cases qs with
      | nil=>simp at l1
      | cons q qs=>exact ⟨q,by simp,(hq q e6).2⟩
 ·rintro ρ ⟨ps,a9o,done,a,b,x7,x8,hds,hc2,hl,hps,hdn,hd,hx7,rfl⟩
  have hr0:a9o = []:=by
   cases a9o with
   | nil=>rfl
   | cons _ _=>cases hds
  subst hr0
  rw [a1b] at hc2
  subst hc2
  have hok:∀ p ∈ ps,p.Ok A:=fun p hp=>(hps p hp).1
  have men:∀ p ∈ ps,∀ m,p.man = some m → m ∈ done:=fun p hp m e=>by
   obtain ⟨_,m2,h2,e2⟩:=hps p hp
   rw [e] at e2
   cases e2
   exact h2
  have no:∀ p ∈ ps,p.man ≠ none:=fun p hp e=>by
   obtain ⟨_,m2,h2,e2⟩:=hps p hp
   rw [e] at e2
   cases e2
  unfold a59
  walk_at "ax"
  refine a05 hd (by decide) (by decide) rfl fun k a1 b1 l1 u1 hd1=>?_
  walk_at "ax"
  split
  ·refine a05 hd1 (by omega) (by omega) rfl fun da a2 b2 l2 u2 hd2=>?_
   walk_at "ax"
   walk_at "bw"
   refine a05 hd2 (by decide) (by decide) rfl fun k2 a3 b3 l3 u3 hd3=>?_
   walk_at "ao"
   generalize hmn:(if 9 < da then (9:Int) else da) = mn
   obtain ⟨z,hz,ez⟩:=a2E (xs:=[m7 1,m7 (mn + 1),m7 (da + 1)]) l3 (by simpa using u3)
   rw [ez]
   obtain ⟨m,rfl,hm2⟩:∃ t:Int,z = .int t ∧ 1 ≤ t ∧ t ≤ da + 1:=by
    have:0 ≤ mn ∧ mn ≤ da:=by subst hmn; split <;> omega
    simp at hz
    rcases hz with rfl | rfl | rfl <;> exact ⟨_,rfl,by omega,by omega⟩
   walk_at "ax"
   refine a05 hd3 (by omega) (by omega) rfl fun k3 a4 b4 l4 u4 hd4=>?_
   walk_at "ax"
   refine ⟨by omega,?_⟩
   have e:ps.map Pg.d ++ [a2Q [.str "lost",.int da,.int (da - k3)]] = (ps ++ [Pg.lost da (da - k3)]).map Pg.d:=by simp [Pg.d,AqB.tupD,Pg.k,kD]
   rw [e]
   refine c01 (A:=A) (crew:=done) ?_ (by simp; omega) ?_ ?_ ?_ hd4 h
   ·intro p hp
    rcases v8.mp hp with hp | hp
    ·exact hok p hp
    ·simp at hp
     subst hp
     exact ⟨⟨by omega,by omega⟩,by omega,by omega⟩
   ·intro p hp m e
    rcases v8.mp hp with hp | hp
    ·exact men p hp m e
    ·simp at hp
     subst hp
     cases e
   ·intro m hm
    obtain ⟨p,hp,e⟩:=hdn m hm
    exact ⟨p,a0o _ hp,e⟩
   ·intro p hp q hq e1 e2
    have f:∀ p ∈ ps ++ [Pg.lost da (da - k3)],p.man = none → p = Pg.lost da (da - k3):=by
     intro p hp e
     rcases v8.mp hp with hp | hp
     ·exact absurd e (no p hp)
     ·simpa using hp
    rw [f p hp e1,f q hq e2]
  ·exact c01 (A:=A) (crew:=done) hok (by omega) men hdn (fun p hp q hq e1=>absurd e1 (no p hp)) hd1 h
def a4H:List Str:=["draws", "crew", "articles"]
def a7x (w:i6) (K:b0):TS :=
 (a1a (a27 (r8 (spOf K y8) [] E0 (d3 (i3 0) (d3 (tOp (a0A K) (tC (.int 1)) (r8 (spOf K d7) [] E0 (d3 (i3 0) (d3 (tC (.int 3)) p7)))) p7))) (t8 1))
 (a1a (a27 (r8 (spOf K a0P) [] E0 (d3 (i3 0) (d3 (tC (.int 60)) p7))) (t8 2))
 (a3I (b57 (d3 (i3 2) (d3 (r8 (spOf K a1M) [] E0 (d3 (i3 0) (d3 (i3 2) (d3 (i3 1) (d3 (tC (.int 40)) (d3 (tC (.int 12)) (d3 (tC (.int 6)) p7))))))) (d3 (i3 1) p7)))))))
def a3a:ASt :=
 (a0I (a2I 1 (k9 y8 (d4 (i9 0) (d4 (aOp a3e (aC (.int 1)) (k9 d7 (d4 (i9 0) (d4 (aC (.int 3)) p8)))) p8))))
 (a0I (a2I 2 (k9 a0P (d4 (i9 0) (d4 (aC (.int 60)) p8))))
 (a2w (a7H (d4 (i9 2) (d4 (k9 a1M (d4 (i9 0) (d4 (i9 2) (d4 (i9 1) (d4 (aC (.int 40)) (d4 (aC (.int 12)) (d4 (aC (.int 6)) p8))))))) (d4 (i9 1) p8)))))))
theorem b2i {w:i6} {K:b0} (W:WX):SS K W (a7x w K) a3a :=
 (m4 (w3 (i5 (c7 c9 (c7 (f6 y9 d5 (i5 (c7 c9 (c7 d5 d9)))) d9))))
 (m4 (w3 (i5 (c7 c9 (c7 d5 d9))))
 (t9 (a1l (c7 c9 (c7 (i5 (c7 c9 (c7 c9 (c7 c9 (c7 d5 (c7 d5 (c7 d5 d9))))))) (c7 c9 d9)))))))
def d2G (A:Art) (ps:List Pg) (crew:List Str):c8:=.tuple [A.d,.list (ps.map Pg.d),.list (crew.map .str)]
structure CrewOk (crew:List Str):Prop where
 few:1 ≤ crew.length ∧ crew.length ≤ 3
 nm:∀ x ∈ crew,a0b x = true
 up:crew.Pairwise sLt
 l4:∀ x ∈ crew,x.length ≠ 4
def a0X:Ct:=fun ρ P _=>∃ a b,ρ = [.ml (some 0) [.int a,.int b]] ∧ Dw a b ∧
 ∀ (A:Art) (ps:List Pg) (crew:List Str) a' b' ρ',ArtG 1000000000 A → BookOk A ps crew → CrewOk crew → Dw a' b' → a87 ρ' 0 = some (.ml (some 0) [.int a',.int b']) → P (.dat (d2G A ps crew)) ρ'
theorem ArtG.mono {g g':Int} {A:Art} (h:ArtG g A) (l:g ≤ g'):ArtG g' A:=⟨h.ok,h.rl,h.cl,fun r hr=>(h.rp r hr).imp id fun z=>by omega,h.rd,h.mo,h.cp⟩
theorem b0F (ρ:List AV) (P:RV → List AV → Prop) (PX:PXT) (h:a0X ρ P PX):ρ.length = 1:=by
 obtain ⟨_,_,rfl,_⟩:=h
 rfl
theorem a9Y (ρ:List AV) (P:RV → List AV → Prop) (PX:PXT) (h:a0X ρ P PX):a3a { nx:=fun ρ'=>P (.dat .none) ρ',rt:=P,ex:=PX } (ρ ++ g5 (a4H.length - ρ.length) .un):=by
 have eN:a4H.length = 3:=rfl
 obtain ⟨a,b,rfl,hd,h⟩:=h
 unfold a3a
 simp only [eN]
 walk_at "ax"
 refine a05 hd (by decide) (by decide) rfl fun k a1 b1 l1 u1 hd1=>?_
 walk_at "ax"
 refine c6z hd1 (by omega) (by omega) rfl fun crew a2 b2 e1 e2 e3 e4 hd2=>?_
 walk_at "ax"
 refine ⟨a2,b2,60,rfl,hd2,by decide,by decide,fun A a3 b3 ρ' hA hd3 ho=>?_⟩
 rw [a5p,a1g ho]
 walk_at "ax"
 walk_at "fw"
 refine ⟨a3,b3,40,12,6,A,crew,rfl,hd3,hA.ok,by omega,by omega,e2,by decide,by decide,by decide,by decide,by decide,by decide,fun ps a4 b4 ρ' hB hd4 ho=>?_⟩
 rw [a90,a1g ho]
 walk_at "ax"
 exact h A ps crew a4 b4 _ (hA.mono (by decide)) hB ⟨⟨by omega,by omega⟩,e2,e3,e4⟩ hd4 rfl
end Cw
namespace Cw
open PySem L2 Aq
local macro_rules | `(tactic| walk_at "ao")=>`(tactic| simp_all? [a1h])
local macro_rules | `(tactic| walk_at "ax")=>`(tactic| simp? [a1h])
local macro_rules | `(tactic| walk_at "fw")=>`(tactic| (refine a8o ?_; walk_at "ax"))
def a5e:List Str:=["draws", "crew", "great", "articles", "far"]
def a8g (w:i6) (K:b0):TS :=
 (a1a (a27 (r8 (spOf K y8) [] E0 (d3 (i3 0) (d3 (tOp (a0A K) (tC (.int 1)) (r8 (spOf K d7) [] E0 (d3 (i3 0) (d3 (tC (.int 3)) p7)))) p7))) (t8 1))
 (a1a (a27 (tOp (rIx K) (b0j (d3 (tC (.int 60)) (d3 (tOp a21 (tC (.int 10)) (tC (.int 6))) (d3 (tOp a21 (tC (.int 10)) (tC (.int 6))) p7)))) (r8 (spOf K d7) [] E0 (d3 (i3 0) (d3 (tC (.int 3)) p7)))) (t8 2))
 (a1a (a27 (r8 (spOf K a0P) [] E0 (d3 (i3 0) (d3 (tOp (rIx K) (b0j (d3 (i3 2) (d3 (tOp a21 (tC (.int 10)) (tC (.int 9))) p7))) (r8 (spOf K d7) [] E0 (d3 (i3 0) (d3 (tC (.int 2)) p7)))) p7))) (t8 3))
 (a1a (a27 (tOp (rIx K) (b0j (d3 (tC (.int 40)) (d3 (tOp a21 (tC (.int 10)) (tC (.int 4))) (d3 (tOp a21 (tC (.int 10)) (tC (.int 6))) (d3 (tOp a21 (tC (.int 10)) (tC (.int 12))) p7))))) (r8 (spOf K d7) [] E0 (d3 (i3 0) (d3 (tC (.int 4)) p7)))) (t8 4))
 (a3I (b57 (d3 (i3 3) (d3 (r8 (spOf K a1M) [] E0 (d3 (i3 0) (d3 (i3 3) (d3 (i3 1) (d3 (i3 4) (d3 (i3 2) (d3 (tC (.int 8)) p7))))))) (d3 (i3 1) p7)))))))))
def a3Q:ASt :=
 (a0I (a2I 1 (k9 y8 (d4 (i9 0) (d4 (aOp a3e (aC (.int 1)) (k9 d7 (d4 (i9 0) (d4 (aC (.int 3)) p8)))) p8))))
 (a0I (a2I 2 (aOp gIx (a5J (d4 (aC (.int 60)) (d4 (aOp a8K (aC (.int 10)) (aC (.int 6))) (d4 (aOp a8K (aC (.int 10)) (aC (.int 6))) p8)))) (k9 d7 (d4 (i9 0) (d4 (aC (.int 3)) p8)))))
 (a0I (a2I 3 (k9 a0P (d4 (i9 0) (d4 (aOp gIx (a5J (d4 (i9 2) (d4 (aOp a8K (aC (.int 10)) (aC (.int 9))) p8))) (k9 d7 (d4 (i9 0) (d4 (aC (.int 2)) p8)))) p8))))
 (a0I (a2I 4 (aOp gIx (a5J (d4 (aC (.int 40)) (d4 (aOp a8K (aC (.int 10)) (aC (.int 4))) (d4 (aOp a8K (aC (.int 10)) (aC (.int 6))) (d4 (aOp a8K (aC (.int 10)) (aC (.int 12))) p8))))) (k9 d7 (d4 (i9 0) (d4 (aC (.int 4)) p8)))))
 (a2w (a7H (d4 (i9 3) (d4 (k9 a1M (d4 (i9 0) (d4 (i9 3) (d4 (i9 1) (d4 (i9 4) (d4 (i9 2) (d4 (aC (.int 8)) p8))))))) (d4 (i9 1) p8)))))))))
theorem b3y {w:i6} {K:b0} (W:WX):SS K W (a8g w K) a3Q :=
 (m4 (w3 (i5 (c7 c9 (c7 (f6 y9 d5 (i5 (c7 c9 (c7 d5 d9)))) d9))))
 (m4 (w3 (f6 v3 (a0x (c7 d5 (c7 (f6 a1q d5 d5) (c7 (f6 a1q d5 d5) d9)))) (i5 (c7 c9 (c7 d5 d9)))))
 (m4 (w3 (i5 (c7 c9 (c7 (f6 v3 (a0x (c7 c9 (c7 (f6 a1q d5 d5) d9))) (i5 (c7 c9 (c7 d5 d9)))) d9))))
 (m4 (w3 (f6 v3 (a0x (c7 d5 (c7 (f6 a1q d5 d5) (c7 (f6 a1q d5 d5) (c7 (f6 a1q d5 d5) d9))))) (i5 (c7 c9 (c7 d5 d9)))))
 (t9 (a1l (c7 c9 (c7 (i5 (c7 c9 (c7 c9 (c7 c9 (c7 c9 (c7 c9 (c7 d5 d9))))))) (c7 c9 d9)))))))))
def a1Y:Ct:=a0X
theorem b1B (ρ:List AV) (P:RV → List AV → Prop) (PX:PXT) (h:a1Y ρ P PX):ρ.length = 1:=by
 obtain ⟨_,_,rfl,_⟩:=h
 rfl
theorem b0M (ρ:List AV) (P:RV → List AV → Prop) (PX:PXT) (h:a1Y ρ P PX):a3Q { nx:=fun ρ'=>P (.dat .none) ρ',rt:=P,ex:=PX } (ρ ++ g5 (a5e.length - ρ.length) .un):=by
 have eN:a5e.length = 5:=rfl
 obtain ⟨a,b,rfl,hd,h⟩:=h
 unfold a3Q
 simp only [eN]
 walk_at "ax"
 refine a05 hd (by decide) (by decide) rfl fun k a1 b1 l1 u1 hd1=>?_
 walk_at "ax"
 refine c6z hd1 (by omega) (by omega) rfl fun crew a2 b2 e1 e2 e3 e4 hd2=>?_
 walk_at "ax"
 refine ⟨a4P (by decide) (by decide) (by decide),a05 hd2 (by decide) (by decide) rfl fun k2 a3 b3 l3 u3 hd3=>?_⟩
 obtain ⟨z,hz,ez⟩:=a2E (xs:=[m7 60,m7 1000000,m7 1000000]) l3 (by simpa using u3)
 walk_at "ao"
 rw [ez]
 obtain ⟨great,rfl,hg⟩:∃ t:Int,z = .int t ∧ 1 ≤ t ∧ t ≤ 1000000:=by
  simp at hz
  rcases hz with rfl | rfl <;> exact ⟨_,rfl,by omega,by omega⟩
 walk_at "ax"
 refine ⟨a4P (by decide) (by decide) (by decide),a05 hd3 (by decide) (by decide) rfl fun k3 a4 b4 l4 u4 hd4=>?_⟩
 obtain ⟨z,hz,ez⟩:=a2E (xs:=[m7 great,m7 1000000000]) l4 (by simpa using u4)
 walk_at "ao"
 rw [ez]
 obtain ⟨gr,rfl,hgr⟩:∃ t:Int,z = .int t ∧ 1 ≤ t ∧ t ≤ 1000000000:=by
  simp at hz
  rcases hz with rfl | rfl <;> exact ⟨_,rfl,by omega,by omega⟩
 walk_at "ax"
 refine ⟨a4,b4,gr,rfl,hd4,by omega,by omega,fun A a5 b5 ρ' hA hd5 ho=>?_⟩
 rw [a5p,a1g ho]
 walk_at "ax"
 refine ⟨a4P (by decide) (by decide) (by decide),a4P (by decide) (by decide) (by decide),a4P (by decide) (by decide) (by decide),a05 hd5 (by decide) (by decide) rfl fun k4 a6 b6 l6 u6 hd6=>?_⟩
 obtain ⟨z,hz,ez⟩:=a2E (xs:=[m7 40,m7 10000,m7 1000000,m7 1000000000000]) l6 (by simpa using u6)
 walk_at "ao"
 rw [ez]
 obtain ⟨far,rfl,hf⟩:∃ t:Int,z = .int t ∧ 0 ≤ t ∧ t ≤ 1000000000000:=by
  simp at hz
  rcases hz with rfl | rfl | rfl | rfl <;> exact ⟨_,rfl,by omega,by omega⟩
 walk_at "ax"
 walk_at "fw"
 refine ⟨a6,b6,far,great,8,A,crew,rfl,hd6,hA.ok,by omega,by omega,e2,by omega,by omega,by omega,by omega,by decide,by decide,fun ps a4 b4 ρ' hB hd4 ho=>?_⟩
 rw [a90,a1g ho]
 walk_at "ax"
 exact h A ps crew a4 b4 _ (hA.mono (by omega)) hB ⟨⟨by omega,by omega⟩,e2,e3,e4⟩ hd4 rfl
def a9L:List Str:=["draws"]
def b05 (w:i6) (K:b0):TS :=
 (a3I (r8 (spOf K a1Y) [] E0 (d3 (i3 0) p7)))
def a6W:ASt :=
 (a2w (k9 a1Y (d4 (i9 0) p8)))
theorem b6s {w:i6} {K:b0} (W:WX):SS K W (b05 w K) a6W :=
 (t9 (i5 (c7 c9 d9)))
def b5d (w:i6) (K:b0):TS :=
 (a1a (a6k (a1L (tOp (c1V K) (r8 (spOf K d7) [] E0 (d3 (i3 0) (d3 (tC (.int 2)) p7))) (tC (.int 0)))) (a3I (r8 (spOf K a0X) [] E0 (d3 (i3 0) p7))) a2k)
 (b05 w K))
def a6V:ASt :=
 (a0I (sIf (a4J (aOp gEq (k9 d7 (d4 (i9 0) (d4 (aC (.int 2)) p8))) (aC (.int 0)))) (a2w (k9 a0X (d4 (i9 0) p8))) a1D)
 a6W)
theorem c1d {w:i6} {K:b0} (W:WX):SS K W (b5d w K) a6V :=
 (m4 (a06 (w6 (f6 a33 (i5 (c7 c9 (c7 d5 d9))) d5)) (t9 (i5 (c7 c9 d9))) y4)
 (b6s  W))
def a2F:Ct:=a0X
theorem b9d (ρ:List AV) (P:RV → List AV → Prop) (PX:PXT) (h:a2F ρ P PX):ρ.length = 1:=by
 obtain ⟨_,_,rfl,_⟩:=h
 rfl
theorem b6n (ρ:List AV) (P:RV → List AV → Prop) (PX:PXT) (h:a2F ρ P PX):a6V { nx:=fun ρ'=>P (.dat .none) ρ',rt:=P,ex:=PX } (ρ ++ g5 (a9L.length - ρ.length) .un):=by
 have eN:a9L.length = 1:=rfl
 obtain ⟨a,b,rfl,hd,h⟩:=h
 unfold a6V
 simp only [eN]
 walk_at "ax"
 refine a05 hd (by decide) (by decide) rfl fun k a1 b1 l1 u1 hd1=>?_
 walk_at "ax"
 split
 ·refine ⟨a1,b1,rfl,hd1,fun A ps crew a2 b2 ρ' hA hB hC hd2 ho=>?_⟩
  rw [a5p,a1g ho]
  walk_at "ax"
  exact h A ps crew a2 b2 _ hA hB hC hd2 rfl
 ·unfold a6W
  walk_at "ax"
  refine ⟨a1,b1,rfl,hd1,fun A ps crew a2 b2 ρ' hA hB hC hd2 ho=>?_⟩
  rw [a5p,a1g ho]
  walk_at "ax"
  exact h A ps crew a2 b2 _ hA hB hC hd2 rfl
end Cw
namespace Cw
open PySem L2 Aq
local macro_rules | `(tactic| walk_at "ax")=>`(tactic| simp? [a1h])
def leI:c8 → c8 → Bool
 | .int a,.int b=>decide (a ≤ b)
 | _,_=>false
def a5T (A:Art):c8 → Bool
 | .str s=>decide (s ∈ A.ranks.map (·.1))
 | _=>false
def a32 (d:c8):Bool:=a0e d 0 1000000000000
def pgL (A:Art) (w:Str) (x y:c8):List c8 → Bool
 | []=>if w = "lost" then a32 x && (a32 y && leI y x) else if w = "leaves" then v0 x && a32 y else false
 | [z]=>if w = "joins" ∨ w = "ranked" then v0 x && (a32 y && a5T A z) else if w = "away" then v0 x && (a32 y && (a32 z && leI y z)) else if w = "fine" then v0 x && (a32 y && a0e z 1 1000000000) else false
 | [z,u]=>if w = "advance" ∨ w = "slops" then v0 x && (a32 y && (a0e z 1 1000000000 && v0 u)) else false
 | [z,u,v]=>if w = "home" then v0 x && (a32 y && (a0e z 1 1000000000 && (a0e u 1 1000000 && v0 v))) else false
 | _=>false
def a85 (A:Art):c8 → Bool
 | .tuple (.str w :: x :: y :: r)=>pgL A w x y r
 | _=>false
def LEN:List (Str × Int):=[("joins",4),("ranked",4),("leaves",3),("away",4),("advance",5),("home",6),("slops",5),("fine",4),("lost",3)]
/-- the nine words -/
inductive Word:Str → Nat → Prop
 | joins:Word "joins" 1
 | ranked:Word "ranked" 1
 | leaves:Word "leaves" 0
 | away:Word "away" 1
 | advance:Word "advance" 2
 | home:Word "home" 3
 | slops:Word "slops" 2
 | fine:Word "fine" 1
 | lost:Word "lost" 0
theorem b78 (w:Str):(∃ n,Word w n ∧ b5o LEN w = some ((n:Int) + 3)) ∨ (b5o LEN w = none ∧ ∀ n,¬ Word w n):=by
 by_cases h1:w = "joins"
 ·subst h1; exact .inl ⟨_,.joins,by simp [b5o,LEN,o9]⟩
 by_cases h2:w = "ranked"
 ·subst h2; exact .inl ⟨_,.ranked,by simp [b5o,LEN,o9]⟩
 by_cases h3:w = "leaves"
 ·subst h3; exact .inl ⟨_,.leaves,by simp [b5o,LEN,o9]⟩
 by_cases h4:w = "away"
 ·subst h4; exact .inl ⟨_,.away,by simp [b5o,LEN,o9]⟩
 by_cases h5:w = "advance"
 ·subst h5; exact .inl ⟨_,.advance,by simp [b5o,LEN,o9]⟩
 by_cases h6:w = "home"
 ·subst h6; exact .inl ⟨_,.home,by simp [b5o,LEN,o9]⟩
 by_cases h7:w = "slops"
 ·subst h7; exact .inl ⟨_,.slops,by simp [b5o,LEN,o9]⟩
 by_cases h8:w = "fine"
 ·subst h8; exact .inl ⟨_,.fine,by simp [b5o,LEN,o9]⟩
 by_cases h9:w = "lost"
 ·subst h9; exact .inl ⟨_,.lost,by simp [b5o,LEN,o9]⟩
 refine .inr ⟨?_,fun n h=>?_⟩
 ·simp only [b5o,LEN,d1T,List.find?_eq_none]
  intro p hp
  simp at hp
  simp only [decide_eq_true_eq]
  rcases hp with rfl | rfl | rfl | rfl | rfl | rfl | rfl | rfl | rfl <;> exact fun e=>absurd e.symm (by assumption)
 ·cases h <;> contradiction
theorem c6I {A:Art} {w:Str} {x y:c8} {r:List c8} (h:∀ n,Word w n → n ≠ r.length):pgL A w x y r = false:=by
 have k:∀ z n,Word z n → n = r.length → w ≠ z:=fun z n hz hn e=>by subst e; exact h n hz hn
 match r,k with
 | [],k =>
  have k1:=k _ _ .lost rfl
  have k2:=k _ _ .leaves rfl
  simp [pgL,k1,k2]
 | [z],k =>
  have k1:=k _ _ .joins rfl
  have k2:=k _ _ .ranked rfl
  have k3:=k _ _ .away rfl
  have k4:=k _ _ .fine rfl
  simp [pgL,k1,k2,k3,k4]
 | [z,u],k =>
  have k1:=k _ _ .advance rfl
  have k2:=k _ _ .slops rfl
  simp [pgL,k1,k2]
 | [z,u,v],k =>
  have k1:=k _ _ .home rfl
  simp [pgL,k1]
 | _ :: _ :: _ :: _ :: _,k=>rfl
def b8Y:List Str:=["thing"]
def c3U (w:i6) (K:b0):TS :=
 (a3I (r8 (spOf K w9) [] E0 (d3 (i3 0) (d3 (tC (.int 0)) (d3 (tC (.int 1000000000000)) p7)))))
def b32:ASt :=
 (a2w (k9 w9 (d4 (i9 0) (d4 (aC (.int 0)) (d4 (aC (.int 1000000000000)) p8)))))
theorem c60 {w:i6} {K:b0} (W:WX):SS K W (c3U w K) b32 :=
 (t9 (i5 (c7 c9 (c7 d5 (c7 d5 d9)))))
def a3c:Ct:=fun ρ P _=>∃ d,ρ = [.dat d] ∧ ∀ ρ',P (.dat (.bool (a32 d))) ρ'
theorem c4o (ρ:List AV) (P:RV → List AV → Prop) (PX:PXT) (h:a3c ρ P PX):ρ.length = 1:=by
 obtain ⟨_,rfl,_⟩:=h
 rfl
theorem c2I (ρ:List AV) (P:RV → List AV → Prop) (PX:PXT) (h:a3c ρ P PX):b32 { nx:=fun ρ'=>P (.dat .none) ρ',rt:=P,ex:=PX } (ρ ++ g5 (b8Y.length - ρ.length) .un):=by
 have eN:b8Y.length = 1:=rfl
 obtain ⟨d,rfl,h⟩:=h
 unfold b32
 simp only [eN]
 walk_at "ax"
 refine ⟨d,_,_,rfl,fun ρ'=>?_⟩
 walk_at "ax"
 exact h _
/-- what is asked of a thing -/
def b2m (t:c8):Prop:=okD t = true ∧ t.depth ≤ 60
theorem b2m.sub {ds:List c8} (h:b2m (.tuple ds)) {d:c8} (hd:d ∈ ds):b2m d:=by
 have:=a0t.tup (b:=10000) (n:=59) ⟨h.1,h.2⟩
 have:=this.2 d hd
 exact ⟨this.1,a0f this.2 (by decide)⟩
theorem b2m.shp {d:c8} (h:b2m d):a0k d = true:=a0t.shp (b:=10000) (n:=60) h (by decide)
theorem b2m.okS {d:c8} (h:b2m d):okS d:=c9v h.1
def a1O (w:Str):List c8 → Bool
 | [z]=>a0e z 1 1000000000
 | [z,u]=>a0e z 1 1000000000 && v0 u
 | [z,u,v]=>a0e z 1 1000000000 && (a0e u 1 1000000 && v0 v)
 | _=>false
def a6S:List Str:=["page"]
def a8l (w:i6) (K:b0):TS :=
 (a3I (tOrT K (tOp (c1V K) (tOp (rIx K) (i3 0) (tC (.int 0))) (tC (.str "fine"))) (r8 (spOf K a1C) [] E0 (d3 (tOp (rIx K) (i3 0) (tC (.int 4))) p7))))
def a2D:ASt :=
 (a2w (aOrT (aOp gEq (aOp gIx (i9 0) (aC (.int 0))) (aC (.str "fine"))) (k9 a1C (d4 (aOp gIx (i9 0) (aC (.int 4))) p8))))
theorem b3D {w:i6} {K:b0} (W:WX):SS K W (a8l w K) a2D :=
 (t9 (c9g (f6 a33 (f6 v3 c9 d5) t6) (i5 (c7 (f6 v3 c9 d5) d9))))
def a8m (w:i6) (K:b0):TS :=
 (a1a (a6k (a1L (tOp (c1V K) (tOp (rIx K) (i3 0) (tC (.int 0))) (tC (.str "home")))) (a3I (b3k K (r8 (spOf K w9) [] E0 (d3 (tOp (rIx K) (i3 0) (tC (.int 4))) (d3 (tC (.int 1)) (d3 (tC (.int 1000000)) p7)))) (r8 (spOf K a1C) [] E0 (d3 (tOp (rIx K) (i3 0) (tC (.int 5))) p7)))) a2k)
 (a8l w K))
def a1X:ASt :=
 (a0I (sIf (a4J (aOp gEq (aOp gIx (i9 0) (aC (.int 0))) (aC (.str "home")))) (a2w (a6T (k9 w9 (d4 (aOp gIx (i9 0) (aC (.int 4))) (d4 (aC (.int 1)) (d4 (aC (.int 1000000)) p8)))) (k9 a1C (d4 (aOp gIx (i9 0) (aC (.int 5))) p8)))) a1D)
 a2D)
theorem b3E {w:i6} {K:b0} (W:WX):SS K W (a8m w K) a1X :=
 (m4 (a06 (w6 (f6 a33 (f6 v3 c9 d5) t6)) (t9 (a2G (i5 (c7 (f6 v3 c9 d5) (c7 d5 (c7 d5 d9)))) (i5 (c7 (f6 v3 c9 d5) d9)))) y4)
 (b3D  W))
def b1c (w:i6) (K:b0):TS :=
 (a1a (a6k (b8X (a6M K (r8 (spOf K w9) [] E0 (d3 (tOp (rIx K) (i3 0) (tC (.int 3))) (d3 (tC (.int 1)) (d3 (tC (.int 1000000000)) p7)))))) (a3I (tC (.bl false))) a2k)
 (a8m w K))
def a42:ASt :=
 (a0I (sIf (a8F (a6U (k9 w9 (d4 (aOp gIx (i9 0) (aC (.int 3))) (d4 (aC (.int 1)) (d4 (aC (.int 1000000000)) p8)))))) (a2w (aC (.bool false))) a1D)
 a1X)
theorem b6z {w:i6} {K:b0} (W:WX):SS K W (b1c w K) a42 :=
 (m4 (a06 (a1r (a04 (i5 (c7 (f6 v3 c9 d5) (c7 d5 (c7 d5 d9)))))) (t9 a3E) y4)
 (b3E  W))
def a2N:Ct:=fun ρ P _=>∃ w x y r,ρ = [.dat (.tuple (.str w :: x :: y :: r))] ∧ b2m (.tuple (.str w :: x :: y :: r)) ∧ ((w = "fine" ∧ r.length = 1) ∨ ((w = "advance" ∨ w = "slops") ∧ r.length = 2) ∨ (w = "home" ∧ r.length = 3)) ∧ ∀ ρ',P (.dat (.bool (a1O w r))) ρ'
theorem b4C (ρ:List AV) (P:RV → List AV → Prop) (PX:PXT) (h:a2N ρ P PX):ρ.length = 1:=by
 obtain ⟨_,_,_,_,rfl,_⟩:=h
 rfl
theorem b3w (ρ:List AV) (P:RV → List AV → Prop) (PX:PXT) (h:a2N ρ P PX):a42 { nx:=fun ρ'=>P (.dat .none) ρ',rt:=P,ex:=PX } (ρ ++ g5 (a6S.length - ρ.length) .un):=by
 have eN:a6S.length = 1:=rfl
 obtain ⟨w,x,y,r,rfl,ht,hw,h⟩:=h
 unfold a42
 simp only [eN]
 have hz:∀ z ∈ r,b2m z:=fun z hz=>ht.sub (by simp [hz])
 have pr:∀ a b:Bool,a1O w r = (a && b) → (b = true → a = true → ∀ ρ',P (.dat (.bool true)) ρ'):=fun a b e h1 h2 ρ'=>by
  have:=h ρ'
  rw [e,h1,h2] at this
  exact this
 rcases hw with ⟨rfl,hl⟩ | ⟨hw,hl⟩ | ⟨rfl,hl⟩
 ·match r,hl with
  | [z],_ =>
   walk_at "ax"
   refine ⟨_,_,_,rfl,fun ρ'=>?_⟩
   cases e:a0e z 1 1000000000 with
   | false=>walk_at "ax"; have:=h; simp only [a1O,e] at this; exact this _
   | true=>walk_at "ax"; unfold a1X; walk_at "ax"; unfold a2D; walk_at "ax"; have:=h; simp only [a1O,e] at this; exact this _
 ·match r,hl with
  | [z,u],_ =>
   have hu:=hz u (by simp)
   rcases hw with rfl | rfl
   ·walk_at "ax"
    refine ⟨_,_,_,rfl,fun ρ'=>?_⟩
    cases e:a0e z 1 1000000000 with
    | false=>walk_at "ax"; have:=h; simp only [a1O,e] at this; exact this _
    | true=>walk_at "ax"; unfold a1X; walk_at "ax"; unfold a2D; walk_at "ax"; refine ⟨_,rfl,hu.okS,fun ρ'=>?_⟩; walk_at "ax"; have:=h; simp only [a1O,e,y0] at this; exact this _
   ·walk_at "ax"
    refine ⟨_,_,_,rfl,fun ρ'=>?_⟩
    cases e:a0e z 1 1000000000 with
    | false=>walk_at "ax"; have:=h; simp only [a1O,e] at this; exact this _
    | true=>walk_at "ax"; unfold a1X; walk_at "ax"; unfold a2D; walk_at "ax"; refine ⟨_,rfl,hu.okS,fun ρ'=>?_⟩; walk_at "ax"; have:=h; simp only [a1O,e,y0] at this; exact this _
 ·match r,hl with
  | [z,u,v],_ =>
   have hu:=hz v (by simp)
   walk_at "ax"
   refine ⟨_,_,_,rfl,fun ρ'=>?_⟩
   cases e:a0e z 1 1000000000 with
   | false=>walk_at "ax"; have:=h; simp only [a1O,e] at this; exact this _
   | true =>
    walk_at "ax"; unfold a1X; walk_at "ax"
    refine ⟨_,_,_,rfl,fun ρ'=>?_⟩
    cases e2:a0e u 1 1000000 with
    | false=>walk_at "ax"; have:=h; simp only [a1O,e,e2,y0] at this; exact this _
    | true =>
     walk_at "ax"
     refine ⟨_,rfl,hu.okS,fun ρ'=>?_⟩; walk_at "ax"; have:=h; simp only [a1O,e,e2,y0] at this; exact this _
def b0r:List Str:=["articles", "thing", "row"]
def b5g (w:i6) (K:b0) (W:WX) (ev:Str → m6):TS :=
 (a3I (r8 (spOf K a2N) [] E0 (d3 (i3 1) p7)))
def a4e (ev:Str → m6):ASt :=
 (a2w (k9 a2N (d4 (i9 1) p8)))
theorem c1g {w:i6} {K:b0} {ev:Str → m6} (a0E:IsiOk K "str") (j9:IsiOk K "tuple") (a2f:c39 K (a0F K "TURNS") ["joins", "ranked", "leaves"]) (W:WX):SS K W (b5g w K W ev) (a4e ev) :=
 (t9 (i5 (c7 c9 d9)))
def b5h (w:i6) (K:b0) (W:WX) (ev:Str → m6):TS :=
 (a1a (a6k (a1L (tOp (c8z K) (tOp (rIx K) (i3 1) (tC (.int 0))) (tC (.ref (a0F K "TURNS"))))) (a3I (tOp (c8z K) (tOp (rIx K) (i3 1) (tC (.int 3))) (tLc (b68 K (tOp (rIx K) (i3 0) (tC (.int 0)))) (t8 2) c18 (tOp (rIx K) (i3 2) (tC (.int 0))) [2]))) a2k)
 (b5g w K W ev))
def a2B (ev:Str → m6):ASt :=
 (a0I (sIf (a4J (aOp (gIn false) (aOp gIx (i9 1) (aC (.int 0))) (aC (.tuple [.str "joins",.str "ranked",.str "leaves"])))) (a2w (aOp (gIn false) (aOp gIx (i9 1) (aC (.int 3))) (aLc (a6m (aOp gIx (i9 0) (aC (.int 0)))) [2] (gN 2) c0f (aOp gIx (i9 2) (aC (.int 0)))))) a1D)
 (a4e ev))
theorem c1h {w:i6} {K:b0} {ev:Str → m6} (a0E:IsiOk K "str") (j9:IsiOk K "tuple") (a2f:c39 K (a0F K "TURNS") ["joins", "ranked", "leaves"]) (W:WX):SS K W (b5h w K W ev) (a2B ev) :=
 (m4 (a06 (w6 (f6 c40 (f6 v3 c9 d5) (c96 a2f))) (t9 (f6 c40 (f6 v3 c9 d5) (a7X (a34 (f6 v3 c9 d5)) a0p a52 (f6 v3 c9 d5) (by decide)))) y4)
 (c1g  a0E j9 a2f W))
def b5i (w:i6) (K:b0) (W:WX) (ev:Str → m6):TS :=
 (a1a (a6k (a1L (tOp (c1V K) (tOp (rIx K) (i3 1) (tC (.int 0))) (tC (.str "away")))) (a3I (b3k K (r8 (spOf K a3c) [] E0 (d3 (tOp (rIx K) (i3 1) (tC (.int 3))) p7)) (tOp c6L (tOp (rIx K) (i3 1) (tC (.int 2))) (tOp (rIx K) (i3 1) (tC (.int 3)))))) a2k)
 (b5h w K W ev))
def a2C (ev:Str → m6):ASt :=
 (a0I (sIf (a4J (aOp gEq (aOp gIx (i9 1) (aC (.int 0))) (aC (.str "away")))) (a2w (a6T (k9 a3c (d4 (aOp gIx (i9 1) (aC (.int 3))) p8)) (aOp gLe (aOp gIx (i9 1) (aC (.int 2))) (aOp gIx (i9 1) (aC (.int 3)))))) a1D)
 (a2B ev))
theorem c1i {w:i6} {K:b0} {ev:Str → m6} (a0E:IsiOk K "str") (j9:IsiOk K "tuple") (a2f:c39 K (a0F K "TURNS") ["joins", "ranked", "leaves"]) (W:WX):SS K W (b5i w K W ev) (a2C ev) :=
 (m4 (a06 (w6 (f6 a33 (f6 v3 c9 d5) t6)) (t9 (a2G (i5 (c7 (f6 v3 c9 d5) d9)) (f6 a4A (f6 v3 c9 d5) (f6 v3 c9 d5)))) y4)
 (c1h  a0E j9 a2f W))
def b5j (w:i6) (K:b0) (W:WX) (ev:Str → m6):TS :=
 (a1a (a6k (a1L (tOp (c1V K) (tOp (rIx K) (i3 1) (tC (.int 0))) (tC (.str "leaves")))) (a3I (tC (.bl true))) a2k)
 (b5i w K W ev))
def a1A (ev:Str → m6):ASt :=
 (a0I (sIf (a4J (aOp gEq (aOp gIx (i9 1) (aC (.int 0))) (aC (.str "leaves")))) (a2w (aC (.bool true))) a1D)
 (a2C ev))
theorem c1j {w:i6} {K:b0} {ev:Str → m6} (a0E:IsiOk K "str") (j9:IsiOk K "tuple") (a2f:c39 K (a0F K "TURNS") ["joins", "ranked", "leaves"]) (W:WX):SS K W (b5j w K W ev) (a1A ev) :=
 (m4 (a06 (w6 (f6 a33 (f6 v3 c9 d5) t6)) (t9 a3E) y4)
 (c1i  a0E j9 a2f W))
def b5k (w:i6) (K:b0) (W:WX) (ev:Str → m6):TS :=
 (a1a (a6k (tOr (b8X (a6M K (r8 (spOf K a1C) [] E0 (d3 (tOp (rIx K) (i3 1) (tC (.int 1))) p7)))) (b8X (a6M K (r8 (spOf K a3c) [] E0 (d3 (tOp (rIx K) (i3 1) (tC (.int 2))) p7))))) (a3I (tC (.bl false))) a2k)
 (b5j w K W ev))
def a63 (ev:Str → m6):ASt :=
 (a0I (sIf (aOr (a8F (a6U (k9 a1C (d4 (aOp gIx (i9 1) (aC (.int 1))) p8)))) (a8F (a6U (k9 a3c (d4 (aOp gIx (i9 1) (aC (.int 2))) p8))))) (a2w (aC (.bool false))) a1D)
 (a1A ev))
theorem c1k {w:i6} {K:b0} {ev:Str → m6} (a0E:IsiOk K "str") (j9:IsiOk K "tuple") (a2f:c39 K (a0F K "TURNS") ["joins", "ranked", "leaves"]) (W:WX):SS K W (b5k w K W ev) (a63 ev) :=
 (m4 (a06 (a6b (a1r (a04 (i5 (c7 (f6 v3 c9 d5) d9)))) (a1r (a04 (i5 (c7 (f6 v3 c9 d5) d9))))) (t9 a3E) y4)
 (c1j  a0E j9 a2f W))
def b5l (w:i6) (K:b0) (W:WX) (ev:Str → m6):TS :=
 (a1a (a6k (a1L (tOp (c1V K) (tOp (rIx K) (i3 1) (tC (.int 0))) (tC (.str "lost")))) (a3I (b3k K (r8 (spOf K a3c) [] E0 (d3 (tOp (rIx K) (i3 1) (tC (.int 1))) p7)) (b3k K (r8 (spOf K a3c) [] E0 (d3 (tOp (rIx K) (i3 1) (tC (.int 2))) p7)) (tOp c6L (tOp (rIx K) (i3 1) (tC (.int 2))) (tOp (rIx K) (i3 1) (tC (.int 1))))))) a2k)
 (b5k w K W ev))
def a9O (ev:Str → m6):ASt :=
 (a0I (sIf (a4J (aOp gEq (aOp gIx (i9 1) (aC (.int 0))) (aC (.str "lost")))) (a2w (a6T (k9 a3c (d4 (aOp gIx (i9 1) (aC (.int 1))) p8)) (a6T (k9 a3c (d4 (aOp gIx (i9 1) (aC (.int 2))) p8)) (aOp gLe (aOp gIx (i9 1) (aC (.int 2))) (aOp gIx (i9 1) (aC (.int 1))))))) a1D)
 (a63 ev))
theorem c1l {w:i6} {K:b0} {ev:Str → m6} (a0E:IsiOk K "str") (j9:IsiOk K "tuple") (a2f:c39 K (a0F K "TURNS") ["joins", "ranked", "leaves"]) (W:WX):SS K W (b5l w K W ev) (a9O ev) :=
 (m4 (a06 (w6 (f6 a33 (f6 v3 c9 d5) t6)) (t9 (a2G (i5 (c7 (f6 v3 c9 d5) d9)) (a2G (i5 (c7 (f6 v3 c9 d5) d9)) (f6 a4A (f6 v3 c9 d5) (f6 v3 c9 d5))))) y4)
 (c1k  a0E j9 a2f W))
def b5m (w:i6) (K:b0) (W:WX) (ev:Str → m6):TS :=
 (a1a (a6k (a1L (tOp (rNeD K) (c61 [("joins",4),("ranked",4),("leaves",3),("away",4),("advance",5),("home",6),("slops",5),("fine",4),("lost",3)] 0 (tOp (rIx K) (i3 1) (tC (.int 0)))) (tCB (a4R K) (d3 (i3 1) p7)))) (a3I (tC (.bl false))) a2k)
 (b5l w K W ev))
def a9P (ev:Str → m6):ASt :=
 (a0I (sIf (a4J (aOp gNe (c5X [("joins",4),("ranked",4),("leaves",3),("away",4),("advance",5),("home",6),("slops",5),("fine",4),("lost",3)] 0 (aOp gIx (i9 1) (aC (.int 0)))) (aCB b4u (d4 (i9 1) p8)))) (a2w (aC (.bool false))) a1D)
 (a9O ev))
theorem c1m {w:i6} {K:b0} {ev:Str → m6} (a0E:IsiOk K "str") (j9:IsiOk K "tuple") (a2f:c39 K (a0F K "TURNS") ["joins", "ranked", "leaves"]) (W:WX):SS K W (b5m w K W ev) (a9P ev) :=
 (m4 (a06 (w6 (f6 c06 (c8c (f6 v3 c9 d5)) (a10 a3W (c7 c9 d9)))) (t9 a3E) y4)
 (c1l  a0E j9 a2f W))
def c1s (w:i6) (K:b0) (W:WX) (ev:Str → m6):TS :=
 (a1a (c17 (tCallS (spOf K (a0Q ev)) (WE W) (d3 (i3 0) p7)))
 (a1a (a6k (tOr (b8X (a6M K (b6a K "tuple" (i3 1)))) (tOr (a1L (tOp c7R (tCB (a4R K) (d3 (i3 1) p7)) (tC (.int 3)))) (b8X (a6M K (b6a K "str" (tOp (rIx K) (i3 1) (tC (.int 0)))))))) (a3I (tC (.bl false))) a2k)
 (b5m w K W ev)))
def b0t (ev:Str → m6):ASt :=
 (a0I (a9a (c4b (a0Q ev) (d4 (i9 0) p8)))
 (a0I (sIf (aOr (a8F (a6U (b58 "tuple" (i9 1)))) (aOr (a4J (aOp gLt (aCB b4u (d4 (i9 1) p8)) (aC (.int 3)))) (a8F (a6U (b58 "str" (aOp gIx (i9 1) (aC (.int 0)))))))) (a2w (aC (.bool false))) a1D)
 (a9P ev)))
theorem c47 {w:i6} {K:b0} {ev:Str → m6} (a0E:IsiOk K "str") (j9:IsiOk K "tuple") (a2f:c39 K (a0F K "TURNS") ["joins", "ranked", "leaves"]) (W:WX):SS K W (c1s w K W ev) (b0t ev) :=
 (m4 (a3X (b34 (c7 c9 d9)))
 (m4 (a06 (a6b (a1r (a04 (a3v j9 c9))) (a6b (w6 (f6 a4A (a10 a3W (c7 c9 d9)) d5)) (a1r (a04 (a3v a0E (f6 v3 c9 d5)))))) (t9 a3E) y4)
 (c1m  a0E j9 a2f W)))
def a1Z (ev:Str → m6):Ct:=fun ρ P PX=>∃ d t,ρ = [.dat d,.dat t] ∧ okD d = true ∧ b2m t ∧ (a2x d = false → ∀ ρ',PX (ev "NoArticles") none ρ') ∧ (a2x d = true → ∃ A:Art,A.Ok ∧ d = A.d ∧ ∀ ρ',P (.dat (.bool (a85 A t))) ρ')
theorem c2B (ev:Str → m6) (ρ:List AV) (P:RV → List AV → Prop) (PX:PXT) (h:a1Z ev ρ P PX):ρ.length = 2:=by
 obtain ⟨_,_,rfl,_⟩:=h
 rfl
theorem c0Z (ev:Str → m6) {D:AEnds} {a:AV} {w:Str} {x y:c8} {r:List c8} (ht:b2m (.tuple (.str w :: x :: y :: r))) (k1:(v0 x && a32 y) = false → ∀ ρ',D.rt (.dat (.bool false)) ρ')
  (k2:v0 x = true → a32 y = true → a1A ev D [a,.dat (.tuple (.str w :: x :: y :: r)),.un]):a63 ev D [a,.dat (.tuple (.str w :: x :: y :: r)),.un]:=by
 have hx:b2m x:=ht.sub (by simp)
 unfold a63
 walk_at "ax"
 refine ⟨x,rfl,hx.okS,fun ρ'=>?_⟩
 cases e1:v0 x with
 | false =>
  walk_at "ax"
  exact k1 (by rw [e1]; rfl) _
 | true =>
  walk_at "ax"
  refine ⟨y,rfl,fun ρ'=>?_⟩
  cases e2:a32 y with
  | false =>
   walk_at "ax"
   exact k1 (by rw [e1,e2]; rfl) _
  | true =>
   walk_at "ax"
   exact k2 e1 e2
theorem b0z (w:Str):b0y (.str w) = true:=rfl
local macro_rules | `(tactic| walk_at "ax")=>`(tactic| simp? [b0z])
theorem b4j (A:Art) (z:c8):((A.ranks.map a2l).map b4t).any (fun y=>i7 y z) = a5T A z:=by
 rw [w7,List.any_map]
 have e:∀ l:List (Str × Int × Int),(l.any ((fun y=>i7 y z) ∘ (b4t ∘ a2l))) = l.any fun q=>i7 (.str q.1) z:=fun l=>rfl
 rw [e]
 cases z with
 | str s =>
  rw [a5T,c5K]
  simp [i7]
 | _=>simp [a5T,i7]
theorem c1b {A:Art} (hA:A.Ok):a0k (.list ((A.ranks.map a2l).map b4t)) = true:=by
 refine a0t.shp (b:=100) (n:=1) (a2H (n:=0) ?_ fun e he=>?_) (by decide)
 ·have:=hA.r2
  simp
  omega
 ·obtain ⟨y,hy,rfl⟩:=e7.mp he
  obtain ⟨r,hr,rfl⟩:=e7.mp hy
  exact a1N (hA.rn r hr)
/-- a turn: joining, ranked -/
theorem c00 (ev:Str → m6) {D:AEnds} {A:Art} (hA:A.Ok) {w:Str} {x y z:c8} (hz:b2m z) (hw:w = "joins" ∨ w = "ranked") (k:∀ ρ',D.rt (.dat (.bool (a5T A z))) ρ') :
  a1A ev D [.dat A.d,.dat (.tuple [.str w,x,y,z]),.un]:=by
 have r2:=hA.r2
 have go:a2B ev D [.dat A.d,.dat (.tuple [.str w,x,y,z]),.un]:=by
  unfold a2B Art.d
  rcases hw with rfl | rfl
  ·walk_at "ax"
   refine b6e (fun y'=>[.dat A.d,.dat (.tuple [.str "joins",x,y,z]),.dat y']) b4t _ _ ?_ ?_ ?_ ?_ ?_
   ·intro d _ k hk
    exact hk
   ·intro d _
    rfl
   ·intro d hd k hk
    obtain ⟨r,hr,rfl⟩:=e7.mp hd
    unfold a2l
    walk_at "ax"
    exact hk
   ·rw [a1I]
    simp
    omega
   ·rw [a1c]
    have sr:=c1b hA
    have ar:=b4j A z
    generalize (A.ranks.map a2l).map b4t = ns at sr ar ⊢
    walk_at "ax"
    refine ⟨hz.shp,sr,?_⟩
    rw [ar]
    exact k _
  ·walk_at "ax"
   refine b6e (fun y'=>[.dat A.d,.dat (.tuple [.str "ranked",x,y,z]),.dat y']) b4t _ _ ?_ ?_ ?_ ?_ ?_
   ·intro d _ k hk
    exact hk
   ·intro d _
    rfl
   ·intro d hd k hk
    obtain ⟨r,hr,rfl⟩:=e7.mp hd
    unfold a2l
    walk_at "ax"
    exact hk
   ·rw [a1I]
    simp
    omega
   ·rw [a1c]
    have sr:=c1b hA
    have ar:=b4j A z
    generalize (A.ranks.map a2l).map b4t = ns at sr ar ⊢
    walk_at "ax"
    refine ⟨hz.shp,sr,?_⟩
    rw [ar]
    exact k _
 unfold a1A
 rcases hw with rfl | rfl
 all_goals
  walk_at "ax"
  unfold a2C
  walk_at "ax"
  exact go
theorem c04 (ev:Str → m6) (ρ:List AV) (P:RV → List AV → Prop) (PX:PXT) (h:a1Z ev ρ P PX):b0t ev { nx:=fun ρ'=>P (.dat .none) ρ',rt:=P,ex:=PX } (ρ ++ g5 (b0r.length - ρ.length) .un):=by
 have eN:b0r.length = 3:=rfl
 obtain ⟨d,t,rfl,hd,ht,h1,h2⟩:=h
 unfold b0t
 simp only [eN]
 walk_at "ax"
 refine ⟨d,rfl,hd,fun ha ρ'=>?_,fun ha ρ'=>h1 ha _⟩
 obtain ⟨A,hA,rfl,h2'⟩:=h2 ha
 clear h2
 have h2:=h2'
 clear h2'
 walk_at "ax"
 have no:∀ t,a85 A t = false → ∀ ρ',(∀ ρ',P (.dat (.bool (a85 A t))) ρ') → P (.dat (.bool false)) ρ':=fun t e ρ' h=>by
  have:=h ρ'
  rw [e] at this
  exact this
 cases t with
 | tuple ds =>
  match ds,ht,h2 with
  | [],ht,h2=>walk_at "ax"; exact no _ rfl _ h2
  | [a],ht,h2=>walk_at "ax"; exact no _ (by cases a <;> rfl) _ h2
  | [a,b],ht,h2=>walk_at "ax"; exact no _ (by cases a <;> rfl) _ h2
  | a :: x :: y :: r,ht,h2 =>
   cases a with
   | str w =>
    walk_at "ax"
    rw [if_neg (by omega)]
    unfold a9P
    walk_at "ax"
    rw [show ([(m8 "joins",4),(m8 "ranked",4),(m8 "leaves",3),(m8 "away",4),(m8 "advance",5),(m8 "home",6),(m8 "slops",5),(m8 "fine",4),(m8 "lost",3)]:List (Str × Int)) = LEN from rfl]
    rcases b78 w with ⟨n,hw,e⟩ | ⟨e,hw⟩
    ·rw [e,Option.getD_some]
     split
     ·rename_i hl
      have hl:r.length = n:=by omega
      clear e
      have k1:∀ c,(∀ ρ',P (.dat (.bool (v0 x && (a32 y && c)))) ρ') → (v0 x && a32 y) = false → ∀ ρ',P (.dat (.bool false)) ρ':=fun c h e ρ'=>by
       have:=h ρ'
       rw [← Bool.and_assoc,e,a08] at this
       exact this
      have k2:∀ c,(∀ ρ',P (.dat (.bool (v0 x && (a32 y && c)))) ρ') → v0 x = true → a32 y = true → ∀ ρ',P (.dat (.bool c)) ρ':=fun c h e1 e2 ρ'=>by
       have:=h ρ'
       rw [e1,e2,y0,y0] at this
       exact this
      unfold a9O
      cases hw with
      | joins =>
       match r,hl with
       | [z],_ =>
        have h3:∀ ρ',P (.dat (.bool (v0 x && (a32 y && a5T A z)))) ρ':=by simpa [a85,pgL,o9,a1O] using h2
        walk_at "ax"
        refine c0Z ev ht (k1 _ h3) fun e1 e2=>?_
        have h4:=k2 _ h3 e1 e2
        exact c00 ev hA (ht.sub (by simp)) (.inl rfl) h4
      | ranked =>
       match r,hl with
       | [z],_ =>
        have h3:∀ ρ',P (.dat (.bool (v0 x && (a32 y && a5T A z)))) ρ':=by simpa [a85,pgL,o9,a1O] using h2
        walk_at "ax"
        refine c0Z ev ht (k1 _ h3) fun e1 e2=>?_
        have h4:=k2 _ h3 e1 e2
        exact c00 ev hA (ht.sub (by simp)) (.inr rfl) h4
      | leaves =>
       match r,hl with
       | [],_ =>
        have h3:∀ ρ',P (.dat (.bool (v0 x && (a32 y && true)))) ρ':=by simpa [a85,pgL,o9,a1O] using h2
        walk_at "ax"
        refine c0Z ev ht (k1 _ h3) fun e1 e2=>?_
        have h4:=k2 _ h3 e1 e2
        unfold a1A
        walk_at "ax"
        exact h4 _
      | away =>
       match r,hl with
       | [z],_ =>
        have h3:∀ ρ',P (.dat (.bool (v0 x && (a32 y && (a32 z && leI y z))))) ρ':=by simpa [a85,pgL,o9,a1O] using h2
        walk_at "ax"
        refine c0Z ev ht (k1 _ h3) fun e1 e2=>?_
        have h4:=k2 _ h3 e1 e2
        unfold a1A
        walk_at "ax"
        unfold a2C
        walk_at "ax"
        refine ⟨z,rfl,fun ρ'=>?_⟩
        cases e3:a32 z with
        | false =>
         rw [e3] at h4
         walk_at "ax"
         exact h4 _
        | true =>
         rw [e3] at h4
         obtain ⟨j,rfl,_⟩:=a4i e2
         obtain ⟨i,rfl,_⟩:=a4i e3
         walk_at "ax"
         exact h4 _
      | advance =>
       match r,hl with
       | [z,u],_ =>
        have h3:∀ ρ',P (.dat (.bool (v0 x && (a32 y && a1O "advance" [z,u])))) ρ':=by simpa [a85,pgL,o9,a1O] using h2
        walk_at "ax"
        refine c0Z ev ht (k1 _ h3) fun e1 e2=>?_
        have h4:=k2 _ h3 e1 e2
        unfold a1A
        walk_at "ax"
        unfold a2C
        walk_at "ax"
        unfold a2B
        walk_at "ax"
        unfold a4e
        walk_at "ax"
        refine ⟨_,_,_,_,rfl,ht,.inr (.inl ⟨.inl rfl,rfl⟩),fun ρ'=>?_⟩
        walk_at "ax"
        exact h4 _
      | home =>
       match r,hl with
       | [z,u,v],_ =>
        have h3:∀ ρ',P (.dat (.bool (v0 x && (a32 y && a1O "home" [z,u,v])))) ρ':=by simpa [a85,pgL,o9,a1O] using h2
        walk_at "ax"
        refine c0Z ev ht (k1 _ h3) fun e1 e2=>?_
        have h4:=k2 _ h3 e1 e2
        unfold a1A
        walk_at "ax"
        unfold a2C
        walk_at "ax"
        unfold a2B
        walk_at "ax"
        unfold a4e
        walk_at "ax"
        refine ⟨_,_,_,_,rfl,ht,.inr (.inr ⟨rfl,rfl⟩),fun ρ'=>?_⟩
        walk_at "ax"
        exact h4 _
      | slops =>
       match r,hl with
       | [z,u],_ =>
        have h3:∀ ρ',P (.dat (.bool (v0 x && (a32 y && a1O "slops" [z,u])))) ρ':=by simpa [a85,pgL,o9,a1O] using h2
        walk_at "ax"
        refine c0Z ev ht (k1 _ h3) fun e1 e2=>?_
        have h4:=k2 _ h3 e1 e2
        unfold a1A
        walk_at "ax"
        unfold a2C
        walk_at "ax"
        unfold a2B
        walk_at "ax"
        unfold a4e
        walk_at "ax"
        refine ⟨_,_,_,_,rfl,ht,.inr (.inl ⟨.inr rfl,rfl⟩),fun ρ'=>?_⟩
        walk_at "ax"
        exact h4 _
      | fine =>
       match r,hl with
       | [z],_ =>
        have h3:∀ ρ',P (.dat (.bool (v0 x && (a32 y && a1O "fine" [z])))) ρ':=by simpa [a85,pgL,o9,a1O] using h2
        walk_at "ax"
        refine c0Z ev ht (k1 _ h3) fun e1 e2=>?_
        have h4:=k2 _ h3 e1 e2
        unfold a1A
        walk_at "ax"
        unfold a2C
        walk_at "ax"
        unfold a2B
        walk_at "ax"
        unfold a4e
        walk_at "ax"
        refine ⟨_,_,_,_,rfl,ht,.inl ⟨rfl,rfl⟩,fun ρ'=>?_⟩
        walk_at "ax"
        exact h4 _
      | lost =>
       match r,hl with
       | [],_ =>
        have h3:∀ ρ',P (.dat (.bool (a32 x && (a32 y && leI y x)))) ρ':=by simpa [a85,pgL,o9,a1O] using h2
        walk_at "ax"
        refine ⟨x,rfl,fun ρ'=>?_⟩
        cases e2:a32 x with
        | false =>
         rw [e2] at h3
         walk_at "ax"
         exact h3 _
        | true =>
         rw [e2] at h3
         walk_at "ax"
         refine ⟨y,rfl,fun ρ'=>?_⟩
         cases e3:a32 y with
         | false =>
          rw [e3] at h3
          walk_at "ax"
          exact h3 _
         | true =>
          rw [e3] at h3
          obtain ⟨j,rfl,_⟩:=a4i e2
          obtain ⟨i,rfl,_⟩:=a4i e3
          walk_at "ax"
          exact h3 _
     ·rename_i hl
      exact no (.tuple (.str w :: x :: y :: r)) (c6I fun m hm=>by
       have:m = n:=by cases hw <;> cases hm <;> rfl
       omega) _ h2
    ·rw [e,Option.getD_none]
     rw [if_neg (by omega)]
     exact no (.tuple (.str w :: x :: y :: r)) (c6I fun m hm=>absurd hm (hw m)) _ h2
   | _ =>
    walk_at "ax"
    exact no _ rfl _ h2
 | _=>walk_at "ax"; exact no _ rfl _ h2
end Cw
namespace Cw
open PySem L2 Aq
local macro_rules | `(tactic| walk_at "ax")=>`(tactic| simp? [a1h])
theorem a45 {i:Int} (h:b0C i):a32 (.int i) = true:=a1K.mpr h
theorem Pg.Ok.is {A:Art} {p:Pg} (h:p.Ok A):a85 A p.d = true:=by
 cases p with
 | turn w m da r =>
  obtain ⟨h1,h2,h3,h4⟩:=h
  have h4:a5T A (.str r) = true:=by rw [a5T]; exact decide_eq_true h4
  have h3:=a45 h3
  simp [Pg.d,AqB.tupD,Pg.k,kD,a85,pgL,v0,h1,h2,h3,h4]
 | leaves m da =>
  obtain ⟨h2,h3⟩:=h
  have h3:=a45 h3
  simp [Pg.d,AqB.tupD,Pg.k,kD,a85,pgL,v0,o9,h2,h3]
 | away m da t =>
  obtain ⟨h2,h3,h4,h5⟩:=h
  have h6:=a45 (i:=t) ⟨d2h h3.1 h4,h5⟩
  have h3:=a45 h3
  simp [Pg.d,AqB.tupD,Pg.k,kD,a85,pgL,v0,o9,leI,h2,h3,h4,h6]
 | gave w m da pe b =>
  obtain ⟨h1,h2,h3,h4,h5⟩:=h
  have h3:=a45 h3
  have h4:=a1K.mpr h4
  simp [Pg.d,AqB.tupD,Pg.k,kD,a85,pgL,v0,o9,h1,h2,h3,h4,h5]
 | home m da pe t b =>
  obtain ⟨h2,h3,h4,h5,h6⟩:=h
  have h3:=a45 h3
  have h4:=a1K.mpr h4
  have h5:=a1K.mpr h5
  simp [Pg.d,AqB.tupD,Pg.k,kD,a85,pgL,v0,o9,h2,h3,h4,h5,h6]
 | fine m da pe =>
  obtain ⟨h2,h3,h4⟩:=h
  have h3:=a45 h3
  have h4:=a1K.mpr h4
  simp [Pg.d,AqB.tupD,Pg.k,kD,a85,pgL,v0,o9,h2,h3,h4]
 | lost da t =>
  obtain ⟨h3,h4,h5⟩:=h
  have h6:=a45 (i:=t) ⟨h4,d2h h5 h3.2⟩
  have h3:=a45 h3
  simp [Pg.d,AqB.tupD,Pg.k,kD,a85,pgL,v0,o9,leI,h3,h5,h6]
theorem c69 {A:Art} (hA:A.Ok) {p:Pg} (h:p.Ok A):b2m p.d:=by
 have:=(c6c hA h (n:=0)).wid (c:=10000) (by decide)
 exact ⟨this.1,a0f this.2 (by decide)⟩
def a6R:List Str:=["articles", "thing", "page"]
def b1a (w:i6) (K:b0) (W:WX) (ev:Str → m6):TS :=
 (a3I (b3k K (tCB (rAll K) (d3 (tLc (b68 K (i3 1)) (t8 2) c18 (r8 (spOf K (a1Z ev)) [] E0 (d3 (i3 0) (d3 (i3 2) p7))) [2]) p7)) (tOp (c1V K) (b9I w K (i3 1)) (tCB (a4R K) (d3 (i3 1) p7)))))
def a62 (ev:Str → m6):ASt :=
 (a2w (a6T (aCB c9j (d4 (aLc (a6m (i9 1)) [2] (gN 2) c0f (k9 (a1Z ev) (d4 (i9 0) (d4 (i9 2) p8)))) p8)) (aOp gEq (b8Z (i9 1)) (aCB b4u (d4 (i9 1) p8)))))
theorem b6x {w:i6} {K:b0} {ev:Str → m6} (b5O:IsiOk K "list") (W:WX):SS K W (b1a w K W ev) (a62 ev) :=
 (t9 (a2G (a10 b7Y (c7 (a7X (a34 c9) a0p a52 (i5 (c7 c9 (c7 c9 d9))) (by decide)) d9)) (f6 a33 (c4e c9) (a10 a3W (c7 c9 d9)))))
def b5f (w:i6) (K:b0) (W:WX) (ev:Str → m6):TS :=
 (a1a (c17 (tCallS (spOf K (a0Q ev)) (WE W) (d3 (i3 0) p7)))
 (a1a (a6k (tOr (b8X (a6M K (b6a K "list" (i3 1)))) (a1L (tOp c9z (tCB (a4R K) (d3 (i3 1) p7)) (tC (.int 200))))) (a3I (tC (.bl false))) a2k)
 (b1a w K W ev)))
def a61 (ev:Str → m6):ASt :=
 (a0I (a9a (c4b (a0Q ev) (d4 (i9 0) p8)))
 (a0I (sIf (aOr (a8F (a6U (b58 "list" (i9 1)))) (a4J (aOp gGt (aCB b4u (d4 (i9 1) p8)) (aC (.int 200))))) (a2w (aC (.bool false))) a1D)
 (a62 ev)))
theorem c1f {w:i6} {K:b0} {ev:Str → m6} (b5O:IsiOk K "list") (W:WX):SS K W (b5f w K W ev) (a61 ev) :=
 (m4 (a3X (b34 (c7 c9 d9)))
 (m4 (a06 (a6b (a1r (a04 (a3v b5O c9))) (w6 (f6 a4A (a10 a3W (c7 c9 d9)) d5))) (t9 a3E) y4)
 (b6x  b5O W)))
def a4f (ev:Str → m6):Ct:=fun ρ P PX=>∃ d t,ρ = [.dat d,.dat t] ∧ okD d = true ∧ (a2x d = false → ∀ ρ',PX (ev "NoArticles") none ρ') ∧ (a2x d = true → ∃ (A:Art) (ps:List Pg),A.Ok ∧ d = A.d ∧ t = .list (ps.map Pg.d) ∧ (∀ p ∈ ps,p.Ok A) ∧ ps.Nodup ∧ ps.length ≤ 200 ∧ ∀ ρ',P (.dat (.bool true)) ρ')
theorem b7f {A:Art}:∀ {ps:List Pg},(∀ p ∈ ps,p.Ok A) → ps.Nodup → (ps.map Pg.k).Nodup
 | [],_,_=>b6Z
 | p :: ps,h,nd=>by
  rw [a1d] at nd
  rw [i8,a1d]
  refine ⟨fun hm=>?_,b7f (fun q hq=>h q (e8 _ hq)) nd.2⟩
  obtain ⟨q,hq,e⟩:=e7.mp hm
  rw [Pg.inj (h q (e8 _ hq)) (h p e6) e] at hq
  exact nd.1 hq
theorem c8F {α:Type} [DecidableEq α] {l m:List α} (h1:l.Nodup) (h2:m.Nodup) (h:∀ x,x ∈ l ↔ x ∈ m):l.length = m.length :=
 Nat.le_antisymm (a6p h1 fun x hx=>(h x).mp hx) (a6p h2 fun x hx=>(h x).mpr hx)
theorem b9f (ev:Str → m6) (ρ:List AV) (P:RV → List AV → Prop) (PX:PXT) (h:a4f ev ρ P PX):ρ.length = 2:=by
 obtain ⟨_,_,rfl,_⟩:=h
 rfl
theorem b6p (ev:Str → m6) (ρ:List AV) (P:RV → List AV → Prop) (PX:PXT) (h:a4f ev ρ P PX):a61 ev { nx:=fun ρ'=>P (.dat .none) ρ',rt:=P,ex:=PX } (ρ ++ g5 (a6R.length - ρ.length) .un):=by
 have eN:a6R.length = 3:=rfl
 obtain ⟨d,t,rfl,hd,h1,h2⟩:=h
 unfold a61
 simp only [eN]
 walk_at "ax"
 refine ⟨d,rfl,hd,fun ha ρ'=>?_,fun ha ρ'=>h1 ha _⟩
 obtain ⟨A,ps,hA,rfl,rfl,hps,nd,few,h⟩:=h2 ha
 walk_at "ax"
 rw [if_neg (by omega)]
 unfold a62
 walk_at "ax"
 refine b6e (fun y=>[.dat A.d,.dat (.list (ps.map Pg.d)),.dat y]) (fun _=>.bool true) _ _ ?_ ?_ ?_ ?_ ?_
 ·intro y _ k hk
  exact hk
 ·intro y _
  rfl
 ·intro y hy k hk
  obtain ⟨p,hp,rfl⟩:=e7.mp hy
  walk_at "ax"
  refine ⟨A.d,p.d,rfl,hd,c69 hA (hps p hp),fun e=>?_,fun _=>⟨A,hA,rfl,fun ρ'=>?_⟩⟩
  ·rw [ha] at e
   cases e
  ·rw [(hps p hp).is]
   walk_at "ax"
   exact hk
 ·rw [a1I]
  simp
  omega
 ·have e:[] ++ (ps.map Pg.d).map (fun _=>a0v true) = (g5 ps.length true).map a0v:=by
   rw [a1c,w7,List.map_replicate]
   exact List.map_const' ..
  rw [e]
  have ea:(g5 ps.length true).all id = true:=by simp
  generalize g5 ps.length true = bs at ea ⊢
  walk_at "ax"
  rw [if_neg (fun hf=>by
   have:=n3.mp ea false hf
   cases this)]
  rw [show a7B (ps.map Pg.d) = some (ps.map Pg.k) by rw [d0Y,b77]]
  walk_at "ax"
  refine ⟨by omega,fun es n1 mem=>?_⟩
  have e2:es.length = ps.length:=by
   have:=c8F n1 (b7f hps nd) fun k=>by simpa using mem k
   simpa using this
  rw [e2]
  walk_at "ax"
  exact h _
end Cw
namespace Cw
open PySem L2 Aq
local macro_rules | `(tactic| walk_at "ax")=>`(tactic| simp? [b0z])
local macro_rules | `(tactic| walk_at "bm")=>`(tactic| (refine d3D ?_; walk_at "ax"))
def a4k:List Str:=["articles", "thing", "longs", "word", "row"]
def a7p (w:i6) (K:b0):TS :=
 (a3I (tOrT K (tOp (c8z K) (i3 3) (b57 (d3 (tC (.str "leaves")) (d3 (tC (.str "fine")) p7)))) (r8 (spOf K a0w) [] E0 (d3 (tOp (rIx K) (i3 1) (tUn (rU fun i=>.int (-i)) (tC (.int 1)))) p7))))
def a1m:ASt :=
 (a2w (aOrT (aOp (gIn false) (i9 3) (a7H (d4 (aC (.str "leaves")) (d4 (aC (.str "fine")) p8)))) (k9 a0w (d4 (aOp gIx (i9 1) (aUn d2P (aC (.int 1)))) p8))))
theorem b2a {w:i6} {K:b0} (a0E:IsiOk K "str") (j9:IsiOk K "tuple") (W:WX):SS K W (a7p w K) a1m :=
 (t9 (c9g (f6 c40 c9 (a1l (c7 t6 (c7 t6 d9)))) (i5 (c7 (f6 v3 c9 (c99 c7e d5)) d9))))
def a7q (w:i6) (K:b0):TS :=
 (a1a (a6k (tAnd (a1L (tOp (c1V K) (i3 3) (tC (.str "home")))) (b8X (a6M K (r8 (spOf K r4) [] E0 (d3 (tOp (rIx K) (i3 1) (tC (.int 4))) (d3 (tC (.int 1)) (d3 (tOp a21 (tC (.int 10)) (tC (.int 6))) p7))))))) (a3I (tC (.bl false))) a2k)
 (a7p w K))
def a1n:ASt :=
 (a0I (sIf (c73 (a4J (aOp gEq (i9 3) (aC (.str "home")))) (a8F (a6U (k9 r4 (d4 (aOp gIx (i9 1) (aC (.int 4))) (d4 (aC (.int 1)) (d4 (aOp a8K (aC (.int 10)) (aC (.int 6))) p8))))))) (a2w (aC (.bool false))) a1D)
 a1m)
theorem b2b {w:i6} {K:b0} (a0E:IsiOk K "str") (j9:IsiOk K "tuple") (W:WX):SS K W (a7q w K) a1n :=
 (m4 (a06 (b5p (w6 (f6 a33 c9 t6)) (a1r (a04 (i5 (c7 (f6 v3 c9 d5) (c7 d5 (c7 (f6 a1q d5 d5) d9))))))) (t9 a3E) y4)
 (b2a  a0E j9 W))
def a7r (w:i6) (K:b0):TS :=
 (a1a (a6k (tAnd (a1L (tOp (c8z K) (i3 3) (b57 (d3 (tC (.str "advance")) (d3 (tC (.str "home")) (d3 (tC (.str "slops")) (d3 (tC (.str "fine")) p7))))))) (b8X (a6M K (r8 (spOf K r4) [] E0 (d3 (tOp (rIx K) (i3 1) (tC (.int 3))) (d3 (tC (.int 1)) (d3 (tOp a21 (tC (.int 10)) (tC (.int 9))) p7))))))) (a3I (tC (.bl false))) a2k)
 (a7q w K))
def a1o:ASt :=
 (a0I (sIf (c73 (a4J (aOp (gIn false) (i9 3) (a7H (d4 (aC (.str "advance")) (d4 (aC (.str "home")) (d4 (aC (.str "slops")) (d4 (aC (.str "fine")) p8))))))) (a8F (a6U (k9 r4 (d4 (aOp gIx (i9 1) (aC (.int 3))) (d4 (aC (.int 1)) (d4 (aOp a8K (aC (.int 10)) (aC (.int 9))) p8))))))) (a2w (aC (.bool false))) a1D)
 a1n)
theorem b2c {w:i6} {K:b0} (a0E:IsiOk K "str") (j9:IsiOk K "tuple") (W:WX):SS K W (a7r w K) a1o :=
 (m4 (a06 (b5p (w6 (f6 c40 c9 (a1l (c7 t6 (c7 t6 (c7 t6 (c7 t6 d9))))))) (a1r (a04 (i5 (c7 (f6 v3 c9 d5) (c7 d5 (c7 (f6 a1q d5 d5) d9))))))) (t9 a3E) y4)
 (b2b  a0E j9 W))
def a7s (w:i6) (K:b0):TS :=
 (a1a (a6k (a1L (tOp (c1V K) (i3 3) (tC (.str "away")))) (a3I (r8 (spOf K r4) [] E0 (d3 (tOp (rIx K) (i3 1) (tC (.int 3))) (d3 (tOp (rIx K) (i3 1) (tC (.int 2))) (d3 (tOp a21 (tC (.int 10)) (tC (.int 12))) p7))))) a2k)
 (a7r w K))
def a0W:ASt :=
 (a0I (sIf (a4J (aOp gEq (i9 3) (aC (.str "away")))) (a2w (k9 r4 (d4 (aOp gIx (i9 1) (aC (.int 3))) (d4 (aOp gIx (i9 1) (aC (.int 2))) (d4 (aOp a8K (aC (.int 10)) (aC (.int 12))) p8))))) a1D)
 a1o)
theorem b2d {w:i6} {K:b0} (a0E:IsiOk K "str") (j9:IsiOk K "tuple") (W:WX):SS K W (a7s w K) a0W :=
 (m4 (a06 (w6 (f6 a33 c9 t6)) (t9 (i5 (c7 (f6 v3 c9 d5) (c7 (f6 v3 c9 d5) (c7 (f6 a1q d5 d5) d9))))) y4)
 (b2c  a0E j9 W))
def a7t (w:i6) (K:b0):TS :=
 (a1a (a6k (a1L (tOp (c8z K) (i3 3) (b57 (d3 (tC (.str "joins")) (d3 (tC (.str "ranked")) p7))))) (a3I (tOp (rNeD K) (tLc (b68 K (tOp (rIx K) (i3 0) (tC (.int 0)))) (t8 4) (a1L (tOp (c1V K) (tOp (rIx K) (i3 4) (tC (.int 0))) (tOp (rIx K) (i3 1) (tC (.int 3))))) (i3 4) [4]) (b0j p7))) a2k)
 (a7s w K))
def y6:ASt :=
 (a0I (sIf (a4J (aOp (gIn false) (i9 3) (a7H (d4 (aC (.str "joins")) (d4 (aC (.str "ranked")) p8))))) (a2w (aOp gNe (aLc (a6m (aOp gIx (i9 0) (aC (.int 0)))) [4] (gN 4) (a4J (aOp gEq (aOp gIx (i9 4) (aC (.int 0))) (aOp gIx (i9 1) (aC (.int 3))))) (i9 4)) (a5J p8))) a1D)
 a0W)
theorem b2e {w:i6} {K:b0} (a0E:IsiOk K "str") (j9:IsiOk K "tuple") (W:WX):SS K W (a7t w K) y6 :=
 (m4 (a06 (w6 (f6 c40 c9 (a1l (c7 t6 (c7 t6 d9))))) (t9 (f6 c06 (a7X (a34 (f6 v3 c9 d5)) a0p (w6 (f6 a33 (f6 v3 c9 d5) (f6 v3 c9 d5))) c9 (by decide)) (a0x d9))) y4)
 (b2d  a0E j9 W))
def a7u (w:i6) (K:b0):TS :=
 (a1a (a6k (tOr (b8X (a6M K (r8 (spOf K a0w) [] E0 (d3 (tOp (rIx K) (i3 1) (tC (.int 1))) p7)))) (b8X (a6M K (r8 (spOf K r4) [] E0 (d3 (tOp (rIx K) (i3 1) (tC (.int 2))) (d3 (tC (.int 0)) (d3 (tOp a21 (tC (.int 10)) (tC (.int 12))) p7))))))) (a3I (tC (.bl false))) a2k)
 (a7t w K))
def a29:ASt :=
 (a0I (sIf (aOr (a8F (a6U (k9 a0w (d4 (aOp gIx (i9 1) (aC (.int 1))) p8)))) (a8F (a6U (k9 r4 (d4 (aOp gIx (i9 1) (aC (.int 2))) (d4 (aC (.int 0)) (d4 (aOp a8K (aC (.int 10)) (aC (.int 12))) p8))))))) (a2w (aC (.bool false))) a1D)
 y6)
theorem b2f {w:i6} {K:b0} (a0E:IsiOk K "str") (j9:IsiOk K "tuple") (W:WX):SS K W (a7u w K) a29 :=
 (m4 (a06 (a6b (a1r (a04 (i5 (c7 (f6 v3 c9 d5) d9)))) (a1r (a04 (i5 (c7 (f6 v3 c9 d5) (c7 d5 (c7 (f6 a1q d5 d5) d9))))))) (t9 a3E) y4)
 (b2e  a0E j9 W))
def a7v (w:i6) (K:b0):TS :=
 (a1a (a6k (a1L (tOp (c1V K) (i3 3) (tC (.str "lost")))) (a3I (b3k K (r8 (spOf K r4) [] E0 (d3 (tOp (rIx K) (i3 1) (tC (.int 1))) (d3 (tC (.int 0)) (d3 (tOp a21 (tC (.int 10)) (tC (.int 12))) p7)))) (r8 (spOf K r4) [] E0 (d3 (tOp (rIx K) (i3 1) (tC (.int 2))) (d3 (tC (.int 0)) (d3 (tOp (rIx K) (i3 1) (tC (.int 1))) p7)))))) a2k)
 (a7u w K))
def a4L:ASt :=
 (a0I (sIf (a4J (aOp gEq (i9 3) (aC (.str "lost")))) (a2w (a6T (k9 r4 (d4 (aOp gIx (i9 1) (aC (.int 1))) (d4 (aC (.int 0)) (d4 (aOp a8K (aC (.int 10)) (aC (.int 12))) p8)))) (k9 r4 (d4 (aOp gIx (i9 1) (aC (.int 2))) (d4 (aC (.int 0)) (d4 (aOp gIx (i9 1) (aC (.int 1))) p8)))))) a1D)
 a29)
theorem b2g {w:i6} {K:b0} (a0E:IsiOk K "str") (j9:IsiOk K "tuple") (W:WX):SS K W (a7v w K) a4L :=
 (m4 (a06 (w6 (f6 a33 c9 t6)) (t9 (a2G (i5 (c7 (f6 v3 c9 d5) (c7 d5 (c7 (f6 a1q d5 d5) d9)))) (i5 (c7 (f6 v3 c9 d5) (c7 d5 (c7 (f6 v3 c9 d5) d9)))))) y4)
 (b2f  a0E j9 W))
def a7w (w:i6) (K:b0):TS :=
 (a1a (a27 (tOp (rIx K) (i3 1) (tC (.int 0))) (t8 3))
 (a1a (a6k (tOr (a1L (tDNotIn (i3 3) (i3 2))) (a1L (tOp (rNeD K) (tCB (a4R K) (d3 (i3 1) p7)) (tDGet (i3 2) (i3 3))))) (a3I (tC (.bl false))) a2k)
 (a7v w K)))
def a4M:ASt :=
 (a0I (a2I 3 (aOp gIx (i9 1) (aC (.int 0))))
 (a0I (sIf (aOr (a4J (aDIn true (i9 3) (i9 2))) (a4J (aOp gNe (aCB b4u (d4 (i9 1) p8)) (c9U (i9 2) (i9 3))))) (a2w (aC (.bool false))) a1D)
 a4L))
theorem b2h {w:i6} {K:b0} (a0E:IsiOk K "str") (j9:IsiOk K "tuple") (W:WX):SS K W (a7w w K) a4M :=
 (m4 (w3 (f6 v3 c9 d5))
 (m4 (a06 (a6b (w6 (c57 c9 c9)) (w6 (f6 c06 (a10 a3W (c7 c9 d9)) (c93 c9 c9)))) (t9 a3E) y4)
 (b2g  a0E j9 W)))
def a9B (w:i6) (K:b0):TS :=
 (a1a (a27 (tDisp (litP [("joins",4),("ranked",4),("leaves",3),("away",4),("advance",5),("home",6),("slops",5),("fine",4),("lost",3)])) (t8 2))
 (a1a (a6k (tOr (b8X (a6M K (b6a K "tuple" (i3 1)))) (tOr (a1L (tOp (c1V K) (i3 1) (b57 p7))) (b8X (a6M K (b6a K "str" (tOp (rIx K) (i3 1) (tC (.int 0)))))))) (a3I (tC (.bl false))) a2k)
 (a7w w K)))
def a4n:ASt :=
 (a0I (a2I 2 (c9V [("joins",4),("ranked",4),("leaves",3),("away",4),("advance",5),("home",6),("slops",5),("fine",4),("lost",3)]))
 (a0I (sIf (aOr (a8F (a6U (b58 "tuple" (i9 1)))) (aOr (a4J (aOp gEq (i9 1) (a7H p8))) (a8F (a6U (b58 "str" (aOp gIx (i9 1) (aC (.int 0)))))))) (a2w (aC (.bool false))) a1D)
 a4M))
theorem b44 {w:i6} {K:b0} (a0E:IsiOk K "str") (j9:IsiOk K "tuple") (W:WX):SS K W (a9B w K) a4n :=
 (m4 (w3 (c94 (by rfl) (by decide)))
 (m4 (a06 (a6b (a1r (a04 (a3v j9 c9))) (a6b (w6 (f6 a33 c9 (a1l d9))) (a1r (a04 (a3v a0E (f6 v3 c9 d5)))))) (t9 a3E) y4)
 (b2h  a0E j9 W)))
def a2m:Ct:=fun ρ P _=>∃ (A:Art) (t:c8),ρ = [.dat A.d,.dat t] ∧ A.Ok ∧ b2m t ∧ ∀ ρ',P (.dat (.bool (a85 A t))) ρ'
theorem b3n (ρ:List AV) (P:RV → List AV → Prop) (PX:PXT) (h:a2m ρ P PX):ρ.length = 2:=by
 obtain ⟨_,_,rfl,_⟩:=h
 rfl
theorem c2C (w:Str):∀ kvs:List (Str × Int),c0g (ukD (d0X kvs)) (.inr w) = (b5o kvs w).map m7
 | []=>rfl
 | (k,v) :: kvs=>by
  have ih:=c2C w kvs
  have e:ukD (d0X ((k,v) :: kvs)) = (.inr k,.int v) :: ukD (d0X kvs):=rfl
  rw [e]
  unfold c0g b5o at ih ⊢
  rw [a3G,a3G]
  by_cases hk:k = w
  ·subst hk; simp
  ·simp [hk]
   simpa using ih
theorem b24 {D:AEnds} {a m:AV} {w:Str} {x y:c8} {r:List c8} (ht:b2m (.tuple (.str w :: x :: y :: r))) (k1:(v0 x && a32 y) = false → ∀ ρ',D.rt (.dat (.bool false)) ρ')
  (k2:v0 x = true → a32 y = true → y6 D [a,.dat (.tuple (.str w :: x :: y :: r)),m,.dat (.str w),.un]):a29 D [a,.dat (.tuple (.str w :: x :: y :: r)),m,.dat (.str w),.un]:=by
 have hx:b2m x:=ht.sub (by simp)
 unfold a29
 walk_at "ax"
 refine ⟨x,rfl,hx.1,fun ρ'=>?_⟩
 cases e1:v0 x with
 | false =>
  walk_at "ax"
  exact k1 (by rw [e1]; rfl) _
 | true =>
  walk_at "ax"
  refine ⟨a4P (by decide) (by decide) (by decide),y,0,_,rfl,fun ρ'=>?_⟩
  rw [show a0e y 0 1000000000000 = a32 y from rfl]
  cases e2:a32 y with
  | false =>
   walk_at "ax"
   exact k1 (by rw [e1,e2]; rfl) _
  | true =>
   walk_at "ax"
   exact k2 e1 e2
theorem c0G (A:Art) (z:c8):(!a0V ((A.ranks.map a2l).filter fun y=>i7 (b4t y) z) []) = a5T A z:=by
 rw [← b4j A z,List.any_map]
 generalize A.ranks.map a2l = l
 induction l with
 | nil=>simp [a0V]
 | cons y l ih =>
  rw [c3Z,c0j]
  by_cases hy:i7 (b4t y) z = true
  ·simp [hy,a0V]
  ·rw [if_neg hy]
   simp [hy]
   simpa using ih
theorem c6Y {A:Art} (hA:A.Ok) (z:c8):a0k (.list ((A.ranks.map a2l).filter fun y=>i7 (b4t y) z)) = true:=by
 refine a0t.shp (b:=100) (n:=2) (a2H ?_ fun e he=>?_) (by decide)
 ·have:=d2j (fun y=>i7 (b4t y) z) (A.ranks.map a2l)
  rw [j3] at this
  have:=hA.r2
  omega
 ·obtain ⟨r,hr2,rfl⟩:=e7.mp (c5M.mp he).1
  exact c0I (hA.rn r hr2)
theorem c2D {D:AEnds} {A:Art} (hA:A.Ok) {m:AV} {x y z:c8} (hz:b2m z) (k:∀ ρ',D.rt (.dat (.bool (a5T A z))) ρ') :
  y6 D [.dat A.d,.dat (.tuple [.str "joins",x,y,z]),m,.dat (.str "joins"),.un]:=by
 have r2:=hA.r2
 unfold y6 Art.d
 walk_at "ax"
 refine b7c (fun y'=>[.dat A.d,.dat (.tuple [.str "joins",x,y,z]),m,.dat (.str "joins"),.dat y']) (fun y=>i7 (b4t y) z) id _ _ ?_ ?_ ?_ ?_ ?_ ?_
 ·intro d _ k hk
  exact hk
 ·intro d _
  rfl
 ·intro d hd k hk
  obtain ⟨r,hr,rfl⟩:=e7.mp hd
  have e:b4t (a2l r) = .str r.1:=rfl
  rw [e] at hk
  unfold a2l at hk ⊢
  walk_at "ax"
  exact ⟨c2M (a6u (hA.rn r hr)),hz.shp,hk⟩
 ·intro d hd _ k hk
  walk_at "ax"
  exact hk
 ·rw [a1I]
  simp
  omega
 ·rw [a1c,List.map_id]
  have f1:=c0G A z
  have f2:=c6Y hA z
  generalize (A.ranks.map a2l).filter (fun y=>i7 (b4t y) z) = fs at f1 f2 ⊢
  walk_at "ax"
  refine ⟨f2,?_⟩
  rw [f1]
  exact k _
theorem c0Q {D:AEnds} {A:Art} (hA:A.Ok) {m:AV} {x y z:c8} (hz:b2m z) (k:∀ ρ',D.rt (.dat (.bool (a5T A z))) ρ') :
  y6 D [.dat A.d,.dat (.tuple [.str "ranked",x,y,z]),m,.dat (.str "ranked"),.un]:=by
 have r2:=hA.r2
 unfold y6 Art.d
 walk_at "ax"
 refine b7c (fun y'=>[.dat A.d,.dat (.tuple [.str "ranked",x,y,z]),m,.dat (.str "ranked"),.dat y']) (fun y=>i7 (b4t y) z) id _ _ ?_ ?_ ?_ ?_ ?_ ?_
 ·intro d _ k hk
  exact hk
 ·intro d _
  rfl
 ·intro d hd k hk
  obtain ⟨r,hr,rfl⟩:=e7.mp hd
  have e:b4t (a2l r) = .str r.1:=rfl
  rw [e] at hk
  unfold a2l at hk ⊢
  walk_at "ax"
  exact ⟨c2M (a6u (hA.rn r hr)),hz.shp,hk⟩
 ·intro d hd _ k hk
  walk_at "ax"
  exact hk
 ·rw [a1I]
  simp
  omega
 ·rw [a1c,List.map_id]
  have f1:=c0G A z
  have f2:=c6Y hA z
  generalize (A.ranks.map a2l).filter (fun y=>i7 (b4t y) z) = fs at f1 f2 ⊢
  walk_at "ax"
  refine ⟨f2,?_⟩
  rw [f1]
  exact k _
theorem c48 {z:c8} {j:Int} (h:0 ≤ j):a0e z j 1000000000000 = (a32 z && leI (.int j) z):=by
 cases z with
 | int i =>
  rw [c5K]
  simp only [a32,leI,m5,a1K,decide_eq_true_eq]
  omega
 | _=>rfl
theorem c2P {z:c8} {j:Int} (h:j ≤ 1000000000000):a0e z 0 j = (a32 z && leI z (.int j)):=by
 cases z with
 | int i =>
  rw [c5K]
  simp only [a32,leI,m5,a1K,decide_eq_true_eq]
  omega
 | _=>rfl
theorem b1L (ρ:List AV) (P:RV → List AV → Prop) (PX:PXT) (h:a2m ρ P PX):a4n { nx:=fun ρ'=>P (.dat .none) ρ',rt:=P,ex:=PX } (ρ ++ g5 (a4k.length - ρ.length) .un):=by
 have eN:a4k.length = 5:=rfl
 obtain ⟨A,t,rfl,hA,ht,h⟩:=h
 unfold a4n
 simp only [eN]
 walk_at "ax"
 have no:∀ t,a85 A t = false → ∀ ρ',(∀ ρ',P (.dat (.bool (a85 A t))) ρ') → P (.dat (.bool false)) ρ':=fun t e ρ' h=>by
  have:=h ρ'
  rw [e] at this
  exact this
 cases t with
 | tuple ds =>
  match ds,ht,h with
  | [],ht,h =>
   walk_at "ax"
   simp [a0V]
   exact no _ rfl _ h
  | a :: ds,ht,h =>
   have hs:=ht.shp
   cases a with
   | str w =>
    walk_at "ax"
    refine ⟨hs,?_⟩
    simp only [a0V,z9,if_false]
    rw [show ([(m8 "joins",4),(m8 "ranked",4),(m8 "leaves",3),(m8 "away",4),(m8 "advance",5),(m8 "home",6),(m8 "slops",5),(m8 "fine",4),(m8 "lost",3)]:List (Str × Int)) = LEN from rfl]
    unfold a4M
    walk_at "ax"
    walk_at "bm"
    rw [c2C]
    have pno:(∀ n,Word w n → ¬ ds.length = n + 2) → a85 A (.tuple (.str w :: ds)) = false:=fun hn=>by
     match ds,hn with
     | [],_=>rfl
     | [_],_=>rfl
     | x :: y :: r,hn=>exact c6I fun n hw e=>hn n hw (by simp [e])
    rcases b78 w with ⟨n,hw,e⟩ | ⟨e,hw⟩
    ·rw [e]
     walk_at "ax"
     walk_at "bm"
     rw [c2C,e]
     walk_at "ax"
     split
     ·rename_i hl
      have hl:ds.length = n + 2:=by omega
      clear e
      match ds,hl with
      | x :: y :: r,hl =>
       have hl:r.length = n:=by simpa using hl
       have k1:∀ c,(∀ ρ',P (.dat (.bool (v0 x && (a32 y && c)))) ρ') → (v0 x && a32 y) = false → ∀ ρ',P (.dat (.bool false)) ρ':=fun c h e ρ'=>by
        have:=h ρ'
        rw [← Bool.and_assoc,e,a08] at this
        exact this
       have k2:∀ c,(∀ ρ',P (.dat (.bool (v0 x && (a32 y && c)))) ρ') → v0 x = true → a32 y = true → ∀ ρ',P (.dat (.bool c)) ρ':=fun c h e1 e2 ρ'=>by
        have:=h ρ'
        rw [e1,e2,y0,y0] at this
        exact this
       unfold a4L
       cases hw with
       | joins =>
        match r,hl with
        | [z],_ =>
         have h3:∀ ρ',P (.dat (.bool (v0 x && (a32 y && a5T A z)))) ρ':=by simpa [a85,pgL,o9,a1O] using h
         walk_at "ax"
         refine b24 ht (k1 _ h3) fun e1 e2=>?_
         have h4:=k2 _ h3 e1 e2
         exact c2D hA (ht.sub (by simp)) h4
       | ranked =>
        match r,hl with
        | [z],_ =>
         have h3:∀ ρ',P (.dat (.bool (v0 x && (a32 y && a5T A z)))) ρ':=by simpa [a85,pgL,o9,a1O] using h
         walk_at "ax"
         refine b24 ht (k1 _ h3) fun e1 e2=>?_
         have h4:=k2 _ h3 e1 e2
         exact c0Q hA (ht.sub (by simp)) h4
       | leaves =>
        match r,hl with
        | [],_ =>
         have h3:∀ ρ',P (.dat (.bool (v0 x && (a32 y && true)))) ρ':=by simpa [a85,pgL,o9,a1O] using h
         walk_at "ax"
         refine b24 ht (k1 _ h3) fun e1 e2=>?_
         have h4:=k2 _ h3 e1 e2
         unfold y6
         walk_at "ax"
         unfold a0W
         walk_at "ax"
         unfold a1o
         walk_at "ax"
         unfold a1n
         walk_at "ax"
         unfold a1m
         walk_at "ax"
         exact h4 _
       | away =>
        match r,hl with
        | [z],_ =>
         have h3:∀ ρ',P (.dat (.bool (v0 x && (a32 y && (a32 z && leI y z))))) ρ':=by simpa [a85,pgL,o9,a1O] using h
         walk_at "ax"
         refine b24 ht (k1 _ h3) fun e1 e2=>?_
         have h4:=k2 _ h3 e1 e2
         unfold y6
         walk_at "ax"
         unfold a0W
         walk_at "ax"
         obtain ⟨j,rfl,j0,_⟩:=a4i e2
         walk_at "ax"
         refine ⟨a4P (by decide) (by decide) (by decide),z,j,_,rfl,fun ρ'=>?_⟩
         walk_at "ax"
         rw [c48 j0]
         exact h4 _
       | advance =>
        match r,hl with
        | [z,u],_ =>
         have h3:∀ ρ',P (.dat (.bool (v0 x && (a32 y && a1O "advance" [z,u])))) ρ':=by simpa [a85,pgL,o9,a1O] using h
         walk_at "ax"
         refine b24 ht (k1 _ h3) fun e1 e2=>?_
         have h4:=k2 _ h3 e1 e2
         unfold y6
         walk_at "ax"
         unfold a0W
         walk_at "ax"
         unfold a1o
         walk_at "ax"
         refine ⟨a4P (by decide) (by decide) (by decide),z,1,_,rfl,fun ρ'=>?_⟩
         cases e3:a0e z 1 1000000000 with
         | false =>
          simp only [a1O,e3,a08] at h4
          walk_at "ax"
          exact h4 _
         | true =>
          simp only [a1O,e3,y0] at h4
          walk_at "ax"
          unfold a1n
          walk_at "ax"
          unfold a1m
          walk_at "ax"
          refine ⟨u,rfl,(ht.sub (by simp)).1,fun ρ'=>?_⟩
          walk_at "ax"
          exact h4 _
       | home =>
        match r,hl with
        | [z,u,v],_ =>
         have h3:∀ ρ',P (.dat (.bool (v0 x && (a32 y && a1O "home" [z,u,v])))) ρ':=by simpa [a85,pgL,o9,a1O] using h
         walk_at "ax"
         refine b24 ht (k1 _ h3) fun e1 e2=>?_
         have h4:=k2 _ h3 e1 e2
         unfold y6
         walk_at "ax"
         unfold a0W
         walk_at "ax"
         unfold a1o
         walk_at "ax"
         refine ⟨a4P (by decide) (by decide) (by decide),z,1,_,rfl,fun ρ'=>?_⟩
         cases e3:a0e z 1 1000000000 with
         | false =>
          simp only [a1O,e3,a08] at h4
          walk_at "ax"
          exact h4 _
         | true =>
          simp only [a1O,e3,y0] at h4
          walk_at "ax"
          unfold a1n
          walk_at "ax"
          refine ⟨a4P (by decide) (by decide) (by decide),u,1,_,rfl,fun ρ'=>?_⟩
          cases e4:a0e u 1 1000000 with
          | false =>
           simp only [e4,a08] at h4
           walk_at "ax"
           exact h4 _
          | true =>
           simp only [e4,y0] at h4
           walk_at "ax"
           unfold a1m
           walk_at "ax"
           refine ⟨v,rfl,(ht.sub (by simp)).1,fun ρ'=>?_⟩
           walk_at "ax"
           exact h4 _
       | slops =>
        match r,hl with
        | [z,u],_ =>
         have h3:∀ ρ',P (.dat (.bool (v0 x && (a32 y && a1O "slops" [z,u])))) ρ':=by simpa [a85,pgL,o9,a1O] using h
         walk_at "ax"
         refine b24 ht (k1 _ h3) fun e1 e2=>?_
         have h4:=k2 _ h3 e1 e2
         unfold y6
         walk_at "ax"
         unfold a0W
         walk_at "ax"
         unfold a1o
         walk_at "ax"
         refine ⟨a4P (by decide) (by decide) (by decide),z,1,_,rfl,fun ρ'=>?_⟩
         cases e3:a0e z 1 1000000000 with
         | false =>
          simp only [a1O,e3,a08] at h4
          walk_at "ax"
          exact h4 _
         | true =>
          simp only [a1O,e3,y0] at h4
          walk_at "ax"
          unfold a1n
          walk_at "ax"
          unfold a1m
          walk_at "ax"
          refine ⟨u,rfl,(ht.sub (by simp)).1,fun ρ'=>?_⟩
          walk_at "ax"
          exact h4 _
       | fine =>
        match r,hl with
        | [z],_ =>
         have h3:∀ ρ',P (.dat (.bool (v0 x && (a32 y && a1O "fine" [z])))) ρ':=by simpa [a85,pgL,o9,a1O] using h
         walk_at "ax"
         refine b24 ht (k1 _ h3) fun e1 e2=>?_
         have h4:=k2 _ h3 e1 e2
         unfold y6
         walk_at "ax"
         unfold a0W
         walk_at "ax"
         unfold a1o
         walk_at "ax"
         refine ⟨a4P (by decide) (by decide) (by decide),z,1,_,rfl,fun ρ'=>?_⟩
         cases e3:a0e z 1 1000000000 with
         | false =>
          simp only [a1O,e3,a08] at h4
          walk_at "ax"
          exact h4 _
         | true =>
          simp only [a1O,e3,y0] at h4
          walk_at "ax"
          unfold a1n
          walk_at "ax"
          unfold a1m
          walk_at "ax"
          exact h4 _
       | lost =>
        match r,hl with
        | [],_ =>
         have h3:∀ ρ',P (.dat (.bool (a32 x && (a32 y && leI y x)))) ρ':=by simpa [a85,pgL,o9] using h
         walk_at "ax"
         refine ⟨a4P (by decide) (by decide) (by decide),x,0,_,rfl,fun ρ'=>?_⟩
         rw [show a0e x 0 1000000000000 = a32 x from rfl]
         cases e2:a32 x with
         | false =>
          rw [e2] at h3
          walk_at "ax"
          exact h3 _
         | true =>
          rw [e2] at h3
          obtain ⟨j,rfl,_,j1⟩:=a4i e2
          walk_at "ax"
          refine ⟨y,0,j,rfl,fun ρ'=>?_⟩
          walk_at "ax"
          rw [c2P j1]
          exact h3 _
     ·rename_i hl
      refine no _ (pno fun m hm=>?_) _ h
      have:m = n:=by cases hw <;> cases hm <;> rfl
      omega
    ·rw [e]
     walk_at "ax"
     exact no _ (pno fun m hm=>absurd hm (hw m)) _ h
   | _ =>
    walk_at "ax"
    refine ⟨hs,?_⟩
    exact no _ rfl _ h
 | _ =>
  walk_at "ax"
  exact no _ rfl _ h
end Cw
namespace Cw
open PySem L2 Aq
local macro_rules | `(tactic| walk_at "ax")=>`(tactic| simp? [b0z])
local macro_rules | `(tactic| walk_at "bw")=>`(tactic| (refine a1P ?_; walk_at "ax"))
/-- a tuple of a few plain things -/
def c7N (d:c8):Prop:=∃ es,d = .tuple es ∧ es.length ≤ 6 ∧ ∀ e ∈ es,a0t 100 0 e
theorem c7N.pg {A:Art} (hA:A.Ok) {p:Pg} (h:p.Ok A):c7N p.d:=by
 have f:=a0t.tup (n:=0) (c6c hA h (n:=0))
 exact ⟨_,rfl,by cases p <;> simp [Pg.k],f.2⟩
theorem a3V (s:String) (h:s.toList.length ≤ 20:=by decide):a0t 100 0 (.str (m8 s)):=a8J (by rw [b9h]; omega) (b04 s)
def a7O:List Str:=["articles", "man", "rank", "far", "found"]
def b3c (w:i6) (K:b0):TS :=
 (a1a (a27 (tOp (rIx K) (tOp (rIx K) (tOp (rIx K) (i3 0) (tC (.int 0))) (tC (.int 0))) (tC (.int 0))) (t8 2))
 (a1a (a27 (tOp a21 (tC (.int 10)) (tC (.int 12))) (t8 3))
 (a1a (a27 (b0j (d3 (b57 (d3 (tC (.str "joins")) (d3 (i3 1) (d3 (i3 3) (d3 (i3 2) p7))))) (d3 (b57 (d3 (tC (.str "ranked")) (d3 (i3 1) (d3 (tC (.int 0)) (d3 (i3 2) p7))))) (d3 (b57 (d3 (tC (.str "leaves")) (d3 (i3 1) (d3 (i3 3) p7)))) (d3 (b57 (d3 (tC (.str "away")) (d3 (i3 1) (d3 (i3 3) (d3 (i3 3) p7))))) p7))))) (t8 4))
 (a1a (a27 (tOp (a0A K) (i3 4) (b0j (d3 (b57 (d3 (tC (.str "advance")) (d3 (i3 1) (d3 (tC (.int 0)) (d3 (tOp a21 (tC (.int 10)) (tC (.int 9))) (d3 (i3 1) p7)))))) (d3 (b57 (d3 (tC (.str "home")) (d3 (i3 1) (d3 (i3 3) (d3 (tOp a21 (tC (.int 10)) (tC (.int 9))) (d3 (tOp a21 (tC (.int 10)) (tC (.int 6))) (d3 (i3 1) p7))))))) (d3 (b57 (d3 (tC (.str "fine")) (d3 (i3 1) (d3 (tC (.int 0)) (d3 (tC (.int 1)) p7))))) p7))))) (t8 4))
 (a1a (a27 (tOp (a0A K) (i3 4) (b0j (d3 (b57 (d3 (tC (.str "lost")) (d3 (i3 3) (d3 (i3 3) p7)))) (d3 (b57 (d3 (tC (.str "lost")) (d3 (tC (.int 0)) (d3 (tC (.int 0)) p7)))) (d3 (b57 (d3 (tC (.str "lost")) (d3 (tC (.int 5)) (d3 (tC (.int 6)) p7)))) (d3 (b57 (d3 (tC (.str "lost")) (d3 (tOp (a0A K) (i3 3) (tC (.int 1))) (d3 (tC (.int 0)) p7)))) p7)))))) (t8 4))
 (a1a (c17 (tBM K "list" c9R (i3 4) (d3 (b57 (d3 (tC (.str "slops")) (d3 (i3 1) (d3 (tC (.int 1)) (d3 (tC (.int 0)) (d3 (i3 1) p7)))))) p7)))
 (a3I (tOp (a0A K) (i3 4) (b0j (d3 (b57 (d3 (tC (.str "home")) (d3 (i3 1) (d3 (tC (.int 1)) (d3 (tC (.int 1)) (d3 (tOp (a0A K) (tOp a21 (tC (.int 10)) (tC (.int 6))) (tC (.int 1))) (d3 (i3 1) p7))))))) (d3 (b57 (d3 (tC (.str "away")) (d3 (i3 1) (d3 (tC (.int 2)) (d3 (tC (.int 1)) p7))))) (d3 (b57 (d3 (tC (.str "joins")) (d3 (i3 1) (d3 (tC (.int 1)) (d3 (tOp (a0A K) (i3 2) (tC (.str "q"))) p7))))) p7))))))))))))
def a5O:ASt :=
 (a0I (a2I 2 (aOp gIx (aOp gIx (aOp gIx (i9 0) (aC (.int 0))) (aC (.int 0))) (aC (.int 0))))
 (a0I (a2I 3 (aOp a8K (aC (.int 10)) (aC (.int 12))))
 (a0I (a2I 4 (a5J (d4 (a7H (d4 (aC (.str "joins")) (d4 (i9 1) (d4 (i9 3) (d4 (i9 2) p8))))) (d4 (a7H (d4 (aC (.str "ranked")) (d4 (i9 1) (d4 (aC (.int 0)) (d4 (i9 2) p8))))) (d4 (a7H (d4 (aC (.str "leaves")) (d4 (i9 1) (d4 (i9 3) p8)))) (d4 (a7H (d4 (aC (.str "away")) (d4 (i9 1) (d4 (i9 3) (d4 (i9 3) p8))))) p8))))))
 (a0I (a2I 4 (aOp a3e (i9 4) (a5J (d4 (a7H (d4 (aC (.str "advance")) (d4 (i9 1) (d4 (aC (.int 0)) (d4 (aOp a8K (aC (.int 10)) (aC (.int 9))) (d4 (i9 1) p8)))))) (d4 (a7H (d4 (aC (.str "home")) (d4 (i9 1) (d4 (i9 3) (d4 (aOp a8K (aC (.int 10)) (aC (.int 9))) (d4 (aOp a8K (aC (.int 10)) (aC (.int 6))) (d4 (i9 1) p8))))))) (d4 (a7H (d4 (aC (.str "fine")) (d4 (i9 1) (d4 (aC (.int 0)) (d4 (aC (.int 1)) p8))))) p8))))))
 (a0I (a2I 4 (aOp a3e (i9 4) (a5J (d4 (a7H (d4 (aC (.str "lost")) (d4 (i9 3) (d4 (i9 3) p8)))) (d4 (a7H (d4 (aC (.str "lost")) (d4 (aC (.int 0)) (d4 (aC (.int 0)) p8)))) (d4 (a7H (d4 (aC (.str "lost")) (d4 (aC (.int 5)) (d4 (aC (.int 6)) p8)))) (d4 (a7H (d4 (aC (.str "lost")) (d4 (aOp a3e (i9 3) (aC (.int 1))) (d4 (aC (.int 0)) p8)))) p8)))))))
 (a0I (a9a (aMt a9U (i9 4) (d4 (a7H (d4 (aC (.str "slops")) (d4 (i9 1) (d4 (aC (.int 1)) (d4 (aC (.int 0)) (d4 (i9 1) p8)))))) p8)))
 (a2w (aOp a3e (i9 4) (a5J (d4 (a7H (d4 (aC (.str "home")) (d4 (i9 1) (d4 (aC (.int 1)) (d4 (aC (.int 1)) (d4 (aOp a3e (aOp a8K (aC (.int 10)) (aC (.int 6))) (aC (.int 1))) (d4 (i9 1) p8))))))) (d4 (a7H (d4 (aC (.str "away")) (d4 (i9 1) (d4 (aC (.int 2)) (d4 (aC (.int 1)) p8))))) (d4 (a7H (d4 (aC (.str "joins")) (d4 (i9 1) (d4 (aC (.int 1)) (d4 (aOp a3e (i9 2) (aC (.str "q"))) p8))))) p8))))))))))))
theorem b9C {w:i6} {K:b0} (W:WX):SS K W (b3c w K) a5O :=
 (m4 (w3 (f6 v3 (f6 v3 (f6 v3 c9 d5) d5) d5))
 (m4 (w3 (f6 a1q d5 d5))
 (m4 (w3 (a0x (c7 (a1l (c7 t6 (c7 c9 (c7 c9 (c7 c9 d9))))) (c7 (a1l (c7 t6 (c7 c9 (c7 d5 (c7 c9 d9))))) (c7 (a1l (c7 t6 (c7 c9 (c7 c9 d9)))) (c7 (a1l (c7 t6 (c7 c9 (c7 c9 (c7 c9 d9))))) d9))))))
 (m4 (w3 (f6 y9 c9 (a0x (c7 (a1l (c7 t6 (c7 c9 (c7 d5 (c7 (f6 a1q d5 d5) (c7 c9 d9)))))) (c7 (a1l (c7 t6 (c7 c9 (c7 c9 (c7 (f6 a1q d5 d5) (c7 (f6 a1q d5 d5) (c7 c9 d9))))))) (c7 (a1l (c7 t6 (c7 c9 (c7 d5 (c7 d5 d9))))) d9))))))
 (m4 (w3 (f6 y9 c9 (a0x (c7 (a1l (c7 t6 (c7 c9 (c7 c9 d9)))) (c7 (a1l (c7 t6 (c7 d5 (c7 d5 d9)))) (c7 (a1l (c7 t6 (c7 d5 (c7 d5 d9)))) (c7 (a1l (c7 t6 (c7 (f6 y9 c9 d5) (c7 d5 d9)))) d9)))))))
 (m4 (a3X (b6b a7Z c9 (c7 (a1l (c7 t6 (c7 c9 (c7 d5 (c7 d5 (c7 c9 d9)))))) d9)))
 (t9 (f6 y9 c9 (a0x (c7 (a1l (c7 t6 (c7 c9 (c7 d5 (c7 d5 (c7 (f6 y9 (f6 a1q d5 d5) d5) (c7 c9 d9))))))) (c7 (a1l (c7 t6 (c7 c9 (c7 d5 (c7 d5 d9))))) (c7 (a1l (c7 t6 (c7 c9 (c7 d5 (c7 (f6 y9 c9 t6) d9))))) d9))))))))))))
def a3t:Ct:=fun ρ P _=>∃ (A:Art) (man:Str),ρ = [.dat A.d,.dat (.str man)] ∧ A.Ok ∧ a0b man = true ∧ ∀ (ds:List c8) ρ',ds.length ≤ 20 → (∀ d ∈ ds,c7N d) → P (.own (.ml none ds)) ρ'
theorem b6g (ρ:List AV) (P:RV → List AV → Prop) (PX:PXT) (h:a3t ρ P PX):ρ.length = 2:=by
 obtain ⟨_,_,rfl,_⟩:=h
 rfl
theorem b4T (ρ:List AV) (P:RV → List AV → Prop) (PX:PXT) (h:a3t ρ P PX):a5O { nx:=fun ρ'=>P (.dat .none) ρ',rt:=P,ex:=PX } (ρ ++ g5 (a7O.length - ρ.length) .un):=by
 have eN:a7O.length = 5:=rfl
 obtain ⟨A,man,rfl,hA,hm,h⟩:=h
 obtain ⟨r0,rs,er⟩:∃ r0 rs,A.ranks = r0 :: rs:=by
  have:=hA.r1
  cases e:A.ranks with
  | nil=>rw [e] at this; simp at this
  | cons a l=>exact ⟨a,l,rfl⟩
 have n0:=hA.rn r0 (by rw [er]; exact e6)
 unfold a5O Art.d
 rw [er,i8]
 simp only [eN]
 unfold a2l
 have l0:=c9s n0
 have pq:a0j (r0.1 ++ m8 "q") = true:=c1o (a6u n0) (b04 _)
 have lq:(r0.1 ++ m8 "q").length ≤ 100:=by
  have:(r0.1 ++ m8 "q").length = r0.1.length + (m8 "q").length:=by
   show (r0.1 ++ m8 "q").cps.size = _
   rw [Str.cps_append,Array.size_append]
   rfl
  rw [this,b9h]
  have : "q".toList.length = 1:=rfl
  omega
 have pw:∀ n:Nat,n ≤ 100 → CPow 10 (n:Int):=fun n hn=>a4P (by omega) (by omega) (by decide)
 have p12:=pw 12 (by decide)
 have p9:=pw 9 (by decide)
 have p6:=pw 6 (by decide)
 walk_at "ax"
 refine ⟨p12,?_⟩
 walk_at "bw"
 refine ⟨p9,p6,?_⟩
 walk_at "bw"
 walk_at "bw"
 walk_at "bw"
 have l1:r0.1.length + (m8 "q").length ≤ 16777216:=by
  rw [b9h]
  have : "q".toList.length = 1:=rfl
  omega
 refine ⟨p6,l1,?_⟩
 have f1:a0t 100 0 (.str man):=a1N hm
 have f2:a0t 100 0 (.str r0.1):=a1N n0
 have f3:a0t 100 0 (.str (r0.1 ++ m8 "q")):=a8J lq pq
 have R:∀ es:List c8,es.length ≤ 6 → (∀ e ∈ es,a0t 100 0 e) → c7N (.tuple es):=fun es a b=>⟨es,rfl,a,b⟩
 refine h _ _ (by simp) fun d hd=>?_
 simp only [n8,c32,or_false] at hd
 rcases hd with rfl | rfl | rfl | rfl | rfl | rfl | rfl | rfl | rfl | rfl | rfl | rfl | rfl | rfl | rfl <;> exact R _ (by simp) (by simp [f1,f2,f3,a1E,a3V "joins",a3V "ranked",a3V "leaves",a3V "away",a3V "advance",a3V "home",a3V "slops",a3V "fine",a3V "lost"])
def a56:List Str:=["articles", "thing", "kinds", "way", "e"]
def a7z (w:i6) (K:b0) (ev:Str → m6):TS :=
 (tTry K (ev "WageError") 4 (fun W=>(a6k (a1L (tOp (c1V K) (i3 3) (tC (.int 0)))) (c17 (tCallS (spOf K (a1Z ev)) (WE W) (d3 (i3 0) (d3 (i3 1) p7)))) (c17 (tCallS (spOf K (a4f ev)) (WE W) (d3 (i3 0) (d3 (b0j (d3 (i3 1) p7)) p7)))))) (fun a cls d=>(c17 (tBM K "list" c9R (i3 2) (d3 (c62 K ev kNs 4 a cls d) p7)))) W0)
def a4N (ev:Str → m6):ASt :=
 (sTry ev kNs 4 (sIf (a4J (aOp gEq (i9 3) (aC (.int 0)))) (a9a (c4b (a1Z ev) (d4 (i9 0) (d4 (i9 1) p8)))) (a9a (c4b (a4f ev) (d4 (i9 0) (d4 (a5J (d4 (i9 1) p8)) p8))))) (fun a x=>(a9a (aMt a9U (i9 2) (d4 (c75 4 a x) p8)))))
theorem b2k {w:i6} {K:b0} {ev:Str → m6} (c7K:∀ x ∈ kNs,a6e K (ev x) (ev "WageError") = some true) (W:WX):SS K W (a7z w K ev) (a4N ev) :=
 (d3x (fun W=>(a06 (w6 (f6 a33 c9 d5)) (a3X (b34 (c7 c9 (c7 c9 d9)))) (a3X (b34 (c7 c9 (c7 (a0x (c7 c9 d9)) d9)))))) c7K (fun a x hx=>(a3X (b6b a7Z c9 (c7 (c95 hx) d9)))))
def a7A (w:i6) (K:b0) (ev:Str → m6):TS :=
 (a3I (i3 2))
def a4O (ev:Str → m6):ASt :=
 (a2w (i9 2))
theorem b2l {w:i6} {K:b0} {ev:Str → m6} (c7K:∀ x ∈ kNs,a6e K (ev x) (ev "WageError") = some true) (W:WX):SS K W (a7A w K ev) (a4O ev) :=
 (t9 c9)
def a9G (w:i6) (K:b0) (ev:Str → m6):TS :=
 (a1a (a27 (b0j p7) (t8 2))
 (a1a (tFor (d2v (d3 (tC (.int 2)) p7)) (t8 3) (a7z w K ev))
 (a7A w K ev)))
def a4q (ev:Str → m6):ASt :=
 (a0I (a2I 2 (a5J p8))
 (a0I (c45 (b4f (d4 (aC (.int 2)) p8)) (gN 3) (a4N ev))
 (a4O ev)))
theorem b49 {w:i6} {K:b0} {ev:Str → m6} (c7K:∀ x ∈ kNs,a6e K (ev x) (ev "WageError") = some true) (W:WX):SS K W (a9G w K ev) (a4q ev) :=
 (m4 (w3 (a0x d9))
 (m4 (a8e (a67 (c7 d5 d9)) a0p (b2k  c7K W))
 (b2l  c7K W)))
def a2n:Ct:=fun ρ P _=>∃ d t,ρ = [.dat d,.dat t] ∧ okD d = true ∧ a2x d = false ∧ b2m t ∧ ∀ ρ',P (.own (.ml none [.str "NoArticles+",.str "NoArticles+"])) ρ'
theorem b3o (ρ:List AV) (P:RV → List AV → Prop) (PX:PXT) (h:a2n ρ P PX):ρ.length = 2:=by
 obtain ⟨_,_,rfl,_⟩:=h
 rfl
theorem b1N (ev:Str → m6) (ρ:List AV) (P:RV → List AV → Prop) (PX:PXT) (h:a2n ρ P PX):a4q ev { nx:=fun ρ'=>P (.dat .none) ρ',rt:=P,ex:=PX } (ρ ++ g5 (a56.length - ρ.length) .un):=by
 have eN:a56.length = 5:=rfl
 obtain ⟨d,t,rfl,hd,ha,ht,h⟩:=h
 unfold a4q
 simp only [eN]
 walk_at "ax"
 refine b0A (fun ds ρ=>∃ (j:Nat) (x y:AV),j ≤ 2 ∧ ds = rng (j:Int) (2 - j) ∧ ρ = [.dat d,.dat t,.ml none (g5 j (.str "NoArticles+")),x,y]) ?_ ?_ _ _ ⟨0,_,_,by decide,rfl,rfl⟩
 ·rintro e ds ρ ⟨j,x,y,hj,hds,rfl⟩ N hN
  have hj':j = 0 ∨ j = 1:=by
   rcases Nat.lt_or_ge j 2 with h | h
   ·omega
   ·have:j = 2:=by omega
    subst this
    cases hds
  unfold a4N
  rcases hj' with rfl | rfl
  ·cases hds
   walk_at "ax"
   refine ⟨d,t,rfl,hd,ht,fun _ ρ'=>?_,fun e=>?_⟩
   ·rw [c1w,a4Q]
    refine c9h "NoArticles" (by decide) fun a=>?_
    walk_at "ax"
    walk_at "bw"
    refine c9F rfl ?_
    walk_at "ax"
    exact hN _ ⟨1,_,_,by decide,rfl,rfl⟩
   ·rw [ha] at e
    cases e
  ·cases hds
   walk_at "ax"
   refine ⟨d,_,rfl,hd,fun _ ρ'=>?_,fun e=>?_⟩
   ·rw [c1w,a4Q]
    refine c9h "NoArticles" (by decide) fun a=>?_
    walk_at "ax"
    walk_at "bw"
    refine c9F rfl ?_
    walk_at "ax"
    exact hN _ ⟨2,_,_,by decide,rfl,rfl⟩
   ·rw [ha] at e
    cases e
 ·rintro ρ ⟨j,x,y,hj,hds,rfl⟩
  have:j = 2:=by
   have:=congrArg a7K hds
   rw [a72,List.length_nil] at this
   omega
  subst this
  unfold a4O
  walk_at "ax"
  walk_at "bw"
  exact h _
end Cw
namespace Cw
open PySem L2 Aq
local macro_rules | `(tactic| walk_at "ax")=>`(tactic| simp? [b0z])
local macro_rules | `(tactic| walk_at "bw")=>`(tactic| (refine a1P ?_; walk_at "ax"))
local macro_rules | `(tactic| walk_at "fw")=>`(tactic| (refine a8o ?_; walk_at "ax"))
def c9T:List Str:=["script", "k", "draws", "articles", "pages", "crew", "others", "page", "some", "thing", "found", "odd"]
def c63 (w:i6) (K:b0) (ev:Str → m6):TS :=
 (a1a (a27 (r8 (spOf K (a1Z ev)) [] E0 (d3 (i3 3) (d3 (i3 9) p7))) (t8 10))
 (a6k (tOr (b8X (a6M K (b6a K "bool" (i3 10)))) (a1L (tOp (rNeD K) (i3 10) (r8 (spOf K a2m) [] E0 (d3 (i3 3) (d3 (i3 9) p7)))))) (a3I (tC (.bl false))) a2k))
def b4h (ev:Str → m6):ASt :=
 (a0I (a2I 10 (k9 (a1Z ev) (d4 (i9 3) (d4 (i9 9) p8))))
 (sIf (aOr (a8F (a6U (b58 "bool" (i9 10)))) (a4J (aOp gNe (i9 10) (k9 a2m (d4 (i9 3) (d4 (i9 9) p8)))))) (a2w (aC (.bool false))) a1D))
theorem c8G {w:i6} {K:b0} {ev:Str → m6} (a11:IsiOk K "bool") (W:WX):SS K W (c63 w K ev) (b4h ev) :=
 (m4 (w3 (i5 (c7 c9 (c7 c9 d9))))
 (a06 (a6b (a1r (a04 (a3v a11 c9))) (w6 (f6 c06 c9 (i5 (c7 c9 (c7 c9 d9)))))) (t9 a3E) y4))
def c64 (w:i6) (K:b0) (ev:Str → m6):TS :=
 (a1a (a27 (b0j (d3 (i3 7) (d3 (r8 (spOf K (a0h 3)) [] E0 (d3 (i3 2) (d3 (i3 7) (d3 (tC (.int 1)) p7)))) (d3 (r8 (spOf K (a0m 4)) [] E0 (d3 (i3 2) (d3 (tC (.int 2)) p7))) (d3 (tCB (c3P K) (d3 (i3 7) p7)) (d3 (tOp (a0A K) (i3 7) (b57 (d3 (tC (.str "a")) p7))) p7)))))) (t8 8))
 (tFor (b68 K (i3 8)) (t8 9) (c63 w K ev)))
def b81 (ev:Str → m6):ASt :=
 (a0I (a2I 8 (a5J (d4 (i9 7) (d4 (k9 (a0h 3) (d4 (i9 2) (d4 (i9 7) (d4 (aC (.int 1)) p8)))) (d4 (k9 (a0m 4) (d4 (i9 2) (d4 (aC (.int 2)) p8))) (d4 (aCB c2e (d4 (i9 7) p8)) (d4 (aOp a3e (i9 7) (a7H (d4 (aC (.str "a")) p8))) p8)))))))
 (c45 (a6m (i9 8)) (gN 9) (b4h ev)))
theorem c8H {w:i6} {K:b0} {ev:Str → m6} (a11:IsiOk K "bool") (W:WX):SS K W (c64 w K ev) (b81 ev) :=
 (m4 (w3 (a0x (c7 c9 (c7 (i5 (c7 c9 (c7 c9 (c7 d5 d9)))) (c7 (i5 (c7 c9 (c7 d5 d9))) (c7 (a10 c2J (c7 c9 d9)) (c7 (f6 y9 c9 (a1l (c7 t6 d9))) d9)))))))
 (a8e (a34 c9) a0p (c8G  a11 W)))
def c65 (w:i6) (K:b0) (ev:Str → m6):TS :=
 (a1a (a27 (r8 (spOf K (a0h 3)) [] E0 (d3 (i3 2) (d3 (i3 3) (d3 (tC (.int 2)) p7)))) (t8 11))
 (a6k (tAnd (b8X (a6M K (r8 (spOf K a1k) [] E0 (d3 (i3 11) p7)))) (a1L (tOp (rNeD K) (r8 (spOf K a2n) [] E0 (d3 (i3 11) (d3 (tOp (rIx K) (i3 4) (tC (.int 0))) p7))) (tOp rRep (b0j (d3 (tC (.str "NoArticles+")) p7)) (tC (.int 2)))))) (a3I (tC (.bl false))) a2k))
def b82 (ev:Str → m6):ASt :=
 (a0I (a2I 11 (k9 (a0h 3) (d4 (i9 2) (d4 (i9 3) (d4 (aC (.int 2)) p8)))))
 (sIf (c73 (a8F (a6U (k9 a1k (d4 (i9 11) p8)))) (a4J (aOp gNe (k9 a2n (d4 (i9 11) (d4 (aOp gIx (i9 4) (aC (.int 0))) p8))) (aOp gRep (a5J (d4 (aC (.str "NoArticles+")) p8)) (aC (.int 2)))))) (a2w (aC (.bool false))) a1D))
theorem c8I {w:i6} {K:b0} {ev:Str → m6} (a11:IsiOk K "bool") (W:WX):SS K W (c65 w K ev) (b82 ev) :=
 (m4 (w3 (i5 (c7 c9 (c7 c9 (c7 d5 d9)))))
 (a06 (b5p (a1r (a04 (i5 (c7 c9 d9)))) (w6 (f6 c06 (i5 (c7 c9 (c7 (f6 v3 c9 d5) d9))) (f6 d3o (a0x (c7 t6 d9)) d5)))) (t9 a3E) y4))
def c66 (w:i6) (K:b0) (ev:Str → m6):TS :=
 (a1a (a27 (tOp (rIx K) (r8 (spOf K a2F) [] E0 (d3 (i3 2) p7)) (tC (.int 1))) (t8 6))
 (a1a (tFor (b68 K (tOp (a0A K) (tOp (a0A K) (tSl (c07 K) (i3 4) tNoPart (tPart (tC (.int 9)))) (tSl (c07 K) (i3 6) tNoPart (tPart (tC (.int 5))))) (r8 (spOf K a3t) [] E0 (d3 (i3 3) (d3 (tOp (rIx K) (i3 5) (tC (.int 0))) p7))))) (t8 7) (c64 w K ev))
 (c65 w K ev)))
def b4i (ev:Str → m6):ASt :=
 (a0I (a2I 6 (aOp gIx (k9 a2F (d4 (i9 2) p8)) (aC (.int 1))))
 (a0I (c45 (a6m (aOp a3e (aOp a3e (aSl (i9 4) b80 (c0y (aC (.int 9)))) (aSl (i9 6) b80 (c0y (aC (.int 5))))) (k9 a3t (d4 (i9 3) (d4 (aOp gIx (i9 5) (aC (.int 0))) p8))))) (gN 7) (b81 ev))
 (b82 ev)))
theorem c8J {w:i6} {K:b0} {ev:Str → m6} (a11:IsiOk K "bool") (W:WX):SS K W (c66 w K ev) (b4i ev) :=
 (m4 (w3 (f6 v3 (i5 (c7 c9 d9)) d5))
 (m4 (a8e (a34 (f6 y9 (f6 y9 (c98 c9 c6G (b1J d5)) (c98 c9 c6G (b1J d5))) (i5 (c7 c9 (c7 (f6 v3 c9 d5) d9))))) a0p (c8H  a11 W))
 (c8I  a11 W)))
def c67 (w:i6) (K:b0) (ev:Str → m6):TS :=
 (a1a (a27 (r8 (spOf K a3s) [] E0 (d3 (i3 0) (d3 (i3 1) p7))) (t8 2))
 (a1a (a27 (r8 (spOf K a2F) [] E0 (d3 (i3 2) p7)) (gTup K 3 (gCons (t8 3) (gCons (t8 4) (gCons (t8 5) gNil)))))
 (c66 w K ev)))
def b83 (ev:Str → m6):ASt :=
 (a0I (a2I 2 (k9 a3s (d4 (i9 0) (d4 (i9 1) p8))))
 (a0I (sAsg (k9 a2F (d4 (i9 2) p8)) (gT 3 (a9t (gN 3) (a9t (gN 4) (a9t (gN 5) c6e)))))
 (b4i ev)))
theorem c8K {w:i6} {K:b0} {ev:Str → m6} (a11:IsiOk K "bool") (W:WX):SS K W (c67 w K ev) (b83 ev) :=
 (m4 (w3 (i5 (c7 c9 (c7 c9 d9))))
 (m4 (d3v (i5 (c7 c9 d9)) (c6g (a7Y a0p (a7Y a0p (a7Y a0p c6f)))))
 (c8J  a11 W)))
def c68 (w:i6) (K:b0) (ev:Str → m6):TS :=
 (a3I (tC (.bl true)))
def c5Y (ev:Str → m6):ASt :=
 (a2w (aC (.bool true)))
theorem c8L {w:i6} {K:b0} {ev:Str → m6} (a11:IsiOk K "bool") (W:WX):SS K W (c68 w K ev) (c5Y ev) :=
 (t9 a3E)
def d3y (w:i6) (K:b0) (ev:Str → m6):TS :=
 (a1a (tFor (d2v (d3 (tCB (d09 K) (d3 (tC (.int 1)) (d3 (tCB (c41 K) (d3 (tC (.int 30)) (d3 (tCB (a4R K) (d3 (i3 0) p7)) p7))) p7))) p7)) (t8 1) (c67 w K ev))
 (c68 w K ev))
def c77 (ev:Str → m6):ASt :=
 (a0I (c45 (b4f (d4 (aCB gMax (d4 (aC (.int 1)) (d4 (aCB d0c (d4 (aC (.int 30)) (d4 (c2a 0) p8))) p8))) p8)) (gN 1) (b83 ev))
 (c5Y ev))
theorem d3w {w:i6} {K:b0} {ev:Str → m6} (a11:IsiOk K "bool") (W:WX):SS K W (d3y w K ev) (c77 ev) :=
 (m4 (a8e (a67 (c7 (a10 d3n (c7 d5 (c7 (a10 c3O (c7 d5 (c7 b89 d9))) d9))) d9)) a0p (c8K  a11 W))
 (c8L  a11 W))
/-- one thing -/
theorem law1 (ev:Str → m6) {A:Art} (hA:A.Ok) {t:c8} (ht:b2m t) {D:AEnds} {x0 x1 x2 x4 x5 x6 x7 x8 x10 x11:AV} (hN:∀ x10,D.nx [x0,x1,x2,.dat A.d,x4,x5,x6,x7,x8,.dat t,x10,x11]) :
  b4h ev D [x0,x1,x2,.dat A.d,x4,x5,x6,x7,x8,.dat t,x10,x11]:=by
 have okA:okD A.d = true:=(hA.fine.wid (c:=10000) (by decide)).1
 unfold b4h
 walk_at "ax"
 refine ⟨A.d,t,rfl,okA,ht,fun e=>?_,fun _=>⟨A,hA,rfl,fun ρ'=>?_⟩⟩
 ·rw [hA.is] at e
  cases e
 ·walk_at "ax"
  refine ⟨A,t,rfl,hA,ht,fun ρ'=>?_⟩
  walk_at "ax"
  exact hN _
/-- one page -/
theorem law2 (ev:Str → m6) {A:Art} (hA:A.Ok) {pg:c8} (hp:c7N pg) {a b:Int} (hd:Dw a b) {D:AEnds} {x0 x1 x4 x5 x6 x8 x9 x10 x11:AV} (hN:∀ a b x8 x9 x10,Dw a b → D.nx [x0,x1,.ml none [.int a,.int b],.dat A.d,x4,x5,x6,.dat pg,x8,x9,x10,x11]) :
  b81 ev D [x0,x1,.ml none [.int a,.int b],.dat A.d,x4,x5,x6,.dat pg,x8,x9,x10,x11]:=by
 obtain ⟨es,rfl,el,ef⟩:=hp
 unfold b81
 walk_at "ax"
 walk_at "bw"
 refine ⟨a,b,.tuple es,1,100,0,es,rfl,hd,.inl rfl,by omega,ef,by decide,by decide,by decide,by decide,by decide,fun fs a1 b1 ρ' l1 f1 hd1 ho=>?_⟩
 have fin:∀ (o:c8),b2m o → ∀ (x:c8),b2m x → ∀ a b,Dw a b → b1y (gN 9) (b4h ev) D [.tuple es,o,x,.list es,.tuple (es ++ [.str "a"])] [x0,x1,.ml none [.int a,.int b],.dat A.d,x4,x5,x6,.dat (.tuple es),.dat (.list [.tuple es,o,x,.list es,.tuple (es ++ [.str "a"])]),x9,x10,x11]:=by
  intro o ho x hx a b hd
  refine b0A (fun ds ρ=>(∀ d ∈ ds,b2m d) ∧ ∃ x9 x10,ρ = [x0,x1,.ml none [.int a,.int b],.dat A.d,x4,x5,x6,.dat (.tuple es),.dat (.list [.tuple es,o,x,.list es,.tuple (es ++ [.str "a"])]),x9,x10,x11]) ?_ ?_ _ _ ⟨?_,_,_,rfl⟩
  ·rintro d ds ρ ⟨hds,x9,x10,rfl⟩ N hN2
   exact law1 ev hA (hds d e6) fun x10=>hN2 _ ⟨fun e he=>hds e (e8 _ he),_,_,rfl⟩
  ·rintro ρ ⟨_,x9,x10,rfl⟩
   exact hN _ _ _ _ _ hd
  ·have w:∀ {d:c8} {n:Nat},a0t 100 n d → n ≤ 60 → b2m d:=fun h hn=>⟨(h.wid (c:=10000) (by decide)).1,a0f h.2 hn⟩
   intro d hd
   simp only [n8,c32,or_false] at hd
   rcases hd with rfl | rfl | rfl | rfl | rfl
   ·exact w (a3d (n:=0) (by omega) ef) (by decide)
   ·exact ho
   ·exact hx
   ·exact w (a2H (n:=0) (by omega) ef) (by decide)
   ·refine w (a3d (n:=0) (by simp; omega) fun e he=>?_) (by decide)
    rcases v8.mp he with he | he
    ·exact ef e he
    ·simp at he
     subst he
     exact a3V "a"
 have w1:∀ {d:c8} {n:Nat},a0t 100 n d → n ≤ 60 → b2m d:=fun h hn=>⟨(h.wid (c:=10000) (by decide)).1,a0f h.2 hn⟩
 have w2:∀ d:c8,a0t 110 5 d → b2m d:=fun d h=>⟨(h.wid (c:=10000) (by decide)).1,a0f h.2 (by decide)⟩
 constructor
 ·rw [a5p,a1g ho]
  walk_at "ax"
  walk_at "bw"
  refine ⟨a1,b1,2,rfl,hd1,by decide,by decide,fun x a2 b2 ρ' fx hd2 ho2=>?_⟩
  rw [a5p,a1g ho2]
  walk_at "ax"
  refine ⟨by omega,?_⟩
  walk_at "fw"
  exact fin _ (w2 _ (a3d (n:=4) l1 f1)) x (w1 fx (by decide)) _ _ hd2
 ·rw [a90,a1g ho]
  walk_at "ax"
  walk_at "bw"
  refine ⟨a1,b1,2,rfl,hd1,by decide,by decide,fun x a2 b2 ρ' fx hd2 ho2=>?_⟩
  rw [a5p,a1g ho2]
  walk_at "ax"
  refine ⟨by omega,?_⟩
  walk_at "fw"
  exact fin _ (w2 _ (a2H (n:=4) l1 f1)) x (w1 fx (by decide)) _ _ hd2
theorem shp2:a0k (c5P [v5 (m8 "NoArticles+"),v5 (m8 "NoArticles+")]) = true :=
 a0t.shp (b:=100) (n:=1) (a2H (n:=0) (by decide) fun e he=>by
  simp at he
  subst he
  exact a3V "NoArticles+") (by decide)
/-- articles with one thing otherwise -/
theorem law3 (ev:Str → m6) {A:Art} (hA:A.Ok) {p:Pg} {ps:List Pg} (hp:p.Ok A) {a b:Int} (hd:Dw a b) {D:AEnds} {x0 x1 x5 x6 x7 x8 x9 x10 x11:AV} (hN:∀ x2 x11,D.nx [x0,x1,x2,.dat A.d,.dat (.list ((p :: ps).map Pg.d)),x5,x6,x7,x8,x9,x10,x11]) :
  b82 ev D [x0,x1,.ml none [.int a,.int b],.dat A.d,.dat (.list ((p :: ps).map Pg.d)),x5,x6,x7,x8,x9,x10,x11]:=by
 obtain ⟨f1,f2⟩:=a0t.tup (n:=2) hA.fine
 have hp2:=c69 hA hp
 unfold b82
 rw [i8] at hN ⊢
 walk_at "ax"
 walk_at "bw"
 refine ⟨a,b,A.d,2,100,2,_,rfl,hd,.inl rfl,f1,f2,by decide,by decide,by decide,by decide,by decide,fun es a1 b1 ρ' e1 e2 hd1 ho=>?_⟩
 constructor
 ·have okE:okD (.tuple es) = true:=((a3d e1 e2).wid (c:=10000) (by decide)).1
  rw [a5p,a1g ho]
  walk_at "ax"
  refine ⟨_,rfl,okE,fun ρ'=>?_⟩
  cases ha:a2x (.tuple es) with
  | true =>
   walk_at "ax"
   exact hN _ _
  | false =>
   walk_at "ax"
   refine ⟨_,p.d,rfl,okE,ha,hp2,fun ρ'=>?_⟩
   walk_at "ax"
   refine ⟨shp2,?_⟩
   rw [if_pos (by simp [a0V,i7])]
   exact hN _ _
 ·have okE:okD (.list es) = true:=((a2H e1 e2).wid (c:=10000) (by decide)).1
  rw [a90,a1g ho]
  walk_at "ax"
  walk_at "fw"
  refine ⟨_,rfl,okE,fun ρ'=>?_⟩
  cases ha:a2x (.list es) with
  | true =>
   walk_at "ax"
   exact hN _ _
  | false =>
   walk_at "ax"
   refine ⟨_,p.d,rfl,okE,ha,hp2,fun ρ'=>?_⟩
   walk_at "ax"
   refine ⟨shp2,?_⟩
   rw [if_pos (by simp [a0V,i7])]
   exact hN _ _
def c_law:Ct:=fun ρ P _=>∃ ns,ρ = [.scr ns] ∧ ∀ ρ',P (.dat (.bool true)) ρ'
theorem Book.nil {A:Art} {ps:List Pg} {crew:List Str} (h:BookOk A ps crew) (hc:CrewOk crew):∃ p qs,ps = p :: qs:=by
 cases ps with
 | nil =>
  cases crew with
  | nil=>have:=hc.few.1; simp at this
  | cons m crew =>
   obtain ⟨p,hp,_⟩:=h.all m e6
   simp at hp
 | cons p qs=>exact ⟨p,qs,rfl⟩
/-- behind the book -/
theorem law4b (ev:Str → m6) {A:Art} {ps:List Pg} {crew:List Str} {a1 b1:Int} (hA:ArtG 1000000000 A) (hB:BookOk A ps crew) (hC:CrewOk crew) (hd1:Dw a1 b1) {D:AEnds} {x0 x1 x6 x7 x8 x9 x10 x11:AV} (hN:∀ x2 x3 x4 x5 x6 x7 x8 x9 x10 x11,D.nx [x0,x1,x2,x3,x4,x5,x6,x7,x8,x9,x10,x11]) :
  b4i ev D [x0,x1,.ml none [.int a1,.int b1],.dat A.d,.dat (.list (ps.map Pg.d)),.dat (.list (crew.map .str)),x6,x7,x8,x9,x10,x11]:=by
 unfold b4i
 walk_at "ax"
 walk_at "bw"
 refine ⟨a1,b1,rfl,hd1,fun A2 ps2 crew2 a2 b2 ρ' hA2 hB2 hC2 hd2 ho=>?_⟩
 rw [a5p,a1g ho]
 unfold d2G
 walk_at "ax"
 obtain ⟨p0,qs,rfl⟩:=Book.nil hB hC
 obtain ⟨c0,cs,rfl⟩:∃ c cs,crew = c :: cs:=by
  cases crew with
  | nil=>have:=hC.few.1; simp at this
  | cons m crew=>exact ⟨m,crew,rfl⟩
 have cl:∀ (ds:List c8) lo hi,(b59 ds lo hi).length ≤ ds.length:=fun ds lo hi=>by
  unfold b59
  rw [b2V,c31]
  omega
 have cm:∀ (ds:List c8) lo hi,∀ x ∈ b59 ds lo hi,x ∈ ds:=fun ds lo hi x hx=>a7f (a37 hx)
 have rw1:∀ x ∈ b59 ((p0 :: qs).map Pg.d) none (some 9),c7N x:=fun x hx=>by
  obtain ⟨p,hp,rfl⟩:=e7.mp (cm _ _ _ x hx)
  exact c7N.pg hA.ok (hB.ok p hp)
 have rw2:∀ x ∈ b59 (ps2.map Pg.d) none (some 5),c7N x:=fun x hx=>by
  obtain ⟨p,hp,rfl⟩:=e7.mp (cm _ _ _ x hx)
  exact c7N.pg hA2.ok (hB2.ok p hp)
 have l1:=cl ((p0 :: qs).map Pg.d) none (some 9)
 have l2:=cl (ps2.map Pg.d) none (some 5)
 have b1:=hB.few
 have b2:=hB2.few
 rw [j3] at l1 l2
 generalize b59 ((p0 :: qs).map Pg.d) none (some 9) = u1 at rw1 l1 ⊢
 generalize b59 (ps2.map Pg.d) none (some 5) = u2 at rw2 l2 ⊢
 refine ⟨by omega,?_⟩
 rw [i8 (f:=v5)]
 walk_at "ax"
 refine ⟨A,c0,rfl,hA.ok,hC.nm c0 e6,fun ds ρ' dl dr=>?_⟩
 walk_at "ax"
 refine ⟨by omega,?_⟩
 refine b0A (fun ds ρ=>(∀ d ∈ ds,c7N d) ∧ ∃ a b x5 x6 x7 x8 x9 x10 x11,Dw a b ∧ ρ = [x0,x1,.ml none [.int a,.int b],.dat A.d,.dat (.list ((p0 :: qs).map Pg.d)),x5,x6,x7,x8,x9,x10,x11]) ?_ ?_ _ _ ⟨fun d hd=>?_,_,_,_,_,_,_,_,_,_,hd2,rfl⟩
 ·rintro d ds ρ ⟨hds,a,b,x5,x6,x7,x8,x9,x10,x11,hd,rfl⟩ N hN2
  exact law2 ev hA.ok (hds d e6) hd fun a b x8 x9 x10 hd=>hN2 _ ⟨fun e he=>hds e (e8 _ he),_,_,_,_,_,_,_,_,_,hd,rfl⟩
 ·rintro ρ ⟨_,a,b,x5,x6,x7,x8,x9,x10,x11,hd,rfl⟩
  exact law3 ev hA.ok (hB.ok p0 e6) hd fun x2 x11=>hN _ _ _ _ _ _ _ _ _ _
 ·simp only [v8] at hd
  rcases hd with hd | hd | hd
  ·exact rw1 d hd
  ·exact rw2 d hd
  ·exact dr d hd
theorem law4 (ev:Str → m6) {ns:List Int} {i:Int} (i0:0 ≤ i) (i1:i ≤ 1000) {D:AEnds} {x2 x3 x4 x5 x6 x7 x8 x9 x10 x11:AV} (hN:∀ x2 x3 x4 x5 x6 x7 x8 x9 x10 x11,D.nx [.scr ns,.dat (.int i),x2,x3,x4,x5,x6,x7,x8,x9,x10,x11]) :
  b83 ev D [.scr ns,.dat (.int i),x2,x3,x4,x5,x6,x7,x8,x9,x10,x11]:=by
 unfold b83
 walk_at "ax"
 refine ⟨ns,i,rfl,i0,i1,fun a b ρ' hd=>?_⟩
 walk_at "ax"
 walk_at "bw"
 refine ⟨a,b,rfl,hd,fun A ps crew a1 b1 ρ' hA hB hC hd1 ho=>?_⟩
 rw [a5p,a1g ho]
 rw [a4Q]
 refine ⟨rfl,?_⟩
 change b4i ev D [.scr ns,.dat (.int i),.ml none [.int a1,.int b1],.dat A.d,.dat (.list (ps.map Pg.d)),.dat (.list (crew.map .str)),x6,x7,x8,x9,x10,x11]
 exact law4b ev hA hB hC hd1 fun x2 x3 x4 x5 x6 x7 x8 x9 x10 x11=>hN _ _ _ _ _ _ _ _ _ _
theorem d0W (ρ:List AV) (P:RV → List AV → Prop) (PX:PXT) (h:c_law ρ P PX):ρ.length = 1:=by
 obtain ⟨_,rfl,_⟩:=h
 rfl
theorem c8x (ev:Str → m6) (ρ:List AV) (P:RV → List AV → Prop) (PX:PXT) (h:c_law ρ P PX):c77 ev { nx:=fun ρ'=>P (.dat .none) ρ',rt:=P,ex:=PX } (ρ ++ g5 (c9T.length - ρ.length) .un):=by
 have eN:c9T.length = 12:=rfl
 obtain ⟨ns,rfl,h⟩:=h
 unfold c77
 simp only [eN]
 walk_at "ax"
 generalize hm:(if 1 < if (ns.length:Int) < 30 then (ns.length:Int) else 30 then if (ns.length:Int) < 30 then (ns.length:Int) else 30 else 1) = m
 have hm2:1 ≤ m ∧ m ≤ 30:=by
  subst hm
  split <;> split <;> omega
 refine ⟨by omega,?_⟩
 refine b0A (fun ds ρ=>(∀ d ∈ ds,∃ i,d = .int i ∧ 0 ≤ i ∧ i ≤ 1000) ∧ ∃ x1 x2 x3 x4 x5 x6 x7 x8 x9 x10 x11,ρ = [.scr ns,x1,x2,x3,x4,x5,x6,x7,x8,x9,x10,x11]) ?_ ?_ _ _ ⟨fun d hd=>?_,_,_,_,_,_,_,_,_,_,_,_,rfl⟩
 ·rintro d ds ρ ⟨hds,x1,x2,x3,x4,x5,x6,x7,x8,x9,x10,x11,rfl⟩ N hN
  obtain ⟨i,rfl,i0,i1⟩:=hds d e6
  exact law4 ev i0 i1 fun x2 x3 x4 x5 x6 x7 x8 x9 x10 x11=>hN _ ⟨fun d hd=>hds d (e8 _ hd),_,_,_,_,_,_,_,_,_,_,_,rfl⟩
 ·rintro ρ ⟨_,x1,x2,x3,x4,x5,x6,x7,x8,x9,x10,x11,rfl⟩
  exact h _
 ·obtain ⟨i,rfl,i0,i1⟩:=b4H hd
  exact ⟨i,rfl,i0,by omega⟩
theorem law_go (ns:List Int) (hl:ns.length ≤ 63) (P:RV → List AV → Prop) (PX:PXT) (h:∀ ρ',P (.dat (.bool true)) ρ'):c_law [.scr ns] P PX:=⟨ns,rfl,h⟩
end Cw
set_option maxHeartbeats 0
namespace Cw
open PySem PySem.Spec PyProof.Rows L2 Aq
theorem c8e {K:b0}:IsiOk K "bool" := ⟨by
 intro U hU
 simp only [n8,a6N,or_false] at hU
 rcases hU with rfl | rfl | rfl | rfl | rfl | rfl | rfl <;> kernel_rfl⟩
theorem d0f {K:b0}:IsiOk K "int" := ⟨by
 intro U hU
 simp only [n8,a6N,or_false] at hU
 rcases hU with rfl | rfl | rfl | rfl | rfl | rfl | rfl <;> kernel_rfl⟩
theorem c8f {K:b0}:IsiOk K "list" := ⟨by
 intro U hU
 simp only [n8,a6N,or_false] at hU
 rcases hU with rfl | rfl | rfl | rfl | rfl | rfl | rfl <;> kernel_rfl⟩
theorem d0g {K:b0}:IsiOk K "str" := ⟨by
 intro U hU
 simp only [n8,a6N,or_false] at hU
 rcases hU with rfl | rfl | rfl | rfl | rfl | rfl | rfl <;> kernel_rfl⟩
theorem c6j {K:b0}:IsiOk K "tuple" := ⟨by
 intro U hU
 simp only [n8,a6N,or_false] at hU
 rcases hU with rfl | rfl | rfl | rfl | rfl | rfl | rfl <;> kernel_rfl⟩
section
variable {P:a2q} {w:i6} {K:b0} {mg:Str → Option m6} {base:b8V}
theorem b0R:a0B a7N ["script", "k"] (i4 (top 40)):=⟨rfl,rfl,rfl,by decide +kernel,rfl,by decide +kernel,by decide +kernel⟩
theorem b9k {f:v4} {fd:w8} (F:FnP K "_law_draws" (top 40) f fd) (gm:mg "_law_draws" = some (.ref f)) (a07:mg "len" = none) (b9V:mg "int" = none):Fn P w K mg base CX0 1 "_law_draws" ["script", "k"] a3s:=by
 have nd:=b0R.nd
 refine Fn.mk0 (k:=0) (t:=b3b w K) (a:=a5N) F b0R gm (F.bindsN fun _ _ _ _ _ _ us hl=>match us,hl with | [_,_],_=>rfl) b6f (fun W=>b9B W) (b4S) fun cdv A outer s H E hr=>?_
 exact (f8 (z4 (i:=2) nd rfl nofun (t4 b1t d6 (pv 1)))
 (f8 (a1F (z6 b25 (pv 1) (y5 a1v (by rfl) a07 (by decide +kernel) (c6 (pv 0) d8)) (a0i _)) (j6 (z4 (i:=2) nd rfl nofun (t4 c5T (v9 n6 (pv 0) (pv 1) (fun _ _=>rfl)) (t4 b1t (t4 a13 d6 d6) (t4 a13 d6 d6))))) (j6 (a1F (z6 b4R (y5 a1v (by rfl) a07 (by decide +kernel) (c6 (pv 0) d8)) d6 (a0i _)) (j6 (z4 (i:=2) nd rfl nofun (t4 t0 (t4 c5T (v9 n6 (pv 0) (t4 c5T (pv 1) (y5 a1v (by rfl) a07 (by decide +kernel) (c6 (pv 0) d8))) (fun _ _=>rfl)) (t4 a13 d6 d6)) (t4 b1t d6 (pv 1))))) a0d)))
 (j6 (w4 (a02 (c6 (t4 b1t (pv 2) (a3H c51 (by rfl) b9V (by decide +kernel) (c6 (a5d d3j (pv 2) (t4 a13 d6 d6) (a0i _)) d8))) (c6 (t4 t0 d6 (t4 c5T (t4 t0 (t4 b1t (pv 2) d6) (t4 b1t d6 (t4 t0 (pv 1) d6))) d6)) d8)))))))
theorem b28:a0B a9M ["draws", "many"] (i4 (top 41)):=⟨rfl,rfl,rfl,by decide +kernel,rfl,by decide +kernel,by decide +kernel⟩
theorem c0W {f:v4} {fd:w8} (F:FnP K "_law_draw" (top 41) f fd) (gm:mg "_law_draw" = some (.ref f)):Fn P w K mg base CX0 1 "_law_draw" ["draws", "many"] d7:=by
 have nd:=b28.nd
 refine Fn.mk0 (k:=0) (t:=b5e w K) (a:=a6X) F b28 gm (F.bindsN fun _ _ _ _ _ _ us hl=>match us,hl with | [_,_],_=>rfl) b9e (fun W=>c1e W) (b6o) fun cdv A outer s H E hr=>?_
 exact (f8 (a1F (z6 b4R (v9 n6 (pv 0) d6 (fun _ _=>rfl)) d6 (a0i _)) (f8 (z4 (i:=2) nd rfl nofun (t4 c5T (v9 n6 (pv 0) d6 (fun _ _=>rfl)) (pv 1)))
 (f8 (c89 (t4 b55 (v9 n6 (pv 0) d6 (fun _ _=>rfl)) (pv 1)) (d2x (pv 0) d6 c0u))
 (j6 (w4 (pv 2))))) a0d)
 (f8 (z4 (i:=2) nd rfl nofun d6)
 (f8 (z4 (i:=3) nd rfl nofun d6)
 (f8 (ps_while a0M (z6 b25 (pv 3) (pv 1) (a0i _)) (f8 (c89 (t4 c5T (t4 b1t (v9 n6 (pv 0) d6 (fun _ _=>rfl)) d6) d6) (d2x (pv 0) d6 c0u))
 (f8 (z4 (i:=2) nd rfl nofun (t4 t0 (t4 b1t (pv 2) d6) (t4 b55 (t4 c5T (t4 b1t (v9 n6 (pv 0) d6 (fun _ _=>rfl)) (t4 t0 (t4 b55 (v9 n6 (pv 0) d6 (fun _ _=>rfl)) d6) d6)) d6) d6)))
 (j6 (z4 (i:=3) nd rfl nofun (t4 b1t (pv 3) d6))))))
 (j6 (w4 (t4 c5T (pv 2) (pv 1))))))))
theorem b0T:a0B a4y ["draws", "many"] (i4 (top 42)):=⟨rfl,rfl,rfl,by decide +kernel,rfl,by decide +kernel,by decide +kernel⟩
theorem b9m {f:v4} {fd:w8} (F:FnP K "_law_names" (top 42) f fd) (gm:mg "_law_names" = some (.ref f)) (a00:mg "range" = none) (a47:mg "sorted" = none) (F__law_draw:Fn P w K mg base CX0 1 "_law_draw" ["draws", "many"] d7):Fn P w K mg base CX0 2 "_law_names" ["draws", "many"] y8:=by
 obtain ⟨a1S,a1i,g6,g7,g9,g8⟩:=F__law_draw.ex
 have g4:1 ≤ 1:=by decide
 have nd:=b0T.nd
 refine Fn.mk0 (k:=1) (t:=b3d w K) (a:=a5P) F b0T gm (F.bindsN fun _ _ _ _ _ _ us hl=>match us,hl with | [_,_],_=>rfl) b6h (fun W=>b9D W) (b4U) fun cdv A outer s H E hr=>?_
 exact (f8 (z4 (i:=2) nd rfl nofun t5)
 (f8 (z4 (i:=3) nd rfl nofun (c3N t5 (c5U (own:=[("k",6)]) (g:=(t8 6)) (tt:=c18) (te:=(tOp (rIx K) (i3 2) (r8 (spOf K d7) [] E0 (d3 (i3 0) (d3 (tC (.int 26)) p7)))))  (by rfl) nd  (b0o (by rfl) a00 (c6 (v9 n6 (a02 (c6 d6 (c6 d6 (c6 d6 (c6 d6 d8))))) (f7 g6 hr g4 (by rfl) g7 g9 g8 (c6 (pv 0) (c6 d6 d8))) (fun _ _=>rfl)) d8)) (a2U (own:=[("k",6)]) (N:=a4y) (sc:=i4 (top 42)) (by decide +kernel)) (fun _ _ _ _ _=>(a0O (i:=6) nd rfl nofun)) (fun _ _ _ _ _=>a6P) (fun _ _ _ _ _=>(v9 n6 (pv 2) (f7 g6 hr g4 (by rfl) g7 g9 g8 (c6 (pv 0) (c6 d6 d8))) (fun _ _=>rfl))))))
 (f8 (z4 (i:=4) nd rfl nofun (f7 g6 hr g4 (by rfl) g7 g9 g8 (c6 (pv 0) (c6 d6 d8))))
 (f8 (z4 (i:=5) nd rfl nofun (v9 n6 (a02 (c6 d6 (c6 d6 (c6 d6 (c6 d6 d8))))) (f7 g6 hr g4 (by rfl) g7 g9 g8 (c6 (pv 0) (c6 d6 d8))) (fun _ _=>rfl)))
 (j6 (w4 (y5 (AqS.cr_sortD hr.units) (by rfl) a47 (by decide +kernel) (c6 (c5U (own:=[("k",6)]) (g:=(t8 6)) (tt:=c18) (te:=(tOp (a0A K) (i3 3) (tOp (rIx K) (i3 2) (tOp b4X (tOp (a0A K) (i3 4) (tOp b14 (i3 5) (i3 6))) (tC (.int 26))))))  (by rfl) nd  (b0o (by rfl) a00 (c6 (pv 1) d8)) (a2U (own:=[("k",6)]) (N:=a4y) (sc:=i4 (top 42)) (by decide +kernel)) (fun _ _ _ _ _=>(a0O (i:=6) nd rfl nofun)) (fun _ _ _ _ _=>a6P) (fun _ _ _ _ _=>(t4 t0 (pv 3) (v9 n6 (pv 2) (t4 c5T (t4 t0 (pv 4) (t4 b1t (pv 5) (pv 6))) d6) (fun _ _=>rfl))))) d8))))))))
theorem a7j:a0B a3K ["draws", "great"] (i4 (top 43)):=⟨rfl,rfl,rfl,by decide +kernel,rfl,by decide +kernel,by decide +kernel⟩
theorem b3q {f:v4} {fd:w8} (F:FnP K "_law_articles" (top 43) f fd) (gm:mg "_law_articles" = some (.ref f)) (a0s:mg "tuple" = none) (F__law_draw:Fn P w K mg base CX0 1 "_law_draw" ["draws", "many"] d7) (F__law_names:Fn P w K mg base CX0 2 "_law_names" ["draws", "many"] y8):Fn P w K mg base CX0 3 "_law_articles" ["draws", "great"] a0P:=by
 obtain ⟨a1S,a1i,g6,g7,g9,g8⟩:=F__law_draw.ex
 have g4:1 ≤ 2:=by decide
 obtain ⟨a8t,a48,a15,a16,a18,a17⟩:=F__law_names.ex
 have a1Q:2 ≤ 2:=by decide
 have nd:=a7j.nd
 refine Fn.mk0 (k:=2) (t:=a8f w K) (a:=a3P) F a7j gm (F.bindsN fun _ _ _ _ _ _ us hl=>match us,hl with | [_,_],_=>rfl) b1A (fun W=>b3x W) (b0L) fun cdv A outer s H E hr=>?_
 exact (f8 (z4 (i:=2) nd rfl nofun (a02 d8))
 (f8 (c0t a0M rfl (a35 (f7 a15 hr a1Q (by rfl) a16 a18 a17 (c6 (pv 0) (c6 (t4 t0 d6 (f7 g6 hr g4 (by rfl) g7 g9 g8 (c6 (pv 0) (c6 d6 d8)))) d8)))) (a0O (i:=3) nd rfl nofun) (f8 (z4 (i:=4) nd rfl nofun (v9 n6 (a02 (c6 (f7 g6 hr g4 (by rfl) g7 g9 g8 (c6 (pv 0) (c6 d6 d8))) (c6 (t4 t0 d6 (f7 g6 hr g4 (by rfl) g7 g9 g8 (c6 (pv 0) (c6 d6 d8)))) (c6 d6 (c6 (f7 g6 hr g4 (by rfl) g7 g9 g8 (c6 (pv 0) (c6 (t4 t0 (pv 1) d6) d8))) d8))))) (f7 g6 hr g4 (by rfl) g7 g9 g8 (c6 (pv 0) (c6 d6 d8))) (fun _ _=>rfl)))
 (j6 (a6O (d2w a0a a2z a2A c5S (pv 2) (c6 (a1U (c6 (pv 3) (c6 (pv 4) (c6 (v9 n6 (a02 (c6 d6 (c6 d6 (c6 (t4 t0 d6 (f7 g6 hr g4 (by rfl) g7 g9 g8 (c6 (pv 0) (c6 d6 d8)))) (c6 (t4 t0 d6 (f7 g6 hr g4 (by rfl) g7 g9 g8 (c6 (pv 0) (c6 d6 d8)))) d8))))) (f7 g6 hr g4 (by rfl) g7 g9 g8 (c6 (pv 0) (c6 d6 d8))) (fun _ _=>rfl)) d8)))) d8))))))
 (f8 (ps_setLc (i:=5) (own:=[("name",3)]) (g:=(t8 3)) (tt:=c18) (te:=(b57 (d3 (i3 3) (d3 (tOp (a0A K) (tC (.int 1)) (r8 (spOf K d7) [] E0 (d3 (i3 0) (d3 (tC (.int 9)) p7)))) p7))))  (by rfl) nd rfl rfl (sw_true rfl rfl rfl (by decide +kernel))  (a35 (f7 a15 hr a1Q (by rfl) a16 a18 a17 (c6 (pv 0) (c6 (t4 t0 d6 (f7 g6 hr g4 (by rfl) g7 g9 g8 (c6 (pv 0) (c6 d6 d8)))) d8)))) (a2U (own:=[("name",3)]) (N:=a3K) (sc:=i4 (top 43)) (by decide +kernel)) (fun _ _ _ _ _=>(a0O (i:=3) nd rfl nofun)) (fun _ _ _ _ _=>a6P) (fun _ _ _ _ _=>(a1U (c6 (pv 3) (c6 (t4 t0 d6 (f7 g6 hr g4 (by rfl) g7 g9 g8 (c6 (pv 0) (c6 d6 d8)))) d8)))))
 (f8 (z4 (i:=6) nd rfl nofun (v9 n6 (a02 (c6 d6 (c6 d6 (c6 (t4 t0 d6 (f7 g6 hr g4 (by rfl) g7 g9 g8 (c6 (pv 0) (c6 d6 d8)))) (c6 d6 d8))))) (f7 g6 hr g4 (by rfl) g7 g9 g8 (c6 (pv 0) (c6 d6 d8))) (fun _ _=>rfl)))
 (j6 (w4 (a1U (c6 (a3H a7E (by rfl) a0s (by decide +kernel) (c6 (pv 2) d8)) (c6 (a3H a7E (by rfl) a0s (by decide +kernel) (c6 (pv 5) d8)) (c6 (pv 6) d8))))))))))
theorem a5V:a0B a38 ["draws", "articles", "man", "far"] (i4 (top 44)):=⟨rfl,rfl,rfl,by decide +kernel,rfl,by decide +kernel,by decide +kernel⟩
theorem b0J {f:v4} {fd:w8} (F:FnP K "_law_turn_pages" (top 44) f fd) (gm:mg "_law_turn_pages" = some (.ref f)) (a00:mg "range" = none) (a07:mg "len" = none) (b3M:mg "min" = none) (F__law_draw:Fn P w K mg base CX0 1 "_law_draw" ["draws", "many"] d7):Fn P w K mg base CX0 2 "_law_turn_pages" ["draws", "articles", "man", "far"] a1x:=by
 obtain ⟨a1S,a1i,g6,g7,g9,g8⟩:=F__law_draw.ex
 have g4:1 ≤ 1:=by decide
 have nd:=a5V.nd
 refine Fn.mk0 (k:=1) (t:=a6B w K) (a:=a2L) F a5V gm (F.bindsN fun _ _ _ _ _ _ us hl=>match us,hl with | [_,_,_,_],_=>rfl) a9T (fun W=>b03 W) (a89) fun cdv A outer s H E hr=>?_
 exact (f8 (z4 (i:=4) nd rfl nofun (a02 d8))
 (f8 (z4 (i:=5) nd rfl nofun (f7 g6 hr g4 (by rfl) g7 g9 g8 (c6 (pv 0) (c6 (t4 t0 d6 (t4 b55 (pv 3) d6)) d8))))
 (f8 (z4 (i:=6) nd rfl nofun a5I)
 (f8 (c0t a0M rfl (b0o (by rfl) a00 (c6 (t4 t0 d6 (f7 g6 hr g4 (by rfl) g7 g9 g8 (c6 (pv 0) (c6 d6 d8)))) d8)) (a0O (i:=7) nd rfl nofun) (f8 (z4 (i:=8) nd rfl nofun t5)
 (f8 (a1F (a03 (pv 6)) (j6 (z4 (i:=8) nd rfl nofun (v9 n6 (a02 (c6 t5 (c6 t5 d8))) (t4 b55 (f7 g6 hr g4 (by rfl) g7 g9 g8 (c6 (pv 0) (c6 d6 d8))) d6) (fun _ _=>rfl)))) a0d)
 (f8 (z4 (i:=6) nd rfl nofun (a5d (c88 hr.units) (pv 8) t5 (a0i _)))
 (f8 (z4 (i:=9) nd rfl nofun (a1U (c6 (pv 8) (c6 (pv 2) (c6 (pv 5) d8)))))
 (f8 (a1F (a03 (pv 6)) (j6 (z4 (i:=9) nd rfl nofun (t4 t0 (pv 9) (a1U (c6 (v9 n6 (v9 n6 (v9 n6 (pv 1) d6 (fun _ _=>rfl)) (f7 g6 hr g4 (by rfl) g7 g9 g8 (c6 (pv 0) (c6 (y5 a1v (by rfl) a07 (by decide +kernel) (c6 (v9 n6 (pv 1) d6 (fun _ _=>rfl)) d8)) d8))) (fun _ _=>rfl)) d6 (fun _ _=>rfl)) d8))))) a0d)
 (f8 (a6O (d2w a0a a2z a2A c5S (pv 4) (c6 (pv 9) d8)))
 (j6 (z4 (i:=5) nd rfl nofun (y5 (b0u rfl) (by rfl) b3M (by decide +kernel) (c6 (t4 a13 d6 d6) (c6 (t4 t0 (t4 t0 (pv 5) d6) (f7 g6 hr g4 (by rfl) g7 g9 g8 (c6 (pv 0) (c6 (v9 n6 (a02 (c6 d6 (c6 (t4 t0 d6 (t4 b55 (pv 3) d6)) d8))) (f7 g6 hr g4 (by rfl) g7 g9 g8 (c6 (pv 0) (c6 d6 d8))) (fun _ _=>rfl)) d8)))) d8))))))))))))
 (j6 (w4 (pv 4)))))))
theorem a7l:a0B a5f ["draws", "man", "bearers", "far", "great"] (i4 (top 45)):=⟨rfl,rfl,rfl,by decide +kernel,rfl,by decide +kernel,by decide +kernel⟩
theorem b3s {f:v4} {fd:w8} (F:FnP K "_law_sum_page" (top 45) f fd) (gm:mg "_law_sum_page" = some (.ref f)) (a07:mg "len" = none) (b3M:mg "min" = none) (F__law_draw:Fn P w K mg base CX0 1 "_law_draw" ["draws", "many"] d7):Fn P w K mg base CX0 2 "_law_sum_page" ["draws", "man", "bearers", "far", "great"] a1B:=by
 obtain ⟨a1S,a1i,g6,g7,g9,g8⟩:=F__law_draw.ex
 have g4:1 ≤ 1:=by decide
 have nd:=a7l.nd
 refine Fn.mk0 (k:=1) (t:=a8h w K) (a:=a3S) F a7l gm (F.bindsN fun _ _ _ _ _ _ us hl=>match us,hl with | [_,_,_,_,_],_=>rfl) b1C (fun W=>b3z W) (b0N) fun cdv A outer s H E hr=>?_
 exact (f8 (z4 (i:=5) nd rfl nofun (f7 g6 hr g4 (by rfl) g7 g9 g8 (c6 (pv 0) (c6 (t4 t0 (pv 3) d6) d8))))
 (f8 (z4 (i:=6) nd rfl nofun (v9 n6 (pv 2) (f7 g6 hr g4 (by rfl) g7 g9 g8 (c6 (pv 0) (c6 (y5 a1v (by rfl) a07 (by decide +kernel) (c6 (pv 2) d8)) d8))) (fun _ _=>rfl)))
 (f8 (z4 (i:=7) nd rfl nofun (v9 n6 (a02 (c6 (t4 t0 d6 (f7 g6 hr g4 (by rfl) g7 g9 g8 (c6 (pv 0) (c6 d6 d8)))) (c6 (t4 t0 d6 (f7 g6 hr g4 (by rfl) g7 g9 g8 (c6 (pv 0) (c6 d6 d8)))) (c6 (t4 t0 d6 (f7 g6 hr g4 (by rfl) g7 g9 g8 (c6 (pv 0) (c6 (pv 4) d8)))) d8)))) (f7 g6 hr g4 (by rfl) g7 g9 g8 (c6 (pv 0) (c6 d6 d8))) (fun _ _=>rfl)))
 (f8 (z4 (i:=8) nd rfl nofun (f7 g6 hr g4 (by rfl) g7 g9 g8 (c6 (pv 0) (c6 d6 d8))))
 (f8 (a1F (z6 b25 (pv 8) d6 (a0i _)) (j6 (w4 (a1U (c6 t5 (c6 (pv 1) (c6 (pv 5) (c6 (pv 7) (c6 (v9 n6 (a02 (c6 (t4 t0 d6 (f7 g6 hr g4 (by rfl) g7 g9 g8 (c6 (pv 0) (c6 d6 d8)))) (c6 (t4 t0 d6 (f7 g6 hr g4 (by rfl) g7 g9 g8 (c6 (pv 0) (c6 (pv 4) d8)))) d8))) (t4 b55 (pv 8) d6) (fun _ _=>rfl)) (c6 (pv 6) d8))))))))) a0d)
 (f8 (a1F (z6 (a2R hr.units) (pv 8) d6 (a0i _)) (j6 (w4 (a1U (c6 t5 (c6 (pv 1) (c6 (pv 5) (c6 (y5 (b0u rfl) (by rfl) b3M (by decide +kernel) (c6 (t4 a13 d6 d6) (c6 (t4 t0 (pv 5) (f7 g6 hr g4 (by rfl) g7 g9 g8 (c6 (pv 0) (c6 (v9 n6 (a02 (c6 d6 (c6 (t4 t0 d6 (t4 b55 (pv 3) d6)) d8))) (f7 g6 hr g4 (by rfl) g7 g9 g8 (c6 (pv 0) (c6 d6 d8))) (fun _ _=>rfl)) d8)))) d8))) d8))))))) a0d)
 (f8 (a1F (z6 (a2R hr.units) (pv 8) d6 (a0i _)) (j6 (w4 (a1U (c6 t5 (c6 (pv 1) (c6 (pv 5) (c6 (pv 7) d8))))))) a0d)
 (j6 (w4 (a1U (c6 (v9 n6 (a02 (c6 t5 (c6 t5 (c6 t5 d8)))) (t4 op_sub (pv 8) d6) (fun _ _=>rfl)) (c6 (pv 1) (c6 (pv 5) (c6 (pv 7) (c6 (pv 6) d8)))))))))))))))
theorem a6r:a0B a4G ["draws", "many"] (i4 (top 46)):=⟨rfl,rfl,rfl,by decide +kernel,rfl,by decide +kernel,by decide +kernel⟩
theorem b1G {f:v4} {fd:w8} (F:FnP K "_law_any_order" (top 46) f fd) (gm:mg "_law_any_order" = some (.ref f)) (a00:mg "range" = none) (F__law_draw:Fn P w K mg base CX0 1 "_law_draw" ["draws", "many"] d7):Fn P w K mg base CX0 2 "_law_any_order" ["draws", "many"] a1J:=by
 obtain ⟨a1S,a1i,g6,g7,g9,g8⟩:=F__law_draw.ex
 have g4:1 ≤ 1:=by decide
 have nd:=a6r.nd
 refine Fn.mk0 (k:=1) (t:=a7n w K) (a:=a28) F a6r gm (F.bindsN fun _ _ _ _ _ _ us hl=>match us,hl with | [_,_],_=>rfl) b0E (fun W=>b18 W) (a9X) fun cdv A outer s H E hr=>?_
 exact (f8 (z4 (i:=2) nd rfl nofun (a02 d8))
 (f8 (c0t a0M rfl (b0o (by rfl) a00 (c6 (pv 1) d8)) (a0O (i:=3) nd rfl nofun) (j6 (a6O (d2w a0a c82 c84 mt_insert (pv 2) (c6 (f7 g6 hr g4 (by rfl) g7 g9 g8 (c6 (pv 0) (c6 (t4 t0 (pv 3) d6) d8))) (c6 (pv 3) d8))))))
 (j6 (w4 (pv 2)))))
theorem b0U:a0B a4z ["draws", "articles", "crew", "far", "great", "most"] (i4 (top 47)):=⟨rfl,rfl,rfl,by decide +kernel,rfl,by decide +kernel,by decide +kernel⟩
theorem b9n {f:v4} {fd:w8} (F:FnP K "_law_pages" (top 47) f fd) (gm:mg "_law_pages" = some (.ref f)) (a00:mg "range" = none) (b3M:mg "min" = none) (a47:mg "sorted" = none) (b9W:mg "set" = none) (a07:mg "len" = none) (F__law_names:Fn P w K mg base CX0 2 "_law_names" ["draws", "many"] y8) (F__law_turn_pages:Fn P w K mg base CX0 2 "_law_turn_pages" ["draws", "articles", "man", "far"] a1x) (F__law_draw:Fn P w K mg base CX0 1 "_law_draw" ["draws", "many"] d7) (F__law_sum_page:Fn P w K mg base CX0 2 "_law_sum_page" ["draws", "man", "bearers", "far", "great"] a1B) (F__law_any_order:Fn P w K mg base CX0 2 "_law_any_order" ["draws", "many"] a1J):Fn P w K mg base CX0 3 "_law_pages" ["draws", "articles", "crew", "far", "great", "most"] a1M:=by
 obtain ⟨a8t,a48,a15,a16,a18,a17⟩:=F__law_names.ex
 have a1Q:2 ≤ 2:=by decide
 obtain ⟨c5B,b1j,b2z,b2N,b2R,b2P⟩:=F__law_turn_pages.ex
 have b1l:2 ≤ 2:=by decide
 obtain ⟨a1S,a1i,g6,g7,g9,g8⟩:=F__law_draw.ex
 have g4:1 ≤ 2:=by decide
 obtain ⟨c7F,b3P,b5v,b5W,b52,b5Z⟩:=F__law_sum_page.ex
 have b3U:2 ≤ 2:=by decide
 obtain ⟨c5H,b2D,b3H,b3V,b3Z,b3X⟩:=F__law_any_order.ex
 have b2L:2 ≤ 2:=by decide
 have nd:=b0U.nd
 refine Fn.mk0 (k:=2) (t:=b3e w K) (a:=a5Q) F b0U gm (F.bindsN fun _ _ _ _ _ _ us hl=>match us,hl with | [_,_,_,_,_,_],_=>rfl) b6i (fun W=>b9E W) (b4V) fun cdv A outer s H E hr=>?_
 exact (f8 (z4 (i:=6) nd rfl nofun (a02 d8))
 (f8 (z4 (i:=7) nd rfl nofun (f7 a15 hr a1Q (by rfl) a16 a18 a17 (c6 (pv 0) (c6 d6 d8))))
 (f8 (c0t a0M rfl (a35 (pv 2)) (a0O (i:=8) nd rfl nofun) (f8 (a6O (d2w a0a c81 c83 mt_extend (pv 6) (c6 (f7 b2z hr b1l (by rfl) b2N b2R b2P (c6 (pv 0) (c6 (pv 1) (c6 (pv 8) (c6 (pv 3) d8))))) d8)))
 (j6 (a6O (d2w a0a c81 c83 mt_extend (pv 6) (c6 (c5U (own:=[("k",10)]) (g:=(t8 10)) (tt:=c18) (te:=(r8 (spOf K a1B) [] E0 (d3 (i3 0) (d3 (i3 8) (d3 (i3 7) (d3 (i3 3) (d3 (i3 4) p7)))))))  (by rfl) nd  (b0o (by rfl) a00 (c6 (f7 g6 hr g4 (by rfl) g7 g9 g8 (c6 (pv 0) (c6 (t4 t0 (pv 5) d6) d8))) d8)) (a2U (own:=[("k",10)]) (N:=a4z) (sc:=i4 (top 47)) (by decide +kernel)) (fun _ _ _ _ _=>(a0O (i:=10) nd rfl nofun)) (fun _ _ _ _ _=>a6P) (fun _ _ _ _ _=>(f7 b5v hr b3U (by rfl) b5W b52 b5Z (c6 (pv 0) (c6 (pv 8) (c6 (pv 7) (c6 (pv 3) (c6 (pv 4) d8)))))))) d8))))))
 (f8 (a1F (z6 (a2R hr.units) (f7 g6 hr g4 (by rfl) g7 g9 g8 (c6 (pv 0) (c6 d6 d8))) d6 (a0i _)) (f8 (z4 (i:=9) nd rfl nofun (f7 g6 hr g4 (by rfl) g7 g9 g8 (c6 (pv 0) (c6 (t4 t0 (pv 3) d6) d8))))
 (j6 (a6O (d2w a0a a2z a2A c5S (pv 6) (c6 (a1U (c6 t5 (c6 (pv 9) (c6 (t4 op_sub (pv 9) (f7 g6 hr g4 (by rfl) g7 g9 g8 (c6 (pv 0) (c6 (v9 n6 (a02 (c6 d6 (c6 (t4 t0 (y5 (b0u rfl) (by rfl) b3M (by decide +kernel) (c6 (pv 9) (c6 d6 d8))) d6) (c6 (t4 t0 (pv 9) d6) d8)))) (f7 g6 hr g4 (by rfl) g7 g9 g8 (c6 (pv 0) (c6 d6 d8))) (fun _ _=>rfl)) d8)))) d8)))) d8))))) a0d)
 (f8 (z4 (i:=6) nd rfl nofun (c2H rfl hr.units (pv 6) (by rfl) a47 (by rfl) b9W))
 (j6 (w4 (c5U (own:=[("k",10)]) (g:=(t8 10)) (tt:=c18) (te:=(tOp (rIx K) (i3 6) (i3 10)))  (by rfl) nd  (a35 (f7 b3H hr b2L (by rfl) b3V b3Z b3X (c6 (pv 0) (c6 (y5 a1v (by rfl) a07 (by decide +kernel) (c6 (pv 6) d8)) d8)))) (a2U (own:=[("k",10)]) (N:=a4z) (sc:=i4 (top 47)) (by decide +kernel)) (fun _ _ _ _ _=>(a0O (i:=10) nd rfl nofun)) (fun _ _ _ _ _=>a6P) (fun _ _ _ _ _=>(v9 n6 (pv 6) (pv 10) (fun _ _=>rfl)))))))))))
theorem a6s:a0B a4H ["draws"] (i4 (top 48)):=⟨rfl,rfl,rfl,by decide +kernel,rfl,by decide +kernel,by decide +kernel⟩
theorem b1H {f:v4} {fd:w8} (F:FnP K "_law_near_book" (top 48) f fd) (gm:mg "_law_near_book" = some (.ref f)) (F__law_draw:Fn P w K mg base CX0 1 "_law_draw" ["draws", "many"] d7) (F__law_names:Fn P w K mg base CX0 2 "_law_names" ["draws", "many"] y8) (F__law_articles:Fn P w K mg base CX0 3 "_law_articles" ["draws", "great"] a0P) (F__law_pages:Fn P w K mg base CX0 3 "_law_pages" ["draws", "articles", "crew", "far", "great", "most"] a1M):Fn P w K mg base CX0 4 "_law_near_book" ["draws"] a0X:=by
 obtain ⟨a1S,a1i,g6,g7,g9,g8⟩:=F__law_draw.ex
 have g4:1 ≤ 3:=by decide
 obtain ⟨a8t,a48,a15,a16,a18,a17⟩:=F__law_names.ex
 have a1Q:2 ≤ 3:=by decide
 obtain ⟨b5A,a7C,a5z,a5C,a5G,a5E⟩:=F__law_articles.ex
 have a4S:3 ≤ 3:=by decide
 obtain ⟨c1E,b1i,a8q,a8z,a8D,a8B⟩:=F__law_pages.ex
 have a7e:3 ≤ 3:=by decide
 have nd:=a6s.nd
 refine Fn.mk0 (k:=3) (t:=a7x w K) (a:=a3a) F a6s gm (F.bindsN fun _ _ _ _ _ _ us hl=>match us,hl with | [_],_=>rfl) b0F (fun W=>b2i W) (a9Y) fun cdv A outer s H E hr=>?_
 exact (f8 (z4 (i:=1) nd rfl nofun (f7 a15 hr a1Q (by rfl) a16 a18 a17 (c6 (pv 0) (c6 (t4 t0 d6 (f7 g6 hr g4 (by rfl) g7 g9 g8 (c6 (pv 0) (c6 d6 d8)))) d8))))
 (f8 (z4 (i:=2) nd rfl nofun (f7 a5z hr a4S (by rfl) a5C a5G a5E (c6 (pv 0) (c6 d6 d8))))
 (j6 (w4 (a1U (c6 (pv 2) (c6 (f7 a8q hr a7e (by rfl) a8z a8D a8B (c6 (pv 0) (c6 (pv 2) (c6 (pv 1) (c6 d6 (c6 d6 (c6 d6 d8))))))) (c6 (pv 1) d8))))))))
theorem a7k:a0B a5e ["draws"] (i4 (top 49)):=⟨rfl,rfl,rfl,by decide +kernel,rfl,by decide +kernel,by decide +kernel⟩
theorem b3r {f:v4} {fd:w8} (F:FnP K "_law_far_book" (top 49) f fd) (gm:mg "_law_far_book" = some (.ref f)) (F__law_draw:Fn P w K mg base CX0 1 "_law_draw" ["draws", "many"] d7) (F__law_names:Fn P w K mg base CX0 2 "_law_names" ["draws", "many"] y8) (F__law_articles:Fn P w K mg base CX0 3 "_law_articles" ["draws", "great"] a0P) (F__law_pages:Fn P w K mg base CX0 3 "_law_pages" ["draws", "articles", "crew", "far", "great", "most"] a1M):Fn P w K mg base CX0 4 "_law_far_book" ["draws"] a1Y:=by
 obtain ⟨a1S,a1i,g6,g7,g9,g8⟩:=F__law_draw.ex
 have g4:1 ≤ 3:=by decide
 obtain ⟨a8t,a48,a15,a16,a18,a17⟩:=F__law_names.ex
 have a1Q:2 ≤ 3:=by decide
 obtain ⟨b5A,a7C,a5z,a5C,a5G,a5E⟩:=F__law_articles.ex
 have a4S:3 ≤ 3:=by decide
 obtain ⟨c1E,b1i,a8q,a8z,a8D,a8B⟩:=F__law_pages.ex
 have a7e:3 ≤ 3:=by decide
 have nd:=a7k.nd
 refine Fn.mk0 (k:=3) (t:=a8g w K) (a:=a3Q) F a7k gm (F.bindsN fun _ _ _ _ _ _ us hl=>match us,hl with | [_],_=>rfl) b1B (fun W=>b3y W) (b0M) fun cdv A outer s H E hr=>?_
 exact (f8 (z4 (i:=1) nd rfl nofun (f7 a15 hr a1Q (by rfl) a16 a18 a17 (c6 (pv 0) (c6 (t4 t0 d6 (f7 g6 hr g4 (by rfl) g7 g9 g8 (c6 (pv 0) (c6 d6 d8)))) d8))))
 (f8 (z4 (i:=2) nd rfl nofun (v9 n6 (a02 (c6 d6 (c6 (t4 a13 d6 d6) (c6 (t4 a13 d6 d6) d8)))) (f7 g6 hr g4 (by rfl) g7 g9 g8 (c6 (pv 0) (c6 d6 d8))) (fun _ _=>rfl)))
 (f8 (z4 (i:=3) nd rfl nofun (f7 a5z hr a4S (by rfl) a5C a5G a5E (c6 (pv 0) (c6 (v9 n6 (a02 (c6 (pv 2) (c6 (t4 a13 d6 d6) d8))) (f7 g6 hr g4 (by rfl) g7 g9 g8 (c6 (pv 0) (c6 d6 d8))) (fun _ _=>rfl)) d8))))
 (f8 (z4 (i:=4) nd rfl nofun (v9 n6 (a02 (c6 d6 (c6 (t4 a13 d6 d6) (c6 (t4 a13 d6 d6) (c6 (t4 a13 d6 d6) d8))))) (f7 g6 hr g4 (by rfl) g7 g9 g8 (c6 (pv 0) (c6 d6 d8))) (fun _ _=>rfl)))
 (j6 (w4 (a1U (c6 (pv 3) (c6 (f7 a8q hr a7e (by rfl) a8z a8D a8B (c6 (pv 0) (c6 (pv 3) (c6 (pv 1) (c6 (pv 4) (c6 (pv 2) (c6 d6 d8))))))) (c6 (pv 1) d8))))))))))
theorem b27:a0B a9L ["draws"] (i4 (top 50)):=⟨rfl,rfl,rfl,by decide +kernel,rfl,by decide +kernel,by decide +kernel⟩
theorem c0V {f:v4} {fd:w8} (F:FnP K "_law_book" (top 50) f fd) (gm:mg "_law_book" = some (.ref f)) (F__law_draw:Fn P w K mg base CX0 1 "_law_draw" ["draws", "many"] d7) (F__law_near_book:Fn P w K mg base CX0 4 "_law_near_book" ["draws"] a0X) (F__law_far_book:Fn P w K mg base CX0 4 "_law_far_book" ["draws"] a1Y):Fn P w K mg base CX0 5 "_law_book" ["draws"] a2F:=by
 obtain ⟨a1S,a1i,g6,g7,g9,g8⟩:=F__law_draw.ex
 have g4:1 ≤ 4:=by decide
 obtain ⟨c5I,b2E,b3I,b3W,b30,b3Y⟩:=F__law_near_book.ex
 have b2M:4 ≤ 4:=by decide
 obtain ⟨c7E,b3O,b5u,b5V,b51,b5Y⟩:=F__law_far_book.ex
 have b3T:4 ≤ 4:=by decide
 have nd:=b27.nd
 refine Fn.mk0 (k:=4) (t:=b5d w K) (a:=a6V) F b27 gm (F.bindsN fun _ _ _ _ _ _ us hl=>match us,hl with | [_],_=>rfl) b9d (fun W=>c1d W) (b6n) fun cdv A outer s H E hr=>?_
 exact (f8 (a1F (z6 (a2R hr.units) (f7 g6 hr g4 (by rfl) g7 g9 g8 (c6 (pv 0) (c6 d6 d8))) d6 (a0i _)) (j6 (w4 (f7 b3I hr b2M (by rfl) b3W b30 b3Y (c6 (pv 0) d8)))) a0d)
 (j6 (w4 (f7 b5u hr b3T (by rfl) b5V b51 b5Y (c6 (pv 0) d8)))))
theorem b0S:a0B a7O ["articles", "man"] (i4 (top 58)):=⟨rfl,rfl,rfl,by decide +kernel,rfl,by decide +kernel,by decide +kernel⟩
theorem b9l {f:v4} {fd:w8} (F:FnP K "_law_edges" (top 58) f fd) (gm:mg "_law_edges" = some (.ref f)):Fn P w K mg base CX0 1 "_law_edges" ["articles", "man"] a3t:=by
 have nd:=b0S.nd
 refine Fn.mk0 (k:=0) (t:=b3c w K) (a:=a5O) F b0S gm (F.bindsN fun _ _ _ _ _ _ us hl=>match us,hl with | [_,_],_=>rfl) b6g (fun W=>b9C W) (b4T) fun cdv A outer s H E hr=>?_
 exact (f8 (z4 (i:=2) nd rfl nofun (v9 n6 (v9 n6 (v9 n6 (pv 0) d6 (fun _ _=>rfl)) d6 (fun _ _=>rfl)) d6 (fun _ _=>rfl)))
 (f8 (z4 (i:=3) nd rfl nofun (t4 a13 d6 d6))
 (f8 (z4 (i:=4) nd rfl nofun (a02 (c6 (a1U (c6 t5 (c6 (pv 1) (c6 (pv 3) (c6 (pv 2) d8))))) (c6 (a1U (c6 t5 (c6 (pv 1) (c6 d6 (c6 (pv 2) d8))))) (c6 (a1U (c6 t5 (c6 (pv 1) (c6 (pv 3) d8)))) (c6 (a1U (c6 t5 (c6 (pv 1) (c6 (pv 3) (c6 (pv 3) d8))))) d8))))))
 (f8 (z4 (i:=4) nd rfl nofun (t4 t0 (pv 4) (a02 (c6 (a1U (c6 t5 (c6 (pv 1) (c6 d6 (c6 (t4 a13 d6 d6) (c6 (pv 1) d8)))))) (c6 (a1U (c6 t5 (c6 (pv 1) (c6 (pv 3) (c6 (t4 a13 d6 d6) (c6 (t4 a13 d6 d6) (c6 (pv 1) d8))))))) (c6 (a1U (c6 t5 (c6 (pv 1) (c6 d6 (c6 d6 d8))))) d8))))))
 (f8 (z4 (i:=4) nd rfl nofun (t4 t0 (pv 4) (a02 (c6 (a1U (c6 t5 (c6 (pv 3) (c6 (pv 3) d8)))) (c6 (a1U (c6 t5 (c6 d6 (c6 d6 d8)))) (c6 (a1U (c6 t5 (c6 d6 (c6 d6 d8)))) (c6 (a1U (c6 t5 (c6 (t4 t0 (pv 3) d6) (c6 d6 d8)))) d8)))))))
 (f8 (a6O (d2w a0a a2z a2A c5S (pv 4) (c6 (a1U (c6 t5 (c6 (pv 1) (c6 d6 (c6 d6 (c6 (pv 1) d8)))))) d8)))
 (j6 (w4 (t4 t0 (pv 4) (a02 (c6 (a1U (c6 t5 (c6 (pv 1) (c6 d6 (c6 d6 (c6 (t4 t0 (t4 a13 d6 d6) d6) (c6 (pv 1) d8))))))) (c6 (a1U (c6 t5 (c6 (pv 1) (c6 d6 (c6 d6 d8))))) (c6 (a1U (c6 t5 (c6 (pv 1) (c6 d6 (c6 (t4 t0 (pv 2) t5) d8))))) d8)))))))))))))
theorem b0V:a0B a5M ["draws", "deep"] (i4 (top 51)):=⟨rfl,rfl,rfl,by decide +kernel,rfl,by decide +kernel,by decide +kernel⟩
theorem b9o {f:v4} {fd:w8} (F:FnP K "_law_thing" (top 51) f fd) (gm:mg "_law_thing" = some (.ref f)) (a00:mg "range" = none) (a0s:mg "tuple" = none) (F__law_draw:Fn P w K mg base CX0 1 "_law_draw" ["draws", "many"] d7):∀ n:Nat,Fn P w K mg base CX0 (2 + n) "_law_thing" ["draws", "deep"] (a0m n):=by
 obtain ⟨a1S,a1i,g6,g7,g9,g8⟩:=F__law_draw.ex
 have nd:=b0V.nd
 intro n
 induction n with
 | zero=>exact Fn.none gm F.kp (F.bindsN fun _ _ _ _ _ _ us hl=>match us,hl with | [_,_],_=>rfl) b9i
 | succ n ih =>
 obtain ⟨b3i,a7b,a3x,a3A,a3C,a3B⟩:=ih.ex
 have a2P:2 + n ≤ 2 + n:=a1e _
 have g4:1 ≤ 2 + n:=by omega
 refine Fn.mk0 (k:=2 + n) (t:=b3f w K n) (a:=a5R n) F b0V gm (F.bindsN fun _ _ _ _ _ _ us hl=>match us,hl with | [_,_],_=>rfl) (b6j n) (fun W=>b9F W) (b4W n) fun cdv A outer s H E hr=>?_
 exact (f8 (z4 (i:=2) nd rfl nofun (f7 g6 hr g4 (by rfl) g7 g9 g8 (c6 (pv 0) (c6 d6 d8))))
 (f8 (a1F (b0m (b1v (z6 b25 (pv 2) d6 (a0i _)) (a9n (z6 (a2R hr.units) (pv 1) d6 (a0i _))))) (f8 (z4 (i:=3) nd rfl nofun (a02 (c6 d6 (c6 d6 (c6 (pe_un un_neg d6) (c6 a5I (c6 a5I (c6 pe_non (c6 t5 (c6 t5 (c6 t5 (c6 t5 (c6 t5 (c6 t5 (c6 t5 (c6 (t4 a13 d6 d6) (c6 (t4 t0 (t4 a13 d6 d6) d6) d8)))))))))))))))))
 (j6 (w4 (v9 n6 (t4 t0 (pv 3) (a02 (c6 d6 (c6 d6 (c6 (t4 t0 (t4 a13 d6 d6) d6) (c6 (a1U d8) (c6 (a02 d8) d8))))))) (f7 g6 hr g4 (by rfl) g7 g9 g8 (c6 (pv 0) (c6 d6 d8))) (fun _ _=>rfl))))) a0d)
 (f8 (ps_setLc (i:=4) (own:=[("k",5)]) (g:=(t8 5)) (tt:=c18) (te:=(r8 (spOf K (a0m n)) [] E0 (d3 (i3 0) (d3 (tOp b9w (i3 1) (tC (.int 1))) p7))))  (by rfl) nd rfl rfl (sw_true rfl rfl rfl (by decide +kernel))  (b0o (by rfl) a00 (c6 (f7 g6 hr g4 (by rfl) g7 g9 g8 (c6 (pv 0) (c6 d6 d8))) d8)) (a2U (own:=[("k",5)]) (N:=a5M) (sc:=i4 (top 51)) (by decide +kernel)) (fun _ _ _ _ _=>(a0O (i:=5) nd rfl nofun)) (fun _ _ _ _ _=>a6P) (fun _ _ _ _ _=>(f7 a3x hr a2P (by rfl) a3A a3C a3B (c6 (pv 0) (c6 (t4 op_sub (pv 1) d6) d8)))))
 (j6 (w4 (v9 n6 (a02 (c6 (pv 4) (c6 (a3H a7E (by rfl) a0s (by decide +kernel) (c6 (pv 4) d8)) (c6 (a3H a7E (by rfl) a0s (by decide +kernel) (c6 (pv 4) d8)) d8)))) (t4 op_sub (pv 2) d6) (fun _ _=>rfl)))))))
theorem a6t:a0B a4I ["draws", "thing", "deep"] (i4 (top 52)):=⟨rfl,rfl,rfl,by decide +kernel,rfl,by decide +kernel,by decide +kernel⟩
theorem b1I {f:v4} {fd:w8} (F:FnP K "_law_otherwise" (top 52) f fd) (gm:mg "_law_otherwise" = some (.ref f)) (a9I:mg "list" = none) (a07:mg "len" = none) (f9:mg "isinstance" = none) (a0s:mg "tuple" = none) (b0e:mg "str" = none) (a0E:IsiOk K "str") (j9:IsiOk K "tuple") (F__law_thing:Fn P w K mg base CX0 6 "_law_thing" ["draws", "deep"] (a0m 4)) (F__law_draw:Fn P w K mg base CX0 1 "_law_draw" ["draws", "many"] d7):∀ n:Nat,Fn P w K mg base CX0 (7 + n) "_law_otherwise" ["draws", "thing", "deep"] (a0h n):=by
 obtain ⟨b3i,a7b,a3x,a3A,a3C,a3B⟩:=F__law_thing.ex
 obtain ⟨a1S,a1i,g6,g7,g9,g8⟩:=F__law_draw.ex
 have nd:=a6t.nd
 intro n
 induction n with
 | zero=>exact Fn.none gm F.kp (F.bindsN fun _ _ _ _ _ _ us hl=>match us,hl with | [_,_,_],_=>rfl) b1E
 | succ n ih =>
 obtain ⟨b3N,a6E,a3f,a3g,a3i,a3h⟩:=ih.ex
 have a2O:7 + n ≤ 7 + n:=a1e _
 have a2P:6 ≤ 7 + n:=by omega
 have g4:1 ≤ 7 + n:=by omega
 refine Fn.mk0 (k:=7 + n) (t:=a7y w K n) (a:=a3b n) F a6t gm (F.bindsN fun _ _ _ _ _ _ us hl=>match us,hl with | [_,_,_],_=>rfl) (b0G n) (fun W=>b2j a0E j9 W) (a9Z n) fun cdv A outer s H E hr=>?_
 exact (f8 (z4 (i:=3) nd rfl nofun (a3H d2s (by rfl) a9I (by decide +kernel) (c6 (pv 1) d8)))
 (f8 (a1F (z6 (a2R hr.units) (pv 3) (a02 d8) (a0i _)) (j6 (w4 (a1U (c6 (f7 a3x hr a2P (by rfl) a3A a3C a3B (c6 (pv 0) (c6 d6 d8))) d8)))) a0d)
 (f8 (z4 (i:=4) nd rfl nofun (f7 g6 hr g4 (by rfl) g7 g9 g8 (c6 (pv 0) (c6 (y5 a1v (by rfl) a07 (by decide +kernel) (c6 (pv 3) d8)) d8))))
 (f8 (a1F (b0m (d2y (a03 (a3w (v9 n6 (pv 3) (pv 4) (fun _ _=>rfl)) (by rfl) f9 (by rfl) a0s (by decide +kernel))) (d2y (z6 b4R (pv 2) d6 (a0i _)) (c9Q (z6 b4R (f7 g6 hr g4 (by rfl) g7 g9 g8 (c6 (pv 0) (c6 d6 d8))) d6 (a0i _)))))) (f8 (c89 (f7 a3f hr a2O (by rfl) a3g a3i a3h (c6 (pv 0) (c6 (v9 n6 (pv 3) (pv 4) (fun _ _=>rfl)) (c6 (t4 op_sub (pv 2) d6) d8)))) (d2x (pv 3) (pv 4) c0u))
 (j6 (w4 (a3H a7E (by rfl) a0s (by decide +kernel) (c6 (pv 3) d8))))) a0d)
 (f8 (z4 (i:=5) nd rfl nofun (f7 g6 hr g4 (by rfl) g7 g9 g8 (c6 (pv 0) (c6 d6 d8))))
 (f8 (a1F (z6 (a2R hr.units) (pv 5) d6 (a0i _)) (j6 (a6O (d2w a0a PySem.F.slot_list_pop PySem.F.type_list_pop mt_popAt (pv 3) (c6 (pv 4) d8)))) (j6 (a1F (z6 (a2R hr.units) (pv 5) d6 (a0i _)) (j6 (a6O (d2w a0a c82 c84 mt_insert (pv 3) (c6 (pv 4) (c6 (v9 n6 (pv 3) (pv 4) (fun _ _=>rfl)) d8))))) (j6 (a1F (z6 (a2R hr.units) (pv 5) d6 (a0i _)) (j6 (AqS.ps_setSl (pe_revL (pe_slice c6Z (pv 3) (c9P (pv 4)) (c9P (t4 t0 (pv 4) d6)))) (pv 3) (c9P (pv 4)) (c9P (t4 t0 (pv 4) d6)))) (j6 (a1F (z6 (a2R hr.units) (pv 5) d6 (a0i _)) (j6 (c89 (f7 a3x hr a2P (by rfl) a3A a3C a3B (c6 (pv 0) (c6 d6 d8))) (d2x (pv 3) (pv 4) c0u))) (j6 (a1F (z6 (a2R hr.units) (pv 5) d6 (a0i _)) (f8 (z4 (i:=6) nd rfl nofun (a02 (c6 d6 (c6 d6 (c6 (pe_un un_neg d6) (c6 d6 (c6 d6 (c6 (t4 a13 d6 d6) (c6 (t4 t0 (t4 a13 d6 d6) d6) (c6 (t4 a13 d6 d6) (c6 (t4 t0 (t4 a13 d6 d6) d6) (c6 (t4 a13 d6 d6) (c6 (t4 t0 (t4 a13 d6 d6) d6) (c6 pe_non (c6 a5I d8)))))))))))))))
 (j6 (c89 (v9 n6 (pv 6) (f7 g6 hr g4 (by rfl) g7 g9 g8 (c6 (pv 0) (c6 d6 d8))) (fun _ _=>rfl)) (d2x (pv 3) (pv 4) c0u)))) (j6 (a1F (b0m (d2y (z6 (a2R hr.units) (pv 5) d6 (a0i _)) (c9Q (a03 (a3w (v9 n6 (pv 3) (pv 4) (fun _ _=>rfl)) (by rfl) f9 (by rfl) a0s (by decide +kernel)))))) (j6 (c89 (a3H d2s (by rfl) a9I (by decide +kernel) (c6 (v9 n6 (pv 3) (pv 4) (fun _ _=>rfl)) d8)) (d2x (pv 3) (pv 4) c0u))) (j6 (a1F (b0m (d2y (z6 (a2R hr.units) (pv 5) d6 (a0i _)) (c9Q (a03 (a3w (v9 n6 (pv 3) (pv 4) (fun _ _=>rfl)) (by rfl) f9 (by rfl) b0e (by decide +kernel)))))) (j6 (c89 (t4 t0 (v9 n6 (pv 3) (pv 4) (fun _ _=>rfl)) (v9 n6 (a02 (c6 t5 (c6 t5 (c6 t5 (c6 t5 d8))))) (f7 g6 hr g4 (by rfl) g7 g9 g8 (c6 (pv 0) (c6 d6 d8))) (fun _ _=>rfl))) (d2x (pv 3) (pv 4) c0u))) (j6 (w4 (pv 3))))))))))))))))
 (j6 (w4 (a3H a7E (by rfl) a0s (by decide +kernel) (c6 (pv 3) d8))))))))))
theorem b40:a0B b1w ["thing", "many"] (i4 (top 24)):=⟨rfl,rfl,rfl,by decide +kernel,rfl,by decide +kernel,by decide +kernel⟩
theorem c2G {f:v4} {fd:w8} (F:FnP K "is_tuple" (top 24) f fd) (gm:mg "is_tuple" = some (.ref f)) (f9:mg "isinstance" = none) (a0s:mg "tuple" = none) (a07:mg "len" = none) (j9:IsiOk K "tuple"):Fn P w K mg base CX0 1 "is_tuple" ["thing", "many"] a2o:=by
 have nd:=b40.nd
 refine Fn.mk0 (k:=0) (t:=b76 w K) (a:=a8H) F b40 gm (F.bindsN fun _ _ _ _ _ _ us hl=>match us,hl with | [_,_],_=>rfl) c0O (fun W=>c2O j9 W) (b9q) fun cdv A outer s H E hr=>?_
 exact (j6 (w4 (a4E (a3w (pv 0) (by rfl) f9 (by rfl) a0s (by decide +kernel)) (b2X (a5d (a2R hr.units) (y5 a1v (by rfl) a07 (by decide +kernel) (c6 (pv 0) d8)) (pv 1) (a0i _))))))
theorem b71:a0B b0q ["thing"] (i4 (top 23)):=⟨rfl,rfl,rfl,by decide +kernel,rfl,by decide +kernel,by decide +kernel⟩
theorem c4q {f:v4} {fd:w8} (F:FnP K "is_name" (top 23) f fd) (gm:mg "is_name" = some (.ref f)) (f9:mg "isinstance" = none) (b0e:mg "str" = none) (a07:mg "len" = none) (b1f:mg "all" = none) (a0E:IsiOk K "str") (b5P:∃ t,mg "LETTERS" = some (.str "abcdefghijklmnopqrstuvwxyz" t)):Fn P w K mg base CX0 1 "is_name" ["thing"] a1C:=by
 have nd:=b71.nd
 refine Fn.mk0 (k:=0) (t:=c1r w K) (a:=b0s) F b71 gm (F.bindsN fun _ _ _ _ _ _ us hl=>match us,hl with | [_],_=>rfl) c2A (fun W=>c46 a0E W) (c03) fun cdv A outer s H E hr=>?_
 exact (j6 (w4 (a4E (a3w (pv 0) (by rfl) f9 (by rfl) b0e (by decide +kernel)) (a4E (pe_chain a9u a9u d6 (y5 a1v (by rfl) a07 (by decide +kernel) (c6 (pv 0) d8)) d6) (b2X (y5 (cr_all rfl) (by rfl) b1f (by decide +kernel) (c6 (c5U (own:=[("sign",1)]) (g:=(t8 1)) (tt:=c18) (te:=(tOp (c8z K) (i3 1) (tC (.str "abcdefghijklmnopqrstuvwxyz"))))  (by rfl) nd  (a35 (pv 0)) (a2U (own:=[("sign",1)]) (N:=b0q) (sc:=i4 (top 23)) (by decide +kernel)) (fun _ _ _ _ _=>(a0O (i:=1) nd rfl nofun)) (fun _ _ _ _ _=>a6P) (fun _ _ _ _ _=>(a5d (b7g (b0a hr)) (pv 1) (a1H (by rfl) b5P.choose_spec ⟨_,rfl⟩) (by rfl)))) d8)))))))
theorem b4Z:a0B a6l ["thing", "many", "most"] (i4 (top 25)):=⟨rfl,rfl,rfl,by decide +kernel,rfl,by decide +kernel,by decide +kernel⟩
theorem c2F {f:v4} {fd:w8} (F:FnP K "are_rows" (top 25) f fd) (gm:mg "are_rows" = some (.ref f)) (f9:mg "isinstance" = none) (a0s:mg "tuple" = none) (a07:mg "len" = none) (b1f:mg "all" = none) (a00:mg "range" = none) (j9:IsiOk K "tuple") (F_is_tuple:Fn P w K mg base CX0 1 "is_tuple" ["thing", "many"] a2o) (F_is_name:Fn P w K mg base CX0 1 "is_name" ["thing"] a1C):Fn P w K mg base CX0 2 "are_rows" ["thing", "many", "most"] a3u:=by
 obtain ⟨c5C,b5F,b2A,b2O,b2S,b2Q⟩:=F_is_tuple.ex
 have b0i:1 ≤ 1:=by decide
 obtain ⟨c1F,b2F,a6D,a6H,a6L,a6J⟩:=F_is_name.ex
 have a5a:1 ≤ 1:=by decide
 have nd:=b4Z.nd
 refine Fn.mk0 (k:=1) (t:=b75 w K) (a:=a8G) F b4Z gm (F.bindsN fun _ _ _ _ _ _ us hl=>match us,hl with | [_,_,_],_=>rfl) c0N (fun W=>c2N j9 W) (b9p) fun cdv A outer s H E hr=>?_
 exact (f8 (a1F (b0m (b1v (a14 (a03 (a3w (pv 0) (by rfl) f9 (by rfl) a0s (by decide +kernel)))) (a9n (a14 (pt_chain a9u a9u d6 (y5 a1v (by rfl) a07 (by decide +kernel) (c6 (pv 0) d8)) (pv 2)))))) (j6 (w4 a5I)) a0d)
 (f8 (a1F (a14 (a03 (y5 (cr_all rfl) (by rfl) b1f (by decide +kernel) (c6 (c5U (own:=[("row",3)]) (g:=(t8 3)) (tt:=c18) (te:=(b3k K (r8 (spOf K a2o) [] E0 (d3 (i3 3) (d3 (i3 1) p7))) (r8 (spOf K a1C) [] E0 (d3 (tOp (rIx K) (i3 3) (tC (.int 0))) p7))))  (by rfl) nd  (a35 (pv 0)) (a2U (own:=[("row",3)]) (N:=a6l) (sc:=i4 (top 25)) (by decide +kernel)) (fun _ _ _ _ _=>(a0O (i:=3) nd rfl nofun)) (fun _ _ _ _ _=>a6P) (fun _ _ _ _ _=>(a4E (f7 b2A hr b0i (by rfl) b2O b2S b2Q (c6 (pv 3) (c6 (pv 1) d8))) (b2X (f7 a6D hr a5a (by rfl) a6H a6L a6J (c6 (v9 n6 (pv 3) d6 (fun _ _=>rfl)) d8)))))) d8)))) (j6 (w4 a5I)) a0d)
 (j6 (w4 (y5 (cr_all rfl) (by rfl) b1f (by decide +kernel) (c6 (c5U (own:=[("k",4)]) (g:=(t8 4)) (tt:=c18) (te:=(tOp c7R (tOp (rIx K) (tOp (rIx K) (i3 0) (tOp b9w (i3 4) (tC (.int 1)))) (tC (.int 0))) (tOp (rIx K) (tOp (rIx K) (i3 0) (i3 4)) (tC (.int 0)))))  (by rfl) nd  (pi_range2 (by rfl) a00 (c6 d6 (c6 (y5 a1v (by rfl) a07 (by decide +kernel) (c6 (pv 0) d8)) d8))) (a2U (own:=[("k",4)]) (N:=a6l) (sc:=i4 (top 25)) (by decide +kernel)) (fun _ _ _ _ _=>(a0O (i:=4) nd rfl nofun)) (fun _ _ _ _ _=>a6P) (fun _ _ _ _ _=>(a5d b25 (v9 n6 (v9 n6 (pv 0) (t4 op_sub (pv 4) d6) (fun _ _=>rfl)) d6 (fun _ _=>rfl)) (v9 n6 (v9 n6 (pv 0) (pv 4) (fun _ _=>rfl)) d6 (fun _ _=>rfl)) (a0i _)))) d8))))))
theorem b3a:a0B a9N ["thing", "low", "high"] (i4 (top 22)):=⟨rfl,rfl,rfl,by decide +kernel,rfl,by decide +kernel,by decide +kernel⟩
theorem c0Y {f:v4} {fd:w8} (F:FnP K "is_within" (top 22) f fd) (gm:mg "is_within" = some (.ref f)) (f9:mg "isinstance" = none) (b9V:mg "int" = none) (b1g:mg "bool" = none) (a11:IsiOk K "bool") (b6P:IsiOk K "int"):Fn P w K mg base CX0 1 "is_within" ["thing", "low", "high"] w9:=by
 have nd:=b3a.nd
 refine Fn.mk0 (k:=0) (t:=b5n w K) (a:=a64) F b3a gm (F.bindsN fun _ _ _ _ _ _ us hl=>match us,hl with | [_,_,_],_=>rfl) b9g (fun W=>c1n a11 b6P W) (b6q) fun cdv A outer s H E hr=>?_
 exact (j6 (w4 (a4E (a3w (pv 0) (by rfl) f9 (by rfl) b9V (by decide +kernel)) (a4E (pe_notT (a3w (pv 0) (by rfl) f9 (by rfl) b1g (by decide +kernel))) (b2X (pe_chain a9u a9u (pv 1) (pv 0) (pv 2)))))))
theorem a9x:a0B a3M ["thing"] (i4 (top 26)):=⟨rfl,rfl,rfl,by decide +kernel,rfl,by decide +kernel,by decide +kernel⟩
theorem b6l {f:v4} {fd:w8} (F:FnP K "is_articles" (top 26) f fd) (gm:mg "is_articles" = some (.ref f)) (b1f:mg "all" = none) (a8x:∃ t,mg "MOST_RANKS" = some (.int 12 t)) (a7d:∃ t,mg "MOST_CHESTS" = some (.int 6 t)) (a3z:∃ t,mg "MOST_PENCE" = some (.int 1000000000 t)) (a5B:∃ t,mg "MOST_PART" = some (.int 1000 t)) (F_is_tuple:Fn P w K mg base CX0 1 "is_tuple" ["thing", "many"] a2o) (F_are_rows:Fn P w K mg base CX0 2 "are_rows" ["thing", "many", "most"] a3u) (F_is_within:Fn P w K mg base CX0 1 "is_within" ["thing", "low", "high"] w9):Fn P w K mg base CX0 3 "is_articles" ["thing"] a2M:=by
 obtain ⟨c5C,b5F,b2A,b2O,b2S,b2Q⟩:=F_is_tuple.ex
 have b0i:1 ≤ 2:=by decide
 obtain ⟨d2f,c3f,b8R,b8S,b8U,b8T⟩:=F_are_rows.ex
 have b5T:2 ≤ 2:=by decide
 obtain ⟨b5B,a8v,a2b,a2c,a2e,a2d⟩:=F_is_within.ex
 have a1R:1 ≤ 2:=by decide
 have nd:=a9x.nd
 refine Fn.mk0 (k:=2) (t:=b1b w K) (a:=a41) F a9x gm (F.bindsN fun _ _ _ _ _ _ us hl=>match us,hl with | [_],_=>rfl) b4B (fun W=>b6y W) (b3v) fun cdv A outer s H E hr=>?_
 exact (f8 (a1F (a14 (a03 (f7 b2A hr b0i (by rfl) b2O b2S b2Q (c6 (pv 0) (c6 d6 d8))))) (j6 (w4 a5I)) a0d)
 (f8 (a1F (b0m (b1v (a14 (a03 (f7 b8R hr b5T (by rfl) b8S b8U b8T (c6 (v9 n6 (pv 0) d6 (fun _ _=>rfl)) (c6 d6 (c6 (a1H (by rfl) a8x.choose_spec ⟨_,rfl⟩) d8)))))) (a9n (a14 (a03 (f7 b8R hr b5T (by rfl) b8S b8U b8T (c6 (v9 n6 (pv 0) d6 (fun _ _=>rfl)) (c6 d6 (c6 (a1H (by rfl) a7d.choose_spec ⟨_,rfl⟩) d8))))))))) (j6 (w4 a5I)) a0d)
 (f8 (a1F (a14 (a03 (y5 (cr_all rfl) (by rfl) b1f (by decide +kernel) (c6 (c5U (own:=[("row",1)]) (g:=(t8 1)) (tt:=c18) (te:=(b3k K (r8 (spOf K w9) [] E0 (d3 (tOp (rIx K) (i3 1) (tC (.int 1))) (d3 (tC (.int 0)) (d3 (tC (.int 1000000000)) p7)))) (r8 (spOf K w9) [] E0 (d3 (tOp (rIx K) (i3 1) (tC (.int 2))) (d3 (tC (.int 1)) (d3 (tC (.int 1000)) p7))))))  (by rfl) nd  (a35 (v9 n6 (pv 0) d6 (fun _ _=>rfl))) (a2U (own:=[("row",1)]) (N:=a3M) (sc:=i4 (top 26)) (by decide +kernel)) (fun _ _ _ _ _=>(a0O (i:=1) nd rfl nofun)) (fun _ _ _ _ _=>a6P) (fun _ _ _ _ _=>(a4E (f7 a2b hr a1R (by rfl) a2c a2e a2d (c6 (v9 n6 (pv 1) d6 (fun _ _=>rfl)) (c6 d6 (c6 (a1H (by rfl) a3z.choose_spec ⟨_,rfl⟩) d8)))) (b2X (f7 a2b hr a1R (by rfl) a2c a2e a2d (c6 (v9 n6 (pv 1) d6 (fun _ _=>rfl)) (c6 d6 (c6 (a1H (by rfl) a5B.choose_spec ⟨_,rfl⟩) d8)))))))) d8)))) (j6 (w4 a5I)) a0d)
 (j6 (w4 (a4E (y5 (cr_all rfl) (by rfl) b1f (by decide +kernel) (c6 (c5U (own:=[("row",1)]) (g:=(t8 1)) (tt:=c18) (te:=(r8 (spOf K w9) [] E0 (d3 (tOp (rIx K) (i3 1) (tC (.int 1))) (d3 (tC (.int 1)) (d3 (tC (.int 1000)) p7)))))  (by rfl) nd  (a35 (v9 n6 (pv 0) d6 (fun _ _=>rfl))) (a2U (own:=[("row",1)]) (N:=a3M) (sc:=i4 (top 26)) (by decide +kernel)) (fun _ _ _ _ _=>(a0O (i:=1) nd rfl nofun)) (fun _ _ _ _ _=>a6P) (fun _ _ _ _ _=>(f7 a2b hr a1R (by rfl) a2c a2e a2d (c6 (v9 n6 (pv 1) d6 (fun _ _=>rfl)) (c6 d6 (c6 (a1H (by rfl) a5B.choose_spec ⟨_,rfl⟩) d8)))))) d8)) (b2X (f7 a2b hr a1R (by rfl) a2c a2e a2d (c6 (v9 n6 (pv 0) d6 (fun _ _=>rfl)) (c6 d6 (c6 (a1H (by rfl) a5B.choose_spec ⟨_,rfl⟩) d8)))))))))))
theorem a7m:a0B a5g ["articles"] (i4 (top 27)):=⟨rfl,rfl,rfl,by decide +kernel,rfl,by decide +kernel,by decide +kernel⟩
theorem b3t {f:v4} {fd:w8} (F:FnP K "need_articles" (top 27) f fd) (gm:mg "need_articles" = some (.ref f)) (a3y:mg "NoArticles" = some (.ref (a0F K "NoArticles"))) (a3D:PySem.W.excIn K (a0F K "NoArticles") He.veBase "ValueError.__new__" = true ∧ a4w K (.ref (a0F K "NoArticles")) = true ∧ PySem.W.subIn K (.ref (a0F K "NoArticles")) (.type "BaseException") = some true ∧ PySem.W.typeIn K (.ref (a0F K "NoArticles")) = some (.type "type")) (F_is_articles:Fn P w K mg base CX0 3 "is_articles" ["thing"] a2M):Fn P w K mg base (b2U P w) 4 "need_articles" ["articles"] (a0Q (evK K)):=by
 obtain ⟨c8W,b6J,b9Q,b99,c0d,c0b⟩:=F_is_articles.ex
 have b6Q:3 ≤ 3:=by decide
 have nd:=a7m.nd
 refine Fn.mkN (k:=3) (t:=fun W=>a8n w K W (evK K)) (a:=a3T (evK K)) F a7m gm (F.bindsN fun _ _ _ _ _ _ us hl=>match us,hl with | [_],_=>rfl) (b1D (evK K)) (fun W=>b3F W) (b0O (evK K)) fun cdv A outer s H E hr=>?_
 exact (j6 (a1F (a14 (a03 (f7 b9Q hr b6Q (by rfl) b99 c0d c0b (c6 (pv 0) d8)))) (j6 (L2N.ps_raise rfl (d2i rfl rfl rfl rfl) (L2N.pmk_own PySem.F.excBase_ValueError a3D.1 a3y a3D.2.1 (raises_own a3D.2.2.1 a3D.2.2.2) (by rfl)))) a0d))
theorem c1a:a0B b8Y ["thing"] (i4 (top 34)):=⟨rfl,rfl,rfl,by decide +kernel,rfl,by decide +kernel,by decide +kernel⟩
theorem c6E {f:v4} {fd:w8} (F:FnP K "is_day" (top 34) f fd) (gm:mg "is_day" = some (.ref f)) (b2K:∃ t,mg "MOST_DAY" = some (.int 1000000000000 t)) (F_is_within:Fn P w K mg base CX0 1 "is_within" ["thing", "low", "high"] w9):Fn P w K mg base CX0 2 "is_day" ["thing"] a3c:=by
 obtain ⟨b5B,a8v,a2b,a2c,a2e,a2d⟩:=F_is_within.ex
 have a1R:1 ≤ 1:=by decide
 have nd:=c1a.nd
 refine Fn.mk0 (k:=1) (t:=c3U w K) (a:=b32) F c1a gm (F.bindsN fun _ _ _ _ _ _ us hl=>match us,hl with | [_],_=>rfl) c4o (fun W=>c60 W) (c2I) fun cdv A outer s H E hr=>?_
 exact (j6 (w4 (f7 a2b hr a1R (by rfl) a2c a2e a2d (c6 (pv 0) (c6 d6 (c6 (a1H (by rfl) b2K.choose_spec ⟨_,rfl⟩) d8))))))
theorem a9y:a0B a6S ["page"] (i4 (top 35)):=⟨rfl,rfl,rfl,by decide +kernel,rfl,by decide +kernel,by decide +kernel⟩
theorem b6m {f:v4} {fd:w8} (F:FnP K "is_sum_page" (top 35) f fd) (gm:mg "is_sum_page" = some (.ref f)) (a3z:∃ t,mg "MOST_PENCE" = some (.int 1000000000 t)) (a8y:∃ t,mg "MOST_TIMES" = some (.int 1000000 t)) (F_is_within:Fn P w K mg base CX0 1 "is_within" ["thing", "low", "high"] w9) (F_is_name:Fn P w K mg base CX0 1 "is_name" ["thing"] a1C):Fn P w K mg base CX0 2 "is_sum_page" ["page"] a2N:=by
 obtain ⟨b5B,a8v,a2b,a2c,a2e,a2d⟩:=F_is_within.ex
 have a1R:1 ≤ 1:=by decide
 obtain ⟨c1F,b2F,a6D,a6H,a6L,a6J⟩:=F_is_name.ex
 have a5a:1 ≤ 1:=by decide
 have nd:=a9y.nd
 refine Fn.mk0 (k:=1) (t:=b1c w K) (a:=a42) F a9y gm (F.bindsN fun _ _ _ _ _ _ us hl=>match us,hl with | [_],_=>rfl) b4C (fun W=>b6z W) (b3w) fun cdv A outer s H E hr=>?_
 exact (f8 (a1F (a14 (a03 (f7 a2b hr a1R (by rfl) a2c a2e a2d (c6 (v9 n6 (pv 0) d6 (fun _ _=>rfl)) (c6 d6 (c6 (a1H (by rfl) a3z.choose_spec ⟨_,rfl⟩) d8)))))) (j6 (w4 a5I)) a0d)
 (f8 (a1F (z6 (a2R hr.units) (v9 n6 (pv 0) d6 (fun _ _=>rfl)) t5 (a0i _)) (j6 (w4 (a4E (f7 a2b hr a1R (by rfl) a2c a2e a2d (c6 (v9 n6 (pv 0) d6 (fun _ _=>rfl)) (c6 d6 (c6 (a1H (by rfl) a8y.choose_spec ⟨_,rfl⟩) d8)))) (b2X (f7 a6D hr a5a (by rfl) a6H a6L a6J (c6 (v9 n6 (pv 0) d6 (fun _ _=>rfl)) d8)))))) a0d)
 (j6 (w4 (pe_orT (a5d (a2R hr.units) (v9 n6 (pv 0) d6 (fun _ _=>rfl)) t5 (a0i _)) (b2X (f7 a6D hr a5a (by rfl) a6H a6L a6J (c6 (v9 n6 (pv 0) d6 (fun _ _=>rfl)) d8))))))))
theorem b72:a0B b0r ["articles", "thing"] (i4 (top 36)):=⟨rfl,rfl,rfl,by decide +kernel,rfl,by decide +kernel,by decide +kernel⟩
theorem c4r {f:v4} {fd:w8} (F:FnP K "is_page" (top 36) f fd) (gm:mg "is_page" = some (.ref f)) (f9:mg "isinstance" = none) (a0s:mg "tuple" = none) (a07:mg "len" = none) (b0e:mg "str" = none) (a0E:IsiOk K "str") (j9:IsiOk K "tuple") (b53:KTab K w (a0F K "LENGTHS") [("joins",4),("ranked",4),("leaves",3),("away",4),("advance",5),("home",6),("slops",5),("fine",4),("lost",3)]) (a2f:c39 K (a0F K "TURNS") ["joins", "ranked", "leaves"]) (b5G:mg "LENGTHS" = some (.ref (a0F K "LENGTHS"))) (c3j:mg "TURNS" = some (.ref (a0F K "TURNS"))) (F_need_articles:Fn P w K mg base (b2U P w) 4 "need_articles" ["articles"] (a0Q (evK K))) (F_is_day:Fn P w K mg base CX0 2 "is_day" ["thing"] a3c) (F_is_name:Fn P w K mg base CX0 1 "is_name" ["thing"] a1C) (F_is_sum_page:Fn P w K mg base CX0 2 "is_sum_page" ["page"] a2N):Fn P w K mg base (b2U P w) 5 "is_page" ["articles", "thing"] (a1Z (evK K)):=by
 obtain ⟨b5C,a7D,a5A,a5D,a5H,a5F⟩:=F_need_articles.ex
 have a4T:4 ≤ 4:=by decide
 obtain ⟨f_is_day,c7H,b36,b37,b39,b38⟩:=F_is_day.ex
 have b1m:2 ≤ 4:=by decide
 obtain ⟨c1F,b2F,a6D,a6H,a6L,a6J⟩:=F_is_name.ex
 have a5a:1 ≤ 4:=by decide
 obtain ⟨c8X,b6K,b9R,c0a,c0e,c0c⟩:=F_is_sum_page.ex
 have b6R:2 ≤ 4:=by decide
 have nd:=b72.nd
 refine Fn.mkN (k:=4) (t:=fun W=>c1s w K W (evK K)) (a:=b0t (evK K)) F b72 gm (F.bindsN fun _ _ _ _ _ _ us hl=>match us,hl with | [_,_],_=>rfl) (c2B (evK K)) (fun W=>c47 a0E j9 a2f W) (c04 (evK K)) fun cdv A outer s H E hr=>?_
 exact (f8 (a6O (b0K a5A hr a4T (by rfl) a5D a5H a5F (d2i rfl rfl rfl rfl) (c6 (pv 0) d8)))
 (f8 (a1F (b0m (b1v (a14 (a03 (a3w (pv 1) (by rfl) f9 (by rfl) a0s (by decide +kernel)))) (b1v (z6 b25 (y5 a1v (by rfl) a07 (by decide +kernel) (c6 (pv 1) d8)) d6 (a0i _)) (a9n (a14 (a03 (a3w (v9 n6 (pv 1) d6 (fun _ _=>rfl)) (by rfl) f9 (by rfl) b0e (by decide +kernel)))))))) (j6 (w4 a5I)) a0d)
 (f8 (a1F (z6 (c88 hr.units) (c8v b53 (a1H (v:=.ref (a0F K "LENGTHS")) (by rfl) b5G rfl) (v9 n6 (pv 1) d6 (fun _ _=>rfl)) d6 ⟨by rfl,by rfl,by rfl,by rfl⟩) (y5 a1v (by rfl) a07 (by decide +kernel) (c6 (pv 1) d8)) (a0i _)) (j6 (w4 a5I)) a0d)
 (f8 (a1F (z6 (a2R hr.units) (v9 n6 (pv 1) d6 (fun _ _=>rfl)) t5 (a0i _)) (j6 (w4 (a4E (f7 b36 hr b1m (by rfl) b37 b39 b38 (c6 (v9 n6 (pv 1) d6 (fun _ _=>rfl)) d8)) (a4E (f7 b36 hr b1m (by rfl) b37 b39 b38 (c6 (v9 n6 (pv 1) d6 (fun _ _=>rfl)) d8)) (b2X (a5d a9u (v9 n6 (pv 1) d6 (fun _ _=>rfl)) (v9 n6 (pv 1) d6 (fun _ _=>rfl)) (a0i _))))))) a0d)
 (f8 (a1F (b0m (b1v (a14 (a03 (f7 a6D hr a5a (by rfl) a6H a6L a6J (c6 (v9 n6 (pv 1) d6 (fun _ _=>rfl)) d8)))) (a9n (a14 (a03 (f7 b36 hr b1m (by rfl) b37 b39 b38 (c6 (v9 n6 (pv 1) d6 (fun _ _=>rfl)) d8))))))) (j6 (w4 a5I)) a0d)
 (f8 (a1F (z6 (a2R hr.units) (v9 n6 (pv 1) d6 (fun _ _=>rfl)) t5 (a0i _)) (j6 (w4 a5I)) a0d)
 (f8 (a1F (z6 (a2R hr.units) (v9 n6 (pv 1) d6 (fun _ _=>rfl)) t5 (a0i _)) (j6 (w4 (a4E (f7 b36 hr b1m (by rfl) b37 b39 b38 (c6 (v9 n6 (pv 1) d6 (fun _ _=>rfl)) d8)) (b2X (a5d a9u (v9 n6 (pv 1) d6 (fun _ _=>rfl)) (v9 n6 (pv 1) d6 (fun _ _=>rfl)) (a0i _)))))) a0d)
 (f8 (a1F (z6 (b7g (b0a hr)) (v9 n6 (pv 1) d6 (fun _ _=>rfl)) (a1H (v:=.ref (a0F K "TURNS")) (by rfl) c3j rfl) (by rfl)) (j6 (w4 (a5d (b7g (b0a hr)) (v9 n6 (pv 1) d6 (fun _ _=>rfl)) (c5U (own:=[("row",2)]) (g:=(t8 2)) (tt:=c18) (te:=(tOp (rIx K) (i3 2) (tC (.int 0))))  (by rfl) nd  (a35 (v9 n6 (pv 0) d6 (fun _ _=>rfl))) (a2U (own:=[("row",2)]) (N:=b0r) (sc:=i4 (top 36)) (by decide +kernel)) (fun _ _ _ _ _=>(a0O (i:=2) nd rfl nofun)) (fun _ _ _ _ _=>a6P) (fun _ _ _ _ _=>(v9 n6 (pv 2) d6 (fun _ _=>rfl)))) (by rfl)))) a0d)
 (j6 (w4 (f7 b9R hr b6R (by rfl) c0a c0e c0c (c6 (pv 1) d8))))))))))))
theorem a9w:a0B a6Q ["thing", "low", "high"] (i4 (top 53)):=⟨rfl,rfl,rfl,by decide +kernel,rfl,by decide +kernel,by decide +kernel⟩
theorem b6k {f:v4} {fd:w8} (F:FnP K "_law_within" (top 53) f fd) (gm:mg "_law_within" = some (.ref f)) (f9:mg "isinstance" = none) (b9V:mg "int" = none) (b1g:mg "bool" = none) (a11:IsiOk K "bool") (b6P:IsiOk K "int"):Fn P w K mg base CX0 1 "_law_within" ["thing", "low", "high"] r4:=by
 have nd:=a9w.nd
 refine Fn.mk0 (k:=0) (t:=b09 w K) (a:=a40) F a9w gm (F.bindsN fun _ _ _ _ _ _ us hl=>match us,hl with | [_,_,_],_=>rfl) b4A (fun W=>b6w a11 b6P W) (b3u) fun cdv A outer s H E hr=>?_
 exact (j6 (w4 (a4E (a3w (pv 0) (by rfl) f9 (by rfl) b9V (by decide +kernel)) (a4E (pe_notT (a3w (pv 0) (by rfl) f9 (by rfl) b1g (by decide +kernel))) (a4E (a5d a9u (pv 1) (pv 0) (a0i _)) (b2X (a5d a9u (pv 0) (pv 2) (a0i _))))))))
theorem a73:a0B a4j ["thing"] (i4 (top 54)):=⟨rfl,rfl,rfl,by decide +kernel,rfl,by decide +kernel,by decide +kernel⟩
theorem b4M {f:v4} {fd:w8} (F:FnP K "_law_is_name" (top 54) f fd) (gm:mg "_law_is_name" = some (.ref f)) (f9:mg "isinstance" = none) (b0e:mg "str" = none) (a07:mg "len" = none) (a0E:IsiOk K "str"):Fn P w K mg base CX0 1 "_law_is_name" ["thing"] a0w:=by
 have nd:=a73.nd
 refine Fn.mk0 (k:=0) (t:=a9A w K) (a:=a4m) F a73 gm (F.bindsN fun _ _ _ _ _ _ us hl=>match us,hl with | [_],_=>rfl) b3m (fun W=>b43 a0E W) (b1K) fun cdv A outer s H E hr=>?_
 exact (f8 (a1F (b0m (b1v (a14 (a03 (a3w (pv 0) (by rfl) f9 (by rfl) b0e (by decide +kernel)))) (b1v (z6 b25 (y5 a1v (by rfl) a07 (by decide +kernel) (c6 (pv 0) d8)) d6 (a0i _)) (a9n (z6 b4R (y5 a1v (by rfl) a07 (by decide +kernel) (c6 (pv 0) d8)) d6 (a0i _)))))) (j6 (w4 a5I)) a0d)
 (j6 (w4 (a5d (a2R hr.units) (c5U (own:=[("sign",1)]) (g:=(t8 1)) (tt:=(a1L (tOp (b9v K) (i3 1) (tC (.str "abcdefghijklmnopqrstuvwxyz"))))) (te:=(i3 1))  (by rfl) nd  (a35 (pv 0)) (a2U (own:=[("sign",1)]) (N:=a4j) (sc:=i4 (top 54)) (by decide +kernel)) (fun _ _ _ _ _=>(a0O (i:=1) nd rfl nofun)) (fun _ _ _ _ _=>(pts_one (z6 (c6F (b0a hr)) (pv 1) t5 (by rfl)))) (fun _ _ _ _ _=>(pv 1))) (a02 d8) (a0i _)))))
theorem a74:a0B a4k ["articles", "thing"] (i4 (top 55)):=⟨rfl,rfl,rfl,by decide +kernel,rfl,by decide +kernel,by decide +kernel⟩
theorem b4N {f:v4} {fd:w8} (F:FnP K "_law_is_page" (top 55) f fd) (gm:mg "_law_is_page" = some (.ref f)) (f9:mg "isinstance" = none) (a0s:mg "tuple" = none) (b0e:mg "str" = none) (a07:mg "len" = none) (a0E:IsiOk K "str") (j9:IsiOk K "tuple") (F__law_within:Fn P w K mg base CX0 1 "_law_within" ["thing", "low", "high"] r4) (F__law_is_name:Fn P w K mg base CX0 1 "_law_is_name" ["thing"] a0w):Fn P w K mg base CX0 2 "_law_is_page" ["articles", "thing"] a2m:=by
 obtain ⟨b9X,a9J,a0R,a0S,a0U,a0T⟩:=F__law_within.ex
 have a0y:1 ≤ 1:=by decide
 obtain ⟨b6I,a8u,a4r,a4s,a4u,a4t⟩:=F__law_is_name.ex
 have a3Y:1 ≤ 1:=by decide
 have nd:=a74.nd
 refine Fn.mk0 (k:=1) (t:=a9B w K) (a:=a4n) F a74 gm (F.bindsN fun _ _ _ _ _ _ us hl=>match us,hl with | [_,_],_=>rfl) b3n (fun W=>b44 a0E j9 W) (b1L) fun cdv A outer s H E hr=>?_
 exact (f8 (z4 (i:=2) nd rfl nofun (pe_disp (b1u t5 d6 (b1u t5 d6 (b1u t5 d6 (b1u t5 d6 (b1u t5 d6 (b1u t5 d6 (b1u t5 d6 (b1u t5 d6 (b1u t5 d6 pps_nil))))))))) (by rfl) (by rfl) (by simp) (by decide)))
 (f8 (a1F (b0m (b1v (a14 (a03 (a3w (pv 1) (by rfl) f9 (by rfl) a0s (by decide +kernel)))) (b1v (z6 (a2R hr.units) (pv 1) (a1U d8) (a0i _)) (a9n (a14 (a03 (a3w (v9 n6 (pv 1) d6 (fun _ _=>rfl)) (by rfl) f9 (by rfl) b0e (by decide +kernel)))))))) (j6 (w4 a5I)) a0d)
 (f8 (z4 (i:=3) nd rfl nofun (v9 n6 (pv 1) d6 (fun _ _=>rfl)))
 (f8 (a1F (b0m (b1v (pt_cmp (pc_dnotin (hu_of hr) (pv 3) (pv 2))) (a9n (z6 (c88 hr.units) (y5 a1v (by rfl) a07 (by decide +kernel) (c6 (pv 1) d8)) (pe_dget (hu_of hr) (pv 2) (pv 3) (fun _ _=>rfl)) (a0i _))))) (j6 (w4 a5I)) a0d)
 (f8 (a1F (z6 (a2R hr.units) (pv 3) t5 (a0i _)) (j6 (w4 (a4E (f7 a0R hr a0y (by rfl) a0S a0U a0T (c6 (v9 n6 (pv 1) d6 (fun _ _=>rfl)) (c6 d6 (c6 (t4 a13 d6 d6) d8)))) (b2X (f7 a0R hr a0y (by rfl) a0S a0U a0T (c6 (v9 n6 (pv 1) d6 (fun _ _=>rfl)) (c6 d6 (c6 (v9 n6 (pv 1) d6 (fun _ _=>rfl)) d8)))))))) a0d)
 (f8 (a1F (b0m (b1v (a14 (a03 (f7 a4r hr a3Y (by rfl) a4s a4u a4t (c6 (v9 n6 (pv 1) d6 (fun _ _=>rfl)) d8)))) (a9n (a14 (a03 (f7 a0R hr a0y (by rfl) a0S a0U a0T (c6 (v9 n6 (pv 1) d6 (fun _ _=>rfl)) (c6 d6 (c6 (t4 a13 d6 d6) d8))))))))) (j6 (w4 a5I)) a0d)
 (f8 (a1F (z6 (b7g (b0a hr)) (pv 3) (a1U (c6 t5 (c6 t5 d8))) (by rfl)) (j6 (w4 (a5d (c88 hr.units) (c5U (own:=[("row",4)]) (g:=(t8 4)) (tt:=(a1L (tOp (c1V K) (tOp (rIx K) (i3 4) (tC (.int 0))) (tOp (rIx K) (i3 1) (tC (.int 3)))))) (te:=(i3 4))  (by rfl) nd  (a35 (v9 n6 (pv 0) d6 (fun _ _=>rfl))) (a2U (own:=[("row",4)]) (N:=a4k) (sc:=i4 (top 55)) (by decide +kernel)) (fun _ _ _ _ _=>(a0O (i:=4) nd rfl nofun)) (fun _ _ _ _ _=>(pts_one (z6 (a2R hr.units) (v9 n6 (pv 4) d6 (fun _ _=>rfl)) (v9 n6 (pv 1) d6 (fun _ _=>rfl)) (a0i _)))) (fun _ _ _ _ _=>(pv 4))) (a02 d8) (a0i _)))) a0d)
 (f8 (a1F (z6 (a2R hr.units) (pv 3) t5 (a0i _)) (j6 (w4 (f7 a0R hr a0y (by rfl) a0S a0U a0T (c6 (v9 n6 (pv 1) d6 (fun _ _=>rfl)) (c6 (v9 n6 (pv 1) d6 (fun _ _=>rfl)) (c6 (t4 a13 d6 d6) d8)))))) a0d)
 (f8 (a1F (b0m (d2y (z6 (b7g (b0a hr)) (pv 3) (a1U (c6 t5 (c6 t5 (c6 t5 (c6 t5 d8))))) (by rfl)) (c9Q (a14 (a03 (f7 a0R hr a0y (by rfl) a0S a0U a0T (c6 (v9 n6 (pv 1) d6 (fun _ _=>rfl)) (c6 d6 (c6 (t4 a13 d6 d6) d8))))))))) (j6 (w4 a5I)) a0d)
 (f8 (a1F (b0m (d2y (z6 (a2R hr.units) (pv 3) t5 (a0i _)) (c9Q (a14 (a03 (f7 a0R hr a0y (by rfl) a0S a0U a0T (c6 (v9 n6 (pv 1) d6 (fun _ _=>rfl)) (c6 d6 (c6 (t4 a13 d6 d6) d8))))))))) (j6 (w4 a5I)) a0d)
 (j6 (w4 (pe_orT (a5d (b7g (b0a hr)) (pv 3) (a1U (c6 t5 (c6 t5 d8))) (by rfl)) (b2X (f7 a4r hr a3Y (by rfl) a4s a4u a4t (c6 (v9 n6 (pv 1) (pe_un un_neg d6) (fun _ _=>rfl)) d8))))))))))))))))
theorem a5U:a0B a2J ["thing", "long", "most"] (i4 (top 56)):=⟨rfl,rfl,rfl,by decide +kernel,rfl,by decide +kernel,by decide +kernel⟩
theorem b0I {f:v4} {fd:w8} (F:FnP K "_law_named_rows" (top 56) f fd) (gm:mg "_law_named_rows" = some (.ref f)) (f9:mg "isinstance" = none) (a0s:mg "tuple" = none) (a07:mg "len" = none) (a47:mg "sorted" = none) (b9W:mg "set" = none) (j9:IsiOk K "tuple") (F__law_is_name:Fn P w K mg base CX0 1 "_law_is_name" ["thing"] a0w):Fn P w K mg base CX0 2 "_law_named_rows" ["thing", "long", "most"] a0G:=by
 obtain ⟨b6I,a8u,a4r,a4s,a4u,a4t⟩:=F__law_is_name.ex
 have a3Y:1 ≤ 1:=by decide
 have nd:=a5U.nd
 refine Fn.mk0 (k:=1) (t:=a6x w K) (a:=a2K) F a5U gm (F.bindsN fun _ _ _ _ _ _ us hl=>match us,hl with | [_,_,_],_=>rfl) a9S (fun W=>b0Z j9 W) (a88) fun cdv A outer s H E hr=>?_
 exact (f8 (a1F (b0m (b1v (a14 (a03 (a3w (pv 0) (by rfl) f9 (by rfl) a0s (by decide +kernel)))) (b1v (z6 b25 (y5 a1v (by rfl) a07 (by decide +kernel) (c6 (pv 0) d8)) d6 (a0i _)) (a9n (z6 b4R (y5 a1v (by rfl) a07 (by decide +kernel) (c6 (pv 0) d8)) (pv 2) (a0i _)))))) (j6 (w4 a5I)) a0d)
 (f8 (c0t a0M rfl (a35 (pv 0)) (a0O (i:=3) nd rfl nofun) (j6 (a1F (b0m (b1v (a14 (a03 (a3w (pv 3) (by rfl) f9 (by rfl) a0s (by decide +kernel)))) (b1v (z6 (c88 hr.units) (y5 a1v (by rfl) a07 (by decide +kernel) (c6 (pv 3) d8)) (pv 1) (a0i _)) (a9n (a14 (a03 (f7 a4r hr a3Y (by rfl) a4s a4u a4t (c6 (v9 n6 (pv 3) d6 (fun _ _=>rfl)) d8)))))))) (j6 (w4 a5I)) a0d)))
 (f8 (ps_setLc (i:=4) (own:=[("row",3)]) (g:=(t8 3)) (tt:=c18) (te:=(tOp (rIx K) (i3 3) (tC (.int 0))))  (by rfl) nd rfl rfl (sw_true rfl rfl rfl (by decide +kernel))  (a35 (pv 0)) (a2U (own:=[("row",3)]) (N:=a2J) (sc:=i4 (top 56)) (by decide +kernel)) (fun _ _ _ _ _=>(a0O (i:=3) nd rfl nofun)) (fun _ _ _ _ _=>a6P) (fun _ _ _ _ _=>(v9 n6 (pv 3) d6 (fun _ _=>rfl))))
 (j6 (w4 (a5d (a2R hr.units) (pv 4) (c4u rfl hr.units (pv 4) (by rfl) a47 (by rfl) b9W) (a0i _)))))))
theorem a5r:a0B a3L ["thing"] (i4 (top 57)):=⟨rfl,rfl,rfl,by decide +kernel,rfl,by decide +kernel,by decide +kernel⟩
theorem a9W {f:v4} {fd:w8} (F:FnP K "_law_is_articles" (top 57) f fd) (gm:mg "_law_is_articles" = some (.ref f)) (f9:mg "isinstance" = none) (a0s:mg "tuple" = none) (a07:mg "len" = none) (j9:IsiOk K "tuple") (F__law_named_rows:Fn P w K mg base CX0 2 "_law_named_rows" ["thing", "long", "most"] a0G) (F__law_within:Fn P w K mg base CX0 1 "_law_within" ["thing", "low", "high"] r4):Fn P w K mg base CX0 3 "_law_is_articles" ["thing"] a1k:=by
 obtain ⟨c5A,b1h,a6C,a6G,a6K,a6I⟩:=F__law_named_rows.ex
 have a53:2 ≤ 2:=by decide
 obtain ⟨b9X,a9J,a0R,a0S,a0U,a0T⟩:=F__law_within.ex
 have a0y:1 ≤ 2:=by decide
 have nd:=a5r.nd
 refine Fn.mk0 (k:=2) (t:=a5Y w K) (a:=a2s) F a5r gm (F.bindsN fun _ _ _ _ _ _ us hl=>match us,hl with | [_],_=>rfl) a86 (fun W=>a95 j9 W) (a70) fun cdv A outer s H E hr=>?_
 exact (f8 (a1F (b0m (b1v (a14 (a03 (a3w (pv 0) (by rfl) f9 (by rfl) a0s (by decide +kernel)))) (a9n (z6 (c88 hr.units) (y5 a1v (by rfl) a07 (by decide +kernel) (c6 (pv 0) d8)) d6 (a0i _))))) (j6 (w4 a5I)) a0d)
 (f8 (a1F (b0m (b1v (a14 (a03 (f7 a6C hr a53 (by rfl) a6G a6K a6I (c6 (v9 n6 (pv 0) d6 (fun _ _=>rfl)) (c6 d6 (c6 d6 d8)))))) (a9n (a14 (a03 (f7 a6C hr a53 (by rfl) a6G a6K a6I (c6 (v9 n6 (pv 0) d6 (fun _ _=>rfl)) (c6 d6 (c6 d6 d8))))))))) (j6 (w4 a5I)) a0d)
 (f8 (c0t a0M rfl (a35 (v9 n6 (pv 0) d6 (fun _ _=>rfl))) (pg_tup rfl (b56 (a0O (i:=1) nd rfl nofun) (b56 (a0O (i:=2) nd rfl nofun) (b56 (a0O (i:=3) nd rfl nofun) pgs_nil)))) (j6 (a1F (b0m (b1v (a14 (a03 (f7 a0R hr a0y (by rfl) a0S a0U a0T (c6 (pv 2) (c6 d6 (c6 (t4 a13 d6 d6) d8)))))) (a9n (a14 (a03 (f7 a0R hr a0y (by rfl) a0S a0U a0T (c6 (pv 3) (c6 d6 (c6 d6 d8))))))))) (j6 (w4 a5I)) a0d)))
 (f8 (c0t a0M rfl (a35 (v9 n6 (pv 0) d6 (fun _ _=>rfl))) (pg_tup rfl (b56 (a0O (i:=4) nd rfl nofun) (b56 (a0O (i:=5) nd rfl nofun) pgs_nil))) (j6 (a1F (a14 (a03 (f7 a0R hr a0y (by rfl) a0S a0U a0T (c6 (pv 5) (c6 d6 (c6 d6 d8)))))) (j6 (w4 a5I)) a0d)))
 (j6 (w4 (f7 a0R hr a0y (by rfl) a0S a0U a0T (c6 (v9 n6 (pv 0) d6 (fun _ _=>rfl)) (c6 d6 (c6 d6 d8))))))))))
theorem b29:a0B a6R ["articles", "thing"] (i4 (top 37)):=⟨rfl,rfl,rfl,by decide +kernel,rfl,by decide +kernel,by decide +kernel⟩
theorem c0X {f:v4} {fd:w8} (F:FnP K "are_pages" (top 37) f fd) (gm:mg "are_pages" = some (.ref f)) (f9:mg "isinstance" = none) (a9I:mg "list" = none) (a07:mg "len" = none) (b1f:mg "all" = none) (b9W:mg "set" = none) (b5O:IsiOk K "list") (a8w:∃ t,mg "MOST_PAGES" = some (.int 200 t)) (F_need_articles:Fn P w K mg base (b2U P w) 4 "need_articles" ["articles"] (a0Q (evK K))) (F_is_page:Fn P w K mg base (b2U P w) 5 "is_page" ["articles", "thing"] (a1Z (evK K))):Fn P w K mg base (b2U P w) 6 "are_pages" ["articles", "thing"] (a4f (evK K)):=by
 obtain ⟨b5C,a7D,a5A,a5D,a5H,a5F⟩:=F_need_articles.ex
 have a4T:4 ≤ 5:=by decide
 obtain ⟨c1G,b2G,a8r,a8A,a8E,a8C⟩:=F_is_page.ex
 have a6F:5 ≤ 5:=by decide
 have nd:=b29.nd
 refine Fn.mkN (k:=5) (t:=fun W=>b5f w K W (evK K)) (a:=a61 (evK K)) F b29 gm (F.bindsN fun _ _ _ _ _ _ us hl=>match us,hl with | [_,_],_=>rfl) (b9f (evK K)) (fun W=>c1f b5O W) (b6p (evK K)) fun cdv A outer s H E hr=>?_
 exact (f8 (a6O (b0K a5A hr a4T (by rfl) a5D a5H a5F (d2i rfl rfl rfl rfl) (c6 (pv 0) d8)))
 (f8 (a1F (b0m (b1v (a14 (a03 (a3w (pv 1) (by rfl) f9 (by rfl) a9I (by decide +kernel)))) (a9n (z6 b4R (y5 a1v (by rfl) a07 (by decide +kernel) (c6 (pv 1) d8)) (a1H (by rfl) a8w.choose_spec ⟨_,rfl⟩) (a0i _))))) (j6 (w4 a5I)) a0d)
 (j6 (w4 (a4E (y5 (cr_all rfl) (by rfl) b1f (by decide +kernel) (c6 (c5U (own:=[("page",2)]) (g:=(t8 2)) (tt:=c18) (te:=(r8 (spOf K (a1Z (evK K))) [] E0 (d3 (i3 0) (d3 (i3 2) p7))))  (by rfl) nd  (a35 (pv 1)) (a2U (own:=[("page",2)]) (N:=a6R) (sc:=i4 (top 37)) (by decide +kernel)) (fun _ _ _ _ _=>(a0O (i:=2) nd rfl nofun)) (fun _ _ _ _ _=>a6P) (fun _ _ _ _ _=>(c02 a8r hr a6F (by rfl) a8A a8E a8C (c6 (pv 0) (c6 (pv 2) d8))))) d8)) (b2X (a5d (a2R hr.units) (c4t rfl hr.units (pv 1) (by rfl) a07 (by rfl) b9W) (y5 a1v (by rfl) a07 (by decide +kernel) (c6 (pv 1) d8)) (a0i _))))))))
theorem a75:a0B a23 ["e"] (i4 (top 39)):=⟨rfl,rfl,rfl,by decide +kernel,rfl,by decide +kernel,by decide +kernel⟩
theorem b4O {f:v4} {fd:w8} (F:FnP K "_law_kind_of" (top 39) f fd) (gm:mg "_law_kind_of" = some (.ref f)) (f9:mg "isinstance" = none) (a8s:mg "ValueError" = none) (a00:mg "range" = none) (kt:c8m K kNs kYs = true) (b91:mg "NoPage" = some (.ref (a0F K "NoPage"))) (c3g:mg "NoMan" = some (.ref (a0F K "NoMan"))) (a3y:mg "NoArticles" = some (.ref (a0F K "NoArticles"))) (b90:mg "Faulty" = some (.ref (a0F K "Faulty"))) (c3i:mg "NoSum" = some (.ref (a0F K "NoSum"))) (c3h:mg "NoRow" = some (.ref (a0F K "NoRow"))) (b92:mg "NoRank" = some (.ref (a0F K "NoRank"))) (b5H:mg "NoPages" = some (.ref (a0F K "NoPages"))) (b5I:mg "TooMany" = some (.ref (a0F K "TooMany"))) (a7c:mg "NothingLeft" = some (.ref (a0F K "NothingLeft"))) (b2H:mg "NotThere" = some (.ref (a0F K "NotThere"))) (b93:mg "NoText" = some (.ref (a0F K "NoText"))) (c3k:mg "Twice" = some (.ref (a0F K "Twice"))) (b5J:mg "TooMuch" = some (.ref (a0F K "TooMuch"))):FnE P w K mg base 1 "_law_kind_of" ["e"] (KindT K kNs):=by
 have nd:=a75.nd
 refine FnE.mk0 (k:=0) (B:=kBs K) (t:=fun v bs=>a9C w K v bs) (a:=fun v bs=>a4o v bs) F a75 gm (F.bindsN fun _ _ _ _ _ _ us hl=>match us,hl with | [_],_=>rfl) (fun W v bs=>b45 W) (fun D v z hT ρ P PX h=>?_) fun cdv A outer s H p D z hT hot1 hz hr=>?_
 ·obtain ⟨x,hx,rfl,rfl⟩:=hT.ex
  exact b1M v x hx _ (fun y hy=>c9l kt hx hy) ρ P PX h
 obtain ⟨x,hx,rfl,rfl⟩:=hT.ex
 have hf:∃ vs,p.2.data = .fields vs:=⟨_,hot1.2.choose_spec.1⟩
 have hot:L2H.HotC (L2H.cxH CX0 P w K mg base a23 "_law_kind_of" (i4 (top 39)) f cdv A outer s H E0 p):=⟨p,hot1,m9 p⟩
 exact (f8 (z4 (i:=1) nd rfl nofun (a02 (c6 (a5o (m9 _) (a2a kt hx) hz hf (a3p kt hx (y := "Faulty") (by decide)) (c:=.ref (a0F K "Faulty")) (fun u hu=>a3Z hu (a3U (by decide +kernel)).symm) (pv 0) (a1H (v:=.ref (a0F K "Faulty")) (by rfl) b90 rfl) (by rfl) f9) (c6 (a5o (m9 _) (a2a kt hx) hz hf (a3p kt hx (y := "NoArticles") (by decide)) (c:=.ref (a0F K "NoArticles")) (fun u hu=>a3Z hu (a3U (by decide +kernel)).symm) (pv 0) (a1H (v:=.ref (a0F K "NoArticles")) (by rfl) a3y rfl) (by rfl) f9) (c6 (a5o (m9 _) (a2a kt hx) hz hf (a3p kt hx (y := "NoMan") (by decide)) (c:=.ref (a0F K "NoMan")) (fun u hu=>a3Z hu (a3U (by decide +kernel)).symm) (pv 0) (a1H (v:=.ref (a0F K "NoMan")) (by rfl) c3g rfl) (by rfl) f9) (c6 (a5o (m9 _) (a2a kt hx) hz hf (a3p kt hx (y := "NoPage") (by decide)) (c:=.ref (a0F K "NoPage")) (fun u hu=>a3Z hu (a3U (by decide +kernel)).symm) (pv 0) (a1H (v:=.ref (a0F K "NoPage")) (by rfl) b91 rfl) (by rfl) f9) d8))))))
 (f8 (z4 (i:=1) nd rfl nofun (t4 t0 (pv 1) (a02 (c6 (a5o (m9 _) (a2a kt hx) hz hf (a3p kt hx (y := "NoPages") (by decide)) (c:=.ref (a0F K "NoPages")) (fun u hu=>a3Z hu (a3U (by decide +kernel)).symm) (pv 0) (a1H (v:=.ref (a0F K "NoPages")) (by rfl) b5H rfl) (by rfl) f9) (c6 (a5o (m9 _) (a2a kt hx) hz hf (a3p kt hx (y := "NoRank") (by decide)) (c:=.ref (a0F K "NoRank")) (fun u hu=>a3Z hu (a3U (by decide +kernel)).symm) (pv 0) (a1H (v:=.ref (a0F K "NoRank")) (by rfl) b92 rfl) (by rfl) f9) (c6 (a5o (m9 _) (a2a kt hx) hz hf (a3p kt hx (y := "NoRow") (by decide)) (c:=.ref (a0F K "NoRow")) (fun u hu=>a3Z hu (a3U (by decide +kernel)).symm) (pv 0) (a1H (v:=.ref (a0F K "NoRow")) (by rfl) c3h rfl) (by rfl) f9) (c6 (a5o (m9 _) (a2a kt hx) hz hf (a3p kt hx (y := "NoSum") (by decide)) (c:=.ref (a0F K "NoSum")) (fun u hu=>a3Z hu (a3U (by decide +kernel)).symm) (pv 0) (a1H (v:=.ref (a0F K "NoSum")) (by rfl) c3i rfl) (by rfl) f9) d8)))))))
 (f8 (z4 (i:=1) nd rfl nofun (t4 t0 (pv 1) (a02 (c6 (a5o (m9 _) (a2a kt hx) hz hf (a3p kt hx (y := "NoText") (by decide)) (c:=.ref (a0F K "NoText")) (fun u hu=>a3Z hu (a3U (by decide +kernel)).symm) (pv 0) (a1H (v:=.ref (a0F K "NoText")) (by rfl) b93 rfl) (by rfl) f9) (c6 (a5o (m9 _) (a2a kt hx) hz hf (a3p kt hx (y := "NotThere") (by decide)) (c:=.ref (a0F K "NotThere")) (fun u hu=>a3Z hu (a3U (by decide +kernel)).symm) (pv 0) (a1H (v:=.ref (a0F K "NotThere")) (by rfl) b2H rfl) (by rfl) f9) (c6 (a5o (m9 _) (a2a kt hx) hz hf (a3p kt hx (y := "NothingLeft") (by decide)) (c:=.ref (a0F K "NothingLeft")) (fun u hu=>a3Z hu (a3U (by decide +kernel)).symm) (pv 0) (a1H (v:=.ref (a0F K "NothingLeft")) (by rfl) a7c rfl) (by rfl) f9) (c6 (a5o (m9 _) (a2a kt hx) hz hf (a3p kt hx (y := "TooMany") (by decide)) (c:=.ref (a0F K "TooMany")) (fun u hu=>a3Z hu (a3U (by decide +kernel)).symm) (pv 0) (a1H (v:=.ref (a0F K "TooMany")) (by rfl) b5I rfl) (by rfl) f9) d8)))))))
 (f8 (z4 (i:=1) nd rfl nofun (t4 t0 (pv 1) (a02 (c6 (a5o (m9 _) (a2a kt hx) hz hf (a3p kt hx (y := "TooMuch") (by decide)) (c:=.ref (a0F K "TooMuch")) (fun u hu=>a3Z hu (a3U (by decide +kernel)).symm) (pv 0) (a1H (v:=.ref (a0F K "TooMuch")) (by rfl) b5J rfl) (by rfl) f9) (c6 (a5o (m9 _) (a2a kt hx) hz hf (a3p kt hx (y := "Twice") (by decide)) (c:=.ref (a0F K "Twice")) (fun u hu=>a3Z hu (a3U (by decide +kernel)).symm) (pv 0) (a1H (v:=.ref (a0F K "Twice")) (by rfl) c3k rfl) (by rfl) f9) (c6 (a5o (m9 _) (a2a kt hx) hz hf (a3p kt hx (y := "ValueError") (by decide)) (c:=.ty "ValueError") (fun u hu=>a3Z hu d2J.symm) (pv 0) (pe_bltn (v:=.ty "ValueError") (by rfl) a8s (by decide +kernel) rfl) (by rfl) f9) d8))))))
 (f8 (z4 (i:=2) nd rfl nofun (a02 (c6 t5 (c6 t5 (c6 t5 (c6 t5 (c6 t5 (c6 t5 (c6 t5 (c6 t5 (c6 t5 (c6 t5 d8))))))))))))
 (f8 (z4 (i:=2) nd rfl nofun (t4 t0 (pv 2) (a02 (c6 t5 (c6 t5 (c6 t5 (c6 t5 (c6 t5 d8))))))))
 (j6 (w4 (c3N t5 (AqH.pe_lcH (own:=[("k",3)]) (g:=(t8 3)) (tt:=(a6M K (tOp (rIx K) (i3 1) (i3 3)))) (te:=(tOp (rIx K) (i3 2) (i3 3)))  hot nd  (L2H.pi_range1H (by rfl) a00 (c6 d6 d8)) (a2U (own:=[("k",3)]) (N:=a23) (sc:=i4 (top 39)) (by decide +kernel)) (fun _ _ _ _ _=>(a0O (i:=3) nd rfl nofun)) (fun _ _ _ _ _=>(pts_one (a03 (v9 n6 (pv 1) (pv 3) (fun _ _=>rfl))))) (fun _ _ _ _ _=>(v9 n6 (pv 2) (pv 3) (fun _ _=>rfl)))))))))))))
theorem a76:a0B a56 ["articles", "thing"] (i4 (top 59)):=⟨rfl,rfl,rfl,by decide +kernel,rfl,by decide +kernel,by decide +kernel⟩
theorem b4P {f:v4} {fd:w8} (F:FnP K "_law_refused" (top 59) f fd) (gm:mg "_law_refused" = some (.ref f)) (a00:mg "range" = none) (kt:c8m K kNs kYs = true) (b0g:mg "WageError" = some (.ref (a0F K "WageError"))) (F_is_page:Fn P w K mg base (b2U P w) 5 "is_page" ["articles", "thing"] (a1Z (evK K))) (F_are_pages:Fn P w K mg base (b2U P w) 6 "are_pages" ["articles", "thing"] (a4f (evK K))) (a6c:FnE P w K mg base 1 "_law_kind_of" ["e"] (KindT K kNs)):Fn P w K mg base CX0 7 "_law_refused" ["articles", "thing"] a2n:=by
 obtain ⟨c1G,b2G,a8r,a8A,a8E,a8C⟩:=F_is_page.ex
 have a6F:5 ≤ 6:=by decide
 obtain ⟨d1R,c1I,c3a,c3p,c3r,c3q⟩:=F_are_pages.ex
 have c1O:6 ≤ 6:=by decide
 have b5R:1 ≤ 6:=by decide
 have nd:=a76.nd
 refine Fn.mk0 (k:=6) (t:=a9G w K (evK K)) (a:=a4q (evK K)) F a76 gm (F.bindsN fun _ _ _ _ _ _ us hl=>match us,hl with | [_,_],_=>rfl) b3o (fun W=>b49 (ev:=evK K) (fun x hx=>c8n kt (x:=x) hx) W) (b1N (evK K)) fun cdv A outer s H E hr=>?_
 exact (f8 (z4 (i:=2) nd rfl nofun (a02 d8))
 (f8 (c0t a0M rfl (b0o (by rfl) a00 (c6 d6 d8)) (a0O (i:=3) nd rfl nofun) (j6 (d04 (i:=4) rfl rfl nd rfl rfl ⟨rfl,by decide,.inl b0g⟩ (fun W pn xe tk po=>(j6 (a1F (z6 (a2R hr.units) (pv 3) d6 (a0i _)) (j6 (a6O (b0K a8r hr a6F (by rfl) a8A a8E a8C tk (c6 (pv 0) (c6 (pv 1) d8))))) (j6 (a6O (b0K c3a hr c1O (by rfl) c3p c3r c3q tk (c6 (pv 0) (c6 (a02 (c6 (pv 1) d8)) d8)))))))) (fun a oe cls d pn hz hf=>(j6 (a6O (d2w a0a a2z a2A c5S (pv 2) (c6 (c8w a6c hr b5R hz hf (by rfl) (pv 4)) d8))))))))
 (j6 (w4 (pv 2)))))
theorem c9C:a0B c9T ["script"] (i4 (top 60)):=⟨rfl,rfl,rfl,by decide +kernel,rfl,by decide +kernel,by decide +kernel⟩
theorem d3i {f:v4} {fd:w8} (F:FnP K "law" (top 60) f fd) (gm:mg "law" = some (.ref f)) (a07:mg "len" = none) (b3M:mg "min" = none) (d1P:mg "max" = none) (a00:mg "range" = none) (a9I:mg "list" = none) (f9:mg "isinstance" = none) (b1g:mg "bool" = none) (a11:IsiOk K "bool") (F__law_draws:Fn P w K mg base CX0 1 "_law_draws" ["script", "k"] a3s) (F__law_book:Fn P w K mg base CX0 5 "_law_book" ["draws"] a2F) (F__law_edges:Fn P w K mg base CX0 1 "_law_edges" ["articles", "man"] a3t) (F__law_thing:Fn P w K mg base CX0 6 "_law_thing" ["draws", "deep"] (a0m 4)) (F__law_otherwise:Fn P w K mg base CX0 10 "_law_otherwise" ["draws", "thing", "deep"] (a0h 3)) (F_is_page:Fn P w K mg base (b2U P w) 5 "is_page" ["articles", "thing"] (a1Z (evK K))) (F__law_is_page:Fn P w K mg base CX0 2 "_law_is_page" ["articles", "thing"] a2m) (F__law_is_articles:Fn P w K mg base CX0 3 "_law_is_articles" ["thing"] a1k) (F__law_refused:Fn P w K mg base CX0 7 "_law_refused" ["articles", "thing"] a2n):FnOk P w K mg base CX0 11 f fd ["script"] (spOf K c_law):=by
 obtain ⟨c9H,b9Y,c1x,c1P,c1T,c1R⟩:=F__law_draws.ex
 have b97:1 ≤ 10:=by decide
 obtain ⟨d1Q,c1H,b5t,b5U,b50,b5X⟩:=F__law_book.ex
 have b3j:5 ≤ 10:=by decide
 obtain ⟨c9I,b9Z,c1y,c1Q,c1U,c1S⟩:=F__law_edges.ex
 have b98:1 ≤ 10:=by decide
 obtain ⟨b3i,a7b,a3x,a3A,a3C,a3B⟩:=F__law_thing.ex
 have a2P:6 ≤ 10:=by decide
 obtain ⟨b3N,a6E,a3f,a3g,a3i,a3h⟩:=F__law_otherwise.ex
 have a2O:10 ≤ 10:=by decide
 obtain ⟨c1G,b2G,a8r,a8A,a8E,a8C⟩:=F_is_page.ex
 have a6F:5 ≤ 10:=by decide
 obtain ⟨c7S,b5D,b6C,b6S,b6W,b6U⟩:=F__law_is_page.ex
 have b5Q:2 ≤ 10:=by decide
 obtain ⟨c3Y,b0f,b1d,b1n,b1p,b1o⟩:=F__law_is_articles.ex
 have b0h:3 ≤ 10:=by decide
 obtain ⟨c7T,b5E,b6D,b6T,b6X,b6V⟩:=F__law_refused.ex
 have b5S:7 ≤ 10:=by decide
 have nd:=c9C.nd
 refine okLaw (k:=10) (t:=d3y w K (evK K)) (a:=c77 (evK K)) F c9C d0W (fun W=>d3w a11 W) (c8x (evK K)) fun cdv A outer s H E hr=>?_
 exact (f8 (c0t a0M rfl (b0o (by rfl) a00 (c6 (y5 (c52 rfl) (by rfl) d1P (by decide +kernel) (c6 d6 (c6 (y5 (b0u rfl) (by rfl) b3M (by decide +kernel) (c6 d6 (c6 (y5 a1v (by rfl) a07 (by decide +kernel) (c6 (pv 0) d8)) d8))) d8))) d8)) (a0O (i:=1) nd rfl nofun) (f8 (z4 (i:=2) nd rfl nofun (f7 c1x hr b97 (by rfl) c1P c1T c1R (c6 (pv 0) (c6 (pv 1) d8))))
 (f8 (c89 (f7 b5t hr b3j (by rfl) b5U b50 b5X (c6 (pv 2) d8)) (pg_tup rfl (b56 (a0O (i:=3) nd rfl nofun) (b56 (a0O (i:=4) nd rfl nofun) (b56 (a0O (i:=5) nd rfl nofun) pgs_nil)))))
 (f8 (z4 (i:=6) nd rfl nofun (v9 n6 (f7 b5t hr b3j (by rfl) b5U b50 b5X (c6 (pv 2) d8)) d6 (fun _ _=>rfl)))
 (f8 (c0t a0M rfl (a35 (t4 t0 (t4 t0 (pe_slice c6Z (pv 4) po_none (c9P d6)) (pe_slice c6Z (pv 6) po_none (c9P d6))) (f7 c1y hr b98 (by rfl) c1Q c1U c1S (c6 (pv 3) (c6 (v9 n6 (pv 5) d6 (fun _ _=>rfl)) d8))))) (a0O (i:=7) nd rfl nofun) (f8 (z4 (i:=8) nd rfl nofun (a02 (c6 (pv 7) (c6 (f7 a3f hr a2O (by rfl) a3g a3i a3h (c6 (pv 2) (c6 (pv 7) (c6 d6 d8)))) (c6 (f7 a3x hr a2P (by rfl) a3A a3C a3B (c6 (pv 2) (c6 d6 d8))) (c6 (a3H d2s (by rfl) a9I (by decide +kernel) (c6 (pv 7) d8)) (c6 (t4 t0 (pv 7) (a1U (c6 t5 d8))) d8)))))))
 (j6 (c0t a0M rfl (a35 (pv 8)) (a0O (i:=9) nd rfl nofun) (f8 (z4 (i:=10) nd rfl nofun (c02 a8r hr a6F (by rfl) a8A a8E a8C (c6 (pv 3) (c6 (pv 9) d8))))
 (j6 (a1F (b0m (b1v (a14 (a03 (a3w (pv 10) (by rfl) f9 (by rfl) b1g (by decide +kernel)))) (a9n (z6 (c88 hr.units) (pv 10) (f7 b6C hr b5Q (by rfl) b6S b6W b6U (c6 (pv 3) (c6 (pv 9) d8))) (a0i _))))) (j6 (w4 a5I)) a0d)))))))
 (f8 (z4 (i:=11) nd rfl nofun (f7 a3f hr a2O (by rfl) a3g a3i a3h (c6 (pv 2) (c6 (pv 3) (c6 d6 d8)))))
 (j6 (a1F (b0m (d2y (a14 (a03 (f7 b1d hr b0h (by rfl) b1n b1p b1o (c6 (pv 11) d8)))) (c9Q (z6 (c88 hr.units) (f7 b6D hr b5S (by rfl) b6T b6X b6V (c6 (pv 11) (c6 (v9 n6 (pv 4) d6 (fun _ _=>rfl)) d8))) (t4 op_rep (a02 (c6 t5 d8)) d6) (a0i _))))) (j6 (w4 a5I)) a0d))))))))
 (j6 (w4 a5I)))
end
theorem facts {P:a2q} {w:i6} {K:b0} {h:b8V} {mg:Str → Option m6} {f:v4} (X:K.In h) (G:h.Ns mainGlobals mg) (hfa:mg ("law" : Str) = some (.ref f)) (c:He.SaysT fa fn ts w K) (kx:exK K = true) :
  ∃ fd:w8,(∀ (s:z7) (v:m6),BindsTo s fd ⟨[v],[]⟩ [("script",v)]) ∧ ∀ base:b8V,K.In base → base.Ns mainGlobals mg → FnOk P w K mg base CX0 11 f fd ["script"] (spOf K c_law):=by
 have kl:∀ b ∈ exL K,b = true:=fun b hb=>n3.mp kx b hb
 have kt:c8m K kNs kYs = true:=kl _ (v7 (i:=0) rfl)
 have a2f:=c8o (kl _ (v7 (i:=1) rfl))
 have b53:=d0U (tab:=[("joins",4),("ranked",4),("leaves",3),("away",4),("advance",5),("home",6),("slops",5),("fine",4),("lost",3)]) (SaysT.tab c (i:=0) rfl) (kl _ (v7 (i:=2) rfl))
 have c:He.SaysD fa fn K:=congrArg b1r c
 obtain ⟨b9Y,c1z⟩:=c.def_ 0 (d:=b2Z) rfl
 obtain ⟨a1i,c3c⟩:=c.def_ 1 (d:=b4n) rfl
 obtain ⟨a48,c1B⟩:=c.def_ 2 (d:=b21) rfl
 obtain ⟨a7C,b5w⟩:=c.def_ 3 (d:=a7S) rfl
 obtain ⟨b1j,b2C⟩:=c.def_ 4 (d:=a6o) rfl
 obtain ⟨b3P,b5y⟩:=c.def_ 5 (d:=a7U) rfl
 obtain ⟨b2D,b3J⟩:=c.def_ 6 (d:=a7g) rfl
 obtain ⟨b1i,c1C⟩:=c.def_ 7 (d:=b22) rfl
 obtain ⟨b2E,b3K⟩:=c.def_ 8 (d:=a7h) rfl
 obtain ⟨b3O,b5x⟩:=c.def_ 9 (d:=a7T) rfl
 obtain ⟨c1H,c3b⟩:=c.def_ 10 (d:=b4m) rfl
 obtain ⟨b9Z,c1A⟩:=c.def_ 11 (d:=b20) rfl
 obtain ⟨a7b,c1D⟩:=c.def_ 12 (d:=b23) rfl
 obtain ⟨a6E,b3L⟩:=c.def_ 13 (d:=a7i) rfl
 obtain ⟨b5F,c5z⟩:=c.def_ 14 (d:=b65) rfl
 obtain ⟨b2F,c7C⟩:=c.def_ 15 (d:=c0B) rfl
 obtain ⟨c3f,c5y⟩:=c.def_ 16 (d:=b64) rfl
 obtain ⟨a8v,c3e⟩:=c.def_ 17 (d:=b4p) rfl
 obtain ⟨b6J,b9T⟩:=c.def_ 18 (d:=b0w) rfl
 obtain ⟨a7D,b5z⟩:=c.def_ 19 (d:=a7V) rfl
 obtain ⟨c7H,c8V⟩:=c.def_ 20 (d:=c3x) rfl
 obtain ⟨b6K,b9U⟩:=c.def_ 21 (d:=b0x) rfl
 obtain ⟨b2G,c7D⟩:=c.def_ 22 (d:=c0C) rfl
 obtain ⟨a9J,b9S⟩:=c.def_ 23 (d:=b0v) rfl
 obtain ⟨a8u,b6E⟩:=c.def_ 24 (d:=a9p) rfl
 obtain ⟨b5D,b6F⟩:=c.def_ 25 (d:=a9q) rfl
 obtain ⟨b1h,b2B⟩:=c.def_ 26 (d:=a6n) rfl
 obtain ⟨b0f,b1e⟩:=c.def_ 27 (d:=a5S) rfl
 obtain ⟨c1I,c3d⟩:=c.def_ 28 (d:=b4o) rfl
 obtain ⟨c7G,b6G⟩:=c.def_ 29 (d:=a9r) rfl
 obtain ⟨b5E,b6H⟩:=c.def_ 30 (d:=a9s) rfl
 obtain ⟨fd_law,P_law⟩:=c.def_ 31 (d:=d2L) rfl
 have c1J:=n9 X G (c.fact 0 (f:=.glo "_law_draws") rfl)
 have c3m:=n9 X G (c.fact 1 (f:=.glo "_law_draw") rfl)
 have c1L:=n9 X G (c.fact 2 (f:=.glo "_law_names") rfl)
 have b5K:=n9 X G (c.fact 3 (f:=.glo "_law_articles") rfl)
 have b2J:=n9 X G (c.fact 4 (f:=.glo "_law_turn_pages") rfl)
 have b5M:=n9 X G (c.fact 5 (f:=.glo "_law_sum_page") rfl)
 have b3Q:=n9 X G (c.fact 6 (f:=.glo "_law_any_order") rfl)
 have c1M:=n9 X G (c.fact 7 (f:=.glo "_law_pages") rfl)
 have b3R:=n9 X G (c.fact 8 (f:=.glo "_law_near_book") rfl)
 have b5L:=n9 X G (c.fact 9 (f:=.glo "_law_far_book") rfl)
 have c3l:=n9 X G (c.fact 10 (f:=.glo "_law_book") rfl)
 have c1K:=n9 X G (c.fact 11 (f:=.glo "_law_edges") rfl)
 have c1N:=n9 X G (c.fact 12 (f:=.glo "_law_thing") rfl)
 have b3S:=n9 X G (c.fact 13 (f:=.glo "_law_otherwise") rfl)
 have c5E:=n9 X G (c.fact 14 (f:=.glo "is_tuple") rfl)
 have c7I:=n9 X G (c.fact 15 (f:=.glo "is_name") rfl)
 have c5D:=n9 X G (c.fact 16 (f:=.glo "are_rows") rfl)
 have c3o:=n9 X G (c.fact 17 (f:=.glo "is_within") rfl)
 have b95:=n9 X G (c.fact 18 (f:=.glo "is_articles") rfl)
 have b5N:=n9 X G (c.fact 19 (f:=.glo "need_articles") rfl)
 have c8Y:=n9 X G (c.fact 20 (f:=.glo "is_day") rfl)
 have b96:=n9 X G (c.fact 21 (f:=.glo "is_sum_page") rfl)
 have c7J:=n9 X G (c.fact 22 (f:=.glo "is_page") rfl)
 have b94:=n9 X G (c.fact 23 (f:=.glo "_law_within") rfl)
 have b6L:=n9 X G (c.fact 24 (f:=.glo "_law_is_name") rfl)
 have b6M:=n9 X G (c.fact 25 (f:=.glo "_law_is_page") rfl)
 have b2I:=n9 X G (c.fact 26 (f:=.glo "_law_named_rows") rfl)
 have b1k:=n9 X G (c.fact 27 (f:=.glo "_law_is_articles") rfl)
 have c3n:=n9 X G (c.fact 28 (f:=.glo "are_pages") rfl)
 have b6N:=n9 X G (c.fact 29 (f:=.glo "_law_kind_of") rfl)
 have b6O:=n9 X G (c.fact 30 (f:=.glo "_law_refused") rfl)
 have g_law:=n9 X G (c.fact 31 (f:=.glo "law") rfl)
 have a07:=a2g X G (c.fact 32 (f:=.free "len") rfl)
 have b9V:=a2g X G (c.fact 33 (f:=.free "int") rfl)
 have a00:=a2g X G (c.fact 34 (f:=.free "range") rfl)
 have a47:=a2g X G (c.fact 35 (f:=.free "sorted") rfl)
 have a0s:=a2g X G (c.fact 36 (f:=.free "tuple") rfl)
 have b3M:=a2g X G (c.fact 37 (f:=.free "min") rfl)
 have b9W:=a2g X G (c.fact 38 (f:=.free "set") rfl)
 have a9I:=a2g X G (c.fact 39 (f:=.free "list") rfl)
 have f9:=a2g X G (c.fact 40 (f:=.free "isinstance") rfl)
 have b0e:=a2g X G (c.fact 41 (f:=.free "str") rfl)
 have b1f:=a2g X G (c.fact 42 (f:=.free "all") rfl)
 have b1g:=a2g X G (c.fact 43 (f:=.free "bool") rfl)
 have a8s:=a2g X G (c.fact 44 (f:=.free "ValueError") rfl)
 have d1P:=a2g X G (c.fact 45 (f:=.free "max") rfl)
 have a3y:=n9 X G (c.fact 46 (f:=.glo "NoArticles") rfl)
 have b5G:=n9 X G (c.fact 47 (f:=.glo "LENGTHS") rfl)
 have c3j:=n9 X G (c.fact 48 (f:=.glo "TURNS") rfl)
 have b91:=n9 X G (c.fact 49 (f:=.glo "NoPage") rfl)
 have c3g:=n9 X G (c.fact 50 (f:=.glo "NoMan") rfl)
 have b90:=n9 X G (c.fact 51 (f:=.glo "Faulty") rfl)
 have c3i:=n9 X G (c.fact 52 (f:=.glo "NoSum") rfl)
 have c3h:=n9 X G (c.fact 53 (f:=.glo "NoRow") rfl)
 have b92:=n9 X G (c.fact 54 (f:=.glo "NoRank") rfl)
 have b5H:=n9 X G (c.fact 55 (f:=.glo "NoPages") rfl)
 have b5I:=n9 X G (c.fact 56 (f:=.glo "TooMany") rfl)
 have a7c:=n9 X G (c.fact 57 (f:=.glo "NothingLeft") rfl)
 have b2H:=n9 X G (c.fact 58 (f:=.glo "NotThere") rfl)
 have b93:=n9 X G (c.fact 59 (f:=.glo "NoText") rfl)
 have c3k:=n9 X G (c.fact 60 (f:=.glo "Twice") rfl)
 have b5J:=n9 X G (c.fact 61 (f:=.glo "TooMuch") rfl)
 have b0g:=n9 X G (c.fact 62 (f:=.glo "WageError") rfl)
 have a3D:=He.exc_ok (c.fact 63 (f:=.exc "NoArticles") rfl)
 have b5P:=He.str_ok X G (c.fact 64 (f:=.str "LETTERS" "abcdefghijklmnopqrstuvwxyz") rfl)
 have a8x:=b4a X G (c.fact 65 (f:=.int "MOST_RANKS" 12) rfl)
 have a7d:=b4a X G (c.fact 66 (f:=.int "MOST_CHESTS" 6) rfl)
 have a3z:=b4a X G (c.fact 67 (f:=.int "MOST_PENCE" 1000000000) rfl)
 have a5B:=b4a X G (c.fact 68 (f:=.int "MOST_PART" 1000) rfl)
 have b2K:=b4a X G (c.fact 69 (f:=.int "MOST_DAY" 1000000000000) rfl)
 have a8y:=b4a X G (c.fact 70 (f:=.int "MOST_TIMES" 1000000) rfl)
 have a8w:=b4a X G (c.fact 71 (f:=.int "MOST_PAGES" 200) rfl)
 have a11:=c8e (K:=K)
 have b6P:=d0f (K:=K)
 have b5O:=c8f (K:=K)
 have a0E:=d0g (K:=K)
 have j9:=c6j (K:=K)
 have e:=hfa.symm.trans g_law
 cases e
 have b:=FunD.bindsA (ps:=["script"]) P_law fun _ _ _ _ _ _ us hl=>match us,hl with | [_],_=>rfl
 refine ⟨fd_law,fun s v=>b s [v] rfl,fun base _ _=>?_⟩
 have F__law_draws:=b9k (P:=P) (w:=w) (base:=base) c1z c1J a07 b9V
 have F__law_draw:=c0W (P:=P) (w:=w) (base:=base) c3c c3m
 have F__law_names:=b9m c1B c1L a00 a47 F__law_draw
 have F__law_articles:=b3q b5w b5K a0s F__law_draw F__law_names
 have F__law_turn_pages:=b0J b2C b2J a00 a07 b3M F__law_draw
 have F__law_sum_page:=b3s b5y b5M a07 b3M F__law_draw
 have F__law_any_order:=b1G b3J b3Q a00 F__law_draw
 have F__law_pages:=b9n c1C c1M a00 b3M a47 b9W a07 F__law_names F__law_turn_pages F__law_draw F__law_sum_page F__law_any_order
 have F__law_near_book:=b1H b3K b3R F__law_draw F__law_names F__law_articles F__law_pages
 have F__law_far_book:=b3r b5x b5L F__law_draw F__law_names F__law_articles F__law_pages
 have F__law_book:=c0V c3b c3l F__law_draw F__law_near_book F__law_far_book
 have F__law_edges:=b9l (P:=P) (w:=w) (base:=base) c1A c1K
 have F__law_thing:=b9o c1D c1N a00 a0s F__law_draw 4
 have F__law_otherwise:=b1I b3L b3S a9I a07 f9 a0s b0e a0E j9 F__law_thing F__law_draw 3
 have F_is_tuple:=c2G (P:=P) (w:=w) (base:=base) c5z c5E f9 a0s a07 j9
 have F_is_name:=c4q (P:=P) (w:=w) (base:=base) c7C c7I f9 b0e a07 b1f a0E b5P
 have F_are_rows:=c2F c5y c5D f9 a0s a07 b1f a00 j9 F_is_tuple F_is_name
 have F_is_within:=c0Y (P:=P) (w:=w) (base:=base) c3e c3o f9 b9V b1g a11 b6P
 have F_is_articles:=b6l b9T b95 b1f a8x a7d a3z a5B F_is_tuple F_are_rows F_is_within
 have F_need_articles:=b3t b5z b5N a3y a3D F_is_articles
 have F_is_day:=c6E c8V c8Y b2K F_is_within
 have F_is_sum_page:=b6m b9U b96 a3z a8y F_is_within F_is_name
 have F_is_page:=c4r c7D c7J f9 a0s a07 b0e a0E j9 b53 a2f b5G c3j F_need_articles F_is_day F_is_name F_is_sum_page
 have F__law_within:=b6k (P:=P) (w:=w) (base:=base) b9S b94 f9 b9V b1g a11 b6P
 have F__law_is_name:=b4M (P:=P) (w:=w) (base:=base) b6E b6L f9 b0e a07 a0E
 have F__law_is_page:=b4N b6F b6M f9 a0s b0e a07 a0E j9 F__law_within F__law_is_name
 have F__law_named_rows:=b0I b2B b2I f9 a0s a07 a47 b9W j9 F__law_is_name
 have F__law_is_articles:=a9W b1e b1k f9 a0s a07 j9 F__law_named_rows F__law_within
 have F_are_pages:=c0X c3d c3n f9 a9I a07 b1f b9W b5O a8w F_need_articles F_is_page
 have a6c:=b4O (P:=P) (w:=w) (base:=base) b6G b6N f9 a8s a00 kt b91 c3g a3y b90 c3i c3h b92 b5H b5I a7c b2H b93 c3k b5J
 have F__law_refused:=b4P b6H b6O a00 kt b0g F_is_page F_are_pages a6c
 exact d3i P_law g_law a07 b3M d1P a00 a9I f9 b1g a11 F__law_draws F__law_book F__law_edges F__law_thing F__law_otherwise F_is_page F__law_is_page F__law_is_articles F__law_refused
end Cw
end
open PySem PySem.W PySem.Calls PyProof.Rows
theorem PySem.Challenge.cw_crewpay_k03_what_is_a_page_holds : PySem.Challenge.rw_crewpay_k03_what_is_a_page.Holds := by
 refine Cw.early ?_
 refine L2.walk_ofE (l:=PySem.Challenge.rw_crewpay_k03_what_is_a_page) (n:=63) (k:=11) (x := "script") (CX:=L2.CX0) rfl (by decide) (by kernel_rfl) ⟨rfl,by decide,by decide⟩ ?F (fun _ _ _ _ z=>z)
 intro w mg fa h Y G hmg0
 obtain ⟨K,KX,c,kx⟩:=Y
 have hmg:mg ("law" : PySem.Str) = some (.ref fa):=by
  have e:(a0u (a54 PySem.Challenge.rw_crewpay_k03_what_is_a_page).prog 60).name = ("law" : PySem.Str):=Cw.fin_n
  rw [← e]
  exact hmg0
 obtain ⟨fd,hb,hF⟩:=Cw.facts (P:=(PySem.Challenge.rw_crewpay_k03_what_is_a_page).prog) (w:=w) KX G hmg c kx
 exact ⟨K,fd,Aq.spOf K Cw.c_law,KX,hb,fun H a ns hl _ hS=>Aq.law_start hS fun P PX h=>Cw.law_go ns hl P PX h,hF⟩

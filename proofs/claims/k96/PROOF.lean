import PyProof.Rows.All
import Wide.All
import OpenK.AllK
import Wide.FinOn
import HandS.HeadHook1
import HandS.HeadHook2
import HandS.HeadHook3
import HandS.HeadHook4
import HandS.ExcInit
import KE.KStateDown
import Lean
import HandS.Base
import HandS.Call
import HandS.Ends
import HandS.More
import HandS.Words
import HandS.WordsExc
import HandS.Defaults
import HandS.Head0
import HandS.Head1
import HandS.Head2
import HandS.HeadEnd
import PySem.Challenge.RW_crewpay_k96_refusals_apart
import HandS.ForMost
import HandS.ForExc
import HandS.Flow
import HandS.IsInst
import HandS.Wide
import HandS.WideBits
import HandS.TupAny
import HandS.Deep
import HandS.SortInts
import HandS.CallSlots
import KE.SortData
import HandS.ExcValue
import HandS.ExcField
import HandS.Style
import HandS.Set
import HandS.SetFor
import HandS.ExcOwn
import HandS.ExcIs
import PyProof.ExcStrCall
import KE.KExcIs
import OpenK.KCls
import OpenK.KMore
import KE.KExcStr
import HandS.Codes
set_option Elab.async false
set_option linter.all false
set_option maxRecDepth 100000
set_option maxHeartbeats 3200000
/-! what the head's run is asked: needed ahead of all else, so that the run is done while there is room -/
namespace Aq
open PySem PySem.Spec PyProof.Rows L2 Da
section
open He
def kNs : List Str := ["NoArticles", "NoMan", "NoPage", "NoPages", "NoRank", "NoRow", "NoSum", "NoText", "NotThere", "NothingLeft", "TooMany", "Twice"]
def kYs : List Str := ["Faulty", "NoArticles", "NoMan", "NoPage", "NoPages", "NoRank", "NoRow", "NoSum", "NoText", "NotThere", "NothingLeft", "TooMany", "TooMuch", "Twice", "ValueError"]
abbrev evK (K : PySem.W.Frag) : Str → Value := fun x => .ref (He.ga K x)
def obsE (n : Nat) (fa : List Fa) (fn : List DefD) (ex : PySem.W.Frag → Bool) (g : Addr → Option Obj) : Bool × AlD := (ex (frG g (asD g n)), obsDG n fa fn g)
def hookE (n : Nat) (fa : List Fa) (fn : List DefD) (ex : PySem.W.Frag → Bool) : PySem.W.Hook where
  α := Bool × AlD
  obs := fun s => obsE n fa fn ex s.heap.get?
  val := fun _ => (true, valD fn)
  says := fun _ h => ∃ K : PySem.W.Frag, K.In h ∧ SaysD fa fn K ∧ ex K = true
  of := fun _ _ e => ⟨_, frG_in, congrArg Prod.snd e, congrArg Prod.fst e⟩
  keeps := fun _ _ _ ⟨K, hK, c⟩ k => ⟨K, PySem.W.Frag.In.keeps hK k, c⟩
theorem obsE_eq {n : Nat} {fa : List Fa} {fn : List DefD} {ex : PySem.W.Frag → Bool} {g : Addr → Option Obj} {s : Shared} (h : ∀ a, g a = s.heap.get? a) : obsE n fa fn ex g = (hookE n fa fn ex).obs s := by
  have e : g = s.heap.get? := funext h
  rw [e] <;> rfl
def excB (K : PySem.W.Frag) (x : Str) : Bool :=
  eqO (PySem.W.findIn K (.ref (ga K x)) "__getattribute__") (some (some (.builtin "BaseException.__getattribute__"))) &&
  (eqO (PySem.W.findIn K (.ref (ga K x)) "__getattr__") (some none) &&
  (decide (PySem.W.subIn K (.ref (ga K x)) (.type "BaseException") = some true) &&
  (PySem.W.hasDictIn K (ga K x) &&
  (eqO (PySem.W.findIn K (.ref (ga K x)) "__class__") (some (some (.builtin "object.__class__"))) &&
  (eqO (PySem.W.specialIn K (.builtin "object.__class__") "__get__") (some (some (.builtin "getset_descriptor.__get__"))) &&
  (decide (PySem.W.takesIn K (.builtin "object.__class__") = some true) &&
  decide (PySem.W.mroIn K (ga K x) (.type "object") = some true)))))))
def cvK (K : PySem.W.Frag) (y : Str) : Value := if y = "ValueError" then .type "ValueError" else .ref (ga K y)
def kitB (K : PySem.W.Frag) (ns ys : List Str) : Bool := ns.all fun x => excB K x && (decide (PySem.W.exmOne K (.ref (ga K x)) (.ref (ga K "WageError")) = some true) && ys.all fun y => decide (PySem.W.kitOne K (.ref (ga K x)) (cvK K y) = some (x == y || y == "ValueError")))
def tabV (tab : List (Str × Int)) (z : Str) : Option Int := (tab.find? fun p => decide (p.1 = z)).map (·.2)
def tabB (K : PySem.W.Frag) (a : Addr) (tab : List (Str × Int)) : Bool := tab.all fun q => match PySem.W.nsIn K a q.1, tabV tab q.1 with
  | some (some (.int u _)), some i => decide (u = i)
  | _, _ => false
def strsB : List Str → List Value → Bool
  | [], [] => true
  | x :: xs, .str y _ :: vs => decide (y = x) && strsB xs vs
  | _, _ => false
def ktupB (K : PySem.W.Frag) (a : Addr) (xs : List Str) : Bool := match K.lookup a with
  | some ⟨.type c, _, .seq its _, _⟩ => decide (c = "tuple") && (strsB xs its.toList && decide (its.size ≤ 100))
  | _ => false
def obsF (n : Nat) (fa : List Fa) (fn : List DefD) (ts : List Tab) (ex : PySem.W.Frag → Bool) (g : Addr → Option Obj) : Bool × AlT := (ex (frG g (asD g n)), obsTG n fa fn ts g)
def hookF (n : Nat) (fa : List Fa) (fn : List DefD) (ts : List Tab) (ex : PySem.W.Frag → Bool) : PySem.W.Hook where
  α := Bool × AlT
  obs := fun s => obsF n fa fn ts ex s.heap.get?
  val := fun w => (true, valT fn ts w)
  says := fun w h => ∃ K : PySem.W.Frag, K.In h ∧ SaysT fa fn ts w K ∧ ex K = true
  of := fun _ _ e => ⟨_, frG_in, congrArg Prod.snd e, congrArg Prod.fst e⟩
  keeps := fun _ _ _ ⟨K, hK, c⟩ k => ⟨K, PySem.W.Frag.In.keeps hK k, c⟩
theorem obsF_eq {n : Nat} {fa : List Fa} {fn : List DefD} {ts : List Tab} {ex : PySem.W.Frag → Bool} {g : Addr → Option Obj} {s : Shared} (h : ∀ a, g a = s.heap.get? a) : obsF n fa fn ts ex g = (hookF n fa fn ts ex).obs s := by
  have e : g = s.heap.get? := funext h
  rw [e] <;> rfl
end
end Aq
/-! what k96 asks of the head -/
namespace Aq
open PySem PySem.Spec PyProof.Rows L2
section
open He
def kAll : List Str := ["Faulty", "NoArticles", "NoMan", "NoPage", "NoPages", "NoRank", "NoRow", "NoSum", "NoText", "NotThere", "NothingLeft", "TooMany", "TooMuch", "Twice"]
def kYW : List Str := ["Faulty", "NoArticles", "NoMan", "NoPage", "NoPages", "NoRank", "NoRow", "NoSum", "NoText", "NotThere", "NothingLeft", "TooMany", "TooMuch", "Twice", "ValueError", "WageError"]
def fdl : List (Str × Str) := [("Faulty", "faults"), ("TooMuch", "most")]
def isxB (nm c : Str) : Bool := nm == c || (c == "ValueError" || c == "WageError")
def kitV (K : PySem.W.Frag) : Bool := kAll.all fun x => excB K x && (eqO (PySem.W.findIn K (.ref (ga K x)) "__str__") (some (some (.builtin "BaseException.__str__"))) && kYW.all fun y => decide (PySem.W.kitOne K (.ref (ga K x)) (cvK K y) = some (isxB x y)))
def oexB (K : PySem.W.Frag) (x : Str) : Bool := (match K.lookup (ga K x) with
  | some ⟨.type c, _, .cls cd, sl⟩ => decide (c = "type") && (match cd.mro, sl.toList with
    | .ref C' :: bm, [_, _, _, _, some (.builtin n), _] => decide (C' = ga K x) && (decide (n = "ValueError.__new__") && (!cd.hasDel && (cd.hasDict && PySem.HandSPX.refsVE bm)))
    | _, _ => false)
  | _ => false) && (eqO (PySem.W.findIn K (.ref (ga K x)) "__setattr__") (some (some (.builtin "object.__setattr__"))) && (decide (PySem.W.subIn K (.ref (ga K x)) (.type "BaseException") = some true) && (decide (PySem.W.typeIn K (.ref (ga K x)) = some (.type "type")) && PySem.W.keepIn K (.ref (ga K x)))))
def initB (K : PySem.W.Frag) (x : Str) : Bool := eqO (PySem.W.specialIn K (.ref (ga K x)) "__getattribute__") (some (some (.builtin "type.__getattribute__"))) && (PySem.W.readsIn K (ga K x) (.type "type") && (match PySem.W.findCls K (.ref (ga K x)) (.type "type") "__init__" with
  | some (.val (.builtin n)) => decide (n = "ValueError.__init__")
  | _ => false))
def fdlB (K : PySem.W.Frag) : Bool := fdl.all fun p => eqO (PySem.W.findIn K (.ref (ga K p.1)) p.2) (some none) && oexB K p.1
def iniB (K : PySem.W.Frag) (x : Str) : Bool := eqO (PySem.W.findIn K (.ref (ga K x)) "__init__") (some (some (.ref (fAd K (x, some "__init__"))))) && decide (PySem.W.typeIn K (.ref (fAd K (x, some "__init__"))) = some (.type "function"))
/-- the part of the heap that is looked at, the statics too -/
def obsX (n : Nat) (fa : List Fa) (fn : List DefD) (ex : PySem.W.Frag → Bool) (g : Addr → Option Obj) : Bool × AlD := (ex (frG g (cStatics :: asD g n)), obsD fa fn (frG g (cStatics :: asD g n)))
def hookX (n : Nat) (fa : List Fa) (fn : List DefD) (ex : PySem.W.Frag → Bool) : PySem.W.Hook where
  α := Bool × AlD
  obs := fun s => obsX n fa fn ex s.heap.get?
  val := fun _ => (true, valD fn)
  says := fun _ h => ∃ K : PySem.W.Frag, K.In h ∧ SaysD fa fn K ∧ ex K = true
  of := fun _ _ e => ⟨_, frG_in, congrArg Prod.snd e, congrArg Prod.fst e⟩
  keeps := fun _ _ _ ⟨K, hK, c⟩ k => ⟨K, PySem.W.Frag.In.keeps hK k, c⟩
theorem obsX_eq {n : Nat} {fa : List Fa} {fn : List DefD} {ex : PySem.W.Frag → Bool} {g : Addr → Option Obj} {s : Shared} (h : ∀ a, g a = s.heap.get? a) : obsX n fa fn ex g = (hookX n fa fn ex).obs s := by
  have e : g = s.heap.get? := funext h
  rw [e] <;> rfl
end
end Aq
set_option maxHeartbeats 0
namespace Cw
open PySem PySem.Spec PyProof.Rows L2 Aq
def top (i : Nat) : Stmt := PySem.Challenge.pw_crewpay_k96_refusals_apart.main.body.getD i (.Pass ⟨0, 0, 0, 0⟩)
def met (i : Nat) : Stmt := match top i with
  | .ClassDef _ _ _ b _ _ _ _ _ _ _ => b.getD 0 (.Pass ⟨0, 0, 0, 0⟩)
  | s => s
def nm0 : List Str := ["WageError", "NoArticles", "NoPages", "NoPage", "NoRank", "NoSum", "NoMan", "Faulty", "TooMuch", "Twice", "TooMany", "NotThere", "NothingLeft", "NoText", "NoRow", "_law_draws", "_law_draw", "_law_names", "_law_kind_of"]
def names : List Str := nm0
def d__law_draws : He.DefD := ⟨("_law_draws", none), "_law_draws", "_law_draws", defArgs (top 17), defBody (top 17), defScope (top 17), [], []⟩
def d__law_draw : He.DefD := ⟨("_law_draw", none), "_law_draw", "_law_draw", defArgs (top 18), defBody (top 18), defScope (top 18), [], []⟩
def d__law_names : He.DefD := ⟨("_law_names", none), "_law_names", "_law_names", defArgs (top 19), defBody (top 19), defScope (top 19), [], []⟩
def d__law_kind_of : He.DefD := ⟨("_law_kind_of", none), "_law_kind_of", "_law_kind_of", defArgs (top 20), defBody (top 20), defScope (top 20), [], []⟩
def d_law : He.DefD := ⟨("law", none), "law", "law", defArgs (top 21), defBody (top 21), defScope (top 21), [], []⟩
def d_Faulty : He.DefD := ⟨("Faulty", some "__init__"), "__init__", "Faulty.__init__", defArgs (met 8), defBody (met 8), defScope (met 8), [], []⟩
def d_TooMuch : He.DefD := ⟨("TooMuch", some "__init__"), "__init__", "TooMuch.__init__", defArgs (met 9), defBody (met 9), defScope (met 9), [], []⟩
def fn : List He.DefD := [d__law_draws, d__law_draw, d__law_names, d__law_kind_of, d_law, d_Faulty, d_TooMuch]
def fa : List He.Fa := [.glo "_law_draws", .glo "_law_draw", .glo "_law_names", .glo "_law_kind_of", .glo "law", .free "len", .free "int", .free "range", .free "sorted", .free "isinstance", .free "ValueError", .free "str", .glo "NoPage", .glo "NoMan", .glo "NoArticles", .glo "Faulty", .glo "NoSum", .glo "NoRow", .glo "NoRank", .glo "NoPages", .glo "TooMany", .glo "NothingLeft", .glo "NotThere", .glo "NoText", .glo "Twice", .glo "TooMuch", .glo "WageError", .exc "NoRow", .exc "NoRank", .exc "NoPages", .exc "NoPage", .exc "NoMan", .exc "NoArticles", .exc "TooMany", .exc "NothingLeft", .exc "NotThere", .exc "NoText", .exc "NoSum", .exc "Twice"]
abbrev R : PySem.W.OpenRow := PySem.W.OpenLaw.row PySem.Challenge.rw_crewpay_k96_refusals_apart
def exK : PySem.W.Frag → Bool := fun K => kitV K && (fdlB K && (initB K "WageError" && (iniB K "Faulty" && iniB K "TooMuch")))
abbrev hk : PySem.W.Hook := hookX 4 fa fn exK
def ob (s : PySem.W.SharedT) : Bool × He.AlD := obsX 4 fa fn exK (HandSHeadRun.getT s)
theorem ob_eq (s : PySem.W.SharedT) : ob s = hk.obs s.abs := obsX_eq (HandSHeadRun.getT_eq s)
theorem run (w : World) : HandSHeadRun.RunEq R (PySem.W.view R.prog [21]) hk ob 20000 names w := by
  intro os
  kernel_rfl
end Cw
set_option maxHeartbeats 2000000
/-! Aq: an abstract machine over the hand layer: slots hold data (frozen), own lists, own dicts. -/
namespace Aq
open PySem L2

/-! ### data in a frozen heap -/
def kD : Key → PyData
  | .inl i => .int i
  | .inr x => .str x
/-- at a: an exception of the class at C, made of what stands in the tuple at t, without a dict -/
def exN (a C t : Addr) : HO := .ext fun h => h.get? a = some ({ cls := .ref C, dict := none, data := .fields #[.ref t, .none, .none, .none, .bool false, .none] } : Obj)
def excD (nm : Str) (d : PyData) : PyData := .dict [(.none, .str nm), (.none, d)]
def exiD (nm f : Str) (d : PyData) : PyData := .dict [(.none, .str nm), (.str f, d)]
mutual
inductive Dr (K : PySem.W.Frag) (F : Hp) : V → PyData → Prop
  | non : Dr K F .non .none
  | bl (b : Bool) : Dr K F (.bl b) (.bool b)
  | int (i : Int) : Dr K F (.int i) (.int i)
  | str (x : Str) : Dr K F (.str x) (.str x)
  | lst {a : Addr} {xs : List V} {ds : List PyData} : F a = some (.lst xs) → DrAll K F xs ds → Dr K F (.ref a) (.list ds)
  | tup {a : Addr} {xs : List V} {ds : List PyData} : SqT K F a xs → DrAll K F xs ds → Dr K F (.ref a) (.tuple ds)
  | dic {a : Addr} {kvs : List (Key × V)} {es : List (PyData × PyData)} : F a = some (.dK kvs) → DrKV K F kvs es → Dr K F (.ref a) (.dict es)
  | exc {a C t : Addr} {nm : Str} {v : V} {d : PyData} : F a = some (exN a C t) → F t = some (.tup [v]) → C = He.ga K nm → Dr K F v d → Dr K F (.ref a) (.dict [(.none, .str nm), (.none, d)])
  | exi {a C dx : Addr} {nm f : Str} {v : V} {d : PyData} : F a = some (exo a C (some dx)) → F dx = some (exd dx [(f, v)]) → C = He.ga K nm → Dr K F v d → Dr K F (.ref a) (.dict [(.none, .str nm), (.str f, d)])
inductive DrAll (K : PySem.W.Frag) (F : Hp) : List V → List PyData → Prop
  | nil : DrAll K F [] []
  | cons {v : V} {vs : List V} {d : PyData} {ds : List PyData} : Dr K F v d → DrAll K F vs ds → DrAll K F (v :: vs) (d :: ds)
inductive DrKV (K : PySem.W.Frag) (F : Hp) : List (Key × V) → List (PyData × PyData) → Prop
  | nil : DrKV K F [] []
  | cons {k : Key} {v : V} {vs : List (Key × V)} {d : PyData} {ds : List (PyData × PyData)} : Dr K F v d → DrKV K F vs ds → DrKV K F ((k, v) :: vs) ((kD k, d) :: ds)
end
theorem sameT {K : PySem.W.Frag} {F F' : Hp} {a : Addr} {xs : List V} (e : Same F F') (h : SqT K F a xs) : SqT K F' a xs := by
  rcases h with (h | ⟨o, h⟩) | h
  · exact .inl (.inl (e _ _ h))
  · exact .inl (.inr ⟨o, e _ _ h⟩)
  · exact .inr h
section
variable {K : PySem.W.Frag} {F F' H : Hp}
mutual
theorem Dr.mono (e : Same F F') : ∀ (d : PyData) (v : V), Dr K F v d → Dr K F' v d
  | .none, _, h => by cases h; exact .non
  | .bool b, _, h => by cases h; exact .bl b
  | .int i, _, h => by cases h; exact .int i
  | .str x, _, h => by cases h; exact .str x
  | .list ds, _, h => by
    cases h with
    | lst h1 h2 => exact .lst (e _ _ h1) (DrAll.mono e ds _ h2)
  | .tuple ds, _, h => by
    cases h with
    | tup h1 h2 => exact .tup (sameT e h1) (DrAll.mono e ds _ h2)
  | .dict es, _, h => by
    cases h with
    | dic h1 h2 => exact .dic (e _ _ h1) (DrKV.mono e es _ h2)
    | exc h1 h2 h3 h4 => exact .exc (e _ _ h1) (e _ _ h2) h3 (Dr.mono e _ _ h4)
    | exi h1 h2 h3 h4 => exact .exi (e _ _ h1) (e _ _ h2) h3 (Dr.mono e _ _ h4)
theorem DrAll.mono (e : Same F F') : ∀ (ds : List PyData) (vs : List V), DrAll K F vs ds → DrAll K F' vs ds
  | [], _, h => by cases h; exact .nil
  | d :: ds, _, h => by
    cases h with
    | cons h1 h2 => exact .cons (Dr.mono e d _ h1) (DrAll.mono e ds _ h2)
theorem DrKV.mono (e : Same F F') : ∀ (es : List (PyData × PyData)) (kvs : List (Key × V)), DrKV K F kvs es → DrKV K F' kvs es
  | [], _, h => by cases h; exact .nil
  | (_, d) :: es, _, h => by
    cases h with
    | cons h1 h2 => exact .cons (Dr.mono e d _ h1) (DrKV.mono e es _ h2)
end
/-! no dict within -/
mutual
def noDic : PyData → Bool
  | .list ds => noDics ds
  | .tuple ds => noDics ds
  | .dict _ => false
  | _ => true
def noDics : List PyData → Bool
  | [] => true
  | d :: ds => noDic d && noDics ds
end
mutual
theorem Dr.dp : ∀ (d : PyData) (v : V), Dr K F v d → noDic d = true → Dp K F v d
  | .none, _, h, _ => by cases h; exact .non
  | .bool b, _, h, _ => by cases h; exact .bl b
  | .int i, _, h, _ => by cases h; exact .int i
  | .str x, _, h, _ => by cases h; exact .str x
  | .list ds, _, h, n => by
    cases h with
    | lst h1 h2 => exact .lst (.of h1) (DrAll.dp ds _ h2 (by rw [noDic] at n; exact n))
  | .tuple ds, _, h, n => by
    cases h with
    | tup h1 h2 => exact .tup h1 (DrAll.dp ds _ h2 (by rw [noDic] at n; exact n))
  | .dict es, _, h, n => by rw [noDic] at n; cases n
theorem DrAll.dp : ∀ (ds : List PyData) (vs : List V), DrAll K F vs ds → noDics ds = true → DpAll K F vs ds
  | [], _, h, _ => by cases h; exact .nil
  | d :: ds, _, h, n => by
    rw [noDics, Bool.and_eq_true] at n
    cases h with
    | cons h1 h2 => exact .cons (Dr.dp d _ h1 n.1) (DrAll.dp ds _ h2 n.2)
end
theorem DrAll.length : ∀ {vs : List V} {ds : List PyData}, DrAll K F vs ds → vs.length = ds.length
  | _, _, .nil => rfl
  | _, _, .cons _ t => by rw [List.length_cons, List.length_cons, DrAll.length t]
theorem DrAll.get : ∀ {vs : List V} {ds : List PyData} {i : Nat} {v : V}, DrAll K F vs ds → vs[i]? = some v → ∃ d, ds[i]? = some d ∧ Dr K F v d
  | _, _, _, _, .nil, e => by simp at e
  | _, _, 0, _, .cons h _, e => by simp at e; subst e; exact ⟨_, rfl, h⟩
  | _, _, i + 1, v, .cons _ t, e => by
    obtain ⟨d, h1, h2⟩ := DrAll.get (i := i) (v := v) t (by simpa using e)
    exact ⟨d, by simpa using h1, h2⟩
theorem DrAll.at : ∀ {vs : List V} {ds : List PyData} {i : Nat} {d : PyData}, DrAll K F vs ds → ds[i]? = some d → ∃ v, vs[i]? = some v ∧ Dr K F v d
  | _, _, _, _, .nil, e => by simp at e
  | _, _, 0, _, .cons h _, e => by simp at e; subst e; exact ⟨_, rfl, h⟩
  | _, _, i + 1, d, .cons _ t, e => by
    obtain ⟨v, h1, h2⟩ := DrAll.at (i := i) (d := d) t (by simpa using e)
    exact ⟨v, by simpa using h1, h2⟩
theorem DrAll.append : ∀ {vs ws : List V} {ds es : List PyData}, DrAll K F vs ds → DrAll K F ws es → DrAll K F (vs ++ ws) (ds ++ es)
  | _, _, _, _, .nil, s => s
  | _, _, _, _, .cons r t, s => .cons r (DrAll.append t s)
theorem DrAll.take : ∀ {vs : List V} {ds : List PyData} (n : Nat), DrAll K F vs ds → DrAll K F (vs.take n) (ds.take n)
  | _, _, 0, _ => .nil
  | _, _, _ + 1, .nil => .nil
  | _, _, n + 1, .cons r t => .cons r (DrAll.take n t)
theorem DrAll.drop : ∀ {vs : List V} {ds : List PyData} (n : Nat), DrAll K F vs ds → DrAll K F (vs.drop n) (ds.drop n)
  | _, _, 0, r => r
  | _, _, _ + 1, .nil => .nil
  | _, _, n + 1, .cons _ t => DrAll.drop n t
theorem DrAll.set {x : V} {d : PyData} (r : Dr K F x d) : ∀ {vs : List V} {ds : List PyData} (i : Nat), DrAll K F vs ds → DrAll K F (vs.set i x) (ds.set i d)
  | _, _, _, .nil => .nil
  | _, _, 0, .cons _ t => .cons r t
  | _, _, i + 1, .cons q t => .cons q (DrAll.set r i t)
theorem DrAll.one {v : V} {d : PyData} (h : Dr K F v d) : DrAll K F [v] [d] := .cons h .nil
theorem DrAll.reverse : ∀ {vs : List V} {ds : List PyData}, DrAll K F vs ds → DrAll K F vs.reverse ds.reverse
  | _, _, .nil => .nil
  | _, _, .cons r t => by
    rw [List.reverse_cons, List.reverse_cons]
    exact (DrAll.reverse t).append (.one r)
theorem DrAll.eraseIdx : ∀ {vs : List V} {ds : List PyData} (i : Nat), DrAll K F vs ds → DrAll K F (vs.eraseIdx i) (ds.eraseIdx i)
  | _, _, _, .nil => .nil
  | _, _, 0, .cons _ t => t
  | _, _, i + 1, .cons q t => .cons q (DrAll.eraseIdx i t)
theorem DrAll.insertIdx {x : V} {d : PyData} (r : Dr K F x d) : ∀ {vs : List V} {ds : List PyData} (i : Nat), DrAll K F vs ds → DrAll K F (vs.insertIdx i x) (ds.insertIdx i d)
  | _, _, 0, h => .cons r h
  | _, _, _ + 1, .nil => .nil
  | _, _, i + 1, .cons q t => .cons q (DrAll.insertIdx r i t)
theorem DrAll.ints : ∀ (ns : List Int), DrAll K F (ns.map V.int) (ns.map PyData.int)
  | [] => .nil
  | n :: ns => .cons (.int n) (DrAll.ints ns)
theorem DrAll.ints_of : ∀ {vs : List V} (ns : List Int), DrAll K F vs (ns.map PyData.int) → vs = ns.map V.int
  | _, [], h => by cases h; rfl
  | _, n :: ns, h => by
    cases h with
    | cons h1 h2 =>
      cases h1
      rw [DrAll.ints_of ns h2]
      rfl
theorem DrAll.strs_of : ∀ {vs : List V} (ns : List Str), DrAll K F vs (ns.map PyData.str) → vs = ns.map V.str
  | _, [], h => by cases h; rfl
  | _, n :: ns, h => by
    cases h with
    | cons h1 h2 =>
      cases h1
      rw [DrAll.strs_of ns h2]
      rfl
theorem DrAll.strs : ∀ (ns : List Str), DrAll K F (ns.map V.str) (ns.map PyData.str)
  | [] => .nil
  | n :: ns => .cons (.str n) (DrAll.strs ns)
theorem DrAll.bls_of : ∀ {vs : List V} (ns : List Bool), DrAll K F vs (ns.map PyData.bool) → vs = ns.map V.bl
  | _, [], h => by cases h; rfl
  | _, n :: ns, h => by
    cases h with
    | cons h1 h2 =>
      cases h1
      rw [DrAll.bls_of ns h2]
      rfl
end

/-- a dict whose keys are tuples -/
def DrKT (K : PySem.W.Frag) (F : Hp) : List (List Key × V) → List (List Key × PyData) → Prop := Paired fun p q => p.1 = q.1 ∧ Dr K F p.2 q.2
theorem DrKT.mono {K : PySem.W.Frag} {F F' : Hp} (e : Same F F') {kvs : List (List Key × V)} {es : List (List Key × PyData)} (h : DrKT K F kvs es) : DrKT K F' kvs es := Paired.mapP h fun _ _ z => ⟨z.1, Dr.mono e _ _ z.2⟩

/-! ### what slots hold -/
inductive AV where
  /-- anything -/
  | un
  | dat (d : PyData)
  /-- a list of one's own; p: handed in as the p-th of these -/
  | ml (p : Option Nat) (ds : List PyData)
  | mdk (p : Option Nat) (es : List (PyData × PyData))
  /-- the script -/
  | scr (ns : List Int)
  /-- a dict of one's own whose keys are tuples -/
  | mdt (p : Option Nat) (es : List (List Key × PyData))
  /-- just this value -/
  | opq (v : V)
/-- the entry of a def -/
structure C0 where
  F0 : Hp
  H0 : Hp
  M0 : List Addr
def Whose (C : C0) (p : Option Nat) (l : Addr) : Prop := match p with
  | none => C.H0 l = none
  | some j => C.M0[j]? = some l
def Slot (K : PySem.W.Frag) (C : C0) (F H : Hp) : AV → Option V → Prop
  | .un, _ => True
  | .dat d, o => ∃ v, o = some v ∧ Dr K F v d
  | .ml p ds, o => ∃ l xs, o = some (.ref l) ∧ F l = none ∧ H l = some (.lst xs) ∧ DrAll K F xs ds ∧ Whose C p l
  | .mdk p es, o => ∃ l kvs, o = some (.ref l) ∧ F l = none ∧ H l = some (.dK kvs) ∧ DrKV K F kvs es ∧ Whose C p l
  | .scr ns, o => ∃ a, o = some (.ref a) ∧ SqL K F a (ns.map V.int)
  | .mdt p es, o => ∃ l kvs, o = some (.ref l) ∧ F l = none ∧ H l = some (.dT kvs) ∧ DrKT K F kvs es ∧ Whose C p l
  | .opq v, o => o = some v
def AV.isMut : AV → Bool
  | .ml _ _ => true
  | .mdk _ _ => true
  | .mdt _ _ => true
  | _ => false
def AV.isOwn : AV → Bool
  | .ml _ _ => true
  | .mdk _ _ => true
  | _ => false
theorem AV.isOwn_mut {a : AV} (h : a.isOwn = true) : a.isMut = true := by cases a <;> first | rfl | cases h
def MutAt (σ : L2.St) (ρ : List AV) (i : Nat) (l : Addr) : Prop := (∃ a, ρ[i]? = some a ∧ a.isMut = true) ∧ σ[i]? = some (some (.ref l))
structure Rep (K : PySem.W.Frag) (C : C0) (F H : Hp) (σ : L2.St) (ρ : List AV) : Prop where
  len : σ.length = ρ.length
  sub : Same F H
  gr : Same C.F0 F
  keep : ∀ b o, C.H0 b = some o → b ∉ C.M0 → H b = some o
  there : ∀ b o, C.H0 b = some o → ∃ o', H b = some o'
  nw : ∀ b o, C.H0 b = some o → C.F0 b = none → F b = none
  mf : ∀ l ∈ C.M0, C.F0 l = none ∧ ∃ o, C.H0 l = some o
  tp : ∀ q xs, H q = some (.tup xs) → F q = some (.tup xs)
  slot : ∀ (i : Nat) (a : AV), ρ[i]? = some a → ∃ o, σ[i]? = some o ∧ Slot K C F H a o
  apart : ∀ (i j : Nat) (l : Addr), i ≠ j → MutAt σ ρ i l → MutAt σ ρ j l → False
/-- an expression's answer -/
inductive RV where
  | dat (d : PyData)
  /-- what the i-th slot holds, borrowed -/
  | bor (i : Nat)
  /-- a new thing of one's own -/
  | own (a : AV)
  /-- a tuple of a new list of one's own and a thing -/
  | tupO (ds : List PyData) (d : PyData)
def ResOk (K : PySem.W.Frag) (C : C0) (F H : Hp) (σ : L2.St) (ρ : List AV) (v : V) : RV → Prop
  | .dat d => Dr K F v d
  | .bor i => σ[i]? = some (some v) ∧ ∃ a, ρ[i]? = some a
  | .own a => ∃ l, v = .ref l ∧ a.isOwn = true ∧ Slot K C F H a (some v) ∧ C.H0 l = none ∧ ∀ i, MutAt σ ρ i l → False
  | .tupO ds d => ∃ t l u xs, v = .ref t ∧ F t = some (.tup [.ref l, u]) ∧ F l = none ∧ H l = some (.lst xs) ∧ DrAll K F xs ds ∧ Dr K F u d ∧ C.H0 l = none ∧ ∀ i, MutAt σ ρ i l → False
/-- nothing new -/
def RV.old : RV → Prop
  | .dat _ => True
  | .bor _ => True
  | _ => False
/-- what is read there -/
def AV.look : AV → Option PyData
  | .dat d => some d
  | .ml _ ds => some (.list ds)
  | .mdk _ es => some (.dict es)
  | .scr _ => none
  | .mdt _ _ => none
  | .opq _ => none
  | .un => none
def RV.look (r : RV) (ρ : List AV) : Option PyData := match r with
  | .dat d => some d
  | .bor i => (ρ[i]?).bind AV.look
  | .own a => a.look
  | .tupO _ _ => none
/-- a thing that may be read as d -/
def Lk (K : PySem.W.Frag) (F H : Hp) (v : V) (d : PyData) : Prop :=
  Dr K F v d ∨ (∃ l xs ds, v = .ref l ∧ d = .list ds ∧ H l = some (.lst xs) ∧ DrAll K F xs ds) ∨ (∃ l kvs es, v = .ref l ∧ d = .dict es ∧ H l = some (.dK kvs) ∧ DrKV K F kvs es)
section
variable {K : PySem.W.Frag} {C : C0} {F F' H H' : Hp} {σ : L2.St} {ρ : List AV} {v : V} {r : RV} {d : PyData}
theorem Slot.lk {a : AV} (s : Same F H) (h : Slot K C F H a (some v)) (e : a.look = some d) : Lk K F H v d := by
  cases a with
  | un => cases e
  | dat d' =>
    obtain ⟨w, e1, h1⟩ := h
    cases e1
    cases e
    exact .inl h1
  | ml p ds =>
    obtain ⟨l, xs, e1, _, h1, h2, _⟩ := h
    cases e1
    cases e
    exact .inr (.inl ⟨l, xs, ds, rfl, rfl, h1, h2⟩)
  | mdk p es =>
    obtain ⟨l, xs, e1, _, h1, h2, _⟩ := h
    cases e1
    cases e
    exact .inr (.inr ⟨l, xs, es, rfl, rfl, h1, h2⟩)
  | scr ns => cases e
  | mdt p es => cases e
  | opq v => cases e
theorem ResOk.lk (R : Rep K C F H σ ρ) (h : ResOk K C F H σ ρ v r) (e : r.look ρ = some d) : Lk K F H v d := by
  cases r with
  | dat d' =>
    cases e
    exact .inl h
  | bor i =>
    obtain ⟨e1, a, ea⟩ := h
    obtain ⟨o, eo, hs⟩ := R.slot i a ea
    rw [e1] at eo
    cases eo
    have e2 : (ρ[i]?).bind AV.look = some d := e
    rw [ea] at e2
    exact hs.lk R.sub e2
  | own a =>
    obtain ⟨l, rfl, _, hs, _⟩ := h
    exact hs.lk R.sub e
  | tupO ds d => cases e
theorem Lk.list {ds : List PyData} (s : Same F H) (h : Lk K F H v (.list ds)) : ∃ l xs, v = .ref l ∧ H l = some (.lst xs) ∧ DrAll K F xs ds := by
  rcases h with h | ⟨l, xs, ds', e1, e2, h1, h2⟩ | ⟨_, _, _, _, e, _⟩
  · cases h with
    | lst h1 h2 => exact ⟨_, _, rfl, s _ _ h1, h2⟩
  · cases e2
    exact ⟨l, xs, e1, h1, h2⟩
  · cases e
theorem Lk.tuple {ds : List PyData} (s : Same F H) (h : Lk K F H v (.tuple ds)) : ∃ l xs, v = .ref l ∧ SqT K H l xs ∧ DrAll K F xs ds := by
  rcases h with h | ⟨l, xs, ds', e1, e2, h1, h2⟩ | ⟨_, _, _, _, e, _⟩
  · cases h with
    | tup h1 h2 => exact ⟨_, _, rfl, sameT s h1, h2⟩
  · cases e2
  · cases e
theorem Lk.int {i : Int} (h : Lk K F H v (.int i)) : v = .int i := by
  rcases h with h | ⟨l, xs, ds', e1, e2, h1, h2⟩ | ⟨_, _, _, _, e, _⟩
  · cases h; rfl
  · cases e2
  · cases e
theorem Lk.str {i : Str} (h : Lk K F H v (.str i)) : v = .str i := by
  rcases h with h | ⟨l, xs, ds', e1, e2, h1, h2⟩ | ⟨_, _, _, _, e, _⟩
  · cases h; rfl
  · cases e2
  · cases e
theorem Lk.bool {i : Bool} (h : Lk K F H v (.bool i)) : v = .bl i := by
  rcases h with h | ⟨l, xs, ds', e1, e2, h1, h2⟩ | ⟨_, _, _, _, e, _⟩
  · cases h; rfl
  · cases e2
  · cases e
theorem Lk.none (h : Lk K F H v .none) : v = .non := by
  rcases h with h | ⟨l, xs, ds', e1, e2, h1, h2⟩ | ⟨_, _, _, _, e, _⟩
  · cases h; rfl
  · cases e2
  · cases e
theorem Lk.dp (s : Same F H) (h : Lk K F H v d) (n : noDic d = true) : Dp K H v d := by
  rcases h with h | ⟨l, xs, ds', e1, e2, h1, h2⟩ | ⟨_, _, _, _, e, _⟩
  · exact Dr.dp d v (h.mono s) n
  · subst e1 e2
    exact .lst (.of h1) (DrAll.dp _ _ (h2.mono s) (by rw [noDic] at n; exact n))
  · subst e
    rw [noDic] at n
    cases n
/-- what holds of a thing stays while the frozen part grows and own things stay -/
theorem ResOk.dat_mono (e : Same F F') (h : ResOk K C F H σ ρ v (.dat d)) : ResOk K C F' H' σ ρ v (.dat d) := Dr.mono e d v h
end
end Aq
set_option maxHeartbeats 2000000
namespace Aq
open PySem L2

section
variable {K : PySem.W.Frag} {C : C0} {F F' H H' : Hp} {σ : L2.St} {ρ : List AV} {v : V} {r : RV} {d : PyData}
/-! ### things are frozen, laid, changed -/
theorem Slot.mono {a : AV} {o : Option V} (e : Same F F') (k : ∀ l u, o = some (.ref l) → a.isMut = true → H l = some u → H' l = some u) (n : ∀ l, o = some (.ref l) → a.isMut = true → F l = none → F' l = none) (h : Slot K C F H a o) : Slot K C F' H' a o := by
  cases a with
  | un => trivial
  | dat d => obtain ⟨v, e1, h1⟩ := h; exact ⟨v, e1, h1.mono e⟩
  | ml p ds => obtain ⟨l, xs, e1, h0, h1, h2, h3⟩ := h; exact ⟨l, xs, e1, n l e1 rfl h0, k l _ e1 rfl h1, h2.mono e, h3⟩
  | mdk p ds => obtain ⟨l, xs, e1, h0, h1, h2, h3⟩ := h; exact ⟨l, xs, e1, n l e1 rfl h0, k l _ e1 rfl h1, h2.mono e, h3⟩
  | mdt p ds => obtain ⟨l, xs, e1, h0, h1, h2, h3⟩ := h; exact ⟨l, xs, e1, n l e1 rfl h0, k l _ e1 rfl h1, h2.mono e, h3⟩
  | scr ns => obtain ⟨l, e1, h1⟩ := h; exact ⟨l, e1, e.seq h1⟩
  | opq v => exact h
theorem Slot.mutF {a : AV} {l : Addr} (h : Slot K C F H a (some (.ref l))) (m : a.isMut = true) : F l = none ∧ ∃ u, H l = some u := by
  cases a with
  | un => cases m
  | dat d => cases m
  | ml p ds => obtain ⟨l', xs, e1, h0, h1, _⟩ := h; cases e1; exact ⟨h0, _, h1⟩
  | mdk p ds => obtain ⟨l', xs, e1, h0, h1, _⟩ := h; cases e1; exact ⟨h0, _, h1⟩
  | mdt p ds => obtain ⟨l', xs, e1, h0, h1, _⟩ := h; cases e1; exact ⟨h0, _, h1⟩
  | scr ns => cases m
  | opq v => cases m
/-- an address that no slot owns becomes frozen as it stands -/
theorem Rep.freezeAt {l : Addr} {u : HO} (R : Rep K C F H σ ρ) (hF : F l = none) (hH : H l = some u) (h0 : C.H0 l = none) (ha : ∀ i, MutAt σ ρ i l → False) : Rep K C (upd F l u) H σ ρ ∧ Same F (upd F l u) := by
  have s : Same F (upd F l u) := fun b o e => by rw [upd_ne (ne_of_none e hF)]; exact e
  refine ⟨⟨R.len, fun b o e => ?_, R.gr.trans s, R.keep, R.there, fun b o e n => ?_, R.mf, fun q xs e => s _ _ (R.tp q xs e), fun i a e => ?_, R.apart⟩, s⟩
  · by_cases hb : b = l
    · subst hb; rw [upd_same] at e; cases e; exact hH
    · rw [upd_ne hb] at e; exact R.sub _ _ e
  · have hb : b ≠ l := ne_of_none e h0
    rw [upd_ne hb]; exact R.nw b o e n
  · obtain ⟨o, eo, hs⟩ := R.slot i a e
    refine ⟨o, eo, hs.mono s (fun l u e1 m h => h) (fun l' e1 m h => ?_)⟩
    have hl : l' ≠ l := fun z => by
      subst z
      exact ha i ⟨⟨a, e, m⟩, by rw [eo, e1]⟩
    rw [upd_ne hl]; exact h
def RV.hold : RV → RV
  | .own (.ml _ ds) => .dat (.list ds)
  | .own (.mdk _ es) => .dat (.dict es)
  | .tupO ds d => .dat (.tuple [.list ds, d])
  | r => r
theorem hold_ok (R : Rep K C F H σ ρ) (h : ResOk K C F H σ ρ v r) : ∃ F', Rep K C F' H σ ρ ∧ Same F F' ∧ ResOk K C F' H σ ρ v r.hold ∧ RV.old r.hold := by
  cases r with
  | dat d => exact ⟨F, R, .refl _, h, trivial⟩
  | bor i => exact ⟨F, R, .refl _, h, trivial⟩
  | own a =>
    obtain ⟨l, rfl, m, hs, h0, ha⟩ := h
    cases a with
    | un => cases m
    | dat d => cases m
    | scr d => cases m
    | opq v => cases m
    | ml p ds =>
      obtain ⟨l', xs, e1, hF, h1, h2, h3⟩ := hs
      cases e1
      obtain ⟨R', s⟩ := R.freezeAt hF h1 h0 ha
      exact ⟨_, R', s, .lst upd_same (h2.mono s), trivial⟩
    | mdk p ds =>
      obtain ⟨l', xs, e1, hF, h1, h2, h3⟩ := hs
      cases e1
      obtain ⟨R', s⟩ := R.freezeAt hF h1 h0 ha
      exact ⟨_, R', s, .dic upd_same (h2.mono s), trivial⟩
    | mdt p ds => cases m
  | tupO ds d =>
    obtain ⟨t, l, u, xs, rfl, ht, hF, h1, h2, h3, h0, ha⟩ := h
    obtain ⟨R', s⟩ := R.freezeAt hF h1 h0 ha
    exact ⟨_, R', s, .tup (.inl (.inl (s _ _ ht))) (.cons (.lst upd_same (h2.mono s)) (.cons (h3.mono s) .nil)), trivial⟩
/-- a new object is laid and frozen -/
theorem Rep.laidF {p : Addr} {u : HO} (R : Rep K C F H σ ρ) (hp : H p = none) : Rep K C (upd F p u) (upd H p u) σ ρ ∧ Same F (upd F p u) := by
  have hF : F p = none := R.sub.free hp
  have s : Same F (upd F p u) := fun b o e => by rw [upd_ne (ne_of_none e hF)]; exact e
  have sH : Same H (upd H p u) := fun b o e => by rw [upd_ne (ne_of_none e hp)]; exact e
  have h0 : C.H0 p = none := by
    cases q : C.H0 p with
    | none => rfl
    | some o => obtain ⟨o', e⟩ := R.there p o q; rw [e] at hp; cases hp
  refine ⟨⟨R.len, fun b o e => ?_, R.gr.trans s, fun b o e n => sH _ _ (R.keep b o e n), fun b o e => ?_, fun b o e n => ?_, R.mf, fun q xs e => ?_, fun i a e => ?_, R.apart⟩, s⟩
  · by_cases hb : b = p
    · subst hb; rw [upd_same] at e ⊢; exact e
    · rw [upd_ne hb] at e ⊢; exact R.sub _ _ e
  · obtain ⟨o', e'⟩ := R.there b o e
    exact ⟨o', sH _ _ e'⟩
  · rw [upd_ne (ne_of_none e h0)]; exact R.nw b o e n
  · by_cases hq : q = p
    · subst hq; rw [upd_same] at e ⊢; exact e
    · rw [upd_ne hq] at e ⊢; exact R.tp q xs e
  · obtain ⟨o, eo, hs⟩ := R.slot i a e
    refine ⟨o, eo, hs.mono s (fun l u e1 m h => sH _ _ h) (fun l' e1 m h => ?_)⟩
    have hl : l' ≠ p := fun z => by
      subst z
      subst e1
      obtain ⟨_, w, q⟩ := hs.mutF m
      rw [hp] at q; cases q
    rw [upd_ne hl]; exact h
/-- a new object of one's own -/
theorem Rep.laidM {p : Addr} {u : HO} (R : Rep K C F H σ ρ) (hp : H p = none) (hu : ∀ xs, u ≠ .tup xs := by intro _ z; cases z) : Rep K C F (upd H p u) σ ρ ∧ F p = none ∧ C.H0 p = none ∧ ∀ i, MutAt σ ρ i p → False := by
  have hF : F p = none := R.sub.free hp
  have sH : Same H (upd H p u) := fun b o e => by rw [upd_ne (ne_of_none e hp)]; exact e
  have h0 : C.H0 p = none := by
    cases q : C.H0 p with
    | none => rfl
    | some o => obtain ⟨o', e⟩ := R.there p o q; rw [e] at hp; cases hp
  have tpn : ∀ q xs, upd H p u q = some (.tup xs) → F q = some (.tup xs) := fun q xs e => by
    by_cases hq : q = p
    · subst hq; rw [upd_same] at e; exact (hu xs (Option.some.inj e)).elim
    · rw [upd_ne hq] at e; exact R.tp q xs e
  refine ⟨⟨R.len, R.sub.trans sH, R.gr, fun b o e n => sH _ _ (R.keep b o e n), fun b o e => ?_, R.nw, R.mf, tpn, fun i a e => ?_, R.apart⟩, hF, h0, fun i ⟨⟨a, ea, m⟩, e⟩ => ?_⟩
  · obtain ⟨o', e'⟩ := R.there b o e
    exact ⟨o', sH _ _ e'⟩
  · obtain ⟨o, eo, hs⟩ := R.slot i a e
    exact ⟨o, eo, hs.mono (.refl _) (fun l u e1 m h => sH _ _ h) fun l' e1 m h => h⟩
  · obtain ⟨o, eo, hs⟩ := R.slot i a ea
    rw [e] at eo
    cases eo
    obtain ⟨_, w, q⟩ := hs.mutF m
    rw [hp] at q; cases q
/-- a slot's own thing changes -/
theorem Rep.change {i : Nat} {a a' : AV} {l : Addr} {u : HO} (R : Rep K C F H σ ρ) (hi : ρ[i]? = some a) (hm : a.isMut = true) (hm' : a'.isMut = true) (hl : σ[i]? = some (some (.ref l)))
    (new : Slot K C F (upd H l u) a' (some (.ref l))) (hu : ∀ xs, u ≠ .tup xs := by intro _ z; cases z) : Rep K C F (upd H l u) σ (ρ.set i a') := by
  have tpn : ∀ q xs, upd H l u q = some (.tup xs) → F q = some (.tup xs) := fun q xs e => by
    by_cases hq : q = l
    · subst hq; rw [upd_same] at e; exact (hu xs (Option.some.inj e)).elim
    · rw [upd_ne hq] at e; exact R.tp q xs e
  have him : i < ρ.length := (List.getElem?_eq_some_iff.mp hi).1
  obtain ⟨o, eo, hs⟩ := R.slot i a hi
  rw [hl] at eo
  cases eo
  obtain ⟨hF, w0, hw0⟩ := hs.mutF hm
  have hwh : l ∈ C.M0 ∨ C.H0 l = none := by
    have f : ∀ p, Whose C p l → l ∈ C.M0 ∨ C.H0 l = none := fun p z => by
      cases p with
      | none => exact .inr z
      | some j => exact .inl (List.mem_of_getElem? z)
    cases a with
    | un => cases hm
    | dat d => cases hm
    | scr d => cases hm
    | opq v => cases hm
    | ml p ds => obtain ⟨l', xs, e1, _, _, _, h3⟩ := hs; cases e1; exact f p h3
    | mdk p ds => obtain ⟨l', xs, e1, _, _, _, h3⟩ := hs; cases e1; exact f p h3
    | mdt p ds => obtain ⟨l', xs, e1, _, _, _, h3⟩ := hs; cases e1; exact f p h3
  refine ⟨by rw [List.length_set]; exact R.len, fun b o e => ?_, R.gr, fun b o e n => ?_, fun b o e => ?_, R.nw, R.mf, tpn, fun j b e => ?_, fun j k l' hne h1 h2 => ?_⟩
  · rw [upd_ne (ne_of_none e hF)]; exact R.sub _ _ e
  · have hb : b ≠ l := fun z => by
      subst z
      rcases hwh with z | z
      · exact n z
      · rw [z] at e; cases e
    rw [upd_ne hb]; exact R.keep b o e n
  · by_cases hb : b = l
    · subst hb; exact ⟨_, upd_same⟩
    · obtain ⟨o', e'⟩ := R.there b o e
      exact ⟨o', by rw [upd_ne hb]; exact e'⟩
  · by_cases hj : i = j
    · subst hj
      rw [List.getElem?_set_self him] at e
      cases e
      exact ⟨_, hl, new⟩
    · rw [List.getElem?_set_ne hj] at e
      obtain ⟨o, eo, hs'⟩ := R.slot j b e
      refine ⟨o, eo, hs'.mono (.refl _) (fun l' u' e1 m h => ?_) fun l' e1 m h => h⟩
      have hl' : l' ≠ l := fun z => by
        subst z
        exact R.apart i j l' hj ⟨⟨a, hi, hm⟩, hl⟩ ⟨⟨b, e, m⟩, by rw [eo, e1]⟩
      rw [upd_ne hl']; exact h
  · have back : ∀ n l', MutAt σ (ρ.set i a') n l' → MutAt σ ρ n l' := fun n l' ⟨⟨b, e, m⟩, q⟩ => by
      by_cases hn : i = n
      · subst hn; exact ⟨⟨a, hi, hm⟩, q⟩
      · rw [List.getElem?_set_ne hn] at e; exact ⟨⟨b, e, m⟩, q⟩
    exact R.apart j k l' hne (back j l' h1) (back k l' h2)
/-- a name is given a value -/
theorem Rep.setD {i : Nat} {v : V} {d : PyData} (R : Rep K C F H σ ρ) (h : Dr K F v d) : Rep K C F H (σ.set i (some v)) (ρ.set i (.dat d)) := by
  refine ⟨by rw [List.length_set, List.length_set]; exact R.len, R.sub, R.gr, R.keep, R.there, R.nw, R.mf, R.tp, fun j b e => ?_, fun j k l' hne h1 h2 => ?_⟩
  · by_cases hj : i = j
    · subst hj
      by_cases hi : i < ρ.length
      · rw [List.getElem?_set_self hi] at e
        cases e
        exact ⟨some v, by rw [List.getElem?_set_self (by rw [R.len]; exact hi)], v, rfl, h⟩
      · rw [List.getElem?_eq_none (by rw [List.length_set]; omega)] at e; cases e
    · rw [List.getElem?_set_ne hj] at e
      obtain ⟨o, eo, hs⟩ := R.slot j b e
      exact ⟨o, by rw [List.getElem?_set_ne hj]; exact eo, hs⟩
  · have back : ∀ n l', MutAt (σ.set i (some v)) (ρ.set i (.dat d)) n l' → MutAt σ ρ n l' := fun n l' ⟨⟨b, e, m⟩, q⟩ => by
      by_cases hn : i = n
      · subst hn
        by_cases hi : i < ρ.length
        · rw [List.getElem?_set_self hi] at e; cases e; cases m
        · rw [List.getElem?_eq_none (by rw [List.length_set]; omega)] at e; cases e
      · rw [List.getElem?_set_ne hn] at e q; exact ⟨⟨b, e, m⟩, q⟩
    exact R.apart j k l' hne (back j l' h1) (back k l' h2)
theorem Rep.setM {i : Nat} {l : Addr} {a : AV} (R : Rep K C F H σ ρ) (h : Slot K C F H a (some (.ref l))) (ha : ∀ i, MutAt σ ρ i l → False) : Rep K C F H (σ.set i (some (.ref l))) (ρ.set i a) := by
  refine ⟨by rw [List.length_set, List.length_set]; exact R.len, R.sub, R.gr, R.keep, R.there, R.nw, R.mf, R.tp, fun j b e => ?_, fun j k l' hne h1 h2 => ?_⟩
  · by_cases hj : i = j
    · subst hj
      by_cases hi : i < ρ.length
      · rw [List.getElem?_set_self hi] at e
        cases e
        exact ⟨_, by rw [List.getElem?_set_self (by rw [R.len]; exact hi)], h⟩
      · rw [List.getElem?_eq_none (by rw [List.length_set]; omega)] at e; cases e
    · rw [List.getElem?_set_ne hj] at e
      obtain ⟨o, eo, hs⟩ := R.slot j b e
      exact ⟨o, by rw [List.getElem?_set_ne hj]; exact eo, hs⟩
  · have back : ∀ n l', MutAt (σ.set i (some (.ref l))) (ρ.set i a) n l' → (i ≠ n ∧ MutAt σ ρ n l') ∨ (i = n ∧ l' = l) := fun n l' ⟨⟨b, e, m⟩, q⟩ => by
      by_cases hn : i = n
      · subst hn
        by_cases hi : i < σ.length
        · rw [List.getElem?_set_self hi] at q; cases q; exact .inr ⟨rfl, rfl⟩
        · rw [List.getElem?_eq_none (by rw [List.length_set]; omega)] at q; cases q
      · rw [List.getElem?_set_ne hn] at e q; exact .inl ⟨hn, ⟨b, e, m⟩, q⟩
    rcases back j l' h1 with ⟨n1, m1⟩ | ⟨n1, m1⟩
    · rcases back k l' h2 with ⟨n2, m2⟩ | ⟨n2, m2⟩
      · exact R.apart j k l' hne m1 m2
      · subst m2; exact ha j m1
    · rcases back k l' h2 with ⟨n2, m2⟩ | ⟨n2, m2⟩
      · subst m1; exact ha k m2
      · exact hne (n1.symm.trans n2)
/-- a slot is forgotten -/
theorem Rep.forget {i : Nat} {o : Option V} (R : Rep K C F H σ ρ) : Rep K C F H (σ.set i o) (ρ.set i .un) := by
  refine ⟨by rw [List.length_set, List.length_set]; exact R.len, R.sub, R.gr, R.keep, R.there, R.nw, R.mf, R.tp, fun j b e => ?_, fun j k l' hne h1 h2 => ?_⟩
  · by_cases hj : i = j
    · subst hj
      by_cases hi : i < ρ.length
      · rw [List.getElem?_set_self hi] at e
        cases e
        exact ⟨o, by rw [List.getElem?_set_self (by rw [R.len]; exact hi)], trivial⟩
      · rw [List.getElem?_eq_none (by rw [List.length_set]; omega)] at e; cases e
    · rw [List.getElem?_set_ne hj] at e
      obtain ⟨o, eo, hs⟩ := R.slot j b e
      exact ⟨o, by rw [List.getElem?_set_ne hj]; exact eo, hs⟩
  · have back : ∀ n l', MutAt (σ.set i o) (ρ.set i .un) n l' → MutAt σ ρ n l' := fun n l' ⟨⟨b, e, m⟩, q⟩ => by
      by_cases hn : i = n
      · subst hn
        by_cases hi : i < ρ.length
        · rw [List.getElem?_set_self hi] at e; cases e; cases m
        · rw [List.getElem?_eq_none (by rw [List.length_set]; omega)] at e; cases e
      · rw [List.getElem?_set_ne hn] at e q; exact ⟨⟨b, e, m⟩, q⟩
    exact R.apart j k l' hne (back j l' h1) (back k l' h2)
/-- only what is known is forgotten -/
theorem Rep.unA {i : Nat} (R : Rep K C F H σ ρ) : Rep K C F H σ (ρ.set i .un) := by
  refine ⟨by rw [List.length_set]; exact R.len, R.sub, R.gr, R.keep, R.there, R.nw, R.mf, R.tp, fun j b e => ?_, fun j k l' hne h1 h2 => ?_⟩
  · by_cases hj : i = j
    · subst hj
      by_cases hi : i < ρ.length
      · rw [List.getElem?_set_self hi] at e
        cases e
        obtain ⟨o, eo, _⟩ := R.slot i _ (List.getElem?_eq_getElem hi)
        exact ⟨o, eo, trivial⟩
      · rw [List.getElem?_eq_none (by rw [List.length_set]; omega)] at e; cases e
    · rw [List.getElem?_set_ne hj] at e
      exact R.slot j b e
  · have back : ∀ n l', MutAt σ (ρ.set i .un) n l' → MutAt σ ρ n l' := fun n l' ⟨⟨b, e, m⟩, q⟩ => by
      by_cases hn : i = n
      · subst hn
        by_cases hi : i < ρ.length
        · rw [List.getElem?_set_self hi] at e; cases e; cases m
        · rw [List.getElem?_eq_none (by rw [List.length_set]; omega)] at e; cases e
      · rw [List.getElem?_set_ne hn] at e; exact ⟨⟨b, e, m⟩, q⟩
    exact R.apart j k l' hne (back j l' h1) (back k l' h2)
/-- a slot's own local thing is frozen -/
def AV.frozen : AV → Option PyData
  | .ml none ds => some (.list ds)
  | .mdk none es => some (.dict es)
  | _ => none
theorem Rep.freezeSlot {i : Nat} {a : AV} {d : PyData} {v : V} (R : Rep K C F H σ ρ) (hi : ρ[i]? = some a) (hz : a.frozen = some d) (hv : σ[i]? = some (some v)) : ∃ F', Rep K C F' H σ (ρ.set i (.dat d)) ∧ Same F F' ∧ Dr K F' v d := by
  obtain ⟨o, eo, hs⟩ := R.slot i a hi
  rw [hv] at eo
  cases eo
  have R1 : Rep K C F H σ (ρ.set i .un) := R.unA
  have fin : ∀ {F' : Hp}, Rep K C F' H σ (ρ.set i .un) → Same F F' → Dr K F' v d → ∃ F', Rep K C F' H σ (ρ.set i (.dat d)) ∧ Same F F' ∧ Dr K F' v d := fun {F'} R' s' hd => by
    have R2 := R'.setD (i := i) hd
    have e1 : σ.set i (some v) = σ := by
      refine List.ext_getElem? fun n => ?_
      by_cases hn : i = n
      · subst hn
        rw [List.getElem?_set_self (List.getElem?_eq_some_iff.mp hv).1, hv]
      · rw [List.getElem?_set_ne hn]
    rw [e1, List.set_set] at R2
    exact ⟨F', R2, s', hd⟩
  have noMut : ∀ l, v = .ref l → a.isMut = true → ∀ j, MutAt σ (ρ.set i .un) j l → False := fun l e m j ⟨⟨b, eb, mb⟩, q⟩ => by
    by_cases hn : i = j
    · subst hn
      rw [List.getElem?_set_self (List.getElem?_eq_some_iff.mp hi).1] at eb
      cases eb; cases mb
    · rw [List.getElem?_set_ne hn] at eb
      exact R.apart i j l hn ⟨⟨a, hi, m⟩, by rw [hv, e]⟩ ⟨⟨b, eb, mb⟩, q⟩
  cases a with
  | un => cases hz
  | dat d' => cases hz
  | scr d' => cases hz
  | opq v => cases hz
  | ml p ds =>
    cases p with
    | some j => cases hz
    | none =>
      cases hz
      obtain ⟨l', xs, e1, hF, h1, h2, h3⟩ := hs
      cases e1
      obtain ⟨R', s⟩ := R1.freezeAt hF h1 h3 (noMut l' rfl rfl)
      exact fin R' s (.lst upd_same (h2.mono s))
  | mdk p ds =>
    cases p with
    | some j => cases hz
    | none =>
      cases hz
      obtain ⟨l', xs, e1, hF, h1, h2, h3⟩ := hs
      cases e1
      obtain ⟨R', s⟩ := R1.freezeAt hF h1 h3 (noMut l' rfl rfl)
      exact fin R' s (.dic upd_same (h2.mono s))
  | mdt p ds => cases p <;> cases hz
end

/-! ### abstract transformers and what they are sound for -/
abbrev PXT := Value → Option (Str × PyData) → List AV → Prop
abbrev AEx := List AV → PXT → (RV → List AV → Prop) → Prop
abbrev ATx := List AV → PXT → (Bool → List AV → Prop) → Prop
abbrev AAx := List AV → PXT → (List RV → List AV → Prop) → Prop
structure AEnds where
  nx : List AV → Prop
  rt : RV → List AV → Prop
  bk : List AV → Prop := fun _ => False
  ct : List AV → Prop := fun _ => False
  ex : PXT
abbrev ASt := AEnds → List AV → Prop
def XOk (K : PySem.W.Frag) (F H : Hp) (p : Option (Str × PyData)) (d : Option Addr) : Prop := match p with
  | none => d = none
  | some (f, x) => ∃ dd v, d = some dd ∧ H dd = some (.xd [(f, v)]) ∧ Dr K F v x
def XS (K : PySem.W.Frag) (C : C0) (W : WX) (PX : PXT) : Prop := ∀ F' H' σ' ρ' cls p d, Rep K C F' H' σ' ρ' → XOk K F' H' p d → PX cls p ρ' → W cls d σ' H'
def ES (K : PySem.W.Frag) (W : WX) (te : TE) (a : AEx) : Prop := ∀ C ρ PX P F H σ Q, Rep K C F H σ ρ → a ρ PX P → XS K C W PX →
  (∀ v F' H' r ρ', Rep K C F' H' σ ρ' → Same F F' → ResOk K C F' H' σ ρ' v r → P r ρ' → Q v H') → te σ H Q
def TSd (K : PySem.W.Frag) (W : WX) (te : TT) (a : ATx) : Prop := ∀ C ρ PX P F H σ Q, Rep K C F H σ ρ → a ρ PX P → XS K C W PX →
  (∀ b F' H' ρ', Rep K C F' H' σ ρ' → Same F F' → P b ρ' → Q b H') → te σ H Q
def ResAll (K : PySem.W.Frag) (C : C0) (F H : Hp) (σ : L2.St) (ρ : List AV) : List V → List RV → Prop := Paired fun v r => ResOk K C F H σ ρ v r ∧ RV.old r
def AS0 (K : PySem.W.Frag) (W : WX) (te : TA) (a : AAx) : Prop := ∀ C ρ PX P F H σ Q, Rep K C F H σ ρ → a ρ PX P → XS K C W PX →
  (∀ vs F' H' rs ρ', Rep K C F' H' σ ρ' → Same F F' → ResAll K C F' H' σ ρ' vs rs → P rs ρ' → Q vs H') → te σ H Q
def SS (K : PySem.W.Frag) (W : WX) (ts : TS) (a : ASt) : Prop := ∀ C D ρ F H σ (D' : Ends), Rep K C F H σ ρ → a D ρ → XS K C W D.ex →
  (∀ F' H' σ' ρ', Rep K C F' H' σ' ρ' → Same F F' → D.nx ρ' → D'.nx σ' H') → (∀ F' H' σ' ρ', Rep K C F' H' σ' ρ' → Same F F' → D.bk ρ' → D'.bk σ' H') → (∀ F' H' σ' ρ', Rep K C F' H' σ' ρ' → Same F F' → D.ct ρ' → D'.ct σ' H') →
  (∀ v F' H' σ' ρ' r, Rep K C F' H' σ' ρ' → Same F F' → ResOk K C F' H' σ' ρ' v r → D.rt r ρ' → D'.rt v H') → ts D' σ H
structure AE (K : PySem.W.Frag) (X : Cx) (W : WX) (e : Expr) (te : TE) (a : AEx) : Prop where
  p : PE X e te
  s : ES K W te a
structure AT (K : PySem.W.Frag) (X : Cx) (W : WX) (e : Expr) (te : TT) (a : ATx) : Prop where
  p : PT X e te
  s : TSd K W te a
structure AW (K : PySem.W.Frag) (X : Cx) (W : WX) (e : Expr) (te : TT) (a : ATx) : Prop where
  p : PW X e te
  s : TSd K W te a
structure AA (K : PySem.W.Frag) (X : Cx) (W : WX) (es : List Expr) (te : TA) (a : AAx) : Prop where
  p : PA X es te
  s : AS0 K W te a
structure AS (K : PySem.W.Frag) (X : Cx) (W : WX) (st : Stmt) (ts : TS) (a : ASt) : Prop where
  p : PS X st ts
  s : SS K W ts a
structure ASs (K : PySem.W.Frag) (X : Cx) (W : WX) (st : List Stmt) (ts : TS) (a : ASt) : Prop where
  p : PSs X st ts
  s : SS K W ts a
def W0 : WX := fun _ _ _ _ => False
def X0 : PXT := fun _ _ _ => False
theorem xs0 {K : PySem.W.Frag} {C : C0} {W : WX} : XS K C W X0 := fun _ _ _ _ _ _ _ _ _ h => h.elim
/-! an object that is under way is guarded -/
def C0.add (C : C0) (D : Addr) (o : HO) : C0 := { C with H0 := upd C.H0 D o }
theorem Rep.guard {K : PySem.W.Frag} {C : C0} {F H : Hp} {σ : L2.St} {ρ : List AV} {D : Addr} {o : HO} (R : Rep K C F H σ ρ) (hH : H D = some o) (hF : F D = none) (h0 : C.H0 D = none) (hm : ∀ i, MutAt σ ρ i D → False) : Rep K (C.add D o) F H σ ρ := by
  have hM : ∀ l ∈ C.M0, l ≠ D := fun l hl z => by
    subst z
    obtain ⟨_, u, e⟩ := R.mf l hl
    rw [h0] at e; cases e
  refine ⟨R.len, R.sub, R.gr, fun b u e n => ?_, fun b u e => ?_, fun b u e n => ?_, fun l hl => ?_, R.tp, fun i a e => ?_, R.apart⟩
  · by_cases hb : b = D
    · subst hb
      have e' : upd C.H0 b o b = some u := e
      rw [upd_same] at e'; cases e'; exact hH
    · have e' : upd C.H0 D o b = some u := e
      rw [upd_ne hb] at e'; exact R.keep b u e' n
  · by_cases hb : b = D
    · subst hb; exact ⟨o, hH⟩
    · have e' : upd C.H0 D o b = some u := e
      rw [upd_ne hb] at e'; exact R.there b u e'
  · by_cases hb : b = D
    · subst hb; exact hF
    · have e' : upd C.H0 D o b = some u := e
      rw [upd_ne hb] at e'; exact R.nw b u e' n
  · obtain ⟨h1, u, e⟩ := R.mf l hl
    exact ⟨h1, u, by show upd C.H0 D o l = some u; rw [upd_ne (hM l hl)]; exact e⟩
  · obtain ⟨w, eo, hs⟩ := R.slot i a e
    refine ⟨w, eo, ?_⟩
    have wh : ∀ p l, Whose C p l → l ≠ D → Whose (C.add D o) p l := fun p l z n => by
      cases p with
      | none =>
        show upd C.H0 D o l = none
        rw [upd_ne n]; exact z
      | some j => exact z
    cases a with
    | un => trivial
    | dat d => exact hs
    | scr ns => exact hs
    | opq v => exact hs
    | ml p ds =>
      obtain ⟨l, xs, e1, h1, h2, h3, h4⟩ := hs
      refine ⟨l, xs, e1, h1, h2, h3, wh p l h4 fun z => ?_⟩
      subst z
      exact hm i ⟨⟨_, e, rfl⟩, by rw [eo, e1]⟩
    | mdk p ds =>
      obtain ⟨l, xs, e1, h1, h2, h3, h4⟩ := hs
      refine ⟨l, xs, e1, h1, h2, h3, wh p l h4 fun z => ?_⟩
      subst z
      exact hm i ⟨⟨_, e, rfl⟩, by rw [eo, e1]⟩
    | mdt p ds =>
      obtain ⟨l, xs, e1, h1, h2, h3, h4⟩ := hs
      refine ⟨l, xs, e1, h1, h2, h3, wh p l h4 fun z => ?_⟩
      subst z
      exact hm i ⟨⟨_, e, rfl⟩, by rw [eo, e1]⟩
theorem Slot.unadd {K : PySem.W.Frag} {C : C0} {F H : Hp} {D : Addr} {o : HO} {a : AV} {w : Option V} (h0 : C.H0 D = none) (hs : Slot K (C.add D o) F H a w) : Slot K C F H a w ∧ (a.isMut = true → ∀ l, w = some (.ref l) → (∀ j : Nat, C.M0[j]? ≠ some D) → l ≠ D) := by
  have wh : ∀ p l, Whose (C.add D o) p l → Whose C p l ∧ ((∀ j : Nat, C.M0[j]? ≠ some D) → l ≠ D) := fun p l z => by
    cases p with
    | none =>
      have z' : upd C.H0 D o l = none := z
      have n : l ≠ D := fun y => by subst y; rw [upd_same] at z'; cases z'
      rw [upd_ne n] at z'; exact ⟨z', fun _ => n⟩
    | some j => exact ⟨z, fun q y => q j (by subst y; exact z)⟩
  cases a with
  | un => exact ⟨trivial, fun m => by cases m⟩
  | dat d => exact ⟨hs, fun m => by cases m⟩
  | scr ns => exact ⟨hs, fun m => by cases m⟩
  | opq v => exact ⟨hs, fun m => by cases m⟩
  | ml p ds =>
    obtain ⟨l, xs, e1, h1, h2, h3, h4⟩ := hs
    refine ⟨⟨l, xs, e1, h1, h2, h3, (wh p l h4).1⟩, fun _ l' e' q => ?_⟩
    rw [e1] at e'; cases e'; exact (wh p l h4).2 q
  | mdk p ds =>
    obtain ⟨l, xs, e1, h1, h2, h3, h4⟩ := hs
    refine ⟨⟨l, xs, e1, h1, h2, h3, (wh p l h4).1⟩, fun _ l' e' q => ?_⟩
    rw [e1] at e'; cases e'; exact (wh p l h4).2 q
  | mdt p ds =>
    obtain ⟨l, xs, e1, h1, h2, h3, h4⟩ := hs
    refine ⟨⟨l, xs, e1, h1, h2, h3, (wh p l h4).1⟩, fun _ l' e' q => ?_⟩
    rw [e1] at e'; cases e'; exact (wh p l h4).2 q
theorem Rep.unguard {K : PySem.W.Frag} {C : C0} {F H : Hp} {σ : L2.St} {ρ : List AV} {D : Addr} {o : HO} (h0 : C.H0 D = none) (hM : D ∉ C.M0) (hF0 : C.F0 D = none) (R : Rep K (C.add D o) F H σ ρ) : Rep K C F H σ ρ ∧ H D = some o ∧ F D = none ∧ ∀ i, MutAt σ ρ i D → False := by
  have up : ∀ b u, C.H0 b = some u → (C.add D o).H0 b = some u := fun b u e => by
    show upd C.H0 D o b = some u
    rw [upd_ne (ne_of_none e h0)]; exact e
  have me : (C.add D o).H0 D = some o := upd_same
  have nj : ∀ j : Nat, C.M0[j]? ≠ some D := fun j z => hM (List.mem_of_getElem? z)
  refine ⟨⟨R.len, R.sub, R.gr, fun b u e n => R.keep b u (up b u e) n, fun b u e => R.there b u (up b u e), fun b u e n => R.nw b u (up b u e) n, fun l hl => ?_, R.tp, fun i a e => ?_, R.apart⟩, R.keep D o me hM, R.nw D o me hF0, fun i m => ?_⟩
  · obtain ⟨h1, u, e⟩ := R.mf l hl
    refine ⟨h1, u, ?_⟩
    have n : l ≠ D := fun z => hM (by subst z; exact hl)
    have e' : upd C.H0 D o l = some u := e
    rw [upd_ne n] at e'; exact e'
  · obtain ⟨w, eo, hs⟩ := R.slot i a e
    exact ⟨w, eo, (hs.unadd h0).1⟩
  · obtain ⟨⟨a, e, m⟩, q⟩ := m
    obtain ⟨w, eo, hs⟩ := R.slot i a e
    rw [q] at eo
    cases eo
    exact (hs.unadd h0).2 m D rfl nj rfl
end Aq
set_option maxHeartbeats 2000000
namespace Aq
open PySem L2
variable {K : PySem.W.Frag} {W : WX}

/-! ### names, constants -/
def aVar (i : Nat) : AEx := fun ρ _ P => match ρ[i]? with
  | some (.dat d) => P (.dat d) ρ
  | some (.ml none ds) => P (.bor i) ρ ∨ P (.dat (.list ds)) (ρ.set i (.dat (.list ds)))
  | some (.mdk none es) => P (.bor i) ρ ∨ P (.dat (.dict es)) (ρ.set i (.dat (.dict es)))
  | some (.ml (some _) _) => P (.bor i) ρ
  | some (.mdk (some _) _) => P (.bor i) ρ
  | some (.scr _) => P (.bor i) ρ
  | some (.opq _) => P (.bor i) ρ
  | some (.mdt _ _) => P (.bor i) ρ
  | _ => False
theorem es_var {i : Nat} : ES K W (tVar i) (aVar i) := by
  intro C ρ PX P F H σ Q R h _ k
  unfold aVar at h
  have bor : ∀ a : AV, ρ[i]? = some a → (∀ o, Slot K C F H a o → ∃ v, o = some v) → P (.bor i) ρ → tVar i σ H Q := fun a ea hv hp => by
    obtain ⟨o, eo, hs⟩ := R.slot i a ea
    obtain ⟨v, rfl⟩ := hv o hs
    exact ⟨v, eo, k v F H (.bor i) ρ R (.refl _) ⟨eo, a, ea⟩ hp⟩
  have frz : ∀ (a : AV) (d : PyData), ρ[i]? = some a → a.frozen = some d → (∀ o, Slot K C F H a o → ∃ v, o = some v) → P (.dat d) (ρ.set i (.dat d)) → tVar i σ H Q := fun a d ea hz hv hp => by
    obtain ⟨o, eo, hs⟩ := R.slot i a ea
    obtain ⟨v, rfl⟩ := hv o hs
    obtain ⟨F', R', s', hd⟩ := R.freezeSlot ea hz eo
    exact ⟨v, eo, k v F' H (.dat d) _ R' s' hd hp⟩
  split at h
  · rename_i d e
    obtain ⟨o, eo, v, rfl, hd⟩ := R.slot i _ e
    exact ⟨v, eo, k v F H (.dat d) ρ R (.refl _) hd h⟩
  · rename_i ds e
    have hv : ∀ o, Slot K C F H (.ml none ds) o → ∃ v, o = some v := fun o ⟨l, xs, e1, _⟩ => ⟨_, e1⟩
    rcases h with h | h
    · exact bor _ e hv h
    · exact frz _ _ e rfl hv h
  · rename_i ds e
    have hv : ∀ o, Slot K C F H (.mdk none ds) o → ∃ v, o = some v := fun o ⟨l, xs, e1, _⟩ => ⟨_, e1⟩
    rcases h with h | h
    · exact bor _ e hv h
    · exact frz _ _ e rfl hv h
  · rename_i j ds e
    exact bor _ e (fun o ⟨l, xs, e1, _⟩ => ⟨_, e1⟩) h
  · rename_i j ds e
    exact bor _ e (fun o ⟨l, xs, e1, _⟩ => ⟨_, e1⟩) h
  · rename_i ns e
    exact bor _ e (fun o ⟨l, e1, _⟩ => ⟨_, e1⟩) h
  · rename_i v e
    exact bor _ e (fun o e1 => ⟨_, e1⟩) h
  · rename_i v es e
    exact bor _ e (fun o ⟨l, xs, e1, _⟩ => ⟨_, e1⟩) h
  · exact h.elim
def aC (d : PyData) : AEx := fun ρ _ P => P (.dat d) ρ
theorem es_c {v : V} {d : PyData} (hd : ∀ F, Dr K F v d) : ES K W (tC v) (aC d) := fun C ρ PX P F H σ Q R h _ k => k v F H (.dat d) ρ R (.refl _) (hd F) h
theorem es_int {i : Int} : ES K W (tC (.int i)) (aC (.int i)) := es_c fun _ => .int i
theorem es_str {i : Str} : ES K W (tC (.str i)) (aC (.str i)) := es_c fun _ => .str i
theorem es_bl {i : Bool} : ES K W (tC (.bl i)) (aC (.bool i)) := es_c fun _ => .bl i
theorem es_non : ES K W (tC .non) (aC .none) := es_c fun _ => .non

/-! ### answers that stay while another is found -/
theorem ResOk.stay {C : C0} {F F' H H' : Hp} {σ : L2.St} {ρ ρ' : List AV} {v : V} {r : RV} (s : Same F F') (R' : Rep K C F' H' σ ρ') (n : RV.old r) (h : ResOk K C F H σ ρ v r) : ResOk K C F' H' σ ρ' v r := by
  cases r with
  | dat d => exact Dr.mono s d v h
  | bor i =>
    obtain ⟨e, a, _⟩ := h
    have hi : i < ρ'.length := by rw [← R'.len]; exact (List.getElem?_eq_some_iff.mp e).1
    exact ⟨e, _, List.getElem?_eq_getElem hi⟩
  | own a => exact n.elim
  | tupO ds d => exact n.elim
def withD (o : Option PyData) (k : PyData → Prop) : Prop := match o with
  | some d => k d
  | none => False
theorem withD_some {o : Option PyData} {k : PyData → Prop} (h : withD o k) : ∃ d, o = some d ∧ k d := by
  unfold withD at h
  split at h
  · exact ⟨_, rfl, h⟩
  · exact h.elim
/-! ### arguments -/
def aNil : AAx := fun ρ _ P => P [] ρ
def aCons (a : AEx) (b : AAx) : AAx := fun ρ PX P => a ρ PX fun r ρ1 => b ρ1 PX fun rs ρ2 => P (r.hold :: rs) ρ2
theorem as_nil : AS0 K W tNil aNil := fun C ρ PX P F H σ Q R h _ k => k [] F H [] ρ R (.refl _) .nil h
theorem as_cons {te : TE} {t : TA} {a : AEx} {b : AAx} (ha : ES K W te a) (hb : AS0 K W t b) : AS0 K W (tCons te t) (aCons a b) := fun C ρ PX P F H σ Q R h xs k =>
  ha C ρ PX _ F H σ _ R h xs fun v F1 H1 r ρ1 R1 s1 o1 p1 => by
    obtain ⟨F2, R2, s2, o2, n2⟩ := hold_ok R1 o1
    refine hb C ρ1 PX _ F2 H1 σ _ R2 p1 xs fun vs F3 H3 rs ρ3 R3 s3 o3 p3 => ?_
    exact k (v :: vs) F3 H3 (r.hold :: rs) ρ3 R3 ((s1.trans s2).trans s3) (.cons ⟨o2.stay s3 R3 n2, n2⟩ o3) p3
/-! ### what operations give -/
inductive Out where
  | dat (d : PyData)
  | newL (ds : List PyData)
  | newT (ds : List PyData)
def Out.rv : Out → RV
  | .dat d => .dat d
  | .newL ds => .own (.ml none ds)
  | .newT ds => .dat (.tuple ds)
structure OutS (K : PySem.W.Frag) (F H : Hp) (Pd : Out → Prop) (Q : VK) : Prop where
  dat : ∀ z d, Dr K F z d → Pd (.dat d) → Q z H
  newL : ∀ p xs ds, H p = none → DrAll K F xs ds → Pd (.newL ds) → Q (.ref p) (upd H p (.lst xs))
  newT : ∀ p xs ds, H p = none → DrAll K F xs ds → Pd (.newT ds) → Q (.ref p) (upd H p (.tup xs))
theorem outS {C : C0} {F H : Hp} {σ : L2.St} {ρ : List AV} {P : RV → List AV → Prop} {Q : VK} (R : Rep K C F H σ ρ) (k : ∀ v F' H' r, Rep K C F' H' σ ρ → Same F F' → ResOk K C F' H' σ ρ v r → P r ρ → Q v H') : OutS K F H (fun o => P o.rv ρ) Q where
  dat := fun z d hd hp => k z F H (.dat d) R (.refl _) hd hp
  newL := fun p xs ds hn hd hp => by
    obtain ⟨R', hF, h0, hm⟩ := R.laidM (u := .lst xs) hn
    exact k (.ref p) F _ (.own (.ml none ds)) R' (.refl _) ⟨p, rfl, rfl, ⟨p, xs, rfl, hF, upd_same, hd, h0⟩, h0, hm⟩ hp
  newT := fun p xs ds hn hd hp => by
    obtain ⟨R', s⟩ := R.laidF (u := .tup xs) hn
    exact k (.ref p) _ _ (.dat (.tuple ds)) R' s (.tup (.of upd_same) (hd.mono s)) hp
def DOp := PyData → PyData → (Out → Prop) → Prop
def R2S (K : PySem.W.Frag) (r : R2) (g : DOp) : Prop := ∀ F H x y d e Pd Q, Same F H → Lk K F H x d → Lk K F H y e → g d e Pd → OutS K F H Pd Q → r x y H Q
def aOp (g : DOp) (a b : AEx) : AEx := fun ρ PX P => a ρ PX fun r1 ρ1 => b ρ1 PX fun r2 ρ2 => withD (r1.hold.look ρ2) fun d => withD (r2.look ρ2) fun e => g d e fun o => P o.rv ρ2
theorem es_op {r : R2} {g : DOp} {ta tb : TE} {a b : AEx} (hr : R2S K r g) (ha : ES K W ta a) (hb : ES K W tb b) : ES K W (tOp r ta tb) (aOp g a b) := fun C ρ PX P F H σ Q R h xs k =>
  ha C ρ PX _ F H σ _ R h xs fun v F1 H1 r1 ρ1 R1 s1 o1 p1 => by
    obtain ⟨F2, R2, s2, o2, n2⟩ := hold_ok R1 o1
    refine hb C ρ1 PX _ F2 H1 σ _ R2 p1 xs fun u F3 H3 r2 ρ3 R3 s3 o3 p3 => ?_
    obtain ⟨d, ed, p3⟩ := withD_some p3
    obtain ⟨e, ee, p3⟩ := withD_some p3
    exact hr F3 H3 v u d e _ Q R3.sub ((o2.stay s3 R3 n2).lk R3 ed) (o3.lk R3 ee) p3 (outS R3 fun v' F' H' r' R' s' o' p' => k v' F' H' r' ρ3 R' (((s1.trans s2).trans s3).trans s') o' p')
def DUn := PyData → (Out → Prop) → Prop
def U1S (K : PySem.W.Frag) (r : V → Hp → VK → Prop) (g : DUn) : Prop := ∀ F H x d Pd Q, Same F H → Lk K F H x d → g d Pd → OutS K F H Pd Q → r x H Q
def aUn (g : DUn) (a : AEx) : AEx := fun ρ PX P => a ρ PX fun r1 ρ1 => withD (r1.look ρ1) fun d => g d fun o => P o.rv ρ1
theorem es_un {r : V → Hp → VK → Prop} {g : DUn} {ta : TE} {a : AEx} (hr : U1S K r g) (ha : ES K W ta a) : ES K W (tUn r ta) (aUn g a) := fun C ρ PX P F H σ Q R h xs k =>
  ha C ρ PX _ F H σ _ R h xs fun v F1 H1 r1 ρ1 R1 s1 o1 p1 => by
    obtain ⟨d, ed, p1⟩ := withD_some p1
    exact hr F1 H1 v d _ Q R1.sub (o1.lk R1 ed) p1 (outS R1 fun v' F' H' r' R' s' o' p' => k v' F' H' r' ρ1 R' (s1.trans s') o' p')
/-! a chain of two comparisons -/
def withB (o : Out) (k : Bool → Prop) : Prop := match o with
  | .dat (.bool b) => k b
  | _ => False
def aChain (g g' : DOp) (a b c : AEx) : AEx := fun ρ PX P => a ρ PX fun r1 ρ1 => b ρ1 PX fun r2 ρ2 => withD (r1.hold.look ρ2) fun d => withD (r2.hold.look ρ2) fun e => g d e fun o => withB o fun k =>
  if k = true then c ρ2 PX fun r3 ρ3 => withD (r2.hold.look ρ3) fun e' => withD (r3.look ρ3) fun f => g' e' f fun o' => P o'.rv ρ3 else P (.dat (.bool false)) ρ2
theorem es_chain {r r' : R2} {g g' : DOp} {ta tb tc : TE} {a b c : AEx} (hr : R2S K r g) (hr' : R2S K r' g') (ha : ES K W ta a) (hb : ES K W tb b) (hc : ES K W tc c) : ES K W (tChain r r' ta tb tc) (aChain g g' a b c) := fun C ρ PX P F H σ Q R h xs k =>
  ha C ρ PX _ F H σ _ R h xs fun v F1 H1 r1 ρ1 R1 s1 o1 p1 => by
    obtain ⟨F2, R2, s2, o2, n2⟩ := hold_ok R1 o1
    refine hb C ρ1 PX _ F2 H1 σ _ R2 p1 xs fun u F3 H3 r2 ρ3 R3 s3 o3 p3 => ?_
    obtain ⟨d, ed, p3⟩ := withD_some p3
    obtain ⟨e, ee, p3⟩ := withD_some p3
    obtain ⟨F4, R4, s4, o4, n4⟩ := hold_ok R3 o3
    have s24 := s3.trans s4
    refine hr F4 H3 v u d e _ _ R4.sub ((o2.stay s24 R4 n2).lk R4 ed) (o4.lk R4 ee) p3 ⟨fun z dd hz pd => ?_, fun p xs ds hn hd pd => pd.elim, fun p xs ds hn hd pd => pd.elim⟩
    cases dd with
    | bool bb =>
      cases hz
      refine ⟨bb, rfl, ?_⟩
      cases bb with
      | true =>
        refine hc C ρ3 PX _ F4 H3 σ _ R4 pd xs fun w F5 H5 r3 ρ5 R5 s5 o5 p5 => ?_
        obtain ⟨e', ee', p5⟩ := withD_some p5
        obtain ⟨f, ef, p5⟩ := withD_some p5
        exact hr' F5 H5 u w e' f _ Q R5.sub ((o4.stay s5 R5 n4).lk R5 ee') (o5.lk R5 ef) p5 (outS R5 fun v' F' H' r' R' s' o' p' => k v' F' H' r' ρ5 R' ((((s1.trans s2).trans s24).trans s5).trans s') o' p')
      | false => exact k (.bl false) F4 H3 (.dat (.bool false)) ρ3 R4 ((s1.trans s2).trans s24) (.bl false) pd
    | _ => exact pd.elim
/-! ### displays -/
def rvDs : List RV → Option (List PyData)
  | [] => some []
  | .dat d :: rs => (rvDs rs).map (d :: ·)
  | _ :: _ => none
def withDs (o : Option (List PyData)) (k : List PyData → Prop) : Prop := match o with
  | some d => k d
  | none => False
theorem withDs_some {o : Option (List PyData)} {k : List PyData → Prop} (h : withDs o k) : ∃ d, o = some d ∧ k d := by
  unfold withDs at h
  split at h
  · exact ⟨_, rfl, h⟩
  · exact h.elim
theorem resAll_ds {C : C0} {F H : Hp} {σ : L2.St} {ρ : List AV} : ∀ {vs : List V} {rs : List RV} {ds : List PyData}, ResAll K C F H σ ρ vs rs → rvDs rs = some ds → DrAll K F vs ds
  | _, _, _, .nil, e => by cases e; exact .nil
  | _, .dat d :: rs, ds, .cons h t, e => by
    unfold rvDs at e
    cases q : rvDs rs with
    | none => rw [q] at e; cases e
    | some l =>
      rw [q] at e
      cases e
      exact .cons h.1 (resAll_ds t q)
  | _, .bor i :: rs, ds, .cons h t, e => by cases e
  | _, .own i :: rs, ds, .cons h t, e => by cases e
def aTup (a : AAx) : AEx := fun ρ PX P => a ρ PX fun rs ρ1 => withDs (rvDs rs) fun ds => ds.length ≤ sizeLine ∧ P (.dat (.tuple ds)) ρ1
theorem es_tup {t : TA} {a : AAx} (ha : AS0 K W t a) : ES K W (tTup t) (aTup a) := fun C ρ PX P F H σ Q R h xs k =>
  ha C ρ PX _ F H σ _ R h xs fun vs F1 H1 rs ρ1 R1 s1 o1 p1 => by
    obtain ⟨ds, e, z, p1⟩ := withDs_some p1
    have hd := resAll_ds o1 e
    refine ⟨by rw [hd.length]; exact z, fun p hp => ?_⟩
    obtain ⟨R', s'⟩ := R1.laidF (u := .tup vs) hp
    exact k (.ref p) _ _ (.dat (.tuple ds)) ρ1 R' (s1.trans s') (Dr.tup (.of upd_same) (hd.mono s')) p1
def aLst (a : AAx) : AEx := fun ρ PX P => a ρ PX fun rs ρ1 => withDs (rvDs rs) fun ds => ds.length ≤ sizeLine ∧ P (.own (.ml none ds)) ρ1
theorem es_lst {t : TA} {a : AAx} (ha : AS0 K W t a) : ES K W (tLst t) (aLst a) := fun C ρ PX P F H σ Q R h xs k =>
  ha C ρ PX _ F H σ _ R h xs fun vs F1 H1 rs ρ1 R1 s1 o1 p1 => by
    obtain ⟨ds, e, z, p1⟩ := withDs_some p1
    have hd := resAll_ds o1 e
    refine ⟨by rw [hd.length]; exact z, fun p hp => ?_⟩
    exact (outS R1 (P := P) (Q := Q) fun v' F' H' r' R' s' o' p' => k v' F' H' r' ρ1 R' (s1.trans s') o' p').newL p vs ds hp hd p1
/-! ### built-ins -/
def looks (ρ : List AV) : List RV → Option (List PyData)
  | [] => some []
  | r :: rs => match r.look ρ, looks ρ rs with
    | some d, some ds => some (d :: ds)
    | _, _ => none
abbrev LkAll (K : PySem.W.Frag) (F H : Hp) : List V → List PyData → Prop := Paired fun v d => Lk K F H v d
theorem resAll_lk {C : C0} {F H : Hp} {σ : L2.St} {ρ : List AV} (R : Rep K C F H σ ρ) : ∀ {vs : List V} {rs : List RV} {ds : List PyData}, ResAll K C F H σ ρ vs rs → looks ρ rs = some ds → LkAll K F H vs ds
  | _, _, _, .nil, e => by cases e; exact .nil
  | _, r :: rs, ds, .cons h t, e => by
    unfold looks at e
    cases q1 : r.look ρ with
    | none => rw [q1] at e; cases e
    | some d =>
      cases q : looks ρ rs with
      | none => rw [q1, q] at e; cases e
      | some l =>
        rw [q1, q] at e
        cases e
        exact .cons (h.1.lk R q1) (resAll_lk R t q)
def DCl := List PyData → (Out → Prop) → Prop
def R1S (K : PySem.W.Frag) (r : List V → Hp → VK → Prop) (g : DCl) : Prop := ∀ F H vs ds Pd Q, Same F H → LkAll K F H vs ds → g ds Pd → OutS K F H Pd Q → r vs H Q
def aCB (g : DCl) (a : AAx) : AEx := fun ρ PX P => a ρ PX fun rs ρ1 => withDs (looks ρ1 rs) fun ds => g ds fun o => P o.rv ρ1
theorem es_cb {r : List V → Hp → VK → Prop} {g : DCl} {t : TA} {a : AAx} (hr : R1S K r g) (ha : AS0 K W t a) : ES K W (tCB r t) (aCB g a) := fun C ρ PX P F H σ Q R h xs k =>
  ha C ρ PX _ F H σ _ R h xs fun vs F1 H1 rs ρ1 R1 s1 o1 p1 => by
    obtain ⟨ds, e, p1⟩ := withDs_some p1
    exact hr F1 H1 vs ds _ Q R1.sub (resAll_lk R1 o1 e) p1 (outS R1 fun v' F' H' r' R' s' o' p' => k v' F' H' r' ρ1 R' (s1.trans s') o' p')
/-! ### truth -/
def truD (d : PyData) (k : Bool → Prop) : Prop := match d with
  | .none => k false
  | .bool b => k b
  | .int i => k (i != 0)
  | .str s => s.length ≤ sizeLine ∧ k ((s.length : Int) != 0)
  | .list ds => k (!ds.isEmpty)
  | .tuple ds => k (!ds.isEmpty)
  | .dict es => False
theorem isEmpty_of {F : Hp} {vs : List V} {ds : List PyData} (h : DrAll K F vs ds) : vs.isEmpty = ds.isEmpty := by
  cases h <;> rfl
theorem isEmptyKV {F : Hp} {vs : List (Key × V)} {ds : List (PyData × PyData)} (h : DrKV K F vs ds) : vs.isEmpty = ds.isEmpty := by
  cases h <;> rfl
theorem truD_ok {F H : Hp} {v : V} {d : PyData} {k : Bool → Prop} (s : Same F H) (h : Lk K F H v d) (t : truD d k) : ∃ b, TruV K v H b ∧ k b := by
  cases d with
  | none => rw [h.none]; exact ⟨false, rfl, t⟩
  | bool b => rw [h.bool]; exact ⟨b, rfl, t⟩
  | int i => rw [h.int]; exact ⟨_, rfl, t⟩
  | str i => rw [h.str]; exact ⟨_, ⟨t.1, rfl⟩, t.2⟩
  | list ds =>
    obtain ⟨l, xs, rfl, h1, h2⟩ := h.list s
    exact ⟨_, .inl ⟨xs, .of h1, rfl⟩, by rw [isEmpty_of h2]; exact t⟩
  | tuple ds =>
    obtain ⟨l, xs, rfl, h1, h2⟩ := h.tuple s
    exact ⟨_, .inr (.inl ⟨xs, h1, rfl⟩), by rw [isEmpty_of h2]; exact t⟩
  | dict es => exact t.elim
def tTru (K : PySem.W.Frag) (ta : TE) : TT := fun σ H Q => ta σ H fun x H' => ∃ k, TruV K x H' k ∧ Q k H'
def aTru (a : AEx) : ATx := fun ρ PX P => a ρ PX fun r ρ1 => withD (r.look ρ1) fun d => truD d fun b => P b ρ1
theorem td_tru {ta : TE} {a : AEx} (ha : ES K W ta a) : TSd K W (tTru K ta) (aTru a) := fun C ρ PX P F H σ Q R h xs k =>
  ha C ρ PX _ F H σ _ R h xs fun v F1 H1 r1 ρ1 R1 s1 o1 p1 => by
    obtain ⟨d, ed, p1⟩ := withD_some p1
    obtain ⟨b, hb, p1⟩ := truD_ok R1.sub (o1.lk R1 ed) p1
    exact ⟨b, hb, k b F1 H1 ρ1 R1 s1 p1⟩
def aAnd (a b : ATx) : ATx := fun ρ PX P => a ρ PX fun c ρ1 => if c = true then b ρ1 PX P else P false ρ1
def aOr (a b : ATx) : ATx := fun ρ PX P => a ρ PX fun c ρ1 => if c = true then P true ρ1 else b ρ1 PX P
def aNot (a : ATx) : ATx := fun ρ PX P => a ρ PX fun c ρ1 => P (!c) ρ1
theorem td_and {t u : TT} {a b : ATx} (ha : TSd K W t a) (hb : TSd K W u b) : TSd K W (tAnd t u) (aAnd a b) := fun C ρ PX P F H σ Q R h xs k =>
  ha C ρ PX _ F H σ _ R h xs fun c F1 H1 ρ1 R1 s1 p1 => by
    cases c with
    | true => exact hb C ρ1 PX P F1 H1 σ Q R1 p1 xs fun c F2 H2 ρ2 R2 s2 p2 => k c F2 H2 ρ2 R2 (s1.trans s2) p2
    | false => exact k false F1 H1 ρ1 R1 s1 p1
theorem td_or {t u : TT} {a b : ATx} (ha : TSd K W t a) (hb : TSd K W u b) : TSd K W (tOr t u) (aOr a b) := fun C ρ PX P F H σ Q R h xs k =>
  ha C ρ PX _ F H σ _ R h xs fun c F1 H1 ρ1 R1 s1 p1 => by
    cases c with
    | false => exact hb C ρ1 PX P F1 H1 σ Q R1 p1 xs fun c F2 H2 ρ2 R2 s2 p2 => k c F2 H2 ρ2 R2 (s1.trans s2) p2
    | true => exact k true F1 H1 ρ1 R1 s1 p1
theorem td_not {t : TT} {a : ATx} (ha : TSd K W t a) : TSd K W (tNot t) (aNot a) := fun C ρ PX P F H σ Q R h xs k =>
  ha C ρ PX _ F H σ _ R h xs fun c F1 H1 ρ1 R1 s1 p1 => k (!c) F1 H1 ρ1 R1 s1 p1
/-! and, or, not as values -/
def aAndT (a b : AEx) : AEx := fun ρ PX P => a ρ PX fun r ρ1 => withD (r.hold.look ρ1) fun d => truD d fun c => if c = true then b ρ1 PX P else P r.hold ρ1
def aOrT (a b : AEx) : AEx := fun ρ PX P => a ρ PX fun r ρ1 => withD (r.hold.look ρ1) fun d => truD d fun c => if c = true then P r.hold ρ1 else b ρ1 PX P
def aNotT (a : AEx) : AEx := fun ρ PX P => a ρ PX fun r ρ1 => withD (r.look ρ1) fun d => truD d fun c => P (.dat (.bool (!c))) ρ1
theorem es_andT {ta tb : TE} {a b : AEx} (ha : ES K W ta a) (hb : ES K W tb b) : ES K W (tAndT K ta tb) (aAndT a b) := fun C ρ PX P F H σ Q R h xs k =>
  ha C ρ PX _ F H σ _ R h xs fun v F1 H1 r ρ1 R1 s1 o1 p1 => by
    obtain ⟨F2, R2, s2, o2, n2⟩ := hold_ok R1 o1
    obtain ⟨d, ed, p1⟩ := withD_some p1
    obtain ⟨c, hc, p1⟩ := truD_ok R2.sub (o2.lk R2 ed) p1
    refine ⟨c, hc, ?_⟩
    cases c with
    | true => exact hb C ρ1 PX P F2 H1 σ Q R2 p1 xs fun v F3 H3 r3 ρ3 R3 s3 o3 p3 => k v F3 H3 r3 ρ3 R3 ((s1.trans s2).trans s3) o3 p3
    | false => exact k v F2 H1 r.hold ρ1 R2 (s1.trans s2) o2 p1
theorem es_orT {ta tb : TE} {a b : AEx} (ha : ES K W ta a) (hb : ES K W tb b) : ES K W (tOrT K ta tb) (aOrT a b) := fun C ρ PX P F H σ Q R h xs k =>
  ha C ρ PX _ F H σ _ R h xs fun v F1 H1 r ρ1 R1 s1 o1 p1 => by
    obtain ⟨F2, R2, s2, o2, n2⟩ := hold_ok R1 o1
    obtain ⟨d, ed, p1⟩ := withD_some p1
    obtain ⟨c, hc, p1⟩ := truD_ok R2.sub (o2.lk R2 ed) p1
    refine ⟨c, hc, ?_⟩
    cases c with
    | false => exact hb C ρ1 PX P F2 H1 σ Q R2 p1 xs fun v F3 H3 r3 ρ3 R3 s3 o3 p3 => k v F3 H3 r3 ρ3 R3 ((s1.trans s2).trans s3) o3 p3
    | true => exact k v F2 H1 r.hold ρ1 R2 (s1.trans s2) o2 p1
theorem es_notT {ta : TE} {a : AEx} (ha : ES K W ta a) : ES K W (tNotT K ta) (aNotT a) := fun C ρ PX P F H σ Q R h xs k =>
  ha C ρ PX _ F H σ _ R h xs fun v F1 H1 r ρ1 R1 s1 o1 p1 => by
    obtain ⟨d, ed, p1⟩ := withD_some p1
    obtain ⟨c, hc, p1⟩ := truD_ok R1.sub (o1.lk R1 ed) p1
    exact ⟨c, hc, k (.bl (!c)) F1 H1 (.dat (.bool (!c))) ρ1 R1 s1 (.bl _) p1⟩
end Aq
set_option maxHeartbeats 2000000
namespace Aq
open PySem L2
variable {K : PySem.W.Frag} {W : WX}
/-! ### statements -/
def sNext : ASt := fun D ρ => D.nx ρ
def sSeq (a b : ASt) : ASt := fun D ρ => a { D with nx := b D } ρ
theorem ss_next : SS K W tNext sNext := fun C D ρ F H σ D' R h _ n _ _ _ => n F H σ ρ R (.refl _) h
theorem ss_seq {t u : TS} {a b : ASt} (ha : SS K W t a) (hb : SS K W u b) : SS K W (tSeq t u) (sSeq a b) := fun C D ρ F H σ D' R h xs n bk ct rt =>
  ha C { D with nx := b D } ρ F H σ { D' with nx := u D' } R h xs
    (fun F1 H1 σ1 ρ1 R1 s1 p1 => hb C D ρ1 F1 H1 σ1 D' R1 p1 xs (fun F2 H2 σ2 ρ2 R2 s2 p2 => n F2 H2 σ2 ρ2 R2 (s1.trans s2) p2) (fun F2 H2 σ2 ρ2 R2 s2 p2 => bk F2 H2 σ2 ρ2 R2 (s1.trans s2) p2) (fun F2 H2 σ2 ρ2 R2 s2 p2 => ct F2 H2 σ2 ρ2 R2 (s1.trans s2) p2)
      fun v F2 H2 σ2 ρ2 r2 R2 s2 o2 p2 => rt v F2 H2 σ2 ρ2 r2 R2 (s1.trans s2) o2 p2) bk ct rt
def sDrop (a : AEx) : ASt := fun D ρ => a ρ D.ex fun _ ρ1 => D.nx ρ1
theorem ss_drop {te : TE} {a : AEx} (ha : ES K W te a) : SS K W (tDrop te) (sDrop a) := fun C D ρ F H σ D' R h xs n _ _ _ =>
  ha C ρ D.ex _ F H σ _ R h xs fun v F1 H1 r ρ1 R1 s1 o1 p1 => n F1 H1 σ ρ1 R1 s1 p1
/-- what is handed back: a local list that is borrowed becomes the asker's own -/
def retV (r : RV) (ρ : List AV) (k : RV → List AV → Prop) : Prop := match r with
  | .bor i => (match ρ[i]? with
    | some (.ml none ds) => k (.own (.ml none ds)) (ρ.set i .un)
    | some (.mdk none ds) => k (.own (.mdk none ds)) (ρ.set i .un)
    | _ => False)
  | r => k r ρ
theorem retV_ok {C : C0} {F H : Hp} {σ : L2.St} {ρ : List AV} {v : V} {r : RV} {k : RV → List AV → Prop} (R : Rep K C F H σ ρ) (h : ResOk K C F H σ ρ v r) (p : retV r ρ k) : ∃ r' ρ', Rep K C F H σ ρ' ∧ ResOk K C F H σ ρ' v r' ∧ k r' ρ' := by
  have go : ∀ (i : Nat) (a : AV), σ[i]? = some (some v) → ρ[i]? = some a → a.isOwn = true → (∀ l, Slot K C F H a (some (.ref l)) → C.H0 l = none) → (∃ l, v = .ref l) → k (.own a) (ρ.set i .un) → ∃ r' ρ', Rep K C F H σ ρ' ∧ ResOk K C F H σ ρ' v r' ∧ k r' ρ' := fun i a ev ea m h0 ⟨l, el⟩ q => by
    subst el
    obtain ⟨o, eo, hs⟩ := R.slot i a ea
    rw [ev] at eo
    cases eo
    refine ⟨.own a, _, R.unA (i := i), ⟨l, rfl, m, hs, h0 l hs, fun j ⟨⟨b, eb, mb⟩, q⟩ => ?_⟩, q⟩
    by_cases hn : i = j
    · subst hn
      rw [List.getElem?_set_self (List.getElem?_eq_some_iff.mp ea).1] at eb
      cases eb; cases mb
    · rw [List.getElem?_set_ne hn] at eb
      exact R.apart i j l hn ⟨⟨a, ea, AV.isOwn_mut m⟩, ev⟩ ⟨⟨b, eb, mb⟩, q⟩
  cases r with
  | dat d => exact ⟨_, _, R, h, p⟩
  | own a => exact ⟨_, _, R, h, p⟩
  | tupO ds d => exact ⟨_, _, R, h, p⟩
  | bor i =>
    obtain ⟨ev, _⟩ := h
    have p' : (match ρ[i]? with
      | some (.ml none ds) => k (.own (.ml none ds)) (ρ.set i .un)
      | some (.mdk none ds) => k (.own (.mdk none ds)) (ρ.set i .un)
      | _ => False) := p
    split at p'
    · rename_i ds e
      obtain ⟨o, eo, l, xs, e1, hs⟩ := R.slot i _ e
      rw [ev] at eo
      cases eo
      cases e1
      exact go i _ ev e rfl (fun l' ⟨l2, xs2, e2, _, _, _, h3⟩ => by cases e2; exact h3) ⟨l, rfl⟩ p'
    · rename_i ds e
      obtain ⟨o, eo, l, xs, e1, hs⟩ := R.slot i _ e
      rw [ev] at eo
      cases eo
      cases e1
      exact go i _ ev e rfl (fun l' ⟨l2, xs2, e2, _, _, _, h3⟩ => by cases e2; exact h3) ⟨l, rfl⟩ p'
    · exact p'.elim
def sRet (a : AEx) : ASt := fun D ρ => a ρ D.ex fun r ρ1 => retV r ρ1 D.rt
theorem ss_ret {te : TE} {a : AEx} (ha : ES K W te a) : SS K W (tRet te) (sRet a) := fun C D ρ F H σ D' R h xs _ _ _ rt =>
  ha C ρ D.ex _ F H σ _ R h xs fun v F1 H1 r ρ1 R1 s1 o1 p1 => by
    obtain ⟨r', ρ', R', o', p'⟩ := retV_ok R1 o1 p1
    exact rt v F1 H1 σ ρ' r' R' s1 o' p'
def sRetN : ASt := fun D ρ => D.rt (.dat .none) ρ
theorem ss_retN : SS K W tRetN sRetN := fun C D ρ F H σ D' R h xs _ _ _ rt => rt .non F H σ ρ (.dat .none) R (.refl _) Dr.non h
def sIf (c : ATx) (a b : ASt) : ASt := fun D ρ => c ρ D.ex fun k ρ1 => if k = true then a D ρ1 else b D ρ1
theorem ss_if {c : TT} {t u : TS} {cc : ATx} {a b : ASt} (hc : TSd K W c cc) (ha : SS K W t a) (hb : SS K W u b) : SS K W (tIfS c t u) (sIf cc a b) := fun C D ρ F H σ D' R h xs n bk ct rt =>
  hc C ρ D.ex _ F H σ _ R h xs fun k F1 H1 ρ1 R1 s1 p1 => by
    cases k with
    | true => exact ha C D ρ1 F1 H1 σ D' R1 p1 xs (fun F2 H2 σ2 ρ2 R2 s2 p2 => n F2 H2 σ2 ρ2 R2 (s1.trans s2) p2) (fun F2 H2 σ2 ρ2 R2 s2 p2 => bk F2 H2 σ2 ρ2 R2 (s1.trans s2) p2) (fun F2 H2 σ2 ρ2 R2 s2 p2 => ct F2 H2 σ2 ρ2 R2 (s1.trans s2) p2) fun v F2 H2 σ2 ρ2 r2 R2 s2 o2 p2 => rt v F2 H2 σ2 ρ2 r2 R2 (s1.trans s2) o2 p2
    | false => exact hb C D ρ1 F1 H1 σ D' R1 p1 xs (fun F2 H2 σ2 ρ2 R2 s2 p2 => n F2 H2 σ2 ρ2 R2 (s1.trans s2) p2) (fun F2 H2 σ2 ρ2 R2 s2 p2 => bk F2 H2 σ2 ρ2 R2 (s1.trans s2) p2) (fun F2 H2 σ2 ρ2 R2 s2 p2 => ct F2 H2 σ2 ρ2 R2 (s1.trans s2) p2) fun v F2 H2 σ2 ρ2 r2 R2 s2 o2 p2 => rt v F2 H2 σ2 ρ2 r2 R2 (s1.trans s2) o2 p2
def sBreak : ASt := fun D ρ => D.bk ρ
def sCont : ASt := fun D ρ => D.ct ρ
theorem ss_break : SS K W tBreak sBreak := fun C D ρ F H σ D' R h _ _ b _ _ => b F H σ ρ R (.refl _) h
theorem ss_cont : SS K W tCont sCont := fun C D ρ F H σ D' R h _ _ _ c _ => c F H σ ρ R (.refl _) h
/-! x = e -/
def setR (i : Nat) (r : RV) (ρ : List AV) (k : List AV → Prop) : Prop := match r with
  | .dat d => k (ρ.set i (.dat d))
  | .own a => k (ρ.set i a)
  | .bor _ => False
  | .tupO _ _ => False
def sSet (i : Nat) (a : AEx) : ASt := fun D ρ => a ρ D.ex fun r ρ1 => setR i r ρ1 D.nx
theorem ss_set {i : Nat} {te : TE} {a : AEx} (ha : ES K W te a) : SS K W (tAsg te (gName i)) (sSet i a) := fun C D ρ F H σ D' R h xs n _ _ _ =>
  ha C ρ D.ex _ F H σ _ R h xs fun v F1 H1 r ρ1 R1 s1 o1 p1 => by
    cases r with
    | dat d => exact n F1 H1 _ _ (R1.setD o1) s1 p1
    | own a =>
      obtain ⟨l, rfl, m, hs, h0, hm⟩ := o1
      exact n F1 H1 _ _ (R1.setM hs hm) s1 p1
    | bor j => exact p1.elim
    | tupO _ _ => exact p1.elim
/-! targets of data -/
abbrev ATg := PyData → List AV → (List AV → Prop) → Prop
abbrev ATgs := List PyData → List AV → (List AV → Prop) → Prop
def OnlyAt (js : List Nat) (σ σ' : L2.St) : Prop := σ'.length = σ.length ∧ ∀ i, i ∉ js → σ'[i]? = σ[i]?
def GS (K : PySem.W.Frag) (js : List Nat) (t : TG) (g : ATg) : Prop := ∀ C ρ F H σ v d P Q, Rep K C F H σ ρ → Dr K F v d → g d ρ P → (∀ σ' ρ', OnlyAt js σ σ' → Rep K C F H σ' ρ' → P ρ' → Q σ' H) → t v σ H Q
def GSs (K : PySem.W.Frag) (js : List Nat) (t : TGs) (g : ATgs) : Prop := ∀ C ρ F H σ vs ds P Q, Rep K C F H σ ρ → DrAll K F vs ds → g ds ρ P → (∀ σ' ρ', OnlyAt js σ σ' → Rep K C F H σ' ρ' → P ρ' → Q σ' H) → t vs σ H Q
def gN (i : Nat) : ATg := fun d ρ k => k (ρ.set i (.dat d))
def gsNil : ATgs := fun ds ρ k => match ds with
  | [] => k ρ
  | _ => False
def gsCons (t : ATg) (u : ATgs) : ATgs := fun ds ρ k => match ds with
  | d :: ds => t d ρ fun ρ1 => u ds ρ1 k
  | [] => False
def gT (n : Nat) (t : ATgs) : ATg := fun d ρ k => match d with
  | .tuple ds => ds.length = n ∧ t ds ρ k
  | _ => False
theorem gs_name {i : Nat} : GS K [i] (gName i) (gN i) := fun C ρ F H σ v d P Q R hd h k => k _ _ ⟨List.length_set, fun j hj => List.getElem?_set_ne (fun e => hj (by simp [e]))⟩ (R.setD hd) h
theorem gs_nil : GSs K [] gNil gsNil := fun C ρ F H σ vs ds P Q R hd h k => by
  cases hd with
  | nil => exact ⟨rfl, k _ _ ⟨rfl, fun _ _ => rfl⟩ R h⟩
  | cons _ _ => exact h.elim
theorem gs_cons {js ks : List Nat} {t : TG} {u : TGs} {g : ATg} {gs : ATgs} (h1 : GS K js t g) (h2 : GSs K ks u gs) : GSs K (js ++ ks) (gCons t u) (gsCons g gs) := fun C ρ F H σ vs ds P Q R hd h k => by
  cases hd with
  | nil => exact h.elim
  | cons d1 d2 => exact ⟨_, _, rfl, h1 C ρ F H σ _ _ _ _ R d1 h fun σ1 ρ1 o1 R1 p1 => h2 C ρ1 F H σ1 _ _ P Q R1 d2 p1 fun σ2 ρ2 o2 R2 p2 =>
      k σ2 ρ2 ⟨o2.1.trans o1.1, fun i hi => (o2.2 i fun z => hi (List.mem_append_right _ z)).trans (o1.2 i fun z => hi (List.mem_append_left _ z))⟩ R2 p2⟩
theorem gs_tup {js : List Nat} {n : Nat} {t : TGs} {g : ATgs} (h1 : GSs K js t g) : GS K js (gTup K n t) (gT n g) := fun C ρ F H σ v d P Q R hd h k => by
  cases d with
  | tuple ds =>
    obtain ⟨e, h⟩ := h
    cases hd with
    | tup q1 q2 => exact ⟨_, _, rfl, sameT R.sub q1, by rw [q2.length]; exact e, h1 C ρ F H σ _ _ P Q R q2 h k⟩
  | _ => exact h.elim
def sAsg (a : AEx) (g : ATg) : ASt := fun D ρ => a ρ D.ex fun r ρ1 => match r.hold with
  | .dat d => g d ρ1 D.nx
  | _ => False
theorem ss_asg {js : List Nat} {te : TE} {t : TG} {a : AEx} {g : ATg} (ha : ES K W te a) (hg : GS K js t g) : SS K W (tAsg te t) (sAsg a g) := fun C D ρ F H σ D' R h xs n _ _ _ =>
  ha C ρ D.ex _ F H σ _ R h xs fun v F1 H1 r ρ1 R1 s1 o1 p1 => by
    obtain ⟨F2, R2, s2, o2, n2⟩ := hold_ok R1 o1
    cases e : r.hold with
    | dat d =>
      rw [e] at o2
      simp only [e] at p1
      exact hg C ρ1 F2 H1 σ v d D.nx _ R2 o2 p1 fun σ3 ρ3 _ R3 p3 => n F2 H1 σ3 ρ3 R3 (s1.trans s2) p3
    | bor j => simp only [e] at p1
    | own j => simp only [e] at p1
    | tupO _ _ => simp only [e] at p1
/-- a, b = x, y -/
def sPar (i j : Nat) (a : AAx) : ASt := fun D ρ => a ρ D.ex fun rs ρ1 => withDs (rvDs rs) fun ds => match ds with
  | [d, e] => D.nx ((ρ1.set i (.dat d)).set j (.dat e))
  | _ => False
theorem ss_par {i j : Nat} {t : TA} {a : AAx} (ha : AS0 K W t a) : SS K W (tPar i j t) (sPar i j a) := fun C D ρ F H σ D' R h xs n _ _ _ =>
  ha C ρ D.ex _ F H σ _ R h xs fun vs F1 H1 rs ρ1 R1 s1 o1 p1 => by
    obtain ⟨ds, e, p1⟩ := withDs_some p1
    have hd := resAll_ds o1 e
    match ds, hd, p1 with
    | [d, e'], .cons h1 (.cons h2 .nil), p1 => exact ⟨_, _, rfl, n F1 H1 _ _ ((R1.setD h1).setD h2) s1 p1⟩
    | [], _, p1 => exact p1.elim
    | [_], _, p1 => exact p1.elim
    | _ :: _ :: _ :: _, _, p1 => exact p1.elim
/-! ### loops -/
def sWhile (c : ATx) (b : ASt) : ASt := fun D ρ => ∃ I : Nat → List AV → Prop, (∃ m, I m ρ) ∧ ∀ m ρ, I m ρ → c ρ D.ex fun k ρ1 => if k = true then b { D with nx := fun ρ' => ∃ m', m' < m ∧ I m' ρ', ct := fun ρ' => ∃ m', m' < m ∧ I m' ρ', bk := D.nx } ρ1 else D.nx ρ1
theorem ss_while {c : TT} {t : TS} {cc : ATx} {b : ASt} (hc : TSd K W c cc) (hb : SS K W t b) : SS K W (tWhile c t) (sWhile cc b) := fun C D ρ F H σ D' R h xs n bk ct rt => by
  obtain ⟨I, ⟨m0, i0⟩, step⟩ := h
  refine ⟨fun m σ' H' => ∃ F' ρ', Rep K C F' H' σ' ρ' ∧ Same F F' ∧ I m ρ', ⟨m0, F, ρ, R, .refl _, i0⟩, fun m σ1 H1 ⟨F1, ρ1, R1, s1, i1⟩ => ?_⟩
  refine hc C ρ1 D.ex _ F1 H1 σ1 _ R1 (step m ρ1 i1) xs fun k F2 H2 ρ2 R2 s2 p2 => ?_
  cases k with
  | true =>
    refine ⟨fun σ' H' => ∃ F' ρ', Rep K C F' H' σ' ρ' ∧ Same F F' ∧ ∃ m', m' < m ∧ I m' ρ', fun σ' H' ⟨F', ρ', R', s', m', lt, i'⟩ => ⟨m', lt, F', ρ', R', s', i'⟩, ?_⟩
    have s12 := s1.trans s2
    exact hb C _ ρ2 F2 H2 σ1 _ R2 p2 xs (fun F3 H3 σ3 ρ3 R3 s3 p3 => ⟨F3, ρ3, R3, s12.trans s3, p3⟩) (fun F3 H3 σ3 ρ3 R3 s3 p3 => n F3 H3 σ3 ρ3 R3 (s12.trans s3) p3) (fun F3 H3 σ3 ρ3 R3 s3 p3 => ⟨F3, ρ3, R3, s12.trans s3, p3⟩)
      fun v F3 H3 σ3 ρ3 r3 R3 s3 o3 p3 => rt v F3 H3 σ3 ρ3 r3 R3 (s12.trans s3) o3 p3
  | false => exact n F2 H2 σ1 ρ2 R2 (s1.trans s2) p2
/-- a walk over data -/
structure Wk (K : PySem.W.Frag) (F : Hp) (J : It) (ds : List PyData) : Prop where
  go : ∀ F' H' i, Same F F' → Same F' H' → i < ds.length → J.go i H'
  stop : ∀ F' H' i, Same F F' → Same F' H' → ds.length ≤ i → J.stop i H'
  yld : ∀ C F' H' σ ρ i x H3 d, Rep K C F' H' σ ρ → Same F F' → ds[i]? = some d → J.yld i H' x H3 → ∃ F3, Rep K C F3 H3 σ ρ ∧ Same F' F3 ∧ Dr K F3 x d ∧ Same H' H3
abbrev AIt := List AV → PXT → (List PyData → List AV → Prop) → Prop
def IS (K : PySem.W.Frag) (W : WX) (wi : TI) (ai : AIt) : Prop := ∀ C ρ PX P F H σ R', Rep K C F H σ ρ → ai ρ PX P → XS K C W PX → (∀ J F' H' ds ρ', Rep K C F' H' σ ρ' → Same F F' → Wk K F' J ds → P ds ρ' → R' J H') → wi σ H R'
def forGo (g : ATg) (b : ASt) (D : AEnds) : List PyData → List AV → Prop
  | [], ρ => D.nx ρ
  | d :: ds, ρ => g d ρ fun ρ1 => b { D with nx := forGo g b D ds, ct := forGo g b D ds, bk := D.nx } ρ1
def sFor (ai : AIt) (g : ATg) (b : ASt) : ASt := fun D ρ => ai ρ D.ex fun ds ρ1 => forGo g b D ds ρ1
theorem ss_for {js : List Nat} {wi : TI} {t : TG} {tb : TS} {ai : AIt} {g : ATg} {b : ASt} (hi : IS K W wi ai) (hg : GS K js t g) (hb : SS K W tb b) : SS K W (tFor wi t tb) (sFor ai g b) := fun C D ρ F H σ D' R h xs n bk ct rt =>
  hi C ρ D.ex _ F H σ _ R h xs fun J F1 H1 ds ρ1 R1 s1 wk p1 => by
    refine ⟨fun i m σ' H' => ∃ F' ρ', Rep K C F' H' σ' ρ' ∧ Same F1 F' ∧ m = ds.length - i ∧ i ≤ ds.length ∧ forGo g b D (ds.drop i) ρ', ⟨_, F1, ρ1, R1, .refl _, rfl, Nat.zero_le _, p1⟩, ?_⟩
    rintro i m σ2 H2 ⟨F2, ρ2, R2, s2, rfl, hle, p2⟩
    by_cases hlt : i < ds.length
    · have e1 : ds.drop i = ds[i] :: ds.drop (i + 1) := List.drop_eq_getElem_cons hlt
      rw [e1] at p2
      refine .inr ⟨wk.go F2 H2 i s2 R2.sub hlt, fun σ' H' => ∃ F' ρ', Rep K C F' H' σ' ρ' ∧ Same F1 F' ∧ forGo g b D (ds.drop (i + 1)) ρ', fun σ' H' ⟨F', ρ', R', s', p'⟩ => ⟨ds.length - (i + 1), by omega, F', ρ', R', s', rfl, hlt, p'⟩, fun x H3 hy => ?_⟩
      obtain ⟨F3, R3, s3, hd, _⟩ := wk.yld C F2 H2 σ2 ρ2 i x H3 ds[i] R2 s2 (List.getElem?_eq_getElem hlt) hy
      refine hg C ρ2 F3 H3 σ2 x ds[i] _ _ R3 hd p2 fun σ4 ρ4 _ R4 p4 => ?_
      have s13 := s2.trans s3
      exact hb C _ ρ4 F3 H3 σ4 _ R4 p4 xs (fun F5 H5 σ5 ρ5 R5 s5 p5 => ⟨F5, ρ5, R5, s13.trans s5, p5⟩) (fun F5 H5 σ5 ρ5 R5 s5 p5 => n F5 H5 σ5 ρ5 R5 (s1.trans (s13.trans s5)) p5) (fun F5 H5 σ5 ρ5 R5 s5 p5 => ⟨F5, ρ5, R5, s13.trans s5, p5⟩)
        fun v F5 H5 σ5 ρ5 r5 R5 s5 o5 p5 => rt v F5 H5 σ5 ρ5 r5 R5 (s1.trans (s13.trans s5)) o5 p5
    · have e : ds.drop i = [] := List.drop_eq_nil_of_le (by omega)
      rw [e] at p2
      exact .inl ⟨wk.stop F2 H2 i s2 R2.sub (by omega), n F2 H2 σ2 ρ2 R2 (s1.trans s2) p2⟩
/-! what is walked -/
def iSeq (K : PySem.W.Frag) (tl : TE) : TI := fun σ H R => tl σ H fun x H1 => ∃ a, x = .ref a ∧ (((∃ xs, SqL K H1 a xs) ∧ R (Itl K a) H1) ∨ ((∃ xs, SqT K H1 a xs) ∧ R (Itt K a) H1))
def aSeqI (a : AEx) : AIt := fun ρ PX P => a ρ PX fun r ρ1 => match r.hold with
  | .dat (.list ds) => P ds ρ1
  | .dat (.tuple ds) => P ds ρ1
  | _ => False
theorem sqL_inj {F H : Hp} {a : Addr} {xs ys : List V} (h : H a = some (.lst xs)) (hn : K.lookup a = none ∨ True) (h2 : Rd H a (.lst ys)) : xs = ys := by
  rcases h2 with h2 | ⟨o, h2⟩
  · rw [h] at h2; cases h2; rfl
  · rw [h] at h2; cases h2
theorem wk_list {F : Hp} {a : Addr} {xs : List V} {ds : List PyData} (h : F a = some (.lst xs)) (hd : DrAll K F xs ds) : Wk K F (Itl K a) ds where
  go := fun F' H' i s s' hi => by
    have hi' : i < xs.length := by rw [hd.length]; exact hi
    exact ⟨xs, xs[i], .of (s' _ _ (s _ _ h)), List.getElem?_eq_getElem hi'⟩
  stop := fun F' H' i s s' hi => ⟨xs, .of (s' _ _ (s _ _ h)), by rw [hd.length]; exact hi⟩
  yld := fun C F' H' σ ρ i x H3 d R s e ⟨e3, hx⟩ => by
    subst e3
    have q := hx xs (.of (R.sub _ _ (s _ _ h)))
    obtain ⟨v, ev, hv⟩ := hd.at e
    rw [q] at ev
    cases ev
    exact ⟨F', R, .refl _, hv.mono s, .refl _⟩
theorem wk_tup {F : Hp} {a : Addr} {xs : List V} {ds : List PyData} (h : SqT K F a xs) (hd : DrAll K F xs ds) : Wk K F (Itt K a) ds where
  go := fun F' H' i s s' hi => by
    have hi' : i < xs.length := by rw [hd.length]; exact hi
    exact ⟨xs, xs[i], sameT (s.trans s') h, List.getElem?_eq_getElem hi'⟩
  stop := fun F' H' i s s' hi => ⟨xs, sameT (s.trans s') h, by rw [hd.length]; exact hi⟩
  yld := fun C F' H' σ ρ i x H3 d R s e ⟨e3, hx⟩ => by
    subst e3
    have q := hx xs (sameT (s.trans R.sub) h)
    obtain ⟨v, ev, hv⟩ := hd.at e
    rw [q] at ev
    cases ev
    exact ⟨F', R, .refl _, hv.mono s, .refl _⟩
theorem is_seq {tl : TE} {a : AEx} (ha : ES K W tl a) : IS K W (iSeq K tl) (aSeqI a) := fun C ρ PX P F H σ R' R h xs k =>
  ha C ρ PX _ F H σ _ R h xs fun v F1 H1 r ρ1 R1 s1 o1 p1 => by
    obtain ⟨F2, R2, s2, o2, n2⟩ := hold_ok R1 o1
    cases e : r.hold with
    | dat d =>
      rw [e] at o2
      simp only [e] at p1
      cases d with
      | list ds =>
        cases o2 with
        | lst q1 q2 => exact ⟨_, rfl, .inl ⟨⟨_, .of (R2.sub _ _ q1)⟩, k _ F2 H1 ds ρ1 R2 (s1.trans s2) (wk_list q1 q2) p1⟩⟩
      | tuple ds =>
        cases o2 with
        | tup q1 q2 => exact ⟨_, rfl, .inr ⟨⟨_, sameT R2.sub q1⟩, k _ F2 H1 ds ρ1 R2 (s1.trans s2) (wk_tup q1 q2) p1⟩⟩
      | _ => exact p1.elim
    | bor j => simp only [e] at p1
    | own j => simp only [e] at p1
    | tupO _ _ => simp only [e] at p1
/-- range(n), range(m, n) -/
def rng (lo : Int) (n : Nat) : List PyData := (List.range n).map fun (i : Nat) => PyData.int (lo + (i : Int))
theorem wk_rng {F : Hp} {lo : Int} {n : Nat} : Wk K F (Itr lo n) (rng lo n) where
  go := fun F' H' i s s' hi => by
    have q : i < n := by simpa [rng] using hi
    exact q
  stop := fun F' H' i s s' hi => by
    have q : n ≤ i := by simpa [rng] using hi
    exact q
  yld := fun C F' H' σ ρ i x H3 d R s e ⟨e3, hx⟩ => by
    subst e3 hx
    have q : d = .int (lo + (i : Int)) := by
      unfold rng at e
      rw [List.getElem?_map] at e
      cases z : (List.range n)[i]? with
      | none => rw [z] at e; cases e
      | some j =>
        rw [z] at e
        obtain ⟨hj, ej⟩ := List.getElem?_eq_some_iff.mp z
        rw [List.getElem_range] at ej
        subst ej
        exact (Option.some.inj e).symm
    subst q
    exact ⟨F', R, .refl _, .int _, .refl _⟩
def aRng1 (a : AAx) : AIt := fun ρ PX P => a ρ PX fun rs ρ1 => withDs (rvDs rs) fun ds => match ds with
  | [.int j] => (-(2 ^ 62) ≤ j ∧ j < 2 ^ 62) ∧ P (rng 0 j.toNat) ρ1
  | _ => False
def aRng2 (a : AAx) : AIt := fun ρ PX P => a ρ PX fun rs ρ1 => withDs (rvDs rs) fun ds => match ds with
  | [.int i, .int j] => (-(2 ^ 62) ≤ i ∧ i < 2 ^ 62 ∧ -(2 ^ 62) ≤ j ∧ j < 2 ^ 62) ∧ P (rng i (j - i).toNat) ρ1
  | _ => False
theorem is_rng1 {t : TA} {a : AAx} (ha : AS0 K W t a) : IS K W (iRng1 t) (aRng1 a) := fun C ρ PX P F H σ R' R h xs k =>
  ha C ρ PX _ F H σ _ R h xs fun vs F1 H1 rs ρ1 R1 s1 o1 p1 => by
    obtain ⟨ds, e, p1⟩ := withDs_some p1
    have hd := resAll_ds o1 e
    split at p1
    · rename_i j
      cases hd with
      | cons h1 h2 =>
        cases h1
        cases h2
        exact ⟨j, rfl, p1.1.1, p1.1.2, k _ F1 H1 _ ρ1 R1 s1 wk_rng p1.2⟩
    · exact p1.elim
theorem is_rng2 {t : TA} {a : AAx} (ha : AS0 K W t a) : IS K W (iRng2 t) (aRng2 a) := fun C ρ PX P F H σ R' R h xs k =>
  ha C ρ PX _ F H σ _ R h xs fun vs F1 H1 rs ρ1 R1 s1 o1 p1 => by
    obtain ⟨ds, e, p1⟩ := withDs_some p1
    have hd := resAll_ds o1 e
    split at p1
    · rename_i i j
      cases hd with
      | cons h1 h2 =>
        cases h2 with
        | cons h2 h3 =>
          cases h1
          cases h2
          cases h3
          exact ⟨i, j, rfl, p1.1, k _ F1 H1 _ ρ1 R1 s1 wk_rng p1.2⟩
    · exact p1.elim
end Aq
set_option maxHeartbeats 2000000
namespace Aq
open PySem L2
variable {K : PySem.W.Frag} {W : WX}
/-! ### comprehensions -/
def wipeA (ρ : List AV) : List Nat → List AV
  | [] => ρ
  | v :: vs => (wipeA ρ vs).set v .un
theorem wipeA_len (ρ : List AV) : ∀ vs, (wipeA ρ vs).length = ρ.length
  | [] => rfl
  | v :: vs => by unfold wipeA; rw [List.length_set, wipeA_len ρ vs]
theorem wipeA_un (ρ : List AV) : ∀ (vs : List Nat) (i : Nat) (a : AV), i ∈ vs → (wipeA ρ vs)[i]? = some a → a = .un
  | [], i, a, h, _ => by simp at h
  | v :: vs, i, a, h, e => by
    unfold wipeA at e
    by_cases hv : v = i
    · subst hv
      by_cases hl : v < (wipeA ρ vs).length
      · rw [List.getElem?_set_self hl] at e; exact (Option.some.inj e).symm
      · rw [List.getElem?_eq_none (by rw [List.length_set]; omega)] at e; cases e
    · rw [List.getElem?_set_ne hv] at e
      refine wipeA_un ρ vs i a ?_ e
      rcases List.mem_cons.mp h with z | z
      · exact absurd z.symm hv
      · exact z
theorem Rep.wiped {C : C0} {F H : Hp} {σ : L2.St} {ρ : List AV} (R : Rep K C F H σ ρ) : ∀ vs, Rep K C F H (wipe σ vs) (wipeA ρ vs)
  | [] => R
  | v :: vs => (Rep.wiped R vs).forget
theorem wipe_at {σ : L2.St} : ∀ {vs : List Nat} {i : Nat}, i ∉ vs → (wipe σ vs)[i]? = σ[i]?
  | [], _, _ => rfl
  | v :: vs, i, h => by
    unfold wipe
    have hv : v ≠ i := fun z => h (by rw [z]; exact List.mem_cons_self)
    rw [List.getElem?_set_ne hv]
    exact wipe_at fun z => h (List.mem_cons_of_mem _ z)
theorem wipe_none {σ : L2.St} : ∀ {vs : List Nat} {i : Nat}, i ∈ vs → i < σ.length → (wipe σ vs)[i]? = some none
  | [], _, h, _ => by simp at h
  | v :: vs, i, h, hl => by
    unfold wipe
    by_cases hv : v = i
    · subst hv
      rw [List.getElem?_set_self (by rw [wipe_length]; exact hl)]
    · rw [List.getElem?_set_ne hv]
      rcases List.mem_cons.mp h with z | z
      · exact absurd z.symm hv
      · exact wipe_none z hl
theorem wipe_only {js vs : List Nat} {σ σ' : L2.St} (o : OnlyAt js σ σ') (h : ∀ j ∈ js, j ∈ vs) : wipe σ' vs = wipe σ vs := by
  refine List.ext_getElem? fun i => ?_
  by_cases hi : i ∈ vs
  · by_cases hl : i < σ.length
    · rw [wipe_none hi (by rw [o.1]; exact hl), wipe_none hi hl]
    · rw [List.getElem?_eq_none (by rw [wipe_length, o.1]; omega), List.getElem?_eq_none (by rw [wipe_length]; omega)]
  · rw [wipe_at hi, wipe_at hi]
    exact o.2 i fun z => hi (h i z)
theorem wipe_wipe {σ : L2.St} {vs : List Nat} : wipe (wipe σ vs) vs = wipe σ vs := by
  refine List.ext_getElem? fun i => ?_
  by_cases hi : i ∈ vs
  · by_cases hl : i < σ.length
    · rw [wipe_none hi (by rw [wipe_length]; exact hl), wipe_none hi hl]
    · rw [List.getElem?_eq_none (by rw [wipe_length, wipe_length]; omega), List.getElem?_eq_none (by rw [wipe_length]; omega)]
  · rw [wipe_at hi]
theorem Rep.unwipe {C : C0} {F H : Hp} {σ : L2.St} {ρ : List AV} {vs : List Nat} (R : Rep K C F H (wipe σ vs) ρ) (hu : ∀ i a, i ∈ vs → ρ[i]? = some a → a = .un) : Rep K C F H σ ρ := by
  have hl : σ.length = ρ.length := by rw [← R.len, wipe_length]
  refine ⟨hl, R.sub, R.gr, R.keep, R.there, R.nw, R.mf, R.tp, fun i a e => ?_, fun i j l hne h1 h2 => ?_⟩
  · by_cases hi : i ∈ vs
    · have := hu i a hi e
      subst this
      have hlt : i < σ.length := by rw [hl]; exact (List.getElem?_eq_some_iff.mp e).1
      exact ⟨_, List.getElem?_eq_getElem hlt, trivial⟩
    · obtain ⟨o, eo, hs⟩ := R.slot i a e
      rw [wipe_at hi] at eo
      exact ⟨o, eo, hs⟩
  · have back : ∀ n l', MutAt σ ρ n l' → MutAt (wipe σ vs) ρ n l' := fun n l' ⟨⟨b, e, m⟩, q⟩ => by
      by_cases hn : n ∈ vs
      · have := hu n b hn e
        subst this
        cases m
      · exact ⟨⟨b, e, m⟩, by rw [wipe_at hn]; exact q⟩
    exact R.apart i j l hne (back i l h1) (back j l h2)
/-- an object that nobody here knows changes -/
theorem Rep.outside {C : C0} {F H : Hp} {σ : L2.St} {ρ : List AV} {D : Addr} {o : HO} (R : Rep K C F H σ ρ) (hF : F D = none) (h0 : C.H0 D = none) (hm : ∀ i, MutAt σ ρ i D → False) (hu : ∀ xs, o ≠ .tup xs := by intro _ z; cases z) : Rep K C F (upd H D o) σ ρ := by
  have tpn : ∀ q xs, upd H D o q = some (.tup xs) → F q = some (.tup xs) := fun q xs e => by
    by_cases hq : q = D
    · subst hq; rw [upd_same] at e; exact (hu xs (Option.some.inj e)).elim
    · rw [upd_ne hq] at e; exact R.tp q xs e
  refine ⟨R.len, fun b u e => ?_, R.gr, fun b u e n => ?_, fun b u e => ?_, R.nw, R.mf, tpn, fun i a e => ?_, R.apart⟩
  · rw [upd_ne (ne_of_none e hF)]; exact R.sub _ _ e
  · rw [upd_ne (ne_of_none e h0)]; exact R.keep b u e n
  · obtain ⟨u', e'⟩ := R.there b u e
    exact ⟨u', by rw [upd_ne (ne_of_none e h0)]; exact e'⟩
  · obtain ⟨w, eo, hs⟩ := R.slot i a e
    refine ⟨w, eo, hs.mono (.refl _) (fun l u e1 m h => ?_) fun l e1 m h => h⟩
    have hl : l ≠ D := fun z => by
      subst z
      exact hm i ⟨⟨a, e, m⟩, by rw [eo, e1]⟩
    rw [upd_ne hl]; exact h
def lcGo (vs : List Nat) (g : ATg) (tt : ATx) (a : AEx) (P : RV → List AV → Prop) : List PyData → List PyData → List AV → Prop
  | [], acc, ρ => P (.own (.ml none acc)) ρ
  | d :: ds, acc, ρ => g d ρ fun ρ1 => tt ρ1 X0 fun k ρ2 => if k = true then a ρ2 X0 fun r ρ3 => (match r.hold with
      | .dat e => acc.length < sizeLine ∧ lcGo vs g tt a P ds (acc ++ [e]) (wipeA ρ3 vs)
      | _ => False) else lcGo vs g tt a P ds acc (wipeA ρ2 vs)
def aLc (ai : AIt) (vs : List Nat) (g : ATg) (tt : ATx) (a : AEx) : AEx := fun ρ PX P => ai ρ PX fun ds ρ1 => lcGo vs g tt a P ds [] (wipeA ρ1 vs)
def aYes : ATx := fun ρ _ P => P true ρ
theorem td_yes : TSd K W tYes aYes := fun C ρ PX P F H σ Q R h _ k => k true F H ρ R (.refl _) h
theorem es_lc {js vs : List Nat} {wi : TI} {t : TG} {tt : TT} {te : TE} {ai : AIt} {g : ATg} {ta : ATx} {a : AEx} (hi : IS K W wi ai) (hg : GS K js t g) (ht : TSd K W0 tt ta) (he : ES K W0 te a) (hj : ∀ j ∈ js, j ∈ vs) : ES K W (tLc wi t tt te vs) (aLc ai vs g ta a) := fun C ρ PX P F H σ Q R h xs k =>
  hi C ρ PX _ F H σ _ R h xs fun J F1 H1 ds ρ1 R1 s1 wk p1 => by
    intro D hD
    have h0 : C.H0 D = none := by
      cases q : C.H0 D with
      | none => rfl
      | some o => obtain ⟨o', e⟩ := R1.there D o q; rw [e] at hD; cases hD
    have hM : D ∉ C.M0 := fun z => by
      obtain ⟨_, u, e⟩ := R1.mf D z
      rw [h0] at e; cases e
    obtain ⟨R1', hF1, _, hm1⟩ := R1.laidM (u := .lst []) hD
    have hF0 : C.F0 D = none := R1.gr.free hF1
    refine ⟨fun i m H' => ∃ F' ρ' accV acc, Rep K C F' H' (wipe σ vs) ρ' ∧ Same F1 F' ∧ m = ds.length - i ∧ i ≤ ds.length ∧ (∀ i a, i ∈ vs → ρ'[i]? = some a → a = .un) ∧ H' D = some (.lst accV) ∧ F' D = none ∧ (∀ j, MutAt (wipe σ vs) ρ' j D → False) ∧ DrAll K F' accV acc ∧ lcGo vs g ta a P (ds.drop i) acc ρ', ?_, ?_⟩
    · refine ⟨_, F1, wipeA ρ1 vs, [], [], R1'.wiped vs, .refl _, rfl, Nat.zero_le _, wipeA_un ρ1 vs, upd_same, hF1, fun j ⟨⟨b, eb, mb⟩, q⟩ => ?_, .nil, p1⟩
      have hjv : j ∉ vs := fun z => by
        have := wipeA_un ρ1 vs j b z eb
        subst this
        cases mb
      obtain ⟨o, eo, hs⟩ := (R1.wiped vs).slot j b eb
      rw [q] at eo
      cases eo
      obtain ⟨_, u, e⟩ := hs.mutF mb
      rw [hD] at e; cases e
    · rintro i m H2 ⟨F2, ρ2, accV, acc, R2, s2, rfl, hle, hu2, hD2, hF2, hm2, hd2, p2⟩
      by_cases hlt : i < ds.length
      · have e1 : ds.drop i = ds[i] :: ds.drop (i + 1) := List.drop_eq_getElem_cons hlt
        rw [e1] at p2
        have G2 := R2.guard (o := .lst accV) hD2 hF2 h0 hm2
        refine .inr ⟨wk.go F2 H2 i s2 R2.sub hlt, fun H' => ∃ F' ρ' accV acc, Rep K C F' H' (wipe σ vs) ρ' ∧ Same F1 F' ∧ (∀ i a, i ∈ vs → ρ'[i]? = some a → a = .un) ∧ H' D = some (.lst accV) ∧ F' D = none ∧ (∀ j, MutAt (wipe σ vs) ρ' j D → False) ∧ DrAll K F' accV acc ∧ lcGo vs g ta a P (ds.drop (i + 1)) acc ρ',
          fun H' ⟨F', ρ', accV, acc, R', s', hu', hD', hF', hm', hd', p'⟩ => ⟨ds.length - (i + 1), by omega, F', ρ', accV, acc, R', s', rfl, hlt, hu', hD', hF', hm', hd', p'⟩, fun x H3 hy => ?_⟩
        obtain ⟨F3, R3, s3, hd3, _⟩ := wk.yld _ F2 H2 _ ρ2 i x H3 ds[i] G2 s2 (List.getElem?_eq_getElem hlt) hy
        refine hg _ ρ2 F3 H3 _ x ds[i] _ _ R3 hd3 p2 fun σ4 ρ4 o4 R4 p4 => ?_
        have ew : wipe σ4 vs = wipe σ vs := (wipe_only o4 hj).trans wipe_wipe
        refine ⟨ew, ?_⟩
        refine ht _ ρ4 X0 _ F3 H3 σ4 _ R4 p4 xs0 fun b F5 H5 ρ5 R5 s5 p5 => ?_
        have s15 := (s2.trans s3).trans s5
        cases b with
        | true =>
          refine he _ ρ5 X0 _ F5 H5 σ4 _ R5 p5 xs0 fun y F6 H6 r ρ6 R6 s6 o6 p6 => ?_
          obtain ⟨F7, R7, s7, o7, n7⟩ := hold_ok R6 o6
          cases er : r.hold with
          | dat e =>
            rw [er] at o7
            simp only [er] at p6
            obtain ⟨R8, hD8, hF8, hm8⟩ := Rep.unguard h0 hM hF0 R7
            have s17 := (s15.trans s6).trans s7
            have len : accV.length < sizeLine := by rw [hd2.length]; exact p6.1
            have W8 := R8.wiped vs
            rw [ew] at W8
            have hm9 : ∀ j, MutAt (wipe σ vs) (wipeA ρ6 vs) j D → False := fun j ⟨⟨b, eb, mb⟩, q⟩ => by
              have hjv : j ∉ vs := fun z => by
                have := wipeA_un ρ6 vs j b z eb
                subst this
                cases mb
              obtain ⟨b', eb', mb'⟩ : ∃ b', ρ6[j]? = some b' ∧ b'.isMut = true := by
                have aux : ∀ ws : List Nat, j ∉ ws → (wipeA ρ6 ws)[j]? = ρ6[j]? := fun ws => by
                  induction ws with
                  | nil => exact fun _ => rfl
                  | cons w ws ih =>
                    intro hn
                    unfold wipeA
                    rw [List.getElem?_set_ne (fun z => hn (by rw [z]; exact List.mem_cons_self))]
                    exact ih fun z => hn (List.mem_cons_of_mem _ z)
                rw [aux vs hjv] at eb
                exact ⟨b, eb, mb⟩
              refine hm8 j ⟨⟨b', eb', mb'⟩, ?_⟩
              rw [← ew, wipe_at hjv] at q
              exact q
            exact ⟨accV, hD8, len, F7, wipeA ρ6 vs, accV ++ [y], acc ++ [e], W8.outside hF8 h0 hm9, s17, wipeA_un ρ6 vs, upd_same, hF8, hm9, ((hd2.mono (((s3.trans s5).trans s6).trans s7)).append (.one o7)), p6.2⟩
          | bor j => simp only [er] at p6
          | own j => simp only [er] at p6
          | tupO _ _ => simp only [er] at p6
        | false =>
          obtain ⟨R8, hD8, hF8, hm8⟩ := Rep.unguard h0 hM hF0 R5
          have W8 := R8.wiped vs
          rw [ew] at W8
          refine ⟨F5, wipeA ρ5 vs, accV, acc, W8, s15, wipeA_un ρ5 vs, hD8, hF8, fun j ⟨⟨b, eb, mb⟩, q⟩ => ?_, hd2.mono (s3.trans s5), p5⟩
          have hjv : j ∉ vs := fun z => by
            have := wipeA_un ρ5 vs j b z eb
            subst this
            cases mb
          have aux : ∀ ws : List Nat, j ∉ ws → (wipeA ρ5 ws)[j]? = ρ5[j]? := fun ws => by
            induction ws with
            | nil => exact fun _ => rfl
            | cons w ws ih =>
              intro hn
              unfold wipeA
              rw [List.getElem?_set_ne (fun z => hn (by rw [z]; exact List.mem_cons_self))]
              exact ih fun z => hn (List.mem_cons_of_mem _ z)
          rw [aux vs hjv] at eb
          refine hm8 j ⟨⟨b, eb, mb⟩, ?_⟩
          rw [← ew, wipe_at hjv] at q
          exact q
      · have e : ds.drop i = [] := List.drop_eq_nil_of_le (by omega)
        rw [e] at p2
        refine .inl ⟨wk.stop F2 H2 i s2 R2.sub (by omega), ?_⟩
        refine k (.ref D) F2 H2 (.own (.ml none acc)) ρ2 (R2.unwipe hu2) (s1.trans s2) ⟨D, rfl, rfl, ⟨D, accV, rfl, hF2, hD2, hd2, h0⟩, h0, fun j ⟨⟨b, eb, mb⟩, q⟩ => ?_⟩ p2
        have hjv : j ∉ vs := fun z => by
          have := hu2 j b z eb
          subst this
          cases mb
        exact hm2 j ⟨⟨b, eb, mb⟩, by rw [wipe_at hjv]; exact q⟩
end Aq
set_option maxHeartbeats 2000000
namespace Aq
open PySem L2
variable {K : PySem.W.Frag} {W : WX}
/-! ### contracts and calls -/
abbrev Ct := List AV → (RV → List AV → Prop) → PXT → Prop
def spOf (K : PySem.W.Frag) (c : Ct) : Sp := fun vs H Q E => ∃ F M ρ P PX, Rep K ⟨F, H, M⟩ F H (vs.map some) ρ ∧ c ρ P PX ∧
  (∀ v F' H' σ' ρ' r, Rep K ⟨F, H, M⟩ F' H' σ' ρ' → ResOk K ⟨F, H, M⟩ F' H' σ' ρ' v r → P r ρ' → Q v H') ∧
  (∀ F' H' σ' ρ' cls p d, Rep K ⟨F, H, M⟩ F' H' σ' ρ' → XOk K F' H' p d → PX cls p ρ' → E cls d H')
theorem spOf_len {c : Ct} {n : Nat} (hc : ∀ ρ P PX, c ρ P PX → ρ.length = n) {vs : List V} {H : Hp} {Q : VK} {E : XK} (h : spOf K c vs H Q E) : vs.length = n := by
  obtain ⟨F, M, ρ, P, PX, R, h, _⟩ := h
  have := R.len
  rw [List.length_map] at this
  rw [this, hc ρ P PX h]
/-- further slots, not yet given -/
theorem Rep.more {C : C0} {F H : Hp} {σ : L2.St} {ρ : List AV} (R : Rep K C F H σ ρ) (n : Nat) : Rep K C F H (σ ++ List.replicate n none) (ρ ++ List.replicate n .un) := by
  refine ⟨by simp [R.len], R.sub, R.gr, R.keep, R.there, R.nw, R.mf, R.tp, fun i a e => ?_, fun i j l hne h1 h2 => ?_⟩
  · by_cases hi : i < ρ.length
    · rw [List.getElem?_append_left hi] at e
      obtain ⟨o, eo, hs⟩ := R.slot i a e
      exact ⟨o, by rw [List.getElem?_append_left (by rw [R.len]; exact hi)]; exact eo, hs⟩
    · rw [List.getElem?_append_right (by omega), List.getElem?_replicate] at e
      split at e
      · rename_i hlt
        cases e
        refine ⟨none, ?_, trivial⟩
        rw [List.getElem?_append_right (by rw [R.len]; omega), List.getElem?_replicate, if_pos (by rw [R.len]; exact hlt)]
      · cases e
  · have back : ∀ n' l', MutAt (σ ++ List.replicate n none) (ρ ++ List.replicate n .un) n' l' → MutAt σ ρ n' l' := fun n' l' ⟨⟨b, e, m⟩, q⟩ => by
      by_cases hi : n' < ρ.length
      · rw [List.getElem?_append_left hi] at e
        rw [List.getElem?_append_left (by rw [R.len]; exact hi)] at q
        exact ⟨⟨b, e, m⟩, q⟩
      · rw [List.getElem?_append_right (by omega), List.getElem?_replicate] at e
        split at e
        · cases e; cases m
        · cases e
    exact R.apart i j l hne (back i l h1) (back j l h2)
/-- a def's body keeps its contract -/
theorem body_of {N : List Str} {c : Ct} {t : TS} {a : ASt} {vs : List V} {H : Hp} {Q : VK} {E : XK} (h : spOf K c vs H Q E) (hs : SS K (fun cls d _ H' => E cls d H') t a)
    (hp : ∀ ρ P PX, c ρ P PX → a { nx := fun ρ' => P (.dat .none) ρ', rt := P, ex := PX } (ρ ++ List.replicate (N.length - ρ.length) .un)) : t { nx := fun _ H' => Q .non H', rt := Q } (start N vs) H := by
  obtain ⟨F, M, ρ, P, PX, R, h, k, kx⟩ := h
  have len : vs.length = ρ.length := by have := R.len; rw [List.length_map] at this; exact this
  have R' := R.more (N.length - vs.length)
  have h' := hp ρ P PX h
  rw [← len] at h'
  exact hs _ _ _ F H _ _ R' h' (fun F' H' σ' ρ' cls p d R2 x2 p2 => kx F' H' σ' ρ' cls p d R2 x2 p2) (fun F' H' σ' ρ' R2 _ p2 => k .non F' H' σ' ρ' (.dat .none) R2 Dr.non p2) (fun _ _ _ _ _ _ z => z.elim) (fun _ _ _ _ _ _ z => z.elim)
    fun v F' H' σ' ρ' r R2 _ o2 p2 => k v F' H' σ' ρ' r R2 o2 p2
/-- what is handed in: data, or borrowed things; and which slots are borrowed -/
def argAV (ρ : List AV) : List RV → Nat → Option (List AV × List Nat)
  | [], _ => some ([], [])
  | .dat d :: rs, j => (argAV ρ rs j).map fun p => (.dat d :: p.1, p.2)
  | .bor i :: rs, j => match ρ[i]? with
    | some (.ml _ ds) => (argAV ρ rs (j + 1)).map fun p => (.ml (some j) ds :: p.1, i :: p.2)
    | some (.mdk _ ds) => (argAV ρ rs (j + 1)).map fun p => (.mdk (some j) ds :: p.1, i :: p.2)
    | some (.mdt _ ds) => (argAV ρ rs (j + 1)).map fun p => (.mdt (some j) ds :: p.1, i :: p.2)
    | some (.scr ns) => (argAV ρ rs j).map fun p => (.scr ns :: p.1, p.2)
    | some (.opq v) => (argAV ρ rs j).map fun p => (.opq v :: p.1, p.2)
    | _ => none
  | .own _ :: _, _ => none
  | .tupO _ _ :: _, _ => none
def AV.tag : AV → Option Nat
  | .ml p _ => p
  | .mdk p _ => p
  | .mdt p _ => p
  | _ => none
def AV.retag (p : Option Nat) : AV → AV
  | .ml _ ds => .ml p ds
  | .mdk _ ds => .mdk p ds
  | .mdt _ ds => .mdt p ds
  | a => a
/-- what became of the j-th borrowed thing -/
def outOf (ρ' : List AV) (j : Nat) : Option AV := ρ'.find? fun a => a.tag == some j
def backA (ρ' : List AV) : List Nat → Nat → List AV → List AV
  | [], _, ρ => ρ
  | i :: is, j, ρ => backA ρ' is (j + 1) (ρ.set i (match outOf ρ' j with
    | some a => a.retag ((ρ[i]?).bind AV.tag)
    | none => .un))
def aCall (c : Ct) (a : AAx) : AEx := fun ρ PX P => a ρ PX fun rs ρ1 => match argAV ρ1 rs 0 with
  | some (ρc, is) => is.Nodup ∧ c ρc (fun r ρ' => match r with
      | .bor _ => False
      | r => P r (backA ρ' is 0 ρ1)) (fun cls p ρ' => PX cls p (backA ρ' is 0 ρ1))
  | none => False
/-- the addresses that are borrowed -/
def Bors (σ : L2.St) (is : List Nat) (M : List Addr) : Prop := Paired (fun (i : Nat) (l : Addr) => σ[i]? = some (some (.ref l))) is M
theorem Paired.getR {α β : Type} {r : α → β → Prop} : ∀ {as : List α} {bs : List β} {i : Nat} {b : β}, Paired r as bs → bs[i]? = some b → ∃ a, as[i]? = some a ∧ r a b
  | _, _, _, _, .nil, e => by simp at e
  | _, _, 0, _, .cons h _, e => by simp at e; subst e; exact ⟨_, rfl, h⟩
  | _, _, i + 1, b, .cons _ t, e => by
    obtain ⟨a, h1, h2⟩ := Paired.getR (i := i) (b := b) t (by simpa using e)
    exact ⟨a, by simpa using h1, h2⟩
theorem Paired.getL {α β : Type} {r : α → β → Prop} : ∀ {as : List α} {bs : List β} {i : Nat} {a : α}, Paired r as bs → as[i]? = some a → ∃ b, bs[i]? = some b ∧ r a b
  | _, _, _, _, .nil, e => by simp at e
  | _, _, 0, _, .cons h _, e => by simp at e; subst e; exact ⟨_, rfl, h⟩
  | _, _, i + 1, b, .cons _ t, e => by
    obtain ⟨a, h1, h2⟩ := Paired.getL (i := i) (a := b) t (by simpa using e)
    exact ⟨a, by simpa using h1, h2⟩
section
variable {C : C0} {F H : Hp} {σ : L2.St} {ρ : List AV}
/-- the callee's view of its arguments -/
theorem argAV_ok (R : Rep K C F H σ ρ) : ∀ {vs : List V} {rs : List RV} {j : Nat} {ρc : List AV} {is : List Nat}, ResAll K C F H σ ρ vs rs → argAV ρ rs j = some (ρc, is) →
    ∃ M, Bors σ is M ∧ (∀ i ∈ is, ∃ a, ρ[i]? = some a ∧ a.isMut = true) ∧ ∀ M0 : List Addr, M0.drop j = M → Paired (fun a v => Slot K ⟨F, H, M0⟩ F H a (some v) ∧ (∀ l, v = V.ref l → a.isMut = true → ∃ k : Nat, a.tag = some (j + k) ∧ M[k]? = some l)) ρc vs
  | _, [], j, ρc, is, h, e => by
    cases h
    cases e
    exact ⟨[], .nil, fun _ z => by simp at z, fun _ _ => .nil⟩
  | _, .dat d :: rs, j, ρc, is, h, e => by
    cases h with
    | cons h1 h2 =>
      cases q : argAV ρ rs j with
      | none => simp [argAV, q] at e
      | some p =>
        simp only [argAV, q, Option.map_some, Option.some.injEq, Prod.mk.injEq] at e
        obtain ⟨rfl, rfl⟩ := e
        obtain ⟨M, b, m, f⟩ := argAV_ok R h2 q
        exact ⟨M, b, m, fun M0 hM => .cons ⟨⟨_, rfl, h1.1⟩, fun _ _ z => by cases z⟩ (f M0 hM)⟩
  | _, .own a :: rs, j, ρc, is, h, e => by simp [argAV] at e
  | _, .tupO _ _ :: rs, j, ρc, is, h, e => by simp [argAV] at e
  | _, .bor i :: rs, j, ρc, is, h, e => by
    cases h with
    | cons h1 h2 =>
      rename_i v vs
      obtain ⟨⟨ev, a, ea⟩, _⟩ := h1
      obtain ⟨o, eo, hs⟩ := R.slot i a ea
      rw [ev] at eo
      cases eo
      have next : ∀ (mk : AV), mk.isMut = true → mk.tag = some j → (∀ M0 : List Addr, ∀ l, v = V.ref l → M0[j]? = some l → Slot K ⟨F, H, M0⟩ F H mk (some v)) → a.isMut = true → (∃ l, v = V.ref l) → (argAV ρ rs (j + 1)).map (fun p => (mk :: p.1, i :: p.2)) = some (ρc, is) →
          ∃ M, Bors σ is M ∧ (∀ i ∈ is, ∃ a, ρ[i]? = some a ∧ a.isMut = true) ∧ ∀ M0 : List Addr, M0.drop j = M → Paired (fun a v => Slot K ⟨F, H, M0⟩ F H a (some v) ∧ (∀ l, v = V.ref l → a.isMut = true → ∃ k : Nat, a.tag = some (j + k) ∧ M[k]? = some l)) ρc (v :: vs) := fun mk hmk htag hsl hm ⟨l, el⟩ e => by
        cases q : argAV ρ rs (j + 1) with
        | none => simp [q] at e
        | some p =>
          simp only [q, Option.map_some, Option.some.injEq, Prod.mk.injEq] at e
          obtain ⟨rfl, rfl⟩ := e
          obtain ⟨M, b, m, f⟩ := argAV_ok R h2 q
          subst el
          refine ⟨l :: M, .cons ev b, fun i' hi' => ?_, fun M0 hM => ?_⟩
          · rcases List.mem_cons.mp hi' with z | z
            · subst z; exact ⟨a, ea, hm⟩
            · exact m i' z
          · have hj : M0[j]? = some l := by
              have := congrArg (fun z : List Addr => z[0]?) hM
              simpa using this
            have hd : M0.drop (j + 1) = M := by
              have := congrArg List.tail hM
              simpa [List.tail_drop] using this
            refine .cons ⟨hsl M0 l rfl hj, fun l' e' _ => ⟨0, htag, by cases e'; rfl⟩⟩ (Paired.mapP (f M0 hd) fun a' v' z => ⟨z.1, fun l' e' m' => ?_⟩)
            obtain ⟨k, e1, e2⟩ := z.2 l' e' m'
            exact ⟨k + 1, by rw [e1]; congr 1; omega, by simpa using e2⟩
      cases a with
      | un => simp [argAV, ea] at e
      | dat d => simp [argAV, ea] at e
      | ml p ds =>
        obtain ⟨l, xs, e1, hF, hH, hd, hw⟩ := hs
        cases e1
        simp only [argAV, ea] at e
        exact next (.ml (some j) ds) rfl rfl (fun M0 l' el hj => ⟨l, xs, rfl, hF, hH, hd, by cases el; exact hj⟩) rfl ⟨l, rfl⟩ e
      | mdk p ds =>
        obtain ⟨l, xs, e1, hF, hH, hd, hw⟩ := hs
        cases e1
        simp only [argAV, ea] at e
        exact next (.mdk (some j) ds) rfl rfl (fun M0 l' el hj => ⟨l, xs, rfl, hF, hH, hd, by cases el; exact hj⟩) rfl ⟨l, rfl⟩ e
      | mdt p ds =>
        obtain ⟨l, xs, e1, hF, hH, hd, hw⟩ := hs
        cases e1
        simp only [argAV, ea] at e
        exact next (.mdt (some j) ds) rfl rfl (fun M0 l' el hj => ⟨l, xs, rfl, hF, hH, hd, by cases el; exact hj⟩) rfl ⟨l, rfl⟩ e
      | scr ns =>
        cases q : argAV ρ rs j with
        | none => simp [argAV, ea, q] at e
        | some p =>
          simp only [argAV, ea, q, Option.map_some, Option.some.injEq, Prod.mk.injEq] at e
          obtain ⟨rfl, rfl⟩ := e
          obtain ⟨M, b, m, f⟩ := argAV_ok R h2 q
          exact ⟨M, b, m, fun M0 hM => .cons ⟨hs, fun _ _ z => by cases z⟩ (f M0 hM)⟩
      | opq v =>
        cases q : argAV ρ rs j with
        | none => simp [argAV, ea, q] at e
        | some p =>
          simp only [argAV, ea, q, Option.map_some, Option.some.injEq, Prod.mk.injEq] at e
          obtain ⟨rfl, rfl⟩ := e
          obtain ⟨M, b, m, f⟩ := argAV_ok R h2 q
          exact ⟨M, b, m, fun M0 hM => .cons ⟨hs, fun _ _ z => by cases z⟩ (f M0 hM)⟩
theorem Bors.mem {is : List Nat} {M : List Addr} (b : Bors σ is M) {l : Addr} (h : l ∈ M) : ∃ i, i ∈ is ∧ σ[i]? = some (some (.ref l)) := by
  obtain ⟨j, hj, e⟩ := List.getElem_of_mem h
  obtain ⟨i, ei, q⟩ := Paired.getR b (List.getElem?_eq_some_iff.mpr ⟨hj, e⟩)
  exact ⟨i, List.mem_of_getElem? ei, q⟩
/-- the callee's entry -/
theorem Rep.enter {vs : List V} {rs : List RV} {ρc : List AV} {is : List Nat} {M : List Addr} (R : Rep K C F H σ ρ) (b : Bors σ is M) (hm : ∀ i ∈ is, ∃ a, ρ[i]? = some a ∧ a.isMut = true) (nd : is.Nodup)
    (f : Paired (fun a v => Slot K ⟨F, H, M⟩ F H a (some v) ∧ (∀ l, v = V.ref l → a.isMut = true → ∃ k : Nat, a.tag = some (0 + k) ∧ M[k]? = some l)) ρc vs) (ft : ∀ i j : Nat, i ≠ j → ∀ a a' : AV, ρc[i]? = some a → ρc[j]? = some a' → a.isMut = true → a'.isMut = true → a.tag ≠ a'.tag) : Rep K ⟨F, H, M⟩ F H (vs.map some) ρc := by
  have ndM : ∀ i j : Nat, ∀ l, M[i]? = some l → M[j]? = some l → i = j := fun i j l h1 h2 => by
    obtain ⟨a1, e1, q1⟩ := Paired.getR b h1
    obtain ⟨a2, e2, q2⟩ := Paired.getR b h2
    by_cases ha : a1 = a2
    · subst ha
      have l1 := (List.getElem?_eq_some_iff.mp e1).1
      have l2 := (List.getElem?_eq_some_iff.mp e2).1
      have z1 := (List.getElem?_eq_some_iff.mp e1).2
      have z2 := (List.getElem?_eq_some_iff.mp e2).2
      exact (List.getElem_inj nd).mp (z1.trans z2.symm)
    · obtain ⟨b1, f1, m1⟩ := hm a1 (List.mem_of_getElem? e1)
      obtain ⟨b2, f2, m2⟩ := hm a2 (List.mem_of_getElem? e2)
      exact (R.apart a1 a2 l ha ⟨⟨b1, f1, m1⟩, q1⟩ ⟨⟨b2, f2, m2⟩, q2⟩).elim
  refine ⟨by rw [List.length_map]; exact (Paired.length f).symm, R.sub, .refl _, fun b o e _ => e, fun b o e => ⟨o, e⟩, fun b o e n => n, fun l hl => ?_, R.tp, fun i a e => ?_, fun i j l hne h1 h2 => ?_⟩
  · obtain ⟨i, hi, q⟩ := b.mem hl
    obtain ⟨a, ea, m⟩ := hm i hi
    obtain ⟨o, eo, hs⟩ := R.slot i a ea
    rw [q] at eo
    cases eo
    exact hs.mutF m
  · obtain ⟨v, ev, h1, _⟩ := Paired.getL f e
    exact ⟨some v, by rw [List.getElem?_map, ev]; rfl, h1⟩
  · obtain ⟨⟨a1, e1, m1⟩, q1⟩ := h1
    obtain ⟨⟨a2, e2, m2⟩, q2⟩ := h2
    obtain ⟨v1, f1, _, g1⟩ := Paired.getL f e1
    obtain ⟨v2, f2, _, g2⟩ := Paired.getL f e2
    rw [List.getElem?_map, f1] at q1
    rw [List.getElem?_map, f2] at q2
    have z1 : v1 = .ref l := Option.some.inj (Option.some.inj q1)
    have z2 : v2 = .ref l := Option.some.inj (Option.some.inj q2)
    obtain ⟨k1, t1, w1⟩ := g1 l z1 m1
    obtain ⟨k2, t2, w2⟩ := g2 l z2 m2
    have := ndM k1 k2 l w1 w2
    exact ft i j hne a1 a2 e1 e2 m1 m2 (by rw [t1, t2, this])
theorem argAV_tags {ρ : List AV} : ∀ {rs : List RV} {j : Nat} {ρc : List AV} {is : List Nat}, argAV ρ rs j = some (ρc, is) → (∀ (i : Nat) (a : AV), ρc[i]? = some a → a.isMut = true → ∃ k, a.tag = some k ∧ j ≤ k) ∧ (∀ i i' : Nat, i ≠ i' → ∀ a a' : AV, ρc[i]? = some a → ρc[i']? = some a' → a.isMut = true → a'.isMut = true → a.tag ≠ a'.tag)
  | [], j, ρc, is, e => by
    cases e
    exact ⟨fun i a e => by simp at e, fun i i' _ a a' e => by simp at e⟩
  | .dat d :: rs, j, ρc, is, e => by
    cases q : argAV ρ rs j with
    | none => simp [argAV, q] at e
    | some p =>
      simp only [argAV, q, Option.map_some, Option.some.injEq, Prod.mk.injEq] at e
      obtain ⟨rfl, rfl⟩ := e
      obtain ⟨h1, h2⟩ := argAV_tags q
      refine ⟨fun i a e m => ?_, fun i i' hn a a' e e' m m' => ?_⟩
      · cases i with
        | zero => simp at e; subst e; cases m
        | succ i => exact h1 i a (by simpa using e) m
      · cases i with
        | zero => simp at e; subst e; cases m
        | succ i =>
          cases i' with
          | zero => simp at e'; subst e'; cases m'
          | succ i' => exact h2 i i' (by omega) a a' (by simpa using e) (by simpa using e') m m'
  | .own a :: rs, j, ρc, is, e => by simp [argAV] at e
  | .tupO _ _ :: rs, j, ρc, is, e => by simp [argAV] at e
  | .bor i0 :: rs, j, ρc, is, e => by
    have next : ∀ mk : AV, mk.isMut = true → mk.tag = some j → (argAV ρ rs (j + 1)).map (fun p => (mk :: p.1, i0 :: p.2)) = some (ρc, is) → (∀ (i : Nat) (a : AV), ρc[i]? = some a → a.isMut = true → ∃ k, a.tag = some k ∧ j ≤ k) ∧ (∀ i i' : Nat, i ≠ i' → ∀ a a' : AV, ρc[i]? = some a → ρc[i']? = some a' → a.isMut = true → a'.isMut = true → a.tag ≠ a'.tag) := fun mk hmk htag e => by
      cases q : argAV ρ rs (j + 1) with
      | none => simp [q] at e
      | some p =>
        simp only [q, Option.map_some, Option.some.injEq, Prod.mk.injEq] at e
        obtain ⟨rfl, rfl⟩ := e
        obtain ⟨h1, h2⟩ := argAV_tags q
        refine ⟨fun i a e m => ?_, fun i i' hn a a' e e' m m' => ?_⟩
        · cases i with
          | zero => simp at e; subst e; exact ⟨j, htag, Nat.le_refl _⟩
          | succ i =>
            obtain ⟨k, t, hk⟩ := h1 i a (by simpa using e) m
            exact ⟨k, t, by omega⟩
        · cases i with
          | zero =>
            simp at e; subst e
            cases i' with
            | zero => exact absurd rfl hn
            | succ i' =>
              obtain ⟨k, t, hk⟩ := h1 i' a' (by simpa using e') m'
              rw [htag, t]
              intro z
              have := Option.some.inj z
              omega
          | succ i =>
            cases i' with
            | zero =>
              simp at e'; subst e'
              obtain ⟨k, t, hk⟩ := h1 i a (by simpa using e) m
              rw [htag, t]
              intro z
              have := Option.some.inj z
              omega
            | succ i' => exact h2 i i' (by omega) a a' (by simpa using e) (by simpa using e') m m'
    cases ea : ρ[i0]? with
    | none => simp [argAV, ea] at e
    | some a =>
      cases a with
      | un => simp [argAV, ea] at e
      | dat d => simp [argAV, ea] at e
      | ml p ds => simp only [argAV, ea] at e; exact next _ rfl rfl e
      | mdk p ds => simp only [argAV, ea] at e; exact next _ rfl rfl e
      | mdt p ds => simp only [argAV, ea] at e; exact next _ rfl rfl e
      | scr ns =>
        cases q : argAV ρ rs j with
        | none => simp [argAV, ea, q] at e
        | some p =>
          simp only [argAV, ea, q, Option.map_some, Option.some.injEq, Prod.mk.injEq] at e
          obtain ⟨rfl, rfl⟩ := e
          obtain ⟨h1, h2⟩ := argAV_tags q
          refine ⟨fun i a e m => ?_, fun i i' hn a a' e e' m m' => ?_⟩
          · cases i with
            | zero => simp at e; subst e; cases m
            | succ i => exact h1 i a (by simpa using e) m
          · cases i with
            | zero => simp at e; subst e; cases m
            | succ i =>
              cases i' with
              | zero => simp at e'; subst e'; cases m'
              | succ i' => exact h2 i i' (by omega) a a' (by simpa using e) (by simpa using e') m m'
      | opq v =>
        cases q : argAV ρ rs j with
        | none => simp [argAV, ea, q] at e
        | some p =>
          simp only [argAV, ea, q, Option.map_some, Option.some.injEq, Prod.mk.injEq] at e
          obtain ⟨rfl, rfl⟩ := e
          obtain ⟨h1, h2⟩ := argAV_tags q
          refine ⟨fun i a e m => ?_, fun i i' hn a a' e e' m m' => ?_⟩
          · cases i with
            | zero => simp at e; subst e; cases m
            | succ i => exact h1 i a (by simpa using e) m
          · cases i with
            | zero => simp at e; subst e; cases m
            | succ i =>
              cases i' with
              | zero => simp at e'; subst e'; cases m'
              | succ i' => exact h2 i i' (by omega) a a' (by simpa using e) (by simpa using e') m m'
theorem backA_at {ρ' : List AV} : ∀ {is : List Nat} {j : Nat} {ρ : List AV} {i : Nat}, i ∉ is → (backA ρ' is j ρ)[i]? = ρ[i]?
  | [], _, _, _, _ => rfl
  | i0 :: is, j, ρ, i, h => by
    unfold backA
    rw [backA_at (fun z => h (List.mem_cons_of_mem _ z)), List.getElem?_set_ne (fun z => h (by rw [z]; exact List.mem_cons_self))]
theorem backA_len {ρ' : List AV} : ∀ {is : List Nat} {j : Nat} {ρ : List AV}, (backA ρ' is j ρ).length = ρ.length
  | [], _, _ => rfl
  | i0 :: is, j, ρ => by unfold backA; rw [backA_len, List.length_set]
theorem backA_in {ρ' : List AV} : ∀ {is : List Nat} {j k : Nat} {ρ : List AV} {i : Nat}, is.Nodup → is[k]? = some i → i < ρ.length → (backA ρ' is j ρ)[i]? = some (match outOf ρ' (j + k) with
    | some a => a.retag ((ρ[i]?).bind AV.tag)
    | none => .un)
  | [], _, _, _, _, _, e, _ => by simp at e
  | i0 :: is, j, 0, ρ, i, nd, e, hl => by
    simp at e; subst e
    unfold backA
    rw [backA_at (List.nodup_cons.mp nd).1, List.getElem?_set_self hl]
    rfl
  | i0 :: is, j, k + 1, ρ, i, nd, e, hl => by
    have e' : is[k]? = some i := by simpa using e
    have hne : i0 ≠ i := fun z => (List.nodup_cons.mp nd).1 (by rw [z]; exact List.mem_of_getElem? e')
    unfold backA
    rw [backA_in (List.nodup_cons.mp nd).2 e' (by rw [List.length_set]; exact hl), List.getElem?_set_ne hne]
    have : j + 1 + k = j + (k + 1) := by omega
    rw [this]
theorem retag_mut {a : AV} {p : Option Nat} : (a.retag p).isMut = a.isMut := by cases a <;> rfl
/-- behind the call -/
theorem Rep.leave {is : List Nat} {M : List Addr} {F' H' : Hp} {σ' : L2.St} {ρ' : List AV} (R : Rep K C F H σ ρ) (b : Bors σ is M) (hm : ∀ i ∈ is, ∃ a, ρ[i]? = some a ∧ a.isMut = true) (nd : is.Nodup) (R' : Rep K ⟨F, H, M⟩ F' H' σ' ρ') : Rep K C F' H' σ (backA ρ' is 0 ρ) := by
  have hMC : ∀ l ∈ M, l ∈ C.M0 ∨ C.H0 l = none := fun l hl => by
    obtain ⟨i, hi, q⟩ := b.mem hl
    obtain ⟨a, ea, m⟩ := hm i hi
    obtain ⟨o, eo, hs⟩ := R.slot i a ea
    rw [q] at eo
    cases eo
    have f : ∀ p, Whose C p l → l ∈ C.M0 ∨ C.H0 l = none := fun p z => by
      cases p with
      | none => exact .inr z
      | some j => exact .inl (List.mem_of_getElem? z)
    cases a with
    | un => cases m
    | dat d => cases m
    | scr d => cases m
    | opq v => cases m
    | ml p ds => obtain ⟨l', xs, e1, _, _, _, h3⟩ := hs; cases e1; exact f p h3
    | mdk p ds => obtain ⟨l', xs, e1, _, _, _, h3⟩ := hs; cases e1; exact f p h3
    | mdt p ds => obtain ⟨l', xs, e1, _, _, _, h3⟩ := hs; cases e1; exact f p h3
  have mutBack : ∀ n l, MutAt σ (backA ρ' is 0 ρ) n l → MutAt σ ρ n l := fun n l ⟨⟨a, e, m⟩, q⟩ => by
    by_cases hn : n ∈ is
    · obtain ⟨a', e', m'⟩ := hm n hn
      exact ⟨⟨a', e', m'⟩, q⟩
    · rw [backA_at hn] at e; exact ⟨⟨a, e, m⟩, q⟩
  refine ⟨by rw [backA_len]; exact R.len, R'.sub, R.gr.trans R'.gr, fun c o e n => ?_, fun c o e => ?_, fun c o e n => ?_, R.mf, R'.tp, fun i a e => ?_, fun i j l hne h1 h2 => R.apart i j l hne (mutBack i l h1) (mutBack j l h2)⟩
  · refine R'.keep c o (R.keep c o e n) fun z => ?_
    rcases hMC c z with y | y
    · exact n y
    · rw [y] at e; cases e
  · obtain ⟨o1, e1⟩ := R.there c o e
    exact R'.there c o1 e1
  · obtain ⟨o1, e1⟩ := R.there c o e
    exact R'.nw c o1 e1 (R.nw c o e n)
  · by_cases hi : i ∈ is
    · obtain ⟨k, hk, ek⟩ := List.getElem_of_mem hi
      have ek' : is[k]? = some i := List.getElem?_eq_some_iff.mpr ⟨hk, ek⟩
      obtain ⟨a0, e0, m0⟩ := hm i hi
      have hlt : i < ρ.length := (List.getElem?_eq_some_iff.mp e0).1
      rw [backA_in nd ek' hlt] at e
      obtain ⟨l, hl, q⟩ := Paired.getL b ek'
      refine ⟨_, q, ?_⟩
      obtain ⟨o0, eo0, hs0⟩ := R.slot i a0 e0
      rw [q] at eo0
      cases eo0
      have hw : Whose C a0.tag l := by
        cases a0 with
        | un => cases m0
        | dat d => cases m0
        | scr d => cases m0
        | opq v => cases m0
        | ml p ds => obtain ⟨l', xs, e1, _, _, _, h3⟩ := hs0; cases e1; exact h3
        | mdk p ds => obtain ⟨l', xs, e1, _, _, _, h3⟩ := hs0; cases e1; exact h3
        | mdt p ds => obtain ⟨l', xs, e1, _, _, _, h3⟩ := hs0; cases e1; exact h3
      rw [Nat.zero_add] at e
      cases ho : outOf ρ' k with
      | none => rw [ho] at e; cases e; trivial
      | some a1 =>
        rw [ho] at e
        have ea : a1.retag ((ρ[i]?).bind AV.tag) = a := Option.some.inj e
        rw [e0] at ea
        have htag : a1.tag = some k := by
          have := List.find?_some ho
          simpa using this
        obtain ⟨n, hn, en⟩ := List.getElem_of_mem (List.mem_of_find?_eq_some ho)
        obtain ⟨o1, eo1, hs1⟩ := R'.slot n a1 (List.getElem?_eq_some_iff.mpr ⟨hn, en⟩)
        subst ea
        cases a1 with
        | un => cases htag
        | dat d => cases htag
        | scr d => cases htag
        | opq v => cases htag
        | ml p ds =>
          obtain ⟨l1, xs, e1, hF1, hH1, hd1, hw1⟩ := hs1
          have hp : p = some k := htag
          subst hp
          have el : l1 = l := by
            have z : M[k]? = some l1 := hw1
            rw [hl] at z
            exact (Option.some.inj z).symm
          subst el
          exact ⟨l1, xs, rfl, hF1, hH1, hd1, hw⟩
        | mdk p ds =>
          obtain ⟨l1, xs, e1, hF1, hH1, hd1, hw1⟩ := hs1
          have hp : p = some k := htag
          subst hp
          have el : l1 = l := by
            have z : M[k]? = some l1 := hw1
            rw [hl] at z
            exact (Option.some.inj z).symm
          subst el
          exact ⟨l1, xs, rfl, hF1, hH1, hd1, hw⟩
        | mdt p ds =>
          obtain ⟨l1, xs, e1, hF1, hH1, hd1, hw1⟩ := hs1
          have hp : p = some k := htag
          subst hp
          have el : l1 = l := by
            have z : M[k]? = some l1 := hw1
            rw [hl] at z
            exact (Option.some.inj z).symm
          subst el
          exact ⟨l1, xs, rfl, hF1, hH1, hd1, hw⟩
    · rw [backA_at hi] at e
      obtain ⟨o, eo, hs⟩ := R.slot i a e
      refine ⟨o, eo, hs.mono R'.gr (fun l u e1 m h => ?_) fun l e1 m h => ?_⟩
      · refine R'.keep l u h fun z => ?_
        obtain ⟨i', hi', q'⟩ := b.mem z
        obtain ⟨a', e', m'⟩ := hm i' hi'
        exact R.apart i i' l (fun w => hi (by rw [w]; exact hi')) ⟨⟨a, e, m⟩, by rw [eo, e1]⟩ ⟨⟨a', e', m'⟩, q'⟩
      · subst e1
        obtain ⟨_, u, hu⟩ := hs.mutF m
        exact R'.nw l u hu h
theorem ResOk.leave {is : List Nat} {M : List Addr} {F' H' : Hp} {σ' : L2.St} {ρ' : List AV} {v : V} {r : RV} (R : Rep K C F H σ ρ) (R' : Rep K ⟨F, H, M⟩ F' H' σ' ρ') (hm : ∀ i ∈ is, ∃ a, ρ[i]? = some a ∧ a.isMut = true) (h : ResOk K ⟨F, H, M⟩ F' H' σ' ρ' v r) (hn : ∀ i, r ≠ .bor i) : ResOk K C F' H' σ (backA ρ' is 0 ρ) v r := by
  cases r with
  | dat d => exact h
  | bor i => exact absurd rfl (hn i)
  | own a =>
    obtain ⟨l, rfl, m, hs, h0, _⟩ := h
    have h0' : H l = none := h0
    have c0 : C.H0 l = none := by
      cases q : C.H0 l with
      | none => rfl
      | some o => obtain ⟨o', e⟩ := R.there l o q; rw [e] at h0'; cases h0'
    refine ⟨l, rfl, m, ?_, c0, fun i ⟨⟨b, eb, mb⟩, q⟩ => ?_⟩
    · have wh : ∀ p, Whose ⟨F, H, M⟩ p l → (l ∈ M → False) → Whose C p l := fun p z n => by
        cases p with
        | none => exact c0
        | some j => exact (n (List.mem_of_getElem? z)).elim
      have nM : l ∈ M → False := fun z => by
        obtain ⟨_, o, e⟩ := R'.mf l z
        have e' : H l = some o := e
        rw [h0'] at e'; cases e'
      cases a with
      | un => cases m
      | dat d => cases m
      | scr d => cases m
      | opq v => cases m
      | ml p ds => obtain ⟨l', xs, e1, q1, q2, q3, q4⟩ := hs; cases e1; exact ⟨l, xs, rfl, q1, q2, q3, wh p q4 nM⟩
      | mdk p ds => obtain ⟨l', xs, e1, q1, q2, q3, q4⟩ := hs; cases e1; exact ⟨l, xs, rfl, q1, q2, q3, wh p q4 nM⟩
      | mdt p ds => cases m
    · obtain ⟨a', ea', ma'⟩ : ∃ a', ρ[i]? = some a' ∧ a'.isMut = true := by
        by_cases hi : i ∈ is
        · exact hm i hi
        · rw [backA_at hi] at eb; exact ⟨b, eb, mb⟩
      obtain ⟨o, eo, hs'⟩ := R.slot i a' ea'
      rw [q] at eo
      cases eo
      obtain ⟨_, u, hu⟩ := hs'.mutF ma'
      rw [h0'] at hu; cases hu
  | tupO ds d =>
    obtain ⟨t, l, u, xs, rfl, ht, hF, h1, h2, h3, h0, _⟩ := h
    have h0' : H l = none := h0
    have c0 : C.H0 l = none := by
      cases q : C.H0 l with
      | none => rfl
      | some o => obtain ⟨o', e⟩ := R.there l o q; rw [e] at h0'; cases h0'
    refine ⟨t, l, u, xs, rfl, ht, hF, h1, h2, h3, c0, fun i ⟨⟨b, eb, mb⟩, q⟩ => ?_⟩
    obtain ⟨a', ea', ma'⟩ : ∃ a', ρ[i]? = some a' ∧ a'.isMut = true := by
      by_cases hi : i ∈ is
      · exact hm i hi
      · rw [backA_at hi] at eb; exact ⟨b, eb, mb⟩
    obtain ⟨o, eo, hs'⟩ := R.slot i a' ea'
    rw [q] at eo
    cases eo
    obtain ⟨_, u, hu⟩ := hs'.mutF ma'
    rw [h0'] at hu; cases hu
end
theorem es_callS {c : Ct} {t : TA} {a : AAx} (ha : AS0 K W t a) : ES K W (tCallS (spOf K c) (WE W) t) (aCall c a) := fun C ρ PX P F H σ Q R h xs k =>
  ha C ρ PX _ F H σ _ R h xs fun vs F1 H1 rs ρ1 R1 s1 o1 p1 => by
    cases e : argAV ρ1 rs 0 with
    | none => simp only [e] at p1
    | some q =>
      obtain ⟨ρc, is⟩ := q
      simp only [e] at p1
      obtain ⟨nd, p1⟩ := p1
      obtain ⟨M, b, hm, f⟩ := argAV_ok R1 o1 e
      have Rc : Rep K ⟨F1, H1, M⟩ F1 H1 (vs.map some) ρc := R1.enter (rs := rs) b hm nd (f M rfl) (argAV_tags e).2
      refine ⟨F1, M, ρc, _, _, Rc, p1, fun v F' H' σ' ρ' r R' o' p' => ?_, fun F' H' σ' ρ' cls p d R' x' p' => ?_⟩
      · have L := R1.leave b hm nd R'
        cases r with
        | bor i => exact p'.elim
        | dat d => exact k v F' H' (.dat d) _ L (s1.trans R'.gr) (o'.leave R1 R' hm fun _ z => nomatch z) p'
        | own a => exact k v F' H' (.own a) _ L (s1.trans R'.gr) (o'.leave R1 R' hm fun _ z => nomatch z) p'
        | tupO ds d => exact k v F' H' (.tupO ds d) _ L (s1.trans R'.gr) (o'.leave R1 R' hm fun _ z => nomatch z) p'
      · exact xs F' H' σ _ cls p d (R1.leave b hm nd R') x' p'
def aCall0 (c : Ct) (a : AAx) : AEx := fun ρ PX P => a ρ PX fun rs ρ1 => match argAV ρ1 rs 0 with
  | some (ρc, is) => is.Nodup ∧ c ρc (fun r ρ' => match r with
      | .bor _ => False
      | r => P r (backA ρ' is 0 ρ1)) X0
  | none => False
theorem es_call {c : Ct} {t : TA} {a : AAx} (ha : AS0 K W t a) : ES K W (tCall (spOf K c) [] E0 t) (aCall0 c a) := fun C ρ PX P F H σ Q R h xs k =>
  ha C ρ PX _ F H σ _ R h xs fun vs F1 H1 rs ρ1 R1 s1 o1 p1 => by
    cases e : argAV ρ1 rs 0 with
    | none => simp only [e] at p1
    | some q =>
      obtain ⟨ρc, is⟩ := q
      simp only [e] at p1
      obtain ⟨nd, p1⟩ := p1
      obtain ⟨M, b, hm, f⟩ := argAV_ok R1 o1 e
      have Rc : Rep K ⟨F1, H1, M⟩ F1 H1 (vs.map some) ρc := R1.enter (rs := rs) b hm nd (f M rfl) (argAV_tags e).2
      rw [List.append_nil]
      refine ⟨F1, M, ρc, _, _, Rc, p1, fun v F' H' σ' ρ' r R' o' p' => ?_, fun F' H' σ' ρ' cls p d R' x' p' => p'.elim⟩
      have L := R1.leave b hm nd R'
      cases r with
      | bor i => exact p'.elim
      | dat d => exact k v F' H' (.dat d) _ L (s1.trans R'.gr) (o'.leave R1 R' hm fun _ z => nomatch z) p'
      | own a => exact k v F' H' (.own a) _ L (s1.trans R'.gr) (o'.leave R1 R' hm fun _ z => nomatch z) p'
      | tupO ds d => exact k v F' H' (.tupO ds d) _ L (s1.trans R'.gr) (o'.leave R1 R' hm fun _ z => nomatch z) p'
/-! ### methods of a list of one's own, stores by place -/
def DMt := List PyData → List PyData → (PyData → List PyData → Prop) → Prop
def MS (K : PySem.W.Frag) (r : V → List V → Hp → VK → Prop) (g : DMt) : Prop := ∀ F H l xs ds vs es k Q, Same F H → H l = some (.lst xs) → DrAll K F xs ds → DrAll K F vs es → g ds es k → (∀ z d xs' ds', Dr K F z d → DrAll K F xs' ds' → k d ds' → Q z (upd H l (.lst xs'))) → r (.ref l) vs H Q
def aMt (g : DMt) (b : AEx) (a : AAx) : AEx := fun ρ PX P => b ρ PX fun rb ρ1 => match rb with
  | .bor i => (match ρ1[i]? with
    | some (.ml _ _) => a ρ1 PX fun rs ρ2 => withDs (rvDs rs) fun es => match ρ2[i]? with
      | some (.ml p ds) => g ds es fun d ds' => P (.dat d) (ρ2.set i (.ml p ds'))
      | _ => False
    | _ => False)
  | _ => False
theorem tyV_ml {C : C0} {F H : Hp} {σ : L2.St} {ρ : List AV} {i : Nat} {p : Option Nat} {ds : List PyData} {v : V} (R : Rep K C F H σ ρ) (ev : σ[i]? = some (some v)) (ea : ρ[i]? = some (.ml p ds)) : tyV K "list" v H := by
  obtain ⟨o, eo, l, xs', e1, hF, hH, hd2, hw⟩ := R.slot i _ ea
  rw [ev] at eo
  cases eo
  cases e1
  exact .inl ⟨rfl, _, .of hH⟩
theorem es_mt {r : V → List V → Hp → VK → Prop} {g : DMt} {tb : TE} {t : TA} {b : AEx} {a : AAx} (hr : MS K r g) (hb : ES K W tb b) (ha : AS0 K W t a) : ES K W (tBM K "list" r tb t) (aMt g b a) := fun C ρ PX P F H σ Q R h xs k =>
  hb C ρ PX _ F H σ _ R h xs fun v F1 H1 r1 ρ1 R1 s1 o1 p1 => by
    cases r1 with
    | dat d => exact p1.elim
    | own d => exact p1.elim
    | tupO _ _ => exact p1.elim
    | bor i =>
      obtain ⟨ev, a0, ea0⟩ := o1
      cases ea1 : ρ1[i]? with
      | none => simp only [ea1] at p1
      | some a1 =>
        cases a1 with
        | ml p1' ds1 =>
          simp only [ea1] at p1
          refine ⟨tyV_ml R1 ev ea1, ?_⟩
          refine ha C ρ1 PX _ F1 H1 σ _ R1 p1 xs fun vs F2 H2 rs ρ2 R2 s2 o2 p2 => ?_
          obtain ⟨es, ee, p2⟩ := withDs_some p2
          have hd := resAll_ds o2 ee
          cases ea : ρ2[i]? with
          | none => simp only [ea] at p2
          | some a2 =>
            cases a2 with
            | ml p ds =>
              simp only [ea] at p2
              obtain ⟨o, eo, l, xs', e1, hF, hH, hd2, hw⟩ := R2.slot i _ ea
              rw [ev] at eo
              cases eo
              cases e1
              refine hr F2 H2 l xs' ds vs es _ _ R2.sub hH hd2 hd p2 fun z d xs3 ds3 hz h3 p3 => ?_
              exact k z F2 _ (.dat d) _ (R2.change (a' := .ml p ds3) ea rfl rfl ev ⟨l, xs3, rfl, hF, upd_same, h3, hw⟩) (s1.trans s2) hz p3
            | _ => simp only [ea] at p2
        | _ => simp only [ea1] at p1
/-- without arguments -/
def aMt0 (g : DMt) (b : AEx) : AEx := fun ρ PX P => b ρ PX fun rb ρ1 => match rb with
  | .bor i => (match ρ1[i]? with
    | some (.ml p ds) => g ds [] fun d ds' => P (.dat d) (ρ1.set i (.ml p ds'))
    | _ => False)
  | _ => False
theorem es_mt0 {r : V → List V → Hp → VK → Prop} {g : DMt} {tb : TE} {b : AEx} (hr : MS K r g) (hb : ES K W tb b) : ES K W (tBM0 K "list" r tb) (aMt0 g b) := fun C ρ PX P F H σ Q R h xs k =>
  hb C ρ PX _ F H σ _ R h xs fun v F1 H1 r1 ρ1 R1 s1 o1 p1 => by
    cases r1 with
    | dat d => exact p1.elim
    | own d => exact p1.elim
    | tupO _ _ => exact p1.elim
    | bor i =>
      obtain ⟨ev, a0, ea0⟩ := o1
      cases ea : ρ1[i]? with
      | none => simp only [ea] at p1
      | some a1 =>
        cases a1 with
        | ml p ds =>
          simp only [ea] at p1
          refine ⟨tyV_ml R1 ev ea, ?_⟩
          obtain ⟨o, eo, l, xs', e1, hF, hH, hd2, hw⟩ := R1.slot i _ ea
          rw [ev] at eo
          cases eo
          cases e1
          refine hr F1 H1 l xs' ds [] [] _ _ R1.sub hH hd2 .nil p1 fun z d xs3 ds3 hz h3 p3 => ?_
          exact k z F1 _ (.dat d) _ (R1.change (a' := .ml p ds3) ea rfl rfl ev ⟨l, xs3, rfl, hF, upd_same, h3, hw⟩) s1 hz p3
        | _ => simp only [ea] at p1
/-- xs[i] = e -/
def sSub (a b c : AEx) : ASt := fun D ρ => a ρ D.ex fun r ρ1 => match r.hold with
  | .dat d => b ρ1 D.ex fun rb ρ2 => (match rb with
    | .bor i => c ρ2 D.ex fun rc ρ3 => (match rc, ρ3[i]? with
      | .dat (.int k), some (.ml p ds) => (match ixN ds.length k with
        | some j => D.nx (ρ3.set i (.ml p (ds.set j d)))
        | none => False)
      | _, _ => False)
    | _ => False)
  | _ => False
theorem ss_sub {ta tb tc : TE} {a b c : AEx} (ha : ES K W ta a) (hb : ES K W tb b) (hc : ES K W tc c) : SS K W (tAsg ta (gSub tb tc rSetL)) (sSub a b c) := fun C D ρ F H σ D' R h xs n _ _ _ =>
  ha C ρ D.ex _ F H σ _ R h xs fun v F1 H1 r ρ1 R1 s1 o1 p1 => by
    obtain ⟨F2, R2, s2, o2, n2⟩ := hold_ok R1 o1
    cases er : r.hold with
    | bor j => simp only [er] at p1
    | own j => simp only [er] at p1
    | tupO _ _ => simp only [er] at p1
    | dat d =>
      rw [er] at o2
      simp only [er] at p1
      refine hb C ρ1 D.ex _ F2 H1 σ _ R2 p1 xs fun vb F3 H3 rb ρ3 R3 s3 o3 p3 => ?_
      cases rb with
      | dat _ => exact p3.elim
      | own _ => exact p3.elim
      | tupO _ _ => exact p3.elim
      | bor i =>
        obtain ⟨ev, _⟩ := o3
        refine hc C ρ3 D.ex _ F3 H3 σ _ R3 p3 xs fun vc F4 H4 rc ρ4 R4 s4 o4 p4 => ?_
        cases rc with
        | bor _ => exact p4.elim
        | own _ => exact p4.elim
        | tupO _ _ => exact p4.elim
        | dat dc =>
          cases dc with
          | int k =>
            cases ea : ρ4[i]? with
            | none => simp only [ea] at p4
            | some a4 =>
              cases a4 with
              | ml p ds =>
                simp only [ea] at p4
                cases ej : ixN ds.length k with
                | none => simp only [ej] at p4
                | some j =>
                  simp only [ej] at p4
                  obtain ⟨o, eo, l, xs', e1, hF, hH, hd2, hw⟩ := R4.slot i _ ea
                  rw [ev] at eo
                  cases eo
                  cases e1
                  have ok : vc = .int k := by cases o4; rfl
                  subst ok
                  refine ⟨l, xs', k, j, rfl, rfl, hH, by rw [hd2.length]; exact ej, ?_⟩
                  exact n F4 _ σ _ (R4.change (a' := .ml p (ds.set j d)) ea rfl rfl ev ⟨l, _, rfl, hF, upd_same, DrAll.set (Dr.mono (s3.trans s4) d v o2) j hd2, hw⟩) (((s1.trans s2).trans s3).trans s4) p4
              | _ => simp only [ea] at p4
          | _ => exact p4.elim
end Aq
set_option maxHeartbeats 2000000
namespace Aq
open PySem L2
variable {K : PySem.W.Frag} {W : WX} {X : Cx}
abbrev shp (d : PyData) : Prop := SeqAt.shaped d = true
mutual
theorem noDic_of : ∀ d : PyData, d.canLay0 = true → noDic d = true
  | .none, _ => by simp [noDic]
  | .bool _, _ => by simp [noDic]
  | .int _, _ => by simp [noDic]
  | .str _, _ => by simp [noDic]
  | .list ds, h => by rw [noDic]; exact noDics_of ds (by rw [PyData.canLay0] at h; exact h)
  | .tuple ds, h => by rw [noDic]; exact noDics_of ds (by rw [PyData.canLay0] at h; exact h)
  | .dict _, h => by rw [PyData.canLay0] at h; cases h
theorem noDics_of : ∀ ds : List PyData, PyData.canLayAll0 ds = true → noDics ds = true
  | [], _ => by simp [noDics]
  | d :: ds, h => by
    rw [PyData.canLayAll0, Bool.and_eq_true] at h
    rw [noDics, noDic_of d h.1, noDics_of ds h.2]
    rfl
end
theorem shp_dic {d : PyData} (h : shp d) : noDic d = true := noDic_of d (SeqAt.canLay_of_shaped h)
/-! ### numbers -/
def gI (f : Int → Int → (Out → Prop) → Prop) : DOp := fun d e P => match d, e with
  | .int a, .int b => f a b P
  | _, _ => False
theorem r2_I0 {g : Int → Int → Int} : R2S K (rI0 fun i j => .int (g i j)) (gI fun a b P => P (.dat (.int (g a b)))) := fun F H x y d e Pd Q s hx hy h o => by
  cases d with
  | int a =>
    cases e with
    | int b => rw [hx.int, hy.int]; exact ⟨a, b, rfl, rfl, o.dat _ _ (.int _) h⟩
    | _ => exact h.elim
  | _ => exact h.elim
theorem r2_I {C : Int → Int → Prop} {g : Int → Int → Int} : R2S K (rI C fun i j => .int (g i j)) (gI fun a b P => C a b ∧ P (.dat (.int (g a b)))) := fun F H x y d e Pd Q s hx hy h o => by
  cases d with
  | int a =>
    cases e with
    | int b => rw [hx.int, hy.int]; exact ⟨a, b, rfl, rfl, h.1, o.dat _ _ (.int _) h.2⟩
    | _ => exact h.elim
  | _ => exact h.elim
theorem r2_or {r r' : R2} {g g' : DOp} (h : R2S K r g) (h' : R2S K r' g') : R2S K (fun x y H Q => r x y H Q ∨ r' x y H Q) (fun d e P => g d e P ∨ g' d e P) := fun F H x y d e Pd Q s hx hy z o => z.elim (fun z => .inl (h F H x y d e Pd Q s hx hy z o)) fun z => .inr (h' F H x y d e Pd Q s hx hy z o)
theorem r2_imp {r : R2} {g g' : DOp} (h : R2S K r g) (i : ∀ d e P, g' d e P → g d e P) : R2S K r g' := fun F H x y d e Pd Q s hx hy z o => h F H x y d e Pd Q s hx hy (i d e Pd z) o
def gSubI : DOp := gI fun a b P => P (.dat (.int (a - b)))
def gMul : DOp := gI fun a b P => CMulW a b ∧ P (.dat (.int (a * b)))
def gDiv : DOp := gI fun a b P => CDivW a b ∧ P (.dat (.int (a / b)))
def gMod : DOp := gI fun a b P => 0 < b ∧ P (.dat (.int (a % b)))
def gPow : DOp := gI fun a b P => CPow a b ∧ P (.dat (.int (a ^ b.toNat)))
abbrev rSubI : R2 := rI0 fun i j => .int (i - j)
abbrev rMulW : R2 := rI CMulW fun i j => .int (i * j)
abbrev rDivW : R2 := rI CDivW fun i j => .int (i / j)
abbrev rModI : R2 := rI (fun _ j => 0 < j) fun i j => .int (i % j)
abbrev rPowI : R2 := rI CPow fun i j => .int (i ^ j.toNat)
theorem r2_sub : R2S K rSubI gSubI := r2_I0
theorem r2_mul : R2S K rMulW gMul := r2_I
theorem r2_div : R2S K rDivW gDiv := r2_I
theorem r2_mod : R2S K rModI gMod := r2_I
theorem r2_pow : R2S K rPowI gPow := r2_I
/-! ### + -/
def rAddA (K : PySem.W.Frag) : R2 := fun x y H Q => rI0 (fun i j => .int (i + j)) x y H Q ∨ ((∃ i j, x = .str i ∧ y = .str j ∧ i.length + j.length ≤ sizeLine ∧ Q (.str (i ++ j)) H) ∨ (rCat x y H Q ∨ rCatA K x y H Q))
theorem op_addA : OpR X (binaryOp .Add) (rAddA X.K) := op_add.or (op_add_str.or (op_cat.or op_catA))
def gAdd : DOp := fun d e P => match d, e with
  | .int a, .int b => P (.dat (.int (a + b)))
  | .str a, .str b => a.length + b.length ≤ sizeLine ∧ P (.dat (.str (a ++ b)))
  | .list a, .list b => a.length + b.length ≤ sizeLine ∧ P (.newL (a ++ b))
  | .tuple a, .tuple b => a.length + b.length ≤ sizeLine ∧ P (.dat (.tuple (a ++ b))) ∧ P (.newT (a ++ b))
  | _, _ => False
theorem r2_add : R2S K (rAddA K) gAdd := fun F H x y d e Pd Q s hx hy h o => by
  cases d with
  | int a =>
    cases e with
    | int b => rw [hx.int, hy.int]; exact .inl ⟨a, b, rfl, rfl, o.dat _ _ (.int _) h⟩
    | _ => exact h.elim
  | str a =>
    cases e with
    | str b => rw [hx.str, hy.str]; exact .inr (.inl ⟨a, b, rfl, rfl, h.1, o.dat _ _ (.str _) h.2⟩)
    | _ => exact h.elim
  | list a =>
    cases e with
    | list b =>
      obtain ⟨l, xs, rfl, h1, h2⟩ := hx.list s
      obtain ⟨m, ys, rfl, k1, k2⟩ := hy.list s
      exact .inr (.inr (.inl ⟨l, m, xs, ys, rfl, rfl, h1, k1, by rw [h2.length, k2.length]; exact h.1, fun p hp => o.newL p _ _ hp (h2.append k2) h.2⟩))
    | _ => exact h.elim
  | tuple a =>
    cases e with
    | tuple b =>
      obtain ⟨l, xs, rfl, h1, h2⟩ := hx.tuple s
      obtain ⟨m, ys, rfl, k1, k2⟩ := hy.tuple s
      have dx : Dr K F (.ref l) (.tuple a) := by
        rcases hx with hx | ⟨_, _, _, _, e2, _⟩ | ⟨_, _, _, _, e2, _⟩
        · exact hx
        · cases e2
        · cases e2
      have dy : Dr K F (.ref m) (.tuple b) := by
        rcases hy with hx | ⟨_, _, _, _, e2, _⟩ | ⟨_, _, _, _, e2, _⟩
        · exact hx
        · cases e2
        · cases e2
      refine .inr (.inr (.inr ⟨l, m, xs, ys, rfl, rfl, h1, k1, by rw [h2.length, k2.length]; exact h.1, fun e => ?_, fun _ e => ?_, fun _ _ p hp => o.newT p _ _ hp (h2.append k2) h.2.2⟩))
      · subst e
        cases h2
        exact o.dat _ _ dy h.2.1
      · subst e
        cases k2
        have := h.2.1
        rw [List.append_nil] at this
        exact o.dat _ _ dx this
    | _ => exact h.elim
  | _ => exact h.elim
/-! ### comparisons -/
def gEq : DOp := fun d e P => shp d ∧ shp e ∧ P (.dat (.bool (PyData.eqv d e)))
def gNe : DOp := fun d e P => shp d ∧ shp e ∧ P (.dat (.bool (!PyData.eqv d e)))
theorem r2_eq : R2S K (rEqD K) gEq := fun F H x y d e Pd Q s hx hy h o => ⟨d, e, hx.dp s (shp_dic h.1), hy.dp s (shp_dic h.2.1), h.1, h.2.1, o.dat _ _ (.bl _) h.2.2⟩
theorem r2_ne : R2S K (rNeD K) gNe := fun F H x y d e Pd Q s hx hy h o => ⟨d, e, hx.dp s (shp_dic h.1), hy.dp s (shp_dic h.2.1), h.1, h.2.1, o.dat _ _ (.bl _) h.2.2⟩
/-- of two numbers or two texts -/
def rIS (p : Int → Int → Bool) (q : Str → Str → Bool) : R2 := fun x y H Q => rI0 (fun i j => .bl (p i j)) x y H Q ∨ ∃ i j, x = .str i ∧ y = .str j ∧ Q (.bl (q i j)) H
def gIS (p : Int → Int → Bool) (q : Str → Str → Bool) : DOp := fun d e P => match d, e with
  | .int a, .int b => P (.dat (.bool (p a b)))
  | .str a, .str b => P (.dat (.bool (q a b)))
  | _, _ => False
theorem r2_IS {p : Int → Int → Bool} {q : Str → Str → Bool} : R2S K (rIS p q) (gIS p q) := fun F H x y d e Pd Q s hx hy h o => by
  cases d with
  | int a =>
    cases e with
    | int b => rw [hx.int, hy.int]; exact .inl ⟨a, b, rfl, rfl, o.dat _ _ (.bl _) h⟩
    | _ => exact h.elim
  | str a =>
    cases e with
    | str b => rw [hx.str, hy.str]; exact .inr ⟨a, b, rfl, rfl, o.dat _ _ (.bl _) h⟩
    | _ => exact h.elim
  | _ => exact h.elim
def strLt (i j : Str) : Bool := decide (i.cps.toList < j.cps.toList)
abbrev rLtA : R2 := rIS (fun i j => decide (i < j)) strLt
abbrev rLeA : R2 := rIS (fun i j => decide (i ≤ j)) (fun i j => !strLt j i)
abbrev rGtA : R2 := rIS (fun i j => decide (j < i)) (fun i j => strLt j i)
abbrev rGeA : R2 := rIS (fun i j => decide (j ≤ i)) (fun i j => !strLt i j)
theorem op_ltA : OpR X (compareOp .Lt) rLtA := op_lt.or op_lt_str
theorem op_leA : OpR X (compareOp .LtE) rLeA := op_le.or op_le_str
theorem op_gtA : OpR X (compareOp .Gt) rGtA := op_gt.or op_gt_str
theorem op_geA : OpR X (compareOp .GtE) rGeA := op_ge.or op_ge_str
abbrev gLt : DOp := gIS (fun i j => decide (i < j)) strLt
abbrev gLe : DOp := gIS (fun i j => decide (i ≤ j)) (fun i j => !strLt j i)
abbrev gGt : DOp := gIS (fun i j => decide (j < i)) (fun i j => strLt j i)
abbrev gGe : DOp := gIS (fun i j => decide (j ≤ i)) (fun i j => !strLt i j)
/-- is, is not: None, truths -/
def rIsA (neg : Bool) : R2 := fun x y H Q => (y = .non ∧ Q (.bl (if neg then !decide (x = .non) else decide (x = .non))) H) ∨ ∃ a b : Bool, x = .bl a ∧ y = .bl b ∧ Q (.bl (if neg then !decide (a = b) else decide (a = b))) H
theorem op_isA : OpR X (compareOp .Is) (rIsA false) := op_isN.or op_isBl
theorem op_notA : OpR X (compareOp .IsNot) (rIsA true) := op_notN.or op_notBl
def isN : PyData → Bool
  | .none => true
  | _ => false
def gIs (neg : Bool) : DOp := fun d e P => match d, e with
  | d, .none => P (.dat (.bool (if neg then !isN d else isN d)))
  | .bool a, .bool b => P (.dat (.bool (if neg then !decide (a = b) else decide (a = b))))
  | _, _ => False
theorem Lk.isN {F H : Hp} {v : V} {d : PyData} (s : Same F H) (h : Lk K F H v d) : decide (v = .non) = isN d := by
  cases d with
  | none => rw [h.none]; rfl
  | bool b => rw [h.bool]; rfl
  | int b => rw [h.int]; rfl
  | str b => rw [h.str]; rfl
  | list ds => obtain ⟨l, xs, rfl, _⟩ := h.list s; rfl
  | tuple ds => obtain ⟨l, xs, rfl, _⟩ := h.tuple s; rfl
  | dict es =>
    rcases h with h | ⟨l, xs, ds', e1, e2, h1, h2⟩ | ⟨l, kvs, es', e1, e2, h1, h2⟩
    · cases h <;> rfl
    · cases e2
    · subst e1; rfl
theorem r2_is {neg : Bool} : R2S K (rIsA neg) (gIs neg) := fun F H x y d e Pd Q s hx hy h o => by
  cases e with
  | none =>
    rw [hy.none]
    refine .inl ⟨rfl, ?_⟩
    rw [hx.isN s]
    exact o.dat _ _ (.bl _) (by cases d <;> exact h)
  | bool b =>
    cases d with
    | bool a => rw [hx.bool, hy.bool]; exact .inr ⟨a, b, rfl, rfl, o.dat _ _ (.bl _) h⟩
    | _ => exact h.elim
  | _ => cases d <;> exact h.elim
/-! in, not in -/
def flatD : PyData → Bool
  | .none => true
  | .bool _ => true
  | .int _ => true
  | .str _ => true
  | _ => false
theorem flat_of {F H : Hp} {v : V} {d : PyData} (h : Lk K F H v d) (f : flatD d = true) : flatV v = true := by
  cases d with
  | none => rw [h.none]; rfl
  | bool b => rw [h.bool]; rfl
  | int b => rw [h.int]; rfl
  | str b => rw [h.str]; rfl
  | _ => cases f
theorem eqV_eqv {F H F' H' : Hp} {v u : V} {d e : PyData} (h : Lk K F H v d) (k : Lk K F' H' u e) (f : flatD d = true) (g : flatD e = true) : eqV v u = PyData.eqv d e := by
  cases d with
  | none => rw [h.none]; cases e with
    | none => rw [k.none]; simp [eqV, PyData.eqv]
    | bool b => rw [k.bool]; simp [eqV, PyData.eqv]
    | int b => rw [k.int]; simp [eqV, PyData.eqv]
    | str b => rw [k.str]; simp [eqV, PyData.eqv]
    | _ => cases g
  | bool b => rw [h.bool]; cases e with
    | none => rw [k.none]; simp [eqV, PyData.eqv]
    | bool b => rw [k.bool]; simp [eqV, PyData.eqv]
    | int b => rw [k.int]; simp [eqV, PyData.eqv]
    | str b => rw [k.str]; simp [eqV, PyData.eqv]
    | _ => cases g
  | int b => rw [h.int]; cases e with
    | none => rw [k.none]; simp [eqV, PyData.eqv]
    | bool b => rw [k.bool]; simp [eqV, PyData.eqv]
    | int b => rw [k.int]; simp [eqV, PyData.eqv]
    | str b => rw [k.str]; simp [eqV, PyData.eqv]
    | _ => cases g
  | str b => rw [h.str]; cases e with
    | none => rw [k.none]; simp [eqV, PyData.eqv]
    | bool b => rw [k.bool]; simp [eqV, PyData.eqv]
    | int b => rw [k.int]; simp [eqV, PyData.eqv]
    | str b => rw [k.str]; simp [eqV, PyData.eqv]
    | _ => cases g
  | _ => cases f
theorem inV_any {F H : Hp} {x : V} {d : PyData} (hx : Lk K F H x d) (f : flatD d = true) : ∀ {xs : List V} {ds : List PyData}, DrAll K F xs ds → ds.all flatD = true → inV x xs = (ds.any fun z => PyData.eqv z d) ∧ xs.all flatV = true
  | _, _, .nil, _ => ⟨rfl, rfl⟩
  | _, _, .cons h t, g => by
    rw [List.all_cons, Bool.and_eq_true] at g
    obtain ⟨i1, i2⟩ := inV_any hx f t g.2
    have e1 := eqV_eqv (H := H) (.inl h) hx g.1 f
    refine ⟨?_, ?_⟩
    · unfold inV at i1 ⊢
      rw [List.any_cons, List.any_cons, e1, i1]
    · rw [List.all_cons, flat_of (H := H) (.inl h) g.1, i2]
      rfl
def strIn (j i : Str) : Bool := !(Builtin.Str.occurrences j i 0 j.length 1).isEmpty
def rInA (K : PySem.W.Frag) : R2 := fun x y H Q => (∃ i j, x = .str i ∧ y = .str j ∧ Q (.bl (strIn j i)) H) ∨ (rIn K false x y H Q ∨ rInD K x y H Q)
def rNotInA (K : PySem.W.Frag) : R2 := fun x y H Q => (∃ i j, x = .str i ∧ y = .str j ∧ Q (.bl (!strIn j i)) H) ∨ (rIn K true x y H Q ∨ rNotInD K x y H Q)
theorem op_inA (hu : X.A.units + 65 < cLine) : OpR X (compareOp .In) (rInA X.K) := op_in_str.or (op_in_seq.or (op_inD hu))
theorem op_notInA (hu : X.A.units + 65 < cLine) : OpR X (compareOp .NotIn) (rNotInA X.K) := op_notin_str.or (op_notIn_seq.or (op_notInD hu))
def inD (neg : Bool) (b : Bool) : PyData := .bool (if neg then !b else b)
def gIn (neg : Bool) : DOp := fun d e P => match d, e with
  | .str i, .str j => P (.dat (inD neg (strIn j i)))
  | d, .tuple ds => flatD d = true ∧ ds.all flatD = true ∧ P (.dat (inD neg (ds.any fun z => PyData.eqv z d)))
  | d, .list ds => shp d ∧ shp (.list ds) ∧ P (.dat (inD neg (ds.any fun z => PyData.eqv z d)))
  | _, _ => False
theorem r2_in : R2S K (rInA K) (gIn false) := fun F H x y d e Pd Q s hx hy h o => by
  cases e with
  | str j =>
    cases d with
    | str i => rw [hx.str, hy.str]; exact .inl ⟨i, j, rfl, rfl, o.dat _ _ (.bl _) h⟩
    | _ => exact h.elim
  | tuple ds =>
    have h' : flatD d = true ∧ ds.all flatD = true ∧ Pd (.dat (inD false (ds.any fun z => PyData.eqv z d))) := by cases d <;> exact h
    obtain ⟨l, ys, rfl, k1, k2⟩ := hy.tuple s
    obtain ⟨i1, i2⟩ := inV_any hx h'.1 k2 h'.2.1
    refine .inr (.inl ⟨l, ys, rfl, .inr k1, flat_of hx h'.1, i2, ?_⟩)
    have e2 : (if false = true then !inV x ys else inV x ys) = (ds.any fun z => PyData.eqv z d) := i1
    rw [e2]
    exact o.dat _ _ (.bl _) h'.2.2
  | list ds =>
    have h' : shp d ∧ shp (.list ds) ∧ Pd (.dat (inD false (ds.any fun z => PyData.eqv z d))) := by cases d <;> exact h
    exact .inr (.inr ⟨d, ds, hx.dp s (shp_dic h'.1), hy.dp s (shp_dic h'.2.1), h'.1, h'.2.1, o.dat _ _ (.bl _) h'.2.2⟩)
  | _ => cases d <;> exact h.elim
theorem r2_notIn : R2S K (rNotInA K) (gIn true) := fun F H x y d e Pd Q s hx hy h o => by
  cases e with
  | str j =>
    cases d with
    | str i => rw [hx.str, hy.str]; exact .inl ⟨i, j, rfl, rfl, o.dat _ _ (.bl _) h⟩
    | _ => exact h.elim
  | tuple ds =>
    have h' : flatD d = true ∧ ds.all flatD = true ∧ Pd (.dat (inD true (ds.any fun z => PyData.eqv z d))) := by cases d <;> exact h
    obtain ⟨l, ys, rfl, k1, k2⟩ := hy.tuple s
    obtain ⟨i1, i2⟩ := inV_any hx h'.1 k2 h'.2.1
    refine .inr (.inl ⟨l, ys, rfl, .inr k1, flat_of hx h'.1, i2, ?_⟩)
    have e2 : (if true = true then !inV x ys else inV x ys) = !(ds.any fun z => PyData.eqv z d) := by rw [if_pos rfl, i1]
    rw [e2]
    exact o.dat _ _ (.bl _) h'.2.2
  | list ds =>
    have h' : shp d ∧ shp (.list ds) ∧ Pd (.dat (inD true (ds.any fun z => PyData.eqv z d))) := by cases d <;> exact h
    exact .inr (.inr ⟨d, ds, hx.dp s (shp_dic h'.1), hy.dp s (shp_dic h'.2.1), h'.1, h'.2.1, o.dat _ _ (.bl _) h'.2.2⟩)
  | _ => cases d <;> exact h.elim
/-! ### places, slices -/
def gIx : DOp := fun d e P => match d, e with
  | .list ds, .int i => withD (atI ds i) fun z => P (.dat z)
  | .tuple ds, .int i => withD (atI ds i) fun z => P (.dat z)
  | .str s, .int i => s.length ≤ sizeLine ∧ match atI s.cps.toList i with
    | some c => P (.dat (.str ⟨#[c]⟩))
    | none => False
  | _, _ => False
theorem atI_all {F : Hp} {xs : List V} {ds : List PyData} {i : Int} {d : PyData} (h : DrAll K F xs ds) (e : atI ds i = some d) : ∃ v, atI xs i = some v ∧ Dr K F v d := by
  unfold atI at e ⊢
  rw [h.length]
  cases q : ixN ds.length i with
  | none => rw [q] at e; cases e
  | some j =>
    rw [q] at e
    exact h.at e
theorem r2_ix : R2S K (rIx K) gIx := fun F H x y d e Pd Q s hx hy h o => by
  cases e with
  | int i =>
    rw [hy.int]
    cases d with
    | list ds =>
      obtain ⟨l, xs, rfl, h1, h2⟩ := hx.list s
      obtain ⟨z, ez, hz⟩ := withD_some h
      obtain ⟨v, ev, hv⟩ := atI_all h2 ez
      exact .inl ⟨l, xs, i, v, rfl, rfl, .of h1, ev, o.dat _ _ hv hz⟩
    | tuple ds =>
      obtain ⟨l, xs, rfl, h1, h2⟩ := hx.tuple s
      obtain ⟨z, ez, hz⟩ := withD_some h
      obtain ⟨v, ev, hv⟩ := atI_all h2 ez
      exact .inr (.inl ⟨l, xs, i, v, rfl, rfl, h1, ev, o.dat _ _ hv hz⟩)
    | str z =>
      rw [hx.str]
      obtain ⟨h0, h⟩ := h
      cases ec : atI z.cps.toList i with
      | none => simp only [ec] at h
      | some c =>
        simp only [ec] at h
        exact .inr (.inr ⟨z, i, c, rfl, rfl, h0, ec, o.dat _ _ (.str _) h⟩)
    | _ => exact h.elim
  | _ => cases d <;> exact h.elim
abbrev AOx := List AV → PXT → (Option Int → List AV → Prop) → Prop
def OS (K : PySem.W.Frag) (W : WX) (te : TO) (a : AOx) : Prop := ∀ C ρ PX P F H σ Q, Rep K C F H σ ρ → a ρ PX P → XS K C W PX → (∀ b F' H' ρ', Rep K C F' H' σ ρ' → Same F F' → P b ρ' → Q b H') → te σ H Q
def aNoPart : AOx := fun ρ _ P => P none ρ
def aPart (a : AEx) : AOx := fun ρ PX P => a ρ PX fun r ρ1 => match r with
  | .dat (.int i) => P (some i) ρ1
  | _ => False
theorem os_none : OS K W tNoPart aNoPart := fun C ρ PX P F H σ Q R h _ k => k none F H ρ R (.refl _) h
theorem os_some {te : TE} {a : AEx} (ha : ES K W te a) : OS K W (tPart te) (aPart a) := fun C ρ PX P F H σ Q R h xs k =>
  ha C ρ PX _ F H σ _ R h xs fun v F1 H1 r ρ1 R1 s1 o1 p1 => by
    cases r with
    | dat d =>
      cases d with
      | int i =>
        cases o1
        exact ⟨i, rfl, k _ F1 H1 ρ1 R1 s1 p1⟩
      | _ => exact p1.elim
    | _ => exact p1.elim
def cutD (xs : List PyData) (lo hi : Option Int) : List PyData := (xs.drop (HT.sIx xs.length 0 lo)).take (HT.sIx xs.length xs.length hi - HT.sIx xs.length 0 lo)
theorem cut_all {F : Hp} {xs : List V} {ds : List PyData} (h : DrAll K F xs ds) (lo hi : Option Int) : DrAll K F (cutV xs lo hi) (cutD ds lo hi) := by
  unfold cutV cutD
  rw [h.length]
  exact (h.drop _).take _
def DSl := PyData → Option Int → Option Int → (Out → Prop) → Prop
def rSlAll (K : PySem.W.Frag) : V → Option Int → Option Int → Hp → VK → Prop := fun x lo hi H Q => rSlL K x lo hi H Q ∨ (rSlA K x lo hi H Q ∨ rSlS x lo hi H Q)
theorem sl_or {r r' : V → Option Int → Option Int → Hp → VK → Prop} (h : SlR X r) (h' : SlR X r') : SlR X (fun x lo hi H Q => r x lo hi H Q ∨ r' x lo hi H Q) := fun pins s σ H x v vl vu lo hi sl Q I rx hs pl pu z =>
  z.elim (fun z => h pins s σ H x v vl vu lo hi sl Q I rx hs pl pu z) fun z => h' pins s σ H x v vl vu lo hi sl Q I rx hs pl pu z
theorem sl_all : SlR X (rSlAll X.K) := sl_or sl_list (sl_or sl_tupA sl_str)
def gSl : DSl := fun d lo hi P => match d with
  | .list ds => P (.newL (cutD ds lo hi))
  | .tuple ds => P (.dat (.tuple (cutD ds lo hi))) ∧ P (.newT (cutD ds lo hi))
  | .str z => z.length ≤ sizeLine ∧ P (.dat (.str (cutS z lo hi)))
  | _ => False
def aSl (a : AEx) (l h : AOx) : AEx := fun ρ PX P => a ρ PX fun r ρ1 => l ρ1 PX fun lo ρ2 => h ρ2 PX fun hi ρ3 => withD (r.hold.look ρ3) fun d => gSl d lo hi fun o => P o.rv ρ3
theorem es_sl {te : TE} {tl th : TO} {a : AEx} {l h : AOx} (ha : ES K W te a) (hl : OS K W tl l) (hh : OS K W th h) : ES K W (tSl (rSlAll K) te tl th) (aSl a l h) := fun C ρ PX P F H σ Q R h xs k =>
  ha C ρ PX _ F H σ _ R h xs fun v F1 H1 r ρ1 R1 s1 o1 p1 => by
    obtain ⟨F2, R2, s2, o2, n2⟩ := hold_ok R1 o1
    refine hl C ρ1 PX _ F2 H1 σ _ R2 p1 xs fun lo F3 H3 ρ3 R3 s3 p3 => ?_
    refine hh C ρ3 PX _ F3 H3 σ _ R3 p3 xs fun hi F4 H4 ρ4 R4 s4 p4 => ?_
    obtain ⟨d, ed, p4⟩ := withD_some p4
    have lk := (o2.stay (s3.trans s4) R4 n2).lk R4 ed
    have o := outS R4 (P := P) (Q := Q) fun v' F' H' r' R' s' o' p' => k v' F' H' r' ρ4 R' ((((s1.trans s2).trans s3).trans s4).trans s') o' p'
    cases d with
    | list ds =>
      obtain ⟨l, xs, rfl, h1, h2⟩ := lk.list R4.sub
      exact .inl ⟨l, xs, rfl, .of h1, fun p hp => o.newL p _ _ hp (cut_all h2 lo hi) p4⟩
    | tuple ds =>
      have dx : Dr K F4 v (.tuple ds) := by
        rcases lk with hx | ⟨_, _, _, _, e2, _⟩ | ⟨_, _, _, _, e2, _⟩
        · exact hx
        · cases e2
        · cases e2
      obtain ⟨l, xs, rfl, h1, h2⟩ := lk.tuple R4.sub
      refine .inr (.inl ⟨l, xs, rfl, h1, fun e => ?_, fun _ p hp => o.newT p _ _ hp (cut_all h2 lo hi) p4.2⟩)
      have e3 : cutD ds lo hi = ds := by
        unfold cutD
        rw [← h2.length, e.1, e.2, h2.length]
        simp
      have := p4.1
      rw [e3] at this
      exact o.dat _ _ dx this
    | str z =>
      rw [lk.str]
      exact .inr (.inr ⟨z, rfl, p4.1, o.dat _ _ (.str _) p4.2⟩)
    | _ => exact p4.elim
/-! ### built-ins -/
def gC1 (f : PyData → (Out → Prop) → Prop) : DCl := fun ds P => match ds with
  | [d] => f d P
  | _ => False
theorem lkAll1 {F H : Hp} {vs : List V} {d : PyData} (h : LkAll K F H vs [d]) : ∃ v, vs = [v] ∧ Lk K F H v d := by
  cases h with
  | cons h1 h2 => cases h2; exact ⟨_, rfl, h1⟩
theorem lkAll2 {F H : Hp} {vs : List V} {d e : PyData} (h : LkAll K F H vs [d, e]) : ∃ v u, vs = [v, u] ∧ Lk K F H v d ∧ Lk K F H u e := by
  cases h with
  | cons h1 h2 =>
    cases h2 with
    | cons h2 h3 => cases h3; exact ⟨_, _, rfl, h1, h2⟩
theorem r1_of {r : List V → Hp → VK → Prop} {f : PyData → (Out → Prop) → Prop} (h : ∀ F H v d Pd Q, Same F H → Lk K F H v d → f d Pd → OutS K F H Pd Q → r [v] H Q) : R1S K r (gC1 f) := fun F H vs ds Pd Q s l g o => by
  match ds, l, g with
  | [d], l, g =>
    obtain ⟨v, rfl, lv⟩ := lkAll1 l
    exact h F H v d Pd Q s lv g o
  | [], _, g => exact g.elim
  | _ :: _ :: _, _, g => exact g.elim
abbrev rLenA (K : PySem.W.Frag) : List V → Hp → VK → Prop := fun xs H Q => ∃ x n, xs = [x] ∧ LenV K x H n ∧ Q (.int n) H
def gLen : DCl := gC1 fun d P => match d with
  | .list ds => P (.dat (.int ds.length))
  | .tuple ds => P (.dat (.int ds.length))
  | .str s => s.length ≤ sizeLine ∧ P (.dat (.int s.length))
  | _ => False
theorem r1_len : R1S K (rLenA K) gLen := r1_of fun F H v d Pd Q s l h o => by
  cases d with
  | list ds =>
    obtain ⟨l, xs, rfl, h1, h2⟩ := l.list s
    exact ⟨_, ds.length, rfl, .inl ⟨xs, .of h1, h2.length.symm⟩, o.dat _ _ (.int _) h⟩
  | tuple ds =>
    obtain ⟨l, xs, rfl, h1, h2⟩ := l.tuple s
    exact ⟨_, ds.length, rfl, .inr ⟨xs, h1, h2.length.symm⟩, o.dat _ _ (.int _) h⟩
  | str z =>
    rw [l.str]
    exact ⟨_, z.length, rfl, ⟨h.1, rfl⟩, o.dat _ _ (.int _) h.2⟩
  | _ => exact h.elim
def boolsD : List PyData → Option (List Bool)
  | [] => some []
  | .bool b :: ds => (boolsD ds).map (b :: ·)
  | _ => none
def intsD : List PyData → Option (List Int)
  | [] => some []
  | .int b :: ds => (intsD ds).map (b :: ·)
  | _ => none
theorem boolsD_some : ∀ {ds : List PyData} {bs : List Bool}, boolsD ds = some bs → ds = bs.map PyData.bool
  | [], bs, e => by cases e; rfl
  | .bool b :: ds, bs, e => by
    unfold boolsD at e
    cases q : boolsD ds with
    | none => rw [q] at e; cases e
    | some l => rw [q] at e; cases e; rw [boolsD_some q]; rfl
  | .none :: ds, bs, e => by cases e
  | .int _ :: ds, bs, e => by cases e
  | .str _ :: ds, bs, e => by cases e
  | .list _ :: ds, bs, e => by cases e
  | .tuple _ :: ds, bs, e => by cases e
  | .dict _ :: ds, bs, e => by cases e
theorem intsD_some : ∀ {ds : List PyData} {bs : List Int}, intsD ds = some bs → ds = bs.map PyData.int
  | [], bs, e => by cases e; rfl
  | .int b :: ds, bs, e => by
    unfold intsD at e
    cases q : intsD ds with
    | none => rw [q] at e; cases e
    | some l => rw [q] at e; cases e; rw [intsD_some q]; rfl
  | .none :: ds, bs, e => by cases e
  | .bool _ :: ds, bs, e => by cases e
  | .str _ :: ds, bs, e => by cases e
  | .list _ :: ds, bs, e => by cases e
  | .tuple _ :: ds, bs, e => by cases e
  | .dict _ :: ds, bs, e => by cases e
theorem boolsD_map (bs : List Bool) : boolsD (bs.map PyData.bool) = some bs := by
  induction bs with
  | nil => rfl
  | cons b bs ih => show (boolsD (bs.map PyData.bool)).map (b :: ·) = _; rw [ih]; rfl
theorem intsD_map (bs : List Int) : intsD (bs.map PyData.int) = some bs := by
  induction bs with
  | nil => rfl
  | cons b bs ih => show (intsD (bs.map PyData.int)).map (b :: ·) = _; rw [ih]; rfl
def gAll : DCl := gC1 fun d P => match d with
  | .list ds => (match boolsD ds with
    | some bs => P (.dat (.bool (bs.all id)))
    | none => False)
  | _ => False
def gAny : DCl := gC1 fun d P => match d with
  | .list ds => (match boolsD ds with
    | some bs => P (.dat (.bool (bs.any id)))
    | none => False)
  | _ => False
def gSum : DCl := gC1 fun d P => match d with
  | .list ds => (match intsD ds with
    | some bs => P (.dat (.int bs.sum))
    | none => False)
  | _ => False
theorem r1_all : R1S K (rAll K) gAll := r1_of fun F H v d Pd Q s l h o => by
  cases d with
  | list ds =>
    obtain ⟨l', xs, rfl, h1, h2⟩ := l.list s
    cases e : boolsD ds with
    | none => simp only [e] at h
    | some bs =>
      simp only [e] at h
      rw [boolsD_some e] at h2
      rw [h2.bls_of] at h1
      exact ⟨l', bs, rfl, .of h1, o.dat _ _ (.bl _) h⟩
  | _ => exact h.elim
theorem r1_any : R1S K (rAny K) gAny := r1_of fun F H v d Pd Q s l h o => by
  cases d with
  | list ds =>
    obtain ⟨l', xs, rfl, h1, h2⟩ := l.list s
    cases e : boolsD ds with
    | none => simp only [e] at h
    | some bs =>
      simp only [e] at h
      rw [boolsD_some e] at h2
      rw [h2.bls_of] at h1
      exact ⟨l', bs, rfl, .of h1, o.dat _ _ (.bl _) h⟩
  | _ => exact h.elim
theorem r1_sum : R1S K (rSum K) gSum := r1_of fun F H v d Pd Q s l h o => by
  cases d with
  | list ds =>
    obtain ⟨l', xs, rfl, h1, h2⟩ := l.list s
    cases e : intsD ds with
    | none => simp only [e] at h
    | some bs =>
      simp only [e] at h
      rw [intsD_some e] at h2
      rw [h2.ints_of] at h1
      exact ⟨l', bs, rfl, .of h1, o.dat _ _ (.int _) h⟩
  | _ => exact h.elim
/-- max, min of two numbers, of a list -/
def rMaxA (K : PySem.W.Frag) : List V → Hp → VK → Prop := fun xs H Q => (∃ i j, xs = [.int i, .int j] ∧ Q (.int (if j > i then j else i)) H) ∨ rMax K xs H Q
def rMinA (K : PySem.W.Frag) : List V → Hp → VK → Prop := fun xs H Q => (∃ i j, xs = [.int i, .int j] ∧ Q (.int (if j < i then j else i)) H) ∨ rMin K xs H Q
theorem call_maxA (hc : X.calm = true) : CallR X (.builtin "max") (rMaxA X.K) := (call_max2 hc).or (cr_max hc)
theorem call_minA (hc : X.calm = true) : CallR X (.builtin "min") (rMinA X.K) := (call_min2 hc).or (cr_min hc)
def gMax : DCl := fun ds P => match ds with
  | [.int i, .int j] => P (.dat (.int (if j > i then j else i)))
  | [.list ds] => (match intsD ds with
    | some bs => 0 < bs.length ∧ ∀ m, m ∈ bs → (∀ y, y ∈ bs → y ≤ m) → P (.dat (.int m))
    | none => False)
  | _ => False
def gMin : DCl := fun ds P => match ds with
  | [.int i, .int j] => P (.dat (.int (if j < i then j else i)))
  | [.list ds] => (match intsD ds with
    | some bs => 0 < bs.length ∧ ∀ m, m ∈ bs → (∀ y, y ∈ bs → m ≤ y) → P (.dat (.int m))
    | none => False)
  | _ => False
theorem r1_max : R1S K (rMaxA K) gMax := fun F H vs ds Pd Q s l g o => by
  unfold gMax at g
  split at g
  · obtain ⟨v, u, rfl, l1, l2⟩ := lkAll2 l
    rw [l1.int, l2.int]
    exact .inl ⟨_, _, rfl, o.dat _ _ (.int _) g⟩
  · obtain ⟨v, rfl, l1⟩ := lkAll1 l
    rename_i ds
    obtain ⟨l', xs, rfl, h1, h2⟩ := l1.list s
    cases e : intsD ds with
    | none => simp only [e] at g
    | some bs =>
      simp only [e] at g
      rw [intsD_some e] at h2
      rw [h2.ints_of] at h1
      exact .inr ⟨l', bs, rfl, .of h1, g.1, fun m m1 m2 => o.dat _ _ (.int _) (g.2 m m1 m2)⟩
  · exact g.elim
theorem r1_min : R1S K (rMinA K) gMin := fun F H vs ds Pd Q s l g o => by
  unfold gMin at g
  split at g
  · obtain ⟨v, u, rfl, l1, l2⟩ := lkAll2 l
    rw [l1.int, l2.int]
    exact .inl ⟨_, _, rfl, o.dat _ _ (.int _) g⟩
  · obtain ⟨v, rfl, l1⟩ := lkAll1 l
    rename_i ds
    obtain ⟨l', xs, rfl, h1, h2⟩ := l1.list s
    cases e : intsD ds with
    | none => simp only [e] at g
    | some bs =>
      simp only [e] at g
      rw [intsD_some e] at h2
      rw [h2.ints_of] at h1
      exact .inr ⟨l', bs, rfl, .of h1, g.1, fun m m1 m2 => o.dat _ _ (.int _) (g.2 m m1 m2)⟩
  · exact g.elim
abbrev rAbsI : List V → Hp → VK → Prop := fun xs H Q => ∃ i, xs = [.int i] ∧ Q (.int (if i < 0 then -i else i)) H
def gAbs : DCl := gC1 fun d P => match d with
  | .int i => P (.dat (.int (if i < 0 then -i else i)))
  | _ => False
theorem r1_abs : R1S K rAbsI gAbs := r1_of fun F H v d Pd Q s l h o => by
  cases d with
  | int i => rw [l.int]; exact ⟨i, rfl, o.dat _ _ (.int _) h⟩
  | _ => exact h.elim
def rIntA : List V → Hp → VK → Prop := fun xs H Q => ((∃ i, xs = [.int i] ∧ Q (.int i) H) ∨ ∃ k, xs = [.bl k] ∧ Q (.int (if k then 1 else 0)) H) ∨ ∃ a n, xs = [.str a] ∧ PySem.intText? a = some n ∧ a.length ≤ 640 ∧ Q (.int n) H
theorem call_intA : CallR X (.type "int") rIntA := call_int1.or call_int_str
def gInt : DCl := gC1 fun d P => match d with
  | .int i => P (.dat (.int i))
  | .bool k => P (.dat (.int (if k then 1 else 0)))
  | .str a => a.length ≤ 640 ∧ (match PySem.intText? a with
    | some n => P (.dat (.int n))
    | none => False)
  | _ => False
theorem r1_int : R1S K rIntA gInt := r1_of fun F H v d Pd Q s l h o => by
  cases d with
  | int i => rw [l.int]; exact .inl (.inl ⟨i, rfl, o.dat _ _ (.int _) h⟩)
  | bool i => rw [l.bool]; exact .inl (.inr ⟨i, rfl, o.dat _ _ (.int _) h⟩)
  | str a =>
    rw [l.str]
    obtain ⟨h0, h⟩ := h
    cases e : PySem.intText? a with
    | none => simp only [e] at h
    | some n => simp only [e] at h; exact .inr ⟨a, n, rfl, e, h0, o.dat _ _ (.int _) h⟩
  | _ => exact h.elim
abbrev rListA (K : PySem.W.Frag) : List V → Hp → VK → Prop := fun xs H Q => ∃ p ys, xs = [.ref p] ∧ (SqL K H p ys ∨ SqT K H p ys) ∧ ∀ l, H l = none → Q (.ref l) (upd H l (.lst ys))
def gList : DCl := gC1 fun d P => match d with
  | .list ds => P (.newL ds)
  | .tuple ds => P (.newL ds)
  | _ => False
theorem r1_list : R1S K (rListA K) gList := r1_of fun F H v d Pd Q s l h o => by
  cases d with
  | list ds =>
    obtain ⟨l', xs, rfl, h1, h2⟩ := l.list s
    exact ⟨l', xs, rfl, .inl (.of h1), fun p hp => o.newL p _ _ hp h2 h⟩
  | tuple ds =>
    obtain ⟨l', xs, rfl, h1, h2⟩ := l.tuple s
    exact ⟨l', xs, rfl, .inr h1, fun p hp => o.newL p _ _ hp h2 h⟩
  | _ => exact h.elim
abbrev rTupA (K : PySem.W.Frag) : List V → Hp → VK → Prop := fun xs H Q => ∃ p ys, xs = [.ref p] ∧ ((SqL K H p ys ∧ ∀ l, H l = none → Q (.ref l) (upd H l (.tup ys))) ∨ (SqT K H p ys ∧ Q (.ref p) H))
def gTupl : DCl := gC1 fun d P => match d with
  | .list ds => P (.newT ds)
  | .tuple ds => P (.dat (.tuple ds))
  | _ => False
theorem r1_tup : R1S K (rTupA K) gTupl := r1_of fun F H v d Pd Q s l h o => by
  cases d with
  | list ds =>
    obtain ⟨l', xs, rfl, h1, h2⟩ := l.list s
    exact ⟨l', xs, rfl, .inl ⟨.of h1, fun p hp => o.newT p _ _ hp h2 h⟩⟩
  | tuple ds =>
    have dx : Dr K F v (.tuple ds) := by
      rcases l with hx | ⟨_, _, _, _, e2, _⟩ | ⟨_, _, _, _, e2, _⟩
      · exact hx
      · cases e2
      · cases e2
    obtain ⟨l', xs, rfl, h1, h2⟩ := l.tuple s
    exact ⟨l', xs, rfl, .inr ⟨h1, o.dat _ _ dx h⟩⟩
  | _ => exact h.elim
/-! ### lists changed -/
def mAppend : DMt := fun ds es k => match es with
  | [e] => ds.length < sizeLine ∧ k .none (ds ++ [e])
  | _ => False
theorem ms_append : MS K rAppend mAppend := fun F H l xs ds vs es k Q s h hd he g o => by
  match es, he, g with
  | [e], .cons h1 .nil, g => exact ⟨l, xs, _, rfl, rfl, h, by rw [hd.length]; exact g.1, o _ _ _ _ .non (hd.append (.one h1)) g.2⟩
  | [], _, g => exact g.elim
  | _ :: _ :: _, _, g => exact g.elim
def mExtend : DMt := fun ds es k => match es with
  | [.list e] => ds.length + e.length ≤ sizeLine ∧ k .none (ds ++ e)
  | _ => False
theorem ms_extend : MS K rExtend mExtend := fun F H l xs ds vs es k Q s h hd he g o => by
  unfold mExtend at g
  split at g
  · cases he with
    | cons h1 h2 =>
      cases h2
      cases h1 with
      | lst q1 q2 => exact ⟨l, _, xs, _, rfl, rfl, h, s _ _ q1, by rw [hd.length, q2.length]; exact g.1, o _ _ _ _ .non (hd.append q2) g.2⟩
  · exact g.elim
def mPop : DMt := fun ds es k => match es with
  | [] => withD (ds[ds.length - 1]?) fun d => k d ds.dropLast
  | _ => False
theorem DrAll.dropLast {F : Hp} : ∀ {vs : List V} {ds : List PyData}, DrAll K F vs ds → DrAll K F vs.dropLast ds.dropLast
  | _, _, .nil => .nil
  | _, _, .cons _ .nil => .nil
  | _, _, .cons r (.cons r2 t) => .cons r (DrAll.dropLast (.cons r2 t))
theorem ms_pop : MS K rPop mPop := fun F H l xs ds vs es k Q s h hd he g o => by
  match es, he, g with
  | [], .nil, g =>
    obtain ⟨d, e, g⟩ := withD_some g
    obtain ⟨v, ev, hv⟩ := hd.at e
    exact ⟨l, xs, v, rfl, rfl, h, by rw [hd.length]; exact ev, o _ _ _ _ hv hd.dropLast g⟩
  | _ :: _, _, g => exact g.elim
def mPopAt : DMt := fun ds es k => match es with
  | [.int i] => (0 ≤ i ∧ i < 2 ^ 63) ∧ withD (ds[i.toNat]?) fun d => k d (ds.eraseIdx i.toNat)
  | _ => False
theorem ms_popAt : MS K rPopAt mPopAt := fun F H l xs ds vs es k Q s h hd he g o => by
  unfold mPopAt at g
  split at g
  · rename_i i
    cases he with
    | cons h1 h2 =>
      cases h2
      cases h1
      obtain ⟨⟨g1, g2⟩, g⟩ := g
      obtain ⟨d, e, g⟩ := withD_some g
      obtain ⟨v, ev, hv⟩ := hd.at e
      have hlt : i.toNat < xs.length := (List.getElem?_eq_some_iff.mp ev).1
      refine ⟨l, xs, i, i.toNat, v, rfl, rfl, h, by omega, g2, ?_, ev, o _ _ _ _ hv (hd.eraseIdx _) g⟩
      unfold seqIndex?
      have : ¬ i < 0 := by omega
      simp [this]
      omega
  · exact g.elim
def mInsert : DMt := fun ds es k => match es with
  | [.int i, e] => (ds.length < sizeLine ∧ 0 ≤ i ∧ i < 2 ^ 63) ∧ k .none (ds.take i.toNat ++ [e] ++ ds.drop i.toNat)
  | _ => False
abbrev rInsertA : V → List V → Hp → VK → Prop := fun x vs H Q => ∃ (l : Addr) (xs : List V) (i : Int) (y : V), x = .ref l ∧ vs = [.int i, y] ∧ H l = some (.lst xs) ∧ xs.length < sizeLine ∧ 0 ≤ i ∧ i < 2 ^ 63 ∧
    Q .non (upd H l (.lst (xs.take i.toNat ++ [y] ++ xs.drop i.toNat)))
theorem ms_insert : MS K rInsertA mInsert := fun F H l xs ds vs es k Q s h hd he g o => by
  unfold mInsert at g
  split at g
  · rename_i i e
    cases he with
    | cons h1 h2 =>
      cases h2 with
      | cons h2 h3 =>
        cases h3
        cases h1
        exact ⟨l, xs, i, _, rfl, rfl, h, by rw [hd.length]; exact g.1.1, g.1.2.1, g.1.2.2, o _ _ _ _ .non (((hd.take _).append (.one h2)).append (hd.drop _)) g.2⟩
  · exact g.elim
end Aq
set_option maxHeartbeats 3200000
/-! sets made of a list, by what one adding does -/
namespace AqS
open PySem PySem.Calls PyProof.Rows L2
/-- a new set's object -/
abbrev fresh (w : World) : Obj := { cls := .type "set", dict := none, data := .set #[] 0 (.fresh 0 0 (!w.params.followText "set-order")) }
section
variable {P : Program} {w : World} {A : Around} {E : Value → Shared → Prop}
/-- J i h: the set at S holds what i addings gave -/
structure Adds (P : Program) (w : World) (u : Nat) (h0 : Heap) (S : Addr) (its : List Value) (J : Nat → Heap → Prop) : Prop where
  keep : ∀ i h h', J i h → (∀ o, h.get? S = some o → h'.get? S = some o) → (∀ b o, h0.get? b = some o → h'.get? b = some o) → J i h'
  add : ∀ (A' : Around) (E' : Value → Shared → Prop) (i : Nat) (s' : Shared) (v : Value) (Q : Bool → Shared → Prop), A'.units < u → its[i]? = some v → J i s'.heap → (∀ b o, h0.get? b = some o → s'.heap.get? b = some o) →
    (∀ b h' tk, s'.toks ≤ tk → Heap.SameBut S s'.heap h' → J (i + 1) h' → Q b { s' with heap := h', toks := tk }) → wpAny (model P w) A' (setAdd S v) Q E' s'
theorem upd_loop {I : Addr} {fp wr : List Addr} {G : Array GenState → Array GenState → Prop} {n : Nat} {Pv : Nat → Value → Prop} {St : Nat → Shared → Prop} {R : Result → Shared → Prop} {u : Nat} {its : List Value} {J : Nat → Heap → Prop} {h0 : Heap} {S : Addr}
    (Wk : WalksS P w A.in1 I fp wr G n Pv St) (hSf : S ∉ fp) (hn : n = its.length) (hval : ∀ i v, Pv i v → its[i]? = some v) (a : Adds P w u h0 S its J) (hS0 : h0.get? S = none) (hw0 : ∀ b ∈ wr, h0.get? b = none) (hu : A.in1.units < u) :
    ∀ (k i : Nat) (s : Shared), n - i = k → i ≤ n → St i s → (∀ b o, h0.get? b = some o → s.heap.get? b = some o) → J i s.heap →
      (∀ s', Moved (S :: wr) G s s' → J n s'.heap → (∀ b o, h0.get? b = some o → s'.heap.get? b = some o) → R (.ok (.ret .none)) s') →
      codeAny (model P w) A (.builtin "set.update.loop" ⟨[.ref S, .ref I], []⟩) R s := by
  have hSw : S ∉ wr := fun h => hSf (Wk.sub _ h)
  have hsub : ∀ b ∈ wr, b ∈ S :: wr := fun b hb => List.mem_cons_of_mem _ hb
  have kp : ∀ {s s' : Shared}, Moved wr G s s' → (∀ b o, h0.get? b = some o → s.heap.get? b = some o) → ∀ b o, h0.get? b = some o → s'.heap.get? b = some o := fun hm q b o e =>
    hm.heap b o (fun hb => by rw [hw0 b hb] at e; cases e) (q b o e)
  intro k
  induction k with
  | zero =>
    intro i s hk hi hst hkp hJ hR
    obtain rfl : i = n := by omega
    refine codeAny_builtin PyProof.Rows.F.entry_set_update_loop ?_
    rw [Around.under_plainId PyProof.Rows.F.plain_set_update_loop _]
    show wpAny _ A.in1 (pyNext (.ref I) >>= _) _ _ s
    refine wpAny_bind (Wk.done s _ _ hst fun s1 hm => ?_)
    show wpAny _ A.in1 (ret Value.none) _ _ s1
    have q := kp hm hkp
    exact wpAny_pure (hR s1 (hm.mono hsub) (a.keep i _ _ hJ (fun o e => hm.heap S o hSw e) q) q)
  | succ k ih =>
    intro i s hk hi hst hkp hJ hR
    have hlt : i < n := by omega
    refine codeAny_builtin PyProof.Rows.F.entry_set_update_loop ?_
    rw [Around.under_plainId PyProof.Rows.F.plain_set_update_loop _]
    show wpAny _ A.in1 (pyNext (.ref I) >>= _) _ _ s
    refine wpAny_bind (Wk.item i s _ _ hlt hst fun v s1 hP hst1 hm => ?_)
    have hv := hval i v hP
    have q := kp hm hkp
    have J1 : J i s1.heap := a.keep i _ _ hJ (fun o e => hm.heap S o hSw e) q
    show wpAny _ A.in1 (holding [v] (setAdd S v) >>= _) _ _ s1
    refine wpAny_bind (wpAny_holding ?_)
    refine a.add A.in1 _ i s1 v _ hu hv J1 q fun b h2 tk htk hsb J2 => ?_
    have q2 : ∀ b o, h0.get? b = some o → h2.get? b = some o := fun b o e => (hsb.2 b (fun z => by rw [z, hS0] at e; cases e)).trans (q b o e)
    refine wpAny_pure ⟨plainId_quiet PyProof.Rows.F.plain_set_update_loop _, ih (i + 1) _ (by omega) hlt (Wk.frame _ s1 _ _ hst1 htk fun b hb o e => ?_) q2 J2 fun s3 hm3 J3 q3 => ?_⟩
    · rw [hsb.2 b (fun h : b = S => hSf (by rw [← h]; exact hb))]; exact e
    · refine hR s3 (Moved.trans Wk.gtrans ((hm.mono hsub).then_heap htk fun b o hb e => ?_) hm3) J3 q3
      rw [hsb.2 b (fun h : b = S => hb (by rw [h]; exact List.mem_cons_self))]; exact e
/-- set(xs) -/
theorem call_set {s : Shared} {l : Addr} {its : List Value} {J : Nat → Heap → Prop} {u : Nat} {Q : Value → Shared → Prop} (hh : A.handled = none) (hl : s.heap.IsList l its.toArray) (a : Adds P w u s.heap s.heap.objs.size its J) (hu : A.units + 3 < u)
    (start : ∀ h, h.get? s.heap.objs.size = some (fresh w) → (∀ b o, s.heap.get? b = some o → h.get? b = some o) → J 0 h)
    (hq : ∀ (h' : Heap) (tk : Nat), J its.length h' → (∀ b o, s.heap.get? b = some o → h'.get? b = some o) → Q (.ref s.heap.objs.size) { s with heap := h', toks := tk }) :
    wpAny (model P w) A (call (.type "set") [.ref l]) Q E s := by
  obtain ⟨c, tl, hmro⟩ := PySem.F.called_set.mro
  have hmade := PySem.F.called_set.made
  have hsub := PySem.F.called_set.sub
  refine wpAny_call (codeAny_of_tree ?_)
  show wpAny _ _ (callAny (.type "set") _) _ _ _
  refine wpAny_pure ⟨Code.quiet_builtin _ (by decide +kernel), codeAny_builtin PySem.F.entry_type_call ?_⟩
  rw [Around.under_plain (weight_type_call_type "set" [.ref l] []) rfl]
  have k1 := PySem.F.called_set.notType
  have k2 := PySem.F.called_set.canCreate
  have k3 := PySem.F.typeCall_set_1 (.ref l)
  repeat (any_goals (first | assumption | wp_step))
  refine codeAny_mono (code_set_led1 (.ref l) (E := E) (Q₁ := fun obj s₁ => obj = .ref s.heap.objs.size ∧ s₁ = { s with heap := s.heap.push (fresh w) }) ⟨rfl, rfl⟩) fun r s₁ hr => ?_
  cases r with
  | error e => exact hr
  | ok fl =>
    cases fl with
    | ret obj =>
      obtain ⟨rfl, rfl⟩ := hr
      have hS : (s.heap.push (fresh w)).get? s.heap.objs.size = some (fresh w) := Heap.get?_push_size _ rfl
      have hT : Shared.TypeIs { s with heap := s.heap.push (fresh w) } (.ref s.heap.objs.size) "set" := ⟨_, hS, rfl⟩
      have k4 := PySem.F.called_set.init.lookup
      have k5 := PySem.F.called_set.init.bind (.ref s.heap.objs.size)
      repeat (any_goals (first | assumption | wp_step))
      refine codeAny_mono (codeAny_call_builtin (R := wants (fun r s₂ => r = .none ∧ ∃ h' tk, s₂ = { s with heap := h', toks := tk } ∧ J its.length h' ∧ (∀ b o, s.heap.get? b = some o → h'.get? b = some o)) E) PySem.F.called_set.init.plain PySem.F.entry_set_init (check_set_init_1 hT ?_)) fun r₂ s₂ hr₂ => ?_
      · obtain ⟨ol, hol, hcl, nl, hdl⟩ := hl
        obtain ⟨ocls, odict, odata, oslots⟩ := ol
        simp only at hcl hdl
        subst hcl; subst hdl
        have hol' : (s.heap.push (fresh w)).get? l = some { cls := .type "list", dict := odict, data := .seq its.toArray nl, slots := oslots } := Heap.get?_push_of_some _ hol
        have m1 := PySem.F.sub_list_set
        have m2 := PySem.F.sub_list_frozenset
        have m3 : (Value.type "list" == Value.type "dict") = false := by decide
        have hl1 : (s.heap.push (fresh w)).IsList l its.toArray := ⟨_, hol', rfl, nl, rfl⟩
        unfold Builtin.«set.__init__» noKeywords Builtin.Frozenset.updateFrom
        generalize hPI : pyIter = PI
        wp_walk
        subst hPI
        refine wpAny_pyIter_list hl1 ?_
        refine wpAny_bind (wpAny_runValue ?_)
        have hlS : l < s.heap.objs.size := Heap.lt_size hol
        have hh3 : A.in1.in1.in1.handled = none := by simp [hh]
        have hneI : l ≠ (s.heap.push (fresh w)).objs.size := by
          rw [Heap.size_push]; exact Nat.ne_of_lt (Nat.lt_succ_of_lt hlS)
        have hSf : s.heap.objs.size ∉ [(s.heap.push (fresh w)).objs.size, l] := by
          rw [Heap.size_push]; simp only [List.mem_cons, List.mem_singleton, List.not_mem_nil, or_false, not_or]
          exact ⟨Nat.ne_of_lt (Nat.lt_succ_self _), Nat.ne_of_gt hlS⟩
        have none_of : ∀ b, s.heap.objs.size ≤ b → s.heap.get? b = none := fun b hb => by
          cases q : s.heap.get? b with
          | none => rfl
          | some o => exact absurd (Nat.lt_of_lt_of_le (Heap.lt_size q) hb) (Nat.lt_irrefl _)
        refine upd_loop ((Walks.list hh3 _ l hneI its.toArray).toS) hSf (by simp) (fun i v hv => by simpa using hv) a (none_of _ (Nat.le_refl _)) (fun b hb => none_of b (by
            rw [List.mem_singleton.mp hb, Heap.size_push]
            exact Nat.le_succ _)) hu (its.toArray.size - 0) 0 _ (by omega) (Nat.zero_le _)
          ⟨⟨_, Heap.get?_push_size _ rfl, rfl, rfl⟩, (hl1.push _)⟩ (fun b o e => Heap.get?_push_of_some _ (Heap.get?_push_of_some _ e)) ?hS0 ?hR
        case hS0 =>
          exact start _ (Heap.get?_push_of_some _ hS) fun b o e => Heap.get?_push_of_some _ (Heap.get?_push_of_some _ e)
        case hR =>
          intro s' hm hJ hkp
          obtain ⟨h', g2, d', tk', os'⟩ := s'
          have eg : g2 = s.gens := hm.gens
          have ed : d' = s.drawn := hm.drawn
          have eo : os' = s.os := hm.os
          subst eg; subst ed; subst eo
          show wpAny _ _ _ _ _ _
          refine wpAny_pure ?_
          show wpAny _ _ (ret Value.none) _ _ _
          have hJ' : J its.length h' := by simpa using hJ
          exact wpAny_pure ⟨rfl, h', tk', rfl, hJ', hkp⟩
      · cases r₂ with
        | error e => exact hr₂
        | ok fl₂ =>
          cases fl₂ with
          | ret r =>
            obtain ⟨rfl, h', tk, rfl, hJ, hk'⟩ := hr₂
            repeat (any_goals (first | assumption | wp_step))
            exact hq _ _ hJ hk'
          | _ => exact hr₂.elim
    | _ => exact hr.elim
end
end AqS
set_option maxHeartbeats 3200000
/-! sets of numbers and texts; what is sorted -/
namespace AqS
open PySem PySem.Calls PyProof.Rows L2
def kyOf (e : Int × Value) : Key := match e.2 with
  | .int k _ => .inl k
  | .str x _ => .inr x
  | _ => .inl 0
def KyE (w : World) (e : Int × Value) : Prop := ∃ k : Key, keyIs k e.2 = true ∧ e.1 = keyH w k
theorem kyOf_is {k : Key} {e : Int × Value} (h : keyIs k e.2 = true) : kyOf e = k := by
  rcases keyIs_shape h with ⟨i, t, rfl, q⟩ | ⟨x, t, rfl, q⟩
  · unfold kyOf; rw [q]
  · unfold kyOf; rw [q]
theorem is_kyOf {w : World} {e : Int × Value} (g : KyE w e) : keyIs (kyOf e) e.2 = true := by
  obtain ⟨k, h, _⟩ := g
  rw [kyOf_is h]; exact h
/-- the set at a holds just ks -/
def KSet (w : World) (h : Heap) (a : Addr) (ks : List Key) : Prop :=
  ∃ o es ep t, h.get? a = some o ∧ o.ExactSet ∧ o.data = .set es ep t ∧ (∀ e ∈ es.toList, KyE w e) ∧ (es.toList.map kyOf).Nodup ∧ (es.toList.map kyOf).Perm ks ∧ es.size < scanBound ∧ t.fits es.size = true ∧ Ris t.place.toList ∧ (w.params.followText "set-order" = true ∨ t.led = true)
section
variable {P : Program} {w : World} {A : Around} {E : Value → Shared → Prop} {s : Shared} {a : Addr} {ks : List Key}
theorem KSet.at {h h' : Heap} (R : KSet w h a ks) (k : ∀ o, h.get? a = some o → h'.get? a = some o) : KSet w h' a ks := by
  obtain ⟨o, es, ep, t, ho, r⟩ := R
  exact ⟨o, es, ep, t, k o ho, r⟩
theorem kelems {l : List (Int × Value)} (g : ∀ e ∈ l, KyE w e) : ElemsOf (mixKind P w) l := fun e he => by
  obtain ⟨k, h1, h2⟩ := g e he
  refine ⟨⟨k, h1, h2⟩, ?_⟩
  rcases keyIs_shape h1 with ⟨i, t, _, q⟩ | ⟨x, t, _, q⟩ <;> rw [q] <;> rfl
theorem kmem {l : List (Int × Value)} (g : ∀ e ∈ l, KyE w e) (k : Key) : k ∈ l.map kyOf ↔ ∃ e ∈ l, keyIs k e.2 = true := by
  rw [List.mem_map]
  constructor
  · rintro ⟨e, he, rfl⟩
    exact ⟨e, he, is_kyOf (g e he)⟩
  · rintro ⟨e, he, q⟩
    exact ⟨e, he, kyOf_is q⟩
theorem kstored {h : Heap} {o : Obj} {es es' : Array (Int × Value)} {ep : Nat} {t t' : SetTable} (ho : h.get? a = some o) (hd : o.data = .set es ep t) : (h.update a (Obj.putSet es' t')).get? a = some { o with data := .set es' (ep + 1) t' } := by
  rw [Heap.get?_update_self (Obj.putSet es' t') ho (by rw [putSet_of es' t' hd] <;> rfl), putSet_of es' t' hd]
theorem ktail {g : Bool → Sem Unit} (hg : ∀ (b : Bool) (s₁ : Shared) (Q' : Unit → Shared → Prop), Q' () s₁ → wpAny (model P w) A (g b) Q' E s₁)
    {o : Obj} {es : Array (Int × Value)} {ep : Nat} {t : SetTable} (ho : s.heap.get? a = some o) (hex : o.ExactSet) (hd : o.data = .set es ep t)
    {es1 : Array (Int × Value)} {t2 : SetTable} (g1 : ∀ e ∈ es1.toList, KyE w e) (nd1 : (es1.toList.map kyOf).Nodup) (m1 : (es1.toList.map kyOf).Perm ks)
    (hb1 : es1.size < scanBound) (hf2 : t2.fits es1.size = true) (hr : Ris t2.place.toList) (hl : w.params.followText "set-order" = true ∨ t2.led = true) {wasDummy : Bool} {R : Option Bool → Shared → Prop}
    (hR : ∀ h', Heap.SameBut a s.heap h' → KSet w h' a ks → R (some true) { s with heap := h' }) :
    wpAny (model P w) A (do
        storeSet a es1 t2
        if (!wasDummy && t2.tooFull) = true then do
            g (relayAll t2 es1 (SetTable.grown es1.size)).2.2
            storeSet a (relayAll t2 es1 (SetTable.grown es1.size)).1 (relayAll t2 es1 (SetTable.grown es1.size)).2.1
            pure (some true)
          else pure (some true)) R E s := by
  refine wpAny_bind (wpAny_storeSet_of ho hd ?_ (fits_of_scanBound hb1))
  have ho1 := kstored (es' := es1) (t' := t2) ho hd
  have sb1 := Heap.SameBut.update s.heap a (Obj.putSet es1 t2)
  split
  · have pm := relayAll_perm t2 es1 (SetTable.grown es1.size)
    have hf3 := relayAll_fits t2 es1 (SetTable.grown es1.size)
    have hr3 := relayAll_ris t2 es1 (SetTable.grown es1.size)
    have hl3 := relayAll_led t2 es1 (SetTable.grown es1.size)
    generalize relayAll t2 es1 (SetTable.grown es1.size) = Z at pm hf3 hr3 hl3 ⊢
    obtain ⟨es2, t3, gave⟩ := Z
    dsimp only at pm hf3 hr3 hl3 ⊢
    have hsz : es2.size = es1.size := by rw [← Array.length_toList, pm.length_eq, Array.length_toList]
    have hb2 : es2.size < scanBound := by rw [hsz]; exact hb1
    refine wpAny_bind (hg _ _ _ ?_)
    refine wpAny_bind (wpAny_storeSet_of ho1 rfl ?_ (fits_of_scanBound hb2))
    have ho2 := kstored (es' := es2) (t' := t3) ho1 rfl
    refine wpAny_pure (hR _ (sb1.trans (Heap.SameBut.update _ a _)) ?_)
    have pk := pm.map kyOf
    exact ⟨_, es2, _, t3, ho2, hex, rfl, fun e he => g1 e (pm.mem_iff.mp he), pk.nodup_iff.mpr nd1, pk.trans m1, hb2, hf3, hr3, hl.imp id fun z => by rw [hl3]; exact z⟩
  · exact wpAny_pure (hR _ sb1 ⟨_, es1, _, t2, ho1, hex, rfl, g1, nd1, m1, hb1, hf2, hr, hl⟩)
def addK (k : Key) (ks : List Key) : List Key := if (ks.any fun z => decide (z = k)) = true then ks else k :: ks
theorem addK_in {k : Key} {ks : List Key} (h : k ∈ ks) : addK k ks = ks := by
  unfold addK
  rw [if_pos (List.any_eq_true.mpr ⟨k, h, decide_eq_true rfl⟩)]
theorem addK_out {k : Key} {ks : List Key} (h : k ∉ ks) : addK k ks = k :: ks := by
  unfold addK
  rw [if_neg fun z => by
    obtain ⟨x, hx, e⟩ := List.any_eq_true.mp z
    rw [of_decide_eq_true e] at hx
    exact h hx]
theorem kadd {k : Key} {v : Value} {Q : Bool → Shared → Prop} (R : KSet w s.heap a ks) (room : ks.length + 1 < scanBound) (hv : keyIs k v = true)
    (hQ : ∀ b h', Heap.SameBut a s.heap h' → KSet w h' a (addK k ks) → Q b { s with heap := h' }) :
    wpAny (model P w) A (setAddHashed a v (keyH w k)) Q E s := by
  obtain ⟨o, es, ep, t, ho, hex, hd, g, nd, hm, hb, hf, hr, hl⟩ := R
  have hsc : v.scannable = true := by
    rcases keyIs_shape hv with ⟨i, t, _, q⟩ | ⟨x, t, _, q⟩ <;> rw [q] <;> rfl
  have hel : ElemsOf (mixKind P w) es.toList := kelems g
  have hn : es.size = ks.length := by rw [← hm.length_eq, List.length_map, Array.length_toList]
  unfold setAddHashed setAddHashedIn
  refine wpAny_holding (wpAny_bind (wpAny_setState_of ho hd hf ?_))
  dsimp only
  rw [byScan_of hsc hb hel]
  simp only [↓reduceIte]
  unfold setAddByScan
  refine wpAny_bind ?_
  refine wpAny_bind (wpAny_rule ?_)
  have hkey : (mixKind P w).is k v = true := hv
  refine wpAny_bind (wpAny_setScan_of (knd := mixKind P w) (k := k) hkey ho hd hf hel ?_)
  cases hfi : List.findIdx? (fun e => (mixKind P w).is k e.2) es.toList with
  | some j =>
    dsimp only
    obtain ⟨hj, pj, _⟩ := List.findIdx?_eq_some_iff_getElem.mp hfi
    have hk : k ∈ ks := hm.mem_iff.mp ((kmem g k).2 ⟨es.toList[j], List.getElem_mem hj, pj⟩)
    refine wpAny_pure (wpAny_pure ?_)
    refine hQ _ s.heap (Heap.SameBut.refl a s.heap) ?_
    rw [addK_in hk]
    exact ⟨o, es, ep, t, ho, hex, hd, g, nd, hm, hb, hf, hr, hl⟩
  | none =>
    dsimp only
    have hnk : k ∉ es.toList.map kyOf := fun z => by
      obtain ⟨e, he, q⟩ := (kmem g k).1 z
      have c := List.findIdx?_eq_none_iff.mp hfi e he
      have q' : (mixKind P w).is k e.2 = true := q
      rw [q'] at c
      cases c
    have hks : k ∉ ks := fun z => hnk (hm.mem_iff.mpr z)
    have hgw : ∀ (b : Bool) {s₁ : Shared} {Q' : Unit → Shared → Prop}, Q' () s₁ → wpAny (model P w) A (match b with | true => rule "set.scan.the-table-gave-way" | false => pure ()) Q' E s₁ :=
      fun b s₁ Q' q => by cases b <;> first | exact wpAny_pure q | exact wpAny_rule q
    have pm := layNew_perm t es (keyH w k) v
    have hf1 := layNew_fits t es (keyH w k) v
    have hr1 := layNew_ris t es (keyH w k) v hr
    have hl1 := layNew_led t es (keyH w k) v
    generalize layNew t es (keyH w k) v = Z at pm hf1 hr1 hl1 ⊢
    obtain ⟨es1, t1, wasDummy, gave⟩ := Z
    dsimp only at pm hf1 hr1 hl1 ⊢
    rw [Array.toList_push] at pm
    have pc : es1.toList.Perm ((keyH w k, v) :: es.toList) := pm.trans (List.perm_append_singleton _ _)
    have pk : (es1.toList.map kyOf).Perm (k :: es.toList.map kyOf) := by
      have q := pc.map kyOf
      rw [List.map_cons, kyOf_is (e := (keyH w k, v)) hv] at q
      exact q
    have g1 : ∀ e ∈ es1.toList, KyE w e := fun e he => by
      rcases List.mem_cons.mp (pc.mem_iff.mp he) with z | z
      · rw [z]; exact ⟨k, hv, rfl⟩
      · exact g e z
    have nd1 : (es1.toList.map kyOf).Nodup := pk.nodup_iff.mpr (List.nodup_cons.mpr ⟨hnk, nd⟩)
    have m1 : (es1.toList.map kyOf).Perm (addK k ks) := by
      rw [addK_out hks]
      exact pk.trans (hm.cons k)
    have hsz : es1.size = ks.length + 1 := by rw [← Array.length_toList, pc.length_eq, List.length_cons, Array.length_toList, hn]
    have hb1 : es1.size < scanBound := by rw [hsz]; exact room
    have hled : w.params.followText "set-order" = true ∨ t1.led = true := hl.imp id fun z => by rw [hl1]; exact z
    refine wpAny_bind (hgw _ ?_)
    split
    · refine wpAny_bind ?_
      rw [hashByValue_scannable 8 hsc]
      refine wpAny_pure ?_
      refine ktail ?_ ho hex hd g1 nd1 m1 hb1 ?_ ?_ ?_ ?_
      · intro b s₁ Q' q; cases b <;> first | exact wpAny_pure q | exact wpAny_rule q
      · first | (split <;> first | exact hf1 | exact SetTable.fits_plain_off hf1) | exact hf1
      · first | (split <;> exact hr1) | exact hr1
      · first | (split <;> exact hled) | exact hled
      · intro h' sb r; dsimp only; exact wpAny_pure (hQ _ h' sb r)
    · refine wpAny_bind (wpAny_pure ?_)
      simp only [↓reduceIte]
      refine ktail ?_ ho hex hd g1 nd1 m1 hb1 hf1 hr1 hled ?_
      · intro b s₁ Q' q; cases b <;> first | exact wpAny_pure q | exact wpAny_rule q
      · intro h' sb r; dsimp only; exact wpAny_pure (hQ _ h' sb r)
/-- what set(..) of these keys holds, the last one first -/
def made : List Key → List Key
  | [] => []
  | k :: ks => addK k (made ks)
theorem made_len : ∀ ks : List Key, (made ks).length ≤ ks.length
  | [] => Nat.le_refl _
  | k :: ks => by
    have h := made_len ks
    unfold made
    by_cases q : k ∈ made ks
    · rw [addK_in q, List.length_cons]; omega
    · rw [addK_out q, List.length_cons, List.length_cons]; omega
theorem adds_keys {h0 : Heap} {S : Addr} {its : List Value} {ks : List Key} (hp : Paired (fun k v => keyIs k v = true) ks its) (hb : ks.length + 1 < scanBound) : Adds P w (2 ^ 63) h0 S its (fun i h => KSet w h S (made (ks.take i).reverse)) where
  keep := fun i h h' J k _ => J.at k
  add := fun A' E' i s' v Q _ hv J _ hQ => by
    obtain ⟨k, hk, hkv⟩ := Aq.Paired.getR hp hv
    unfold setAdd
    refine wpAny_holding ?_
    refine wpAny_bind ((mixKind P w).pyHash (k := k) hkv ?_)
    have hlen : (made (ks.take i).reverse).length + 1 < scanBound := by
      have := made_len (ks.take i).reverse
      rw [List.length_reverse, List.length_take] at this
      omega
    refine kadd (s := { s' with toks := s'.toks + 1 }) J hlen hkv fun b h' sb R => ?_
    refine hQ b h' _ (Nat.le_succ _) sb ?_
    have e : (ks.take (i + 1)).reverse = k :: (ks.take i).reverse := by
      rw [List.take_add_one, hk]
      simp
    show KSet w h' S (made (ks.take (i + 1)).reverse)
    rw [e]
    exact R
end
end AqS
set_option maxHeartbeats 3200000
namespace AqS
open PySem PySem.Calls PyProof.Rows L2
/-! ### sorted(xs), data -/
def leD (a b : PyData) : Prop := PySem.W.dataLt b a = false
theorem le_total {β : Type} (k : β → PyData) : PySem.W.TotalLe (PySem.W.dataLe false k) := PySem.W.sortLe_total _ _ _
theorem pw_sort {β : Type} (k : β → PyData) (l : List β) : (l.mergeSort (PySem.W.dataLe false k)).Pairwise (fun a b => leD (k a) (k b)) := by
  refine (PySem.W.sort_pairwise (le_total k) l).imp fun {a b} h => ?_
  have h' : (!PySem.W.dataLt (k b) (k a)) = true := h
  unfold leD
  simpa using h'
def rSortD (K : PySem.W.Frag) : List V → Hp → VK → Prop := fun vs H Q => ∃ (a : Addr) (xs : List V) (ds : List PyData), vs = [V.ref a] ∧ H a = some (.lst xs) ∧ DpAll K H xs ds ∧ PySem.W.AllAlike ds ∧ PySem.W.Sortable ds ∧ (∀ d ∈ ds, d.depth ≤ 60) ∧
  ∀ (p : Addr) (ps : List (V × PyData)), ps.Perm (xs.zip ds) → (ps.map Prod.snd).Pairwise leD → H p = none → Q (.ref p) (upd H p (.lst (ps.map Prod.fst)))
theorem dpAll_len {K : PySem.W.Frag} {H : Hp} : ∀ {vs : List V} {ds : List PyData}, DpAll K H vs ds → vs.length = ds.length
  | _, _, .nil => rfl
  | _, _, .cons _ t => by rw [List.length_cons, List.length_cons, dpAll_len t]
section
variable {X : Cx}
theorem each_zip {pins : List (Addr × Obj)} {σ : L2.St} {H : Hp} {s : Shared} (I : Inv X pins σ H s) : ∀ {xs : List V} {ds : List PyData} {us : List Value}, DpAll X.K H xs ds → Vals xs us → PySem.W.EachIs (fun v b => RelV b.1 v) us (xs.zip ds) ∧ PySem.W.EachIs (fun v b => ∃ as, Reads s.heap v (Prod.snd b) as) us (xs.zip ds)
  | _, _, _, .nil, .nil => ⟨.nil, .nil⟩
  | _, _, _, .cons h t, .cons r q => by
    obtain ⟨a, b⟩ := each_zip I t q
    obtain ⟨as, hr⟩ := Dp.reads I _ _ _ h r
    exact ⟨.cons r a, .cons ⟨as, hr⟩ b⟩
theorem vals_each : ∀ {us : List Value} {ps : List (V × PyData)}, PySem.W.EachIs (fun v b => RelV b.1 v) us ps → Vals (ps.map Prod.fst) us
  | _, _, .nil => .nil
  | _, _, .cons r t => .cons r (vals_each t)
theorem cr_sortD (hu : X.A.units + 64 < cLine) : CallR X (.builtin "sorted") (rSortD X.K) := by
  intro pins s σ H vs us Q I r h
  obtain ⟨a, xs, ds, rfl, hs, hd, hal, hk, hdep, q⟩ := h
  obtain ⟨its, rv, hl, hz⟩ := I.list (.of hs)
  rw [Vals.ref1 r]
  obtain ⟨e1, e2⟩ := each_zip I hd rv
  have hz2 : (xs.zip ds).map Prod.snd = ds := by
    rw [List.map_snd_zip]
    exact Nat.le_of_eq (dpAll_len hd).symm
  have hlen : (xs.zip ds).length = xs.length := by rw [List.length_zip, dpAll_len hd]; omega
  refine PySem.W.sorted_data (R := fun v b => RelV b.1 v) (enc := Prod.snd) (bs := xs.zip ds) hl.isList e1 e2 (by rw [hz2]; exact hal) (by rw [hz2]; exact hk) (by rw [hlen]; exact hz) (fun b hb => ?_) fun out ho eo => ?_
  · have := hdep b.2 (by rw [← hz2]; exact List.mem_map.mpr ⟨b, hb, rfl⟩)
    omega
  · obtain ⟨ep, he'⟩ := PyProof.Rows.sortedAll_at s.heap its out.toArray
    have pm := List.mergeSort_perm (xs.zip ds) (PySem.W.dataLe false Prod.snd)
    have hlen2 : (((xs.zip ds).mergeSort (PySem.W.dataLe false Prod.snd)).map Prod.fst).length ≤ sizeLine := by
      rw [List.length_map, pm.length_eq, hlen]; exact hz
    exact ⟨.ref _, upd H (s.heap.objs.size + 1) (.lst (((xs.zip ds).mergeSort (PySem.W.dataLe false Prod.snd)).map Prod.fst)), I.laid (t' := s.toks) (fun _ _ => PyProof.Rows.sortedAll_old) (Nat.le_succ _) ⟨hlen2, out, ep, vals_each eo, he'⟩, rfl,
      q _ _ pm (List.pairwise_map.mpr (pw_sort Prod.snd _)) (I.hok.fresh (Nat.le_succ _))⟩
/-! ### set(xs) of keys, sorted and counted -/
def KSetO (w : World) (a : Addr) (ks : List Key) : HO := .ext fun h => KSet w h a ks
theorem ksetO_new {P : Program} {w : World} {H : Hp} {h : Heap} {a : Addr} {ks : List Key} (R : KSet w h a ks) : ObjOk P w H h a (KSetO w a ks) := by
  have ⟨o, _, _, _, ho, _⟩ := R
  exact ⟨R, ⟨o, ho⟩, fun h1 h2 p k => p.at k⟩
def rSetK (w : World) (K : PySem.W.Frag) : List V → Hp → VK → Prop := fun xs H Q => ∃ (l : Addr) (ks : List Key), xs = [V.ref l] ∧ H l = some (.lst (ks.map kV)) ∧ ks.length + 1 < scanBound ∧ ∀ a, H a = none → Q (.ref a) (upd H a (KSetO w a (made ks.reverse)))
theorem keys_of : ∀ {ks : List Key} {us : List Value}, Vals (ks.map kV) us → Paired (fun k v => keyIs k v = true) ks us
  | [], _, h => by cases h; exact .nil
  | k :: ks, _, h => by
    cases h with
    | cons r t =>
      refine .cons ?_ (keys_of t)
      cases k with
      | inl i => obtain ⟨t, rfl⟩ := r; exact keyIs_int i t
      | inr x => obtain ⟨t, rfl⟩ := r; exact keyIs_str x t
theorem cLine63 : cLine ≤ 2 ^ 63 := by decide
theorem cr_setK (hc : X.calm = true) (hu : X.A.units + 64 < cLine) : CallR X (.type "set") (rSetK X.w X.K) := by
  intro pins s σ H xs us Q I r h
  obtain ⟨l, ks, rfl, hl, hb, q⟩ := h
  rw [Vals.ref1 r]
  obtain ⟨its, rv, pl, hz⟩ := I.list (.of hl)
  have hn : H s.heap.objs.size = none := I.hok.fresh (Nat.le_refl _)
  have pk := keys_of rv
  have len : its.length = ks.length := (Paired.length pk).symm
  refine call_set (P := X.prog) (w := X.w) (u := 2 ^ 63) (I.ok.hd hc) pl.isList (adds_keys pk hb) (by have := cLine63; omega) (fun h ho _ => ?_) fun h' tk J k => ?_
  · show KSet X.w h _ (made [])
    refine ⟨_, #[], 0, _, ho, ⟨rfl, rfl, rfl⟩, rfl, (fun e he => by simp at he), (by simp), (by exact List.Perm.refl _), (by decide), (by rfl), List.Pairwise.nil, ?_⟩
    show _ ∨ (!X.w.params.followText "set-order") = true
    cases X.w.params.followText "set-order"
    · exact .inr rfl
    · exact .inl rfl
  · have J' : KSet X.w h' s.heap.objs.size (made ks.reverse) := by
      rw [len, List.take_length] at J
      exact J
    exact ⟨.ref s.heap.objs.size, upd H s.heap.objs.size (KSetO X.w s.heap.objs.size (made ks.reverse)), I.laid (t' := tk) k (Nat.le_refl _) (ksetO_new J'), rfl, q _ hn⟩
def rSortK (w : World) : List V → Hp → VK → Prop := fun vs H Q => ∃ (a : Addr) (ks : List Key), vs = [V.ref a] ∧ H a = some (KSetO w a ks) ∧ PySem.W.AllAlike (ks.map Aq.kD) ∧
  ∀ (p : Addr) (ys : List Key), ys.Perm ks → (ys.map Aq.kD).Pairwise leD → H p = none → Q (.ref p) (upd H p (.lst (ys.map kV)))
theorem each_keys {h : Heap} {a : Addr} : ∀ {vs : List Value} {bs : List Key}, Paired (fun v k => keyIs k v = true) vs bs → PySem.W.EachIs (fun v k => keyIs k v = true) vs bs ∧ PySem.W.EachIs (fun v k => ∃ as, Reads h v (Aq.kD k) as ∧ a ∉ as) vs bs
  | _, _, .nil => ⟨.nil, .nil⟩
  | _, _, .cons r t => by
    obtain ⟨x, y⟩ := each_keys (h := h) (a := a) t
    refine ⟨.cons r x, .cons ?_ y⟩
    rcases keyIs_shape r with ⟨i, t, rfl, rfl⟩ | ⟨x, t, rfl, rfl⟩
    · exact ⟨[], Reads.int i t, by simp⟩
    · exact ⟨[], Reads.str x t, by simp⟩
theorem each_vals : ∀ {vs : List Value} {ks : List Key}, PySem.W.EachIs (fun v k => keyIs k v = true) vs ks → Vals (ks.map kV) vs
  | _, _, .nil => .nil
  | _, _, .cons r t => by
    refine .cons ?_ (each_vals t)
    rcases keyIs_shape r with ⟨i, t, rfl, rfl⟩ | ⟨x, t, rfl, rfl⟩
    · exact ⟨t, rfl⟩
    · exact ⟨t, rfl⟩
theorem kD_depth (k : Key) : (Aq.kD k).depth = 0 := by cases k <;> simp [Aq.kD, PyData.depth]
theorem kD_other (k : Key) : Aq.kD k ≠ .none ∧ ∀ xs, Aq.kD k ≠ .tuple xs := by
  cases k with
  | inl i => exact ⟨fun z => (by cases z), fun _ z => (by cases z)⟩
  | inr x => exact ⟨fun z => (by cases z), fun _ z => (by cases z)⟩
theorem cr_sortK (hc : X.calm = true) (hu : X.A.units + 64 < cLine) : CallR X (.builtin "sorted") (rSortK X.w) := by
  intro pins s σ H vs us Q I r h
  obtain ⟨a, ks, rfl, ha, hal, q⟩ := h
  rw [Vals.ref1 r]
  obtain ⟨o, es, ep, t, ho, hex, hd, g, nd, hm, hb, hf, hr, hl⟩ : KSet X.w s.heap a ks := (I.hok a _ ha).1
  refine Calls.call_function_entry kind_sorted plain_sorted entry_sorted (args_sorted1 _) ?_
  unfold Builtin.«sorted»
  refine wpAny_bind (m := checkCount "sorted" 1 1 _) (wpAny_pure ?_)
  refine wpAny_bind (collect_set (A := X.A.in1) (I.ok.hd hc) ⟨o, ho, hex.1, hd⟩ hf hb hr hl fun s1 vs k1 hz g1 o1 pm => ?_)
  obtain ⟨bs, hpb, hpm⟩ : ∃ bs : List Key, Paired (fun v k => keyIs k v = true) vs bs ∧ bs.Perm ks := by
    refine ⟨vs.map fun v => kyOf (0, v), ?_, ?_⟩
    · have aux : ∀ l : List Value, (∀ v ∈ l, keyIs (kyOf (0, v)) v = true) → Paired (fun v k => keyIs k v = true) l (l.map fun v => kyOf (0, v)) := fun l => by
        induction l with
        | nil => exact fun _ => .nil
        | cons v l ih => exact fun hh => .cons (hh v List.mem_cons_self) (ih fun u hu => hh u (List.mem_cons_of_mem _ hu))
      refine aux vs fun v hv => ?_
      obtain ⟨e, he, rfl⟩ := List.mem_map.mp (pm.mem_iff.mp hv)
      show keyIs (kyOf e) e.2 = true
      exact is_kyOf (g e he)
    · have q1 := pm.map fun v => kyOf (0, v)
      rw [List.map_map] at q1
      exact q1.trans hm
  have hvl : vs.length = ks.length := (Paired.length hpb).trans hpm.length_eq
  have hsmall : ks.length ≤ sizeLine := by
    rw [← hm.length_eq, List.length_map, Array.length_toList]
    exact fits_of_scanBound hb
  refine wpAny_bind (wpAny_newList ?_ (by rw [hvl]; exact hsmall))
  have hoL : (s1.heap.push (seqObj "list" vs.toArray 0)).get? s1.heap.objs.size = some (seqObj "list" vs.toArray 0) := Heap.get?_push_size _ rfl
  obtain ⟨e1, e2⟩ := each_keys (h := s1.heap.push (seqObj "list" vs.toArray 0)) (a := s1.heap.objs.size) hpb
  have hal2 : PySem.W.AllAlike (bs.map Aq.kD) := fun d hd d' hd' => by
    obtain ⟨k, hk, rfl⟩ := List.mem_map.mp hd
    obtain ⟨k', hk', rfl⟩ := List.mem_map.mp hd'
    exact hal _ (List.mem_map.mpr ⟨k, hpm.mem_iff.mp hk, rfl⟩) _ (List.mem_map.mpr ⟨k', hpm.mem_iff.mp hk', rfl⟩)
  refine wpAny_bind (wpAny_holding (PySem.W.list_sort_data (s := { s1 with heap := s1.heap.push (seqObj "list" vs.toArray 0) }) (enc := Aq.kD) (bs := bs) hoL e1 e2 hal2 (PySem.W.Sortable.others kD_other) (by rw [hpm.length_eq]; exact hsmall) (fun b _ => by rw [kD_depth]; show X.A.in1.units + 1 + 0 < cLine; show X.A.units + 1 + 1 + 0 < cLine; omega) fun out hol eo => ?_))
  obtain ⟨c, hc2⟩ := sortedHeap_at (vs := vs) (out := out.toArray) hoL
  have pms := List.mergeSort_perm bs (PySem.W.dataLe false Aq.kD)
  have hv := each_vals eo
  have hlen : ((bs.mergeSort (PySem.W.dataLe false Aq.kD)).map kV).length ≤ sizeLine := by
    rw [List.length_map, pms.length_eq, hpm.length_eq]; exact hsmall
  have hn : H s1.heap.objs.size = none := I.hok.fresh hz
  have kk : ∀ b u, s.heap.get? b = some u → (sortedHeap (s1.heap.push (seqObj "list" vs.toArray 0)) s1.heap.objs.size vs out.toArray).get? b = some u := fun b u e => by
    have q1 := k1 b u e
    have hlt := Heap.lt_size q1
    rw [sortedHeap_old (Nat.ne_of_lt hlt) (by rw [Heap.size_push]; exact Nat.lt_succ_of_lt hlt)]
    exact Heap.get?_push_of_some _ q1
  have J : Inv X pins σ (upd H s1.heap.objs.size (.lst ((bs.mergeSort (PySem.W.dataLe false Aq.kD)).map kV))) { s with heap := sortedHeap (s1.heap.push (seqObj "list" vs.toArray 0)) s1.heap.objs.size vs out.toArray, gens := s1.gens, drawn := s1.drawn, toks := s1.toks } :=
    I.call (ch := []) (Un.laid kk hz hn) (I.hok.laid kk hz ⟨hlen, out, c, hv, hc2⟩) (by rw [g1]; exact I.bare) (fun _ z => nomatch z)
  refine wpAny_pure ⟨_, rfl, ?_⟩
  have e : (⟨sortedHeap (s1.heap.push (seqObj "list" vs.toArray 0)) s1.heap.objs.size vs out.toArray, s1.gens, s1.drawn, s1.toks, s1.os⟩ : Shared) = { s with heap := sortedHeap (s1.heap.push (seqObj "list" vs.toArray 0)) s1.heap.objs.size vs out.toArray, gens := s1.gens, drawn := s1.drawn, toks := s1.toks } := by
    rw [o1]
  show EP X pins σ Q (.ref s1.heap.objs.size) ⟨sortedHeap (s1.heap.push (seqObj "list" vs.toArray 0)) s1.heap.objs.size vs out.toArray, s1.gens, s1.drawn, s1.toks, s1.os⟩
  rw [e]
  exact ⟨.ref s1.heap.objs.size, _, J, rfl, q _ _ (pms.trans hpm) (List.pairwise_map.mpr (pw_sort Aq.kD _)) hn⟩
end
end AqS
set_option maxHeartbeats 3200000
namespace Aq
open PySem PySem.Calls PyProof.Rows L2
variable {K : PySem.W.Frag} {W : WX} {X : Cx}
/-! ### walks over lists, tuples, texts -/
def iAny (K : PySem.W.Frag) (tl : TE) : TI := fun σ H R => tl σ H fun x H1 => (∃ a xs, x = .ref a ∧ SqL K H1 a xs ∧ R (Itl K a) H1) ∨ (∃ a xs, x = .ref a ∧ SqT K H1 a xs ∧ R (Itt K a) H1) ∨ ∃ z, x = .str z ∧ R (Its z) H1
theorem pi_any {tg l : Expr} {tl : TE} (hl : PE X l tl) : PI X tg l (iAny X.K tl) where
  run := fun pins s σ H R I h => thn (hl.run pins s σ H _ I h) fun v s1 ⟨x, H1, I1, r1, q1⟩ => by
    have fp : ∀ b ∈ [s1.heap.objs.size], FpOk X pins H1 b := fun b hb => by
      obtain rfl : b = s1.heap.objs.size := by simpa using hb
      exact I1.fpOk (Nat.le_refl _) (I1.hok.fresh (Nat.le_refl _))
    rcases q1 with ⟨a, xs, rfl, hq, q⟩ | ⟨a, xs, rfl, hq, q⟩ | ⟨z, rfl, q⟩
    · cases r1
      obtain ⟨its, rv, p, hz⟩ := I1.list hq
      exact wpAny_pyIter_list p.isList ⟨s1.heap.objs.size, [s1.heap.objs.size], _, _, H1, rfl, I1.kept (t' := s1.toks) fun b o e => Heap.get?_push_of_some _ e, turn_list a _, ⟨_, Heap.get?_push_size _ rfl, rfl, rfl⟩, fp, q⟩
    · cases r1
      obtain ⟨its, rv, p, hz⟩ := I1.tuple hq
      exact wpAny_pyIter_tuple (show s1.heap.IsTuple a its.toArray from p) ⟨s1.heap.objs.size, [s1.heap.objs.size], _, _, H1, rfl, I1.kept (t' := s1.toks) fun b o e => Heap.get?_push_of_some _ e, turn_tuple a _, ⟨_, Heap.get?_push_size _ rfl, rfl, rfl⟩, fp, q⟩
    · obtain ⟨t, rfl⟩ := r1
      cases ha : z.cps.all (· < 128)
      · exact wpAny_pyIter_wide ha (pi_one (tk := s1.toks) I1 _ (turn_str _ z t "str_iterator" (.inr rfl)) ⟨_, Heap.get?_push_size _ rfl, rfl, rfl⟩ q)
      · exact wpAny_pyIter_ascii ha (pi_one (tk := s1.toks) I1 _ (turn_str _ z t "str_ascii_iterator" (.inl rfl)) ⟨_, Heap.get?_push_size _ rfl, rfl, rfl⟩ q)
def signs (z : Str) : List PyData := z.cps.toList.map fun c => PyData.str ⟨#[c]⟩
theorem wk_str {F : Hp} {z : Str} : Wk K F (Its z) (signs z) where
  go := fun F' H' i s s' hi => by
    have q : i < z.cps.size := by simpa [signs] using hi
    exact q
  stop := fun F' H' i s s' hi => by
    have q : z.cps.size ≤ i := by simpa [signs] using hi
    exact q
  yld := fun C F' H' σ ρ i x H3 d R s e ⟨e3, c, hc, hx⟩ => by
    subst e3 hx
    unfold signs at e
    rw [List.getElem?_map, Array.getElem?_toList, hc] at e
    cases e
    exact ⟨F', R, .refl _, .str _, .refl _⟩
def aAnyI (a : AEx) : AIt := fun ρ PX P => a ρ PX fun r ρ1 => match r.hold with
  | .dat (.list ds) => P ds ρ1
  | .dat (.tuple ds) => P ds ρ1
  | .dat (.str z) => P (signs z) ρ1
  | _ => False
theorem is_any {tl : TE} {a : AEx} (ha : ES K W tl a) : IS K W (iAny K tl) (aAnyI a) := fun C ρ PX P F H σ R' R h xs k =>
  ha C ρ PX _ F H σ _ R h xs fun v F1 H1 r ρ1 R1 s1 o1 p1 => by
    obtain ⟨F2, R2, s2, o2, n2⟩ := hold_ok R1 o1
    cases e : r.hold with
    | dat d =>
      rw [e] at o2
      simp only [e] at p1
      cases d with
      | list ds =>
        cases o2 with
        | lst q1 q2 => exact .inl ⟨_, _, rfl, .of (R2.sub _ _ q1), k _ F2 H1 ds ρ1 R2 (s1.trans s2) (wk_list q1 q2) p1⟩
      | tuple ds =>
        cases o2 with
        | tup q1 q2 => exact .inr (.inl ⟨_, _, rfl, sameT R2.sub q1, k _ F2 H1 ds ρ1 R2 (s1.trans s2) (wk_tup q1 q2) p1⟩)
      | str z =>
        cases o2
        exact .inr (.inr ⟨z, rfl, k _ F2 H1 _ ρ1 R2 (s1.trans s2) wk_str p1⟩)
      | _ => exact p1.elim
    | bor j => simp only [e] at p1
    | own j => simp only [e] at p1
    | tupO _ _ => simp only [e] at p1
/-- enumerate(xs) of a list -/
def enumD : List PyData → Nat → List PyData
  | [], _ => []
  | d :: ds, i => .tuple [.int (i : Nat), d] :: enumD ds (i + 1)
theorem enumD_len : ∀ (ds : List PyData) (i : Nat), (enumD ds i).length = ds.length
  | [], _ => rfl
  | d :: ds, i => by unfold enumD; rw [List.length_cons, List.length_cons, enumD_len ds]
theorem enumD_at : ∀ (ds : List PyData) (j i : Nat), (enumD ds j)[i]? = (ds[i]?).map fun d => PyData.tuple [.int ((j + i : Nat) : Int), d]
  | [], _, _ => by simp [enumD]
  | d :: ds, j, 0 => by simp [enumD]
  | d :: ds, j, i + 1 => by
    unfold enumD
    rw [List.getElem?_cons_succ, List.getElem?_cons_succ, enumD_at ds (j + 1) i]
    have : j + 1 + i = j + (i + 1) := by omega
    rw [this]
theorem wk_enum {F : Hp} {a : Addr} {xs : List V} {ds : List PyData} (h : F a = some (.lst xs)) (hd : DrAll K F xs ds) : Wk K F (Ite K a) (enumD ds 0) where
  go := fun F' H' i s s' hi => by
    rw [enumD_len] at hi
    have hi' : i < xs.length := by rw [hd.length]; exact hi
    exact ⟨xs, xs[i], .of (s' _ _ (s _ _ h)), List.getElem?_eq_getElem hi'⟩
  stop := fun F' H' i s s' hi => by
    rw [enumD_len] at hi
    exact ⟨xs, .of (s' _ _ (s _ _ h)), by rw [hd.length]; exact hi⟩
  yld := fun C F' H' σ ρ i x H3 d R s e ⟨T, y, ex, hT, e3, hx⟩ => by
    subst e3 ex
    rw [enumD_at, Nat.zero_add] at e
    have q := hx xs (.of (R.sub _ _ (s _ _ h)))
    obtain ⟨d', ed', hv⟩ := hd.get q
    rw [ed'] at e
    cases e
    obtain ⟨R', s'⟩ := R.laidF (u := .tup [.int ((i : Nat) : Int), y]) hT
    refine ⟨_, R', s', .tup (.of upd_same) (.cons (.int _) (.one (hv.mono (s.trans s')))), fun b o e => ?_⟩
    rw [upd_ne (ne_of_none e hT)]
    exact e
def aEnum (a : AAx) : AIt := fun ρ PX P => a ρ PX fun rs ρ1 => match rs with
  | [.dat (.list ds)] => P (enumD ds 0) ρ1
  | _ => False
theorem is_enum {t : TA} {a : AAx} (ha : AS0 K W t a) : IS K W (iEnum K t) (aEnum a) := fun C ρ PX P F H σ R' R h xs k =>
  ha C ρ PX _ F H σ _ R h xs fun vs F1 H1 rs ρ1 R1 s1 o1 p1 => by
    split at p1
    · cases o1 with
      | cons h1 h2 =>
        cases h2
        obtain ⟨h1, _⟩ := h1
        cases h1 with
        | lst q1 q2 => exact ⟨_, _, rfl, .of (R1.sub _ _ q1), k _ F1 H1 _ ρ1 R1 s1 (wk_enum q1 q2) p1⟩
    · exact p1.elim
/-! ### sorted -/
open AqS in
def gSort : DCl := gC1 fun d P => match d with
  | .list ds => PySem.W.AllAlike ds ∧ PySem.W.Sortable ds ∧ (∀ d ∈ ds, d.depth ≤ 60) ∧ noDics ds = true ∧ ∀ es, es.Perm ds → es.Pairwise AqS.leD → P (.newL es)
  | _ => False
theorem zip_dr {F : Hp} : ∀ {xs : List V} {ds : List PyData}, DrAll K F xs ds → ∀ q ∈ xs.zip ds, Dr K F q.1 q.2
  | _, _, .nil, q, hq => by simp at hq
  | _, _, .cons h1 h2, q, hq => by
    rw [List.zip_cons_cons, List.mem_cons] at hq
    rcases hq with rfl | hq
    · exact h1
    · exact zip_dr h2 q hq
theorem zip_perm {F : Hp} {xs : List V} {ds : List PyData} (h : DrAll K F xs ds) {ps : List (V × PyData)} (p : ps.Perm (xs.zip ds)) : DrAll K F (ps.map Prod.fst) (ps.map Prod.snd) ∧ (ps.map Prod.snd).Perm ds := by
  have all := zip_dr h
  have go : ∀ l : List (V × PyData), (∀ q ∈ l, Dr K F q.1 q.2) → DrAll K F (l.map Prod.fst) (l.map Prod.snd) := fun l => by
    induction l with
    | nil => exact fun _ => .nil
    | cons a l ih => exact fun hh => .cons (hh a List.mem_cons_self) (ih fun q hq => hh q (List.mem_cons_of_mem _ hq))
  refine ⟨go ps fun q hq => all q (p.mem_iff.mp hq), ?_⟩
  have e : (xs.zip ds).map Prod.snd = ds := by
    rw [List.map_snd_zip]
    exact Nat.le_of_eq h.length.symm
  have := p.map Prod.snd
  rw [e] at this
  exact this
theorem r1_sort : R1S K (AqS.rSortD K) gSort := r1_of fun F H v d Pd Q s l h o => by
  cases d with
  | list ds =>
    obtain ⟨a, xs, rfl, h1, h2⟩ := l.list s
    refine ⟨a, xs, ds, rfl, h1, DrAll.dp _ _ (h2.mono s) h.2.2.2.1, h.1, h.2.1, h.2.2.1, fun p ps hp hw hn => ?_⟩
    obtain ⟨z1, z2⟩ := zip_perm h2 hp
    exact o.newL p _ _ hn z1 (h.2.2.2.2 _ z2 hw)
  | _ => exact h.elim
/-! ### sorted(set(xs)) of numbers or texts -/
def keyD : PyData → Option Key
  | .int i => some (.inl i)
  | .str x => some (.inr x)
  | _ => none
def keysD : List PyData → Option (List Key)
  | [] => some []
  | d :: ds => match keyD d, keysD ds with
    | some k, some ks => some (k :: ks)
    | _, _ => none
theorem keysD_some {F : Hp} : ∀ {ds : List PyData} {ks : List Key} {xs : List V}, keysD ds = some ks → DrAll K F xs ds → xs = ks.map kV ∧ ds = ks.map kD
  | [], _, _, e, h => by cases e; cases h; exact ⟨rfl, rfl⟩
  | d :: ds, ks, _, e, h => by
    unfold keysD at e
    cases q1 : keyD d with
    | none => rw [q1] at e; cases e
    | some k =>
      cases q2 : keysD ds with
      | none => rw [q1, q2] at e; cases e
      | some l =>
        rw [q1, q2] at e
        cases e
        cases h with
        | cons h1 h2 =>
          obtain ⟨e1, e2⟩ := keysD_some q2 h2
          subst e1 e2
          cases d with
          | int i => cases q1; cases h1; exact ⟨rfl, rfl⟩
          | str x => cases q1; cases h1; exact ⟨rfl, rfl⟩
          | _ => cases q1
theorem mem_addK {k x : Key} {ks : List Key} : x ∈ AqS.addK k ks ↔ x = k ∨ x ∈ ks := by
  by_cases h : k ∈ ks
  · rw [AqS.addK_in h]
    exact ⟨.inr, fun z => z.elim (fun e => by rw [e]; exact h) id⟩
  · rw [AqS.addK_out h, List.mem_cons]
theorem mem_made {x : Key} : ∀ {ks : List Key}, x ∈ AqS.made ks ↔ x ∈ ks
  | [] => Iff.rfl
  | k :: ks => by
    unfold AqS.made
    rw [mem_addK, mem_made, List.mem_cons]
theorem nodup_made : ∀ ks : List Key, (AqS.made ks).Nodup
  | [] => List.Pairwise.nil
  | k :: ks => by
    unfold AqS.made
    by_cases h : k ∈ AqS.made ks
    · rw [AqS.addK_in h]; exact nodup_made ks
    · rw [AqS.addK_out h]; exact List.nodup_cons.mpr ⟨h, nodup_made ks⟩
/-- set(e) and sorted(set(e)) in one -/
def tSortSet (w : World) (K : PySem.W.Frag) (ta : TE) : TE := tCB (AqS.rSortK w) (tCons (tCB (AqS.rSetK w K) (tCons ta tNil)) tNil)
def aSortSet (a : AEx) : AEx := fun ρ PX P => a ρ PX fun r ρ1 => match r.hold with
  | .dat (.list ds) => (match keysD ds with
    | some ks => ks.length + 1 < scanBound ∧ PySem.W.AllAlike ds ∧ ∀ ys : List Key, ys.Nodup → (∀ k, k ∈ ys ↔ k ∈ ks) → (ys.map kD).Pairwise AqS.leD → P (.own (.ml none (ys.map kD))) ρ1
    | none => False)
  | _ => False
theorem drKeys {F : Hp} : ∀ ks : List Key, DrAll K F (ks.map kV) (ks.map kD)
  | [] => .nil
  | .inl i :: ks => .cons (.int i) (drKeys ks)
  | .inr x :: ks => .cons (.str x) (drKeys ks)
theorem es_sortSet {w : World} {ta : TE} {a : AEx} (ha : ES K W ta a) : ES K W (tSortSet w K ta) (aSortSet a) := fun C ρ PX P F H σ Q R h xs k =>
  ha C ρ PX _ F H σ _ R h xs fun v F1 H1 r ρ1 R1 s1 o1 p1 => by
    obtain ⟨F2, R2, s2, o2, n2⟩ := hold_ok R1 o1
    cases e : r.hold with
    | bor j => simp only [e] at p1
    | own j => simp only [e] at p1
    | tupO _ _ => simp only [e] at p1
    | dat d =>
      rw [e] at o2
      simp only [e] at p1
      cases d with
      | list ds =>
        cases o2 with
        | lst q1 q2 =>
          cases ek : keysD ds with
          | none => simp only [ek] at p1
          | some ks =>
            simp only [ek] at p1
            obtain ⟨hb, hal, hp⟩ := p1
            obtain ⟨e1, e2⟩ := keysD_some ek q2
            subst e1
            refine ⟨_, ks, rfl, R2.sub _ _ q1, hb, fun b hb2 => ?_⟩
            have R3 := (R2.laidM (u := AqS.KSetO w b (AqS.made ks.reverse)) hb2).1
            have mm : ∀ x, x ∈ AqS.made ks.reverse ↔ x ∈ ks := fun x => by rw [mem_made, List.mem_reverse]
            refine ⟨b, AqS.made ks.reverse, rfl, upd_same, fun d hd d' hd' => ?_, fun p ys pm pw hn => ?_⟩
            · obtain ⟨z, hz, rfl⟩ := List.mem_map.mp hd
              obtain ⟨z', hz', rfl⟩ := List.mem_map.mp hd'
              rw [e2] at hal
              exact hal _ (List.mem_map.mpr ⟨z, (mm z).mp hz, rfl⟩) _ (List.mem_map.mpr ⟨z', (mm z').mp hz', rfl⟩)
            · have nd : ys.Nodup := pm.nodup_iff.mpr (nodup_made _)
              have q := hp ys nd (fun x => by rw [pm.mem_iff, mm]) pw
              exact (outS R3 (P := P) (Q := Q) fun v' F' H' r' R' s' o' p' => k v' F' H' r' ρ1 R' ((s1.trans s2).trans s') o' p').newL p _ _ hn (drKeys ys) q
      | _ => simp only [e] at p1
/-! ### isinstance of data and a built-in class -/
def isT (T : String) : PyData → Bool
  | .none => T == "NoneType"
  | .bool _ => T == "bool" || T == "int"
  | .int _ => T == "int"
  | .str _ => T == "str"
  | .list _ => T == "list"
  | .tuple _ => T == "tuple"
  | .dict _ => T == "dict"
def tyN : PyData → String
  | .none => "NoneType"
  | .bool _ => "bool"
  | .int _ => "int"
  | .str _ => "str"
  | .list _ => "list"
  | .tuple _ => "tuple"
  | .dict _ => "dict"
def tIsi (K : PySem.W.Frag) (T : String) (ta : TE) : TE := tCB (rIsi K) (tCons ta (tCons (tC (.ty T)) tNil))
def aIsi (T : String) (a : AEx) : AEx := fun ρ PX P => a ρ PX fun r ρ1 => withD (r.hold.look ρ1) fun d => (match d with
  | .dict _ => False
  | d => P (.dat (.bool (isT T d))) ρ1)
theorem tyX_of {F H : Hp} {v : V} {d : PyData} (s : Same F H) (h : Lk K F H v d) (hn : ∀ es, d ≠ .dict es) : TyX K H v (.type (tyN d)) := by
  cases d with
  | none => rw [h.none]; exact .base .non
  | bool b => rw [h.bool]; exact .base (.bl b)
  | int b => rw [h.int]; exact .base (.int b)
  | str b => rw [h.str]; exact .base (.str b)
  | list ds => obtain ⟨l, xs, rfl, h1, _⟩ := h.list s; exact .base (.lst h1)
  | tuple ds =>
    obtain ⟨l, xs, rfl, h1, _⟩ := h.tuple s
    rcases h1 with (h1 | ⟨o, h1⟩) | ⟨o, its, n, hk, hc, _⟩
    · exact .base (.tup h1)
    · exact .fTuple h1
    · exact .kTuple hk hc
  | dict es => exact absurd rfl (hn es)
/-- what is to be known of the class T -/
structure IsiOk (K : PySem.W.Frag) (T : String) : Prop where
  all : ∀ U ∈ ["NoneType", "bool", "int", "str", "list", "tuple", "dict"], PySem.W.kitOne K (.type U) (.type T) = some (U == T || (U == "bool" && T == "int"))
theorem isT_eq (T : String) (d : PyData) : isT T d = (tyN d == T || (tyN d == "bool" && T == "int")) := by
  cases d <;> simp [isT, tyN, Bool.beq_comm, BEq.comm]
theorem es_isi {T : String} {ta : TE} {a : AEx} (hT : IsiOk K T) (ha : ES K W ta a) : ES K W (tIsi K T ta) (aIsi T a) := fun C ρ PX P F H σ Q R h xs k =>
  ha C ρ PX _ F H σ _ R h xs fun v F1 H1 r ρ1 R1 s1 o1 p1 => by
    obtain ⟨F2, R2, s2, o2, n2⟩ := hold_ok R1 o1
    obtain ⟨d, ed, p1⟩ := withD_some p1
    have lk := o2.lk R2 ed
    have hn : ∀ es, d ≠ .dict es := fun es e => by subst e; exact p1
    have p1 : P (.dat (.bool (isT T d))) ρ1 := by
      cases d with
      | dict es => exact p1.elim
      | _ => exact p1
    refine ⟨v, .ty T, .type (tyN d), .type T, isT T d, rfl, .ty T, tyX_of R2.sub lk hn, ?_, k (.bl _) F2 H1 (.dat (.bool (isT T d))) ρ1 R2 (s1.trans s2) (.bl _) p1⟩
    rw [isT_eq]
    refine hT.all (tyN d) ?_
    cases d <;> simp [tyN]
/-! ### join -/
def strsD : List PyData → Option (List Str)
  | [] => some []
  | .str b :: ds => (strsD ds).map (b :: ·)
  | _ => none
theorem strsD_some : ∀ {ds : List PyData} {bs : List Str}, strsD ds = some bs → ds = bs.map PyData.str
  | [], bs, e => by cases e; rfl
  | .str b :: ds, bs, e => by
    unfold strsD at e
    cases q : strsD ds with
    | none => rw [q] at e; cases e
    | some l => rw [q] at e; cases e; rw [strsD_some q]; rfl
  | .none :: ds, bs, e => by cases e
  | .bool _ :: ds, bs, e => by cases e
  | .int _ :: ds, bs, e => by cases e
  | .list _ :: ds, bs, e => by cases e
  | .tuple _ :: ds, bs, e => by cases e
  | .dict _ :: ds, bs, e => by cases e
theorem strsD_map (bs : List Str) : strsD (bs.map PyData.str) = some bs := by
  induction bs with
  | nil => rfl
  | cons b bs ih => show (strsD (bs.map PyData.str)).map (b :: ·) = _; rw [ih]; rfl
def rJoin (K : PySem.W.Frag) : V → List V → Hp → VK → Prop := fun x xs H Q => ∃ a p, ∃ ys : List Str, x = .str a ∧ xs = [.ref p] ∧ (SqL K H p (ys.map V.str) ∨ SqT K H p (ys.map V.str)) ∧ (ys.map (·.length)).sum + ys.length * a.length ≤ 16777216 ∧ Q (.str (Txt.join a ys)) H
def aJoin (b a : AEx) : AEx := fun ρ PX P => b ρ PX fun rb ρ1 => match rb with
  | .dat (.str z) => a ρ1 PX fun r ρ2 => withD (r.look ρ2) fun d => (match d with
    | .list ds => (match strsD ds with
      | some ys => (ys.map (·.length)).sum + ys.length * z.length ≤ 16777216 ∧ P (.dat (.str (Txt.join z ys))) ρ2
      | none => False)
    | _ => False)
  | _ => False
theorem es_join {tb te : TE} {b a : AEx} (hb : ES K W tb b) (ha : ES K W te a) : ES K W (tM1 (rJoin K) tb te) (aJoin b a) := fun C ρ PX P F H σ Q R h xs k =>
  hb C ρ PX _ F H σ _ R h xs fun v F1 H1 r1 ρ1 R1 s1 o1 p1 => by
    cases r1 with
    | bor j => exact p1.elim
    | own j => exact p1.elim
    | tupO _ _ => exact p1.elim
    | dat d =>
      cases d with
      | str z =>
        cases o1
        refine ⟨⟨z, rfl⟩, ?_⟩
        refine ha C ρ1 PX _ F1 H1 σ _ R1 p1 xs fun u F2 H2 r2 ρ2 R2 s2 o2 p2 => ?_
        obtain ⟨d, ed, p2⟩ := withD_some p2
        cases d with
        | list ds =>
          cases es : strsD ds with
          | none => simp only [es] at p2
          | some ys =>
            simp only [es] at p2
            obtain ⟨l, xs', rfl, h1, h2⟩ := (o2.lk R2 ed).list R2.sub
            rw [strsD_some es] at h2
            rw [h2.strs_of] at h1
            exact ⟨z, l, ys, rfl, rfl, .inl (.of h1), p2.1, k _ F2 H2 (.dat (.str (Txt.join z ys))) ρ2 R2 (s1.trans s2) (.str _) p2.2⟩
        | _ => exact p2.elim
      | _ => exact p1.elim
/-! ### xs[::-1] of a list -/
def aRevL (a : AEx) : AEx := fun ρ PX P => a ρ PX fun r ρ1 => withD (r.look ρ1) fun d => match d with
  | .list ds => P (.own (.ml none ds.reverse)) ρ1
  | _ => False
theorem es_revL {ta : TE} {a : AEx} (ha : ES K W ta a) : ES K W (tRevL K ta) (aRevL a) := fun C ρ PX P F H σ Q R h xs k =>
  ha C ρ PX _ F H σ _ R h xs fun v F1 H1 r1 ρ1 R1 s1 o1 p1 => by
    obtain ⟨d, ed, p1⟩ := withD_some p1
    cases d with
    | list ds =>
      obtain ⟨l, xs', rfl, h1, h2⟩ := (o1.lk R1 ed).list R1.sub
      exact ⟨l, xs', rfl, .of h1, fun p hp => (outS R1 (P := P) (Q := Q) fun v' F' H' r' R' s' o' p' => k v' F' H' r' ρ1 R' (s1.trans s') o' p').newL p _ _ hp h2.reverse p1⟩
    | _ => exact p1.elim
/-! ### the script -/
def aLenS (i : Nat) : AEx := fun ρ _ P => match ρ[i]? with
  | some (.scr ns) => P (.dat (.int ns.length)) ρ
  | _ => False
theorem es_lenS {i : Nat} : ES K W (tCB (rLenA K) (tCons (tVar i) tNil)) (aLenS i) := fun C ρ PX P F H σ Q R h xs k => by
  unfold aLenS at h
  split at h
  · rename_i ns e
    obtain ⟨o, eo, a, rfl, hs⟩ := R.slot i _ e
    refine ⟨_, eo, .ref a, ns.length, rfl, .inl ⟨_, R.sub.seq hs, by rw [List.length_map]⟩, k _ F H (.dat (.int ns.length)) ρ R (.refl _) (.int _) h⟩
  · exact h.elim
def aIxS (i : Nat) (b : AEx) : AEx := fun ρ PX P => match ρ[i]? with
  | some (.scr ns) => b ρ PX fun r ρ1 => (match r with
    | .dat (.int k) => (match atI ns k with
      | some z => P (.dat (.int z)) ρ1
      | none => False)
    | _ => False)
  | _ => False
theorem atI_map {α β : Type} (f : α → β) (xs : List α) (i : Int) : atI (xs.map f) i = (atI xs i).map f := by
  unfold atI
  rw [List.length_map]
  cases ixN xs.length i with
  | none => rfl
  | some j => simp
theorem es_ixS {i : Nat} {tb : TE} {b : AEx} (hb : ES K W tb b) : ES K W (tOp (rIx K) (tVar i) tb) (aIxS i b) := fun C ρ PX P F H σ Q R h xs k => by
  unfold aIxS at h
  split at h
  · rename_i ns e
    obtain ⟨o, eo, a, rfl, hs⟩ := R.slot i _ e
    refine ⟨_, eo, ?_⟩
    refine hb C ρ PX _ F H σ _ R h xs fun u F1 H1 r ρ1 R1 s1 o1 p1 => ?_
    cases r with
    | dat d =>
      cases d with
      | int j =>
        cases o1
        cases ez : atI ns j with
        | none => simp only [ez] at p1
        | some z =>
          simp only [ez] at p1
          exact .inl ⟨a, _, j, .int z, rfl, rfl, (s1.trans R1.sub).seq hs, by rw [atI_map, ez]; rfl, k _ F1 H1 (.dat (.int z)) ρ1 R1 s1 (.int _) p1⟩
      | _ => exact p1.elim
    | _ => exact p1.elim
  · exact h.elim
end Aq
set_option maxHeartbeats 3200000
namespace AqS
open PySem PySem.Calls PyProof.Rows L2 HT
section
variable {prog : Program} {w : World} {A : Around} {E : Value → Shared → Prop} {s : Shared}
/-! ### xs[a:c] = ys, the end beyond the list's too -/
theorem bnd {a c n : Nat} (ha : a ≤ n) (hac : a ≤ c) : sliceBounds (some (a : Int)) (some (c : Int)) none n = ((a : Int), ((min c n : Nat) : Int), 1) := by
  have h1 : ¬ ((a : Int) < 0) := by omega
  have h2 : ¬ ((c : Int) < 0) := by omega
  simp only [sliceBounds, Option.getD_none, h1, h2, if_false, show (1 : Int) > 0 by decide, if_true]
  congr 1
  · omega
  · congr 1; omega
theorem set_cut {l b sl : Addr} {items new : Array Value} {n n2 : Nat} {vl vu : Value} {a c : Nat} {Q : Unit → Shared → Prop}
    (e : s.heap.get? l = some { cls := .type "list", data := .seq items n }) (e2 : s.heap.get? b = some { cls := .type "list", data := .seq new n2 }) (hne : l ≠ b)
    (hs : s.heap.IsSliceOf sl vl vu .none) (pl : IsPart vl (some (a : Int))) (pu : IsPart vu (some (c : Int))) (ha : a ≤ items.size) (hac : a ≤ c)
    (hsz : items.size + new.size ≤ sizeLine) (h : Q () { s with heap := s.heap.update l (Obj.mapSeq fun xs => xs.extract 0 a ++ new ++ xs.extract (min c items.size) xs.size) }) :
    wpAny (model prog w) A (setItem (.ref l) (.ref sl) (.ref b)) Q E s := by
  have hl : s.heap.IsList l items := PySem.IsL.isList e
  have hb : s.heap.IsList b new := PySem.IsL.isList e2
  obtain ⟨os, hos, hcs, hds⟩ := id hs
  have hTs : s.TypeIs (.ref sl) "slice" := ⟨os, hos, hcs⟩
  have k0 : ¬ ((rawPart none == rawInt 0) = true) := Bool.false_ne_true
  have k1 : Builtin.List.listSameRef (.ref l) (.ref b) = false := by unfold Builtin.List.listSameRef; exact beq_eq_false_iff_ne.mpr hne
  have k2 : (max (a : Int) ((min c items.size : Nat) : Int)).toNat = min c items.size := by omega
  have k3 : ((fun xs : Array Value => xs.extract 0 a ++ new ++ xs.extract (min c items.size) xs.size) items).size ≤ sizeLine + 1 := by
    simp only [Array.size_append, Array.size_extract]; omega
  unfold setItem
  try with_reducible refine wpAny_holding ?_
  first | refine wpAny_bind (wpAny_pure ?_) | skip
  refine wpAny_bind (wpAny_sequenceKey hl.typeIs (by decide) ?_)
  refine wpAny_bind (wpAny_callSpecial?_slot (name := Str.ofString "__setitem__") hl.typeIs slot_list_setitem (wpAny_call_entry slot_list_setitem hl.typeIs entry_list_setitem ?_ (args_list_setitem _ _ _)))
  show wpAny _ _ (Builtin.List.listSubscript? (.ref sl) >>= _) _ _ s
  refine wpAny_bind ?_
  unfold Builtin.List.listSubscript?
  refine wpAny_bind (wpAny_specialOf hTs slice_no_index ?_)
  simp only [Option.isNone_none, if_true]
  refine wpAny_pure ?_
  show wpAny _ _ (typeOf (.ref sl) >>= _) _ _ s
  refine wpAny_bind (wpAny_typeOf hTs ?_)
  first | rw [if_neg (by decide)] | refine PySem.W.KFB.if_not (by decide) ?_
  rw [listSliceParts_eq]
  refine wpAny_bind (wpAny_bind (wpAny_field hos hds (x := .none) rfl (wpAny_bind (wpAny_listPart .none ?_))))
  rw [if_neg k0]
  refine wpAny_bind (wpAny_field hos hds (x := vl) rfl (wpAny_bind (wpAny_listPart pl ?_)))
  refine wpAny_bind (wpAny_field hos hds (x := vu) rfl (wpAny_bind (wpAny_listPart pu (wpAny_pure ?_))))
  first | simp only [k1, Bool.false_eq_true, if_false] | refine PySem.W.KFB.if_not k1 ?_
  refine wpAny_bind (m := Builtin.List.listAllItems (.ref b) "must assign iterable to extended slice") ?_
  unfold Builtin.List.listAllItems
  refine wpAny_bind (wpAny_typeOf hb.typeIs ?_)
  first | refine PySem.W.KFB.if_so (by decide) ?_ | rw [if_pos (by decide)] | simp only [beq_self_eq_true, Bool.true_or, if_true]
  unfold Builtin.List.listItems
  refine wpAny_bind (wpAny_seqItems e2 rfl (wpAny_pure ?_))
  refine wpAny_bind (wpAny_bind (wpAny_seqItems e rfl (wpAny_pure ?_)))
  refine wpAny_bind (wpAny_of_eq ((sliceIndices_raw (some (a : Int)) (some (c : Int)) none items.size (by simp)).trans (congrArg (pure : Int × Int × Int → Sem (Int × Int × Int)) (bnd ha hac))) ?_)
  show wpAny _ _ (if ((1 : Int) == 1) = true then _ else _) _ _ s
  rw [if_pos (by decide)]
  refine wpAny_bind (wpAny_rule ?_)
  first | simp only [notLongL hsz, Bool.false_eq_true, if_false] | refine PySem.W.KFB.if_not (notLongL hsz) ?_
  first | refine wpAny_bind (wpAny_pure ?_) | skip
  show wpAny _ _ (updateSeq l (fun xs => xs.extract 0 ((a : Int)).toNat ++ new ++ xs.extract (max (a : Int) ((min c items.size : Nat) : Int)).toNat xs.size) >>= _) _ _ s
  rw [k2, Int.toNat_natCast]
  refine wpAny_bind (wpAny_updateSeq (hz := Nat.le_trans (Nat.le_add_right _ _) hsz) (_hz' := k3) e rfl ?_)
  refine wpAny_bind (wpAny_letGo ?_)
  first
    | exact wpAny_bind (wpAny_pure (wpAny_pure ⟨.none, rfl, wpAny_pure h⟩))
    | exact wpAny_pure ⟨.none, rfl, wpAny_pure h⟩
/-! ### t[::-1] -/
theorem pick_back (xs : Array Value) : ((List.range xs.size).filterMap fun (m : Nat) => xs[(((xs.size : Int) - 1) + (m : Int) * -1).toNat]?).toArray = xs.toList.reverse.toArray := by
  congr 1
  have go : ∀ n, n ≤ xs.size → ((List.range n).filterMap fun (m : Nat) => xs[(((xs.size : Int) - 1) + (m : Int) * -1).toNat]?) = xs.toList.reverse.take n := fun n => by
    induction n with
    | zero => intro _; simp
    | succ n ih =>
      intro hn
      rw [List.range_succ, List.filterMap_append, ih (by omega), List.take_add_one]
      congr 1
      have e1 : (((xs.size : Int) - 1) + (n : Int) * -1).toNat = xs.size - 1 - n := by omega
      have hlt : xs.size - 1 - n < xs.size := by omega
      have hlt2 : n < xs.toList.reverse.length := by rw [List.length_reverse, Array.length_toList]; omega
      rw [List.getElem?_eq_getElem hlt2, List.getElem_reverse]
      simp only [List.filterMap_cons, List.filterMap_nil, e1, Array.getElem?_eq_getElem hlt, Option.toList_some, Array.getElem_toList, Array.length_toList]
  rw [go xs.size (Nat.le_refl _), List.take_of_length_le (by rw [List.length_reverse, Array.length_toList]; exact Nat.le_refl _)]
theorem adj_back (n : Nat) : Builtin.Slice.sliceAdjust none none (-1) (n : Int) = ((n : Int) - 1, -1) := by
  simp [Builtin.Slice.sliceAdjust]
theorem places_back (n : Nat) : Builtin.Slice.slicePlaces ((n : Int) - 1) (-1) (-1) = n := by
  unfold Builtin.Slice.slicePlaces
  rw [if_neg (by decide)]
  by_cases h : (n : Int) - 1 > -1
  · rw [if_pos h]
    have : ((n : Int) - 1 - -1 - 1) / (- -1) + 1 = n := by
      have e : (- -1 : Int) = 1 := by decide
      rw [e, Int.ediv_one]; omega
    rw [this]; omega
  · rw [if_neg h]; omega
theorem tup_back {t sl : Addr} {items : Array Value} {vl vu vs : Value} {Q : Value → Shared → Prop} (ht : IsTup s.heap t items) (hs : s.heap.IsSliceOf sl vl vu vs) (pl : IsPart vl none) (pu : IsPart vu none) (ps : IsPart vs (some (-1)))
    (h : Q (.ref s.heap.objs.size) { s with heap := s.heap.push { cls := .type "tuple", data := .seq items.toList.reverse.toArray } })
    (hsz : items.size ≤ sizeLine) : wpAny (model prog w) A (getItem (.ref t) (.ref sl)) Q E s := by
  have htake : sizeOk (.seq items.toList.reverse.toArray) := by
    show items.toList.reverse.toArray.size ≤ sizeLine
    rw [List.size_toArray, List.length_reverse, Array.length_toList]
    exact hsz
  obtain ⟨os, hos, hcs, hds⟩ := id hs
  have hTs : s.TypeIs (.ref sl) "slice" := ⟨os, hos, hcs⟩
  unfold getItem
  try with_reducible refine wpAny_holding ?_
  first | refine wpAny_bind (wpAny_pure ?_) | skip
  refine wpAny_bind (wpAny_sequenceKey ht.typeIs (by decide) ?_)
  refine wpAny_bind (wpAny_callSpecial?_slot (name := Str.ofString "__getitem__") ht.typeIs PyProof.Rows.slot_tuple_getitem (wpAny_call_entry PyProof.Rows.slot_tuple_getitem ht.typeIs entry_tuple_getitem ?_ (args_tuple_getitem _ _)))
  show wpAny _ _ (Builtin.Tuple.tupleItemsOf (.ref t) >>= _) _ _ s
  refine wpAny_bind (tupleItemsOf_ ht ?_)
  refine wpAny_bind (wpAny_typeOf hTs ?_)
  rw [if_pos (by decide)]
  have ap : ∀ {Q' : Int × Int × Nat → Shared → Prop} {A' : Around} {E' : Value → Shared → Prop}, Q' ((items.size : Int) - 1, -1, items.size) s → wpAny (model prog w) A' (Builtin.Slice.sliceApplied (.ref sl) (pure (items.size : Int))) Q' E' s := fun {Q' A' E'} hq => by
    unfold Builtin.Slice.sliceApplied Builtin.Slice.sliceFields
    refine wpAny_bind (wpAny_bind (wpAny_field hos hds (x := vl) rfl (wpAny_bind (wpAny_field hos hds (x := vu) rfl (wpAny_bind (wpAny_field hos hds (x := vs) rfl (wpAny_pure ?_)))))))
    refine wpAny_bind (slicePart_ ps ?_)
    show wpAny _ _ (if ((-1 : Int) == 0) = true then _ else _) _ _ s
    rw [if_neg (by decide)]
    refine wpAny_bind (slicePart_ pl (wpAny_bind (slicePart_ pu (wpAny_bind (wpAny_pure ?_)))))
    show wpAny _ _ (match Builtin.Slice.sliceAdjust none none (-1) (items.size : Int) with | (lo, hi) => pure (lo, (-1 : Int), Builtin.Slice.slicePlaces lo hi (-1))) _ _ s
    rw [adj_back]
    show wpAny _ _ (pure ((items.size : Int) - 1, (-1 : Int), Builtin.Slice.slicePlaces ((items.size : Int) - 1) (-1) (-1))) _ _ s
    rw [places_back]
    exact wpAny_pure hq
  refine wpAny_bind (ap ?_)
  have hno : ¬ ((((items.size : Int) - 1) == 0 && (-1 : Int) == 1 && items.size == items.size) = true) := by simp
  show wpAny _ _ (if ((((items.size : Int) - 1) == 0 && (-1 : Int) == 1 && items.size == items.size) = true) then _ else _) _ _ s
  rw [if_neg hno, pick_back]
  first
    | exact wpAny_bind (m := Builtin.Tuple.tupleExact _) (wpAny_newObj_type (wpAny_pure ⟨_, rfl, wpAny_pure h⟩) htake)
    | exact wpAny_bind (m := Builtin.Tuple.tupleExact _) (wpAny_newObj_type (wpAny_bind (wpAny_pure (wpAny_pure ⟨_, rfl, wpAny_pure h⟩))) htake)
    | exact wpAny_bind (wpAny_bind (m := Builtin.Tuple.tupleExact _) (wpAny_newObj_type (wpAny_pure (wpAny_pure ⟨_, rfl, wpAny_pure h⟩)) htake))
    | exact wpAny_bind (wpAny_bind (m := Builtin.Tuple.tupleExact _) (wpAny_newObj_type (wpAny_pure ⟨_, rfl, wpAny_pure h⟩) htake))
end
section
variable {X : Cx}
def tRevT (K : PySem.W.Frag) (te : TE) : TE := fun σ H Q => te σ H fun x H1 => ∃ a xs, x = .ref a ∧ SqT K H1 a xs ∧ ∀ p, H1 p = none → Q (.ref p) (upd H1 p (.tup xs.reverse))
theorem pe_revT {e : Expr} {te : TE} {k : Nat} {p1 p2 p3 pos : Pos} (he : PE X e te) : PE X (.Subscript e (.Slice none none (some (.UnaryOp .USub (.Constant (.int 1) k p1) p2)) p3) pos) (tRevT X.K te) where
  run := fun pins s σ H Q I h => by
    refine Subscript_ (thn (he.run pins s σ H _ I h) fun v s1 ⟨x, H1, I1, r1, a, xs, ex, hx, q⟩ => ?_)
    subst ex
    cases r1
    have hst : PO X (some (.UnaryOp .USub (.Constant (.int 1) k p1) p2)) (tPart (tUn (rU fun i => .int (-i)) (tC (.int 1)))) := po_some (pe_un un_neg pe_int)
    refine wpAny_Slice (thn (po_none.run pins s1 σ H1 (fun o H2 => o = none ∧ H2 = H1) I1 ⟨rfl, rfl⟩) fun vl s2 ⟨l, H2, I2, pl, el, e2⟩ => ?_)
    subst el e2
    refine thn (po_none.run pins s2 σ H2 (fun o H3 => o = none ∧ H3 = H2) I2 ⟨rfl, rfl⟩) fun vu s3 ⟨u, H3, I3, pu, eu, e3⟩ => ?_
    subst eu e3
    refine thn (hst.run pins s3 σ H3 (fun o H4 => o = some (-1) ∧ H4 = H3) I3 ⟨1, rfl, -1, rfl, rfl, rfl⟩) fun vs s4 ⟨o, H4, I4, ps, eo, e4⟩ => ?_
    subst eo e4
    have I5 : Inv X pins σ H4 { s4 with heap := s4.heap.push { cls := .type "slice", data := .fields #[vl, vu, vs] } } := I4.kept (t' := s4.toks) fun b ob q => Heap.get?_push_of_some _ q
    obtain ⟨its, r, ht, hz⟩ := I5.tuple hx
    have hlen := r.length
    show wpAny (model X.prog X.w) X.A (subscriptTail e (.Slice none none (some (.UnaryOp .USub (.Constant (.int 1) k p1) p2)) p3) (.ref a) (.ref s4.heap.objs.size)) (EP X pins σ Q) X.xe { s4 with heap := s4.heap.push { cls := .type "slice", data := .fields #[vl, vu, vs] } }
    refine tail_any (ops := [.ref a, .ref s4.heap.objs.size]) (T := "tuple") ht.typeIs (PyProof.Rows.slot_tuple_getitem.lookup) ?_ (by with_unfolding_all rfl)
    refine tup_back ht (Heap.IsSliceOf.new _ vl vu vs) pl pu ps ?_ (by rw [List.size_toArray]; omega)
    refine ⟨.ref _, _, I5.laid (t' := s4.toks) (o := .tup xs.reverse) (fun b ob q => Heap.get?_push_of_some _ q) (Nat.le_refl _) ?_, rfl, q _ (I5.hok.fresh (Nat.le_refl _))⟩
    exact ⟨by rw [List.length_reverse]; exact hz, its.reverse, r.reverse, ⟨_, Heap.get?_push_size _ rfl, rfl, 0, by simp⟩⟩
/-- o[lo:hi] = e -/
def tSetSl (te to : TE) (tl th : TO) : TS := fun D σ H => te σ H fun v H1 => to σ H1 fun o H2 => tl σ H2 fun lo H3 => th σ H3 fun hi H4 =>
  ∃ (l b : Addr) (xs ys : List V) (a c : Nat), o = .ref l ∧ v = .ref b ∧ H4 l = some (.lst xs) ∧ H4 b = some (.lst ys) ∧ l ≠ b ∧ lo = some (a : Int) ∧ hi = some (c : Int) ∧ a ≤ xs.length ∧ a ≤ c ∧ xs.length + ys.length ≤ sizeLine ∧ D.nx σ (upd H4 l (.lst (xs.take a ++ ys ++ xs.drop (min c xs.length))))
theorem ps_setSl {e o : Expr} {lo hi : Option Expr} {te to : TE} {tl th : TO} {p2 p3 pos : Pos} (he : PE X e te) (ho : PE X o to) (hl : PO X lo tl) (hh : PO X hi th)
    (ha : ∀ v, assign (.Subscript o (.Slice lo hi none p2) p3) X.env v = (do
      let ov ← holding [v] (eval o X.env)
      let iv ← holding [v, ov] (eval (.Slice lo hi none p2) X.env)
      standAt p3
      holding [v, ov, iv] (setItem ov iv v)
      release [iv, v, ov] []) := by intro _; rfl)
    (hs : swapsWithSole [.Subscript o (.Slice lo hi none p2) p3] e pos.line X.env = pure false := by rfl) (hw : swappedStores [.Subscript o (.Slice lo hi none p2) p3] e X.env = pure none := by rfl)
    (h1 : (assignEach [.Subscript o (.Slice lo hi none p2) p3] X.env).map (·.2) = [assign (.Subscript o (.Slice lo hi none p2) p3) X.env] := by rfl) : PS X (.Assign [.Subscript o (.Slice lo hi none p2) p3] e pos) (tSetSl te to tl th) where
  run := fun pins s σ H D I h => by
    refine wpAny_Assign_stores (thn (he.run pins s σ H _ I h) fun v s1 ⟨x, H1, I1, r1, q1⟩ => ?_) hs hw
    rw [h1]
    have G : PG X (.Subscript o (.Slice lo hi none p2) p3) (fun v σ H Q => to σ H fun o H2 => tl σ H2 fun lo H3 => th σ H3 fun hi H4 =>
        ∃ (l b : Addr) (xs ys : List V) (a c : Nat), o = .ref l ∧ v = .ref b ∧ H4 l = some (.lst xs) ∧ H4 b = some (.lst ys) ∧ l ≠ b ∧ lo = some (a : Int) ∧ hi = some (c : Int) ∧ a ≤ xs.length ∧ a ≤ c ∧ xs.length + ys.length ≤ sizeLine ∧ Q σ (upd H4 l (.lst (xs.take a ++ ys ++ xs.drop (min c xs.length))))) := by
      refine ⟨fun pins s σ H x v Q I r hq => ?_⟩
      rw [ha]
      refine wpAny_bind (wpAny_holding (thn (ho.run pins s σ H _ I hq) fun ov s1 ⟨y, H1, I1, r1, q1⟩ => ?_))
      refine wpAny_bind (wpAny_holding (wpAny_Slice (thn (hl.run pins s1 σ H1 _ I1 q1) fun vl s2 ⟨l, H2, I2, pl, q2⟩ => thn (hh.run pins s2 σ H2 _ I2 q2) fun vu s3 ⟨u, H3, I3, pu, q3⟩ => ?_)))
      rw [evalPart_none]
      refine wpAny_pure ?_
      have I4 : Inv X pins σ H3 { s3 with heap := s3.heap.push { cls := .type "slice", data := .fields #[vl, vu, .none] } } := I3.kept (t' := s3.toks) fun b ob q => Heap.get?_push_of_some _ q
      obtain ⟨la, b, xs, ys, a, c, ey, ex, hL, hB, hne, el, eu, hal, hac, hz, q⟩ := q3
      subst ey ex el eu
      cases r1
      cases r
      obtain ⟨z, its, n, rv, hl', e⟩ := I4.lstM hL
      obtain ⟨z2, its2, n2, rv2, hl2, e2⟩ := I4.lstM hB
      refine wpAny_bind (wpAny_standAt (wpAny_bind (wpAny_holding (set_cut (a := a) (c := c) e e2 hne (Heap.IsSliceOf.new ..) pl pu (by rw [List.size_toArray, ← rv.length]; exact hal) hac (by rw [List.size_toArray, List.size_toArray, ← rv.length, ← rv2.length]; exact hz) ?_))))
      refine wpAny_release ⟨σ, _, I4.lset (its' := its.take a ++ its2 ++ its.drop (min c its.length)) (t' := s3.toks) hL e ?_ (Vals.append (Vals.append (rv.take _) rv2) (by rw [← rv.length]; exact rv.drop _)) ?_, q⟩
      · have := splice_eq its its2 a (min c its.length)
        simpa using this
      · rw [List.length_append, List.length_append, List.length_take, List.length_drop]
        omega
    exact thn (G.run pins s1 σ H1 x v _ I1 r1 q1) fun _ s2 q => q
end
end AqS
namespace Aq
open PySem L2
variable {K : PySem.W.Frag} {W : WX}
def aRevT (a : AEx) : AEx := fun ρ PX P => a ρ PX fun r ρ1 => withD (r.look ρ1) fun d => match d with
  | .tuple ds => P (.dat (.tuple ds.reverse)) ρ1
  | _ => False
theorem es_revT {ta : TE} {a : AEx} (ha : ES K W ta a) : ES K W (AqS.tRevT K ta) (aRevT a) := fun C ρ PX P F H σ Q R h xs k =>
  ha C ρ PX _ F H σ _ R h xs fun v F1 H1 r1 ρ1 R1 s1 o1 p1 => by
    obtain ⟨d, ed, p1⟩ := withD_some p1
    cases d with
    | tuple ds =>
      obtain ⟨l, xs', rfl, h1, h2⟩ := (o1.lk R1 ed).tuple R1.sub
      exact ⟨l, xs', rfl, h1, fun p hp => (outS R1 (P := P) (Q := Q) fun v' F' H' r' R' s' o' p' => k v' F' H' r' ρ1 R' (s1.trans s') o' p').newT p _ _ hp h2.reverse p1⟩
    | _ => exact p1.elim
def sSetSl (a b : AEx) (l h : AOx) : ASt := fun D ρ => a ρ D.ex fun r ρ1 => match r.hold with
  | .dat (.list es) => b ρ1 D.ex fun rb ρ2 => (match rb with
    | .bor i => l ρ2 D.ex fun lo ρ3 => h ρ3 D.ex fun hi ρ4 => (match lo, hi, ρ4[i]? with
      | some a, some c, some (.ml p ds) => (0 ≤ a ∧ a ≤ ds.length ∧ a ≤ c ∧ ds.length + es.length ≤ sizeLine) ∧ D.nx (ρ4.set i (.ml p (ds.take a.toNat ++ es ++ ds.drop (min c.toNat ds.length))))
      | _, _, _ => False)
    | _ => False)
  | _ => False
theorem ss_setSl {ta tb : TE} {tl th : TO} {a b : AEx} {l h : AOx} (ha : ES K W ta a) (hb : ES K W tb b) (hl : OS K W tl l) (hh : OS K W th h) : SS K W (AqS.tSetSl ta tb tl th) (sSetSl a b l h) := fun C D ρ F H σ D' R hq xs n _ _ _ =>
  ha C ρ D.ex _ F H σ _ R hq xs fun v F1 H1 r ρ1 R1 s1 o1 p1 => by
    obtain ⟨F2, R2, s2, o2, n2⟩ := hold_ok R1 o1
    cases er : r.hold with
    | bor j => simp only [er] at p1
    | own j => simp only [er] at p1
    | tupO _ _ => simp only [er] at p1
    | dat d =>
      rw [er] at o2
      simp only [er] at p1
      cases d with
      | list es =>
        refine hb C ρ1 D.ex _ F2 H1 σ _ R2 p1 xs fun vb F3 H3 rb ρ3 R3 s3 o3 p3 => ?_
        cases rb with
        | dat _ => exact p3.elim
        | own _ => exact p3.elim
        | tupO _ _ => exact p3.elim
        | bor i =>
          obtain ⟨ev, _⟩ := o3
          refine hl C ρ3 D.ex _ F3 H3 σ _ R3 p3 xs fun lo F4 H4 ρ4 R4 s4 p4 => ?_
          refine hh C ρ4 D.ex _ F4 H4 σ _ R4 p4 xs fun hi F5 H5 ρ5 R5 s5 p5 => ?_
          cases lo with
          | none => exact p5.elim
          | some a =>
            cases hi with
            | none => exact p5.elim
            | some c =>
              cases ea : ρ5[i]? with
              | none => simp only [ea] at p5
              | some a5 =>
                cases a5 with
                | ml p ds =>
                  simp only [ea] at p5
                  obtain ⟨⟨c1, c2, c3, c4⟩, p5⟩ := p5
                  obtain ⟨o, eo, la, xs', e1, hF, hH, hd2, hw⟩ := R5.slot i _ ea
                  rw [ev] at eo
                  cases eo
                  cases e1
                  have od := Dr.mono ((s3.trans s4).trans s5) _ _ o2
                  cases od with
                  | lst q1 q2 =>
                    rename_i b ys
                    have hne : la ≠ b := fun z => by subst z; rw [hF] at q1; cases q1
                    refine ⟨la, b, xs', ys, a.toNat, c.toNat, rfl, rfl, hH, R5.sub _ _ q1, hne, by rw [Int.toNat_of_nonneg c1], by rw [Int.toNat_of_nonneg (Int.le_trans c1 c3)], by rw [hd2.length]; omega, by omega, by rw [hd2.length, q2.length]; exact c4, ?_⟩
                    refine n F5 _ σ _ (R5.change (a' := .ml p (ds.take a.toNat ++ es ++ ds.drop (min c.toNat ds.length))) ea rfl rfl ev ⟨la, _, rfl, hF, upd_same, ?_, hw⟩) ((((s1.trans s2).trans s3).trans s4).trans s5) p5
                    rw [hd2.length]
                    exact ((hd2.take _).append q2).append (hd2.drop _)
                | _ => simp only [ea] at p5
      | _ => exact p1.elim
end Aq
set_option maxHeartbeats 3200000
namespace Aq
open PySem PySem.Spec PyProof.Rows L2
variable {K : PySem.W.Frag} {W : WX} {X : Cx}
abbrev FnP (K : PySem.W.Frag) (x : Str) (st : Stmt) (f : Addr) (fd : FuncData) : Prop := FunD K x x (defArgs st) (defBody st) (defScope st) [] [] f fd
/-- a def of the module that keeps its contract, by at most so many calls one in another -/
structure Fn (P : Program) (w : World) (K : PySem.W.Frag) (mg : Str → Option Value) (base : Heap) (CX : CXT) (n : Nat) (x : Str) (ps : List Str) (c : Ct) : Prop where
  ex : ∃ f fd, FnOk P w K mg base CX n f fd ps (spOf K c) ∧ mg x = some (.ref f) ∧ PySem.W.keepIn K (.ref f) = true ∧ Binds K fd ps []
theorem Fn.mk0 {P : Program} {w : World} {mg : Str → Option Value} {base : Heap} {k : Nat} {x : Str} {st : Stmt} {f : Addr} {fd : FuncData} {N ps : List Str} {c : Ct} {t : TS} {a : ASt} (F : FnP K x st f fd) (S : FnScope N ps (defScope st)) (gm : mg x = some (.ref f)) (gb : Binds K fd ps [])
    (hl : ∀ ρ P PX, c ρ P PX → ρ.length = ps.length) (hs : ∀ W, SS K W t a) (hp : ∀ ρ P PX, c ρ P PX → a { nx := fun ρ' => P (.dat .none) ρ', rt := P, ex := PX } (ρ ++ List.replicate (N.length - ρ.length) .un))
    (hd : ∀ (cdv : Value) (A : Around) (outer : List Env) (s : Shared) (H : Hp) (E : XK), Room k (A.deeper (envOfC x (defScope st) s.heap.objs.size f cdv)) → PSs (cxOf CX0 P w K mg base N x (defScope st) f cdv A outer s H E).nox (defBody st) t) : Fn P w K mg base CX0 (k + 1) x ps c :=
  ⟨f, fd, F.ok S (fun vs H Q E h => spOf_len hl h) fun cdv A outer s H vs Q E hr h => ⟨t, PSs.nox (hd cdv A outer s H E hr), body_of h (hs _) hp⟩, gm, F.kp, gb⟩
/-- the same of a def that may raise -/
theorem Fn.mkX {P : Program} {w : World} {mg : Str → Option Value} {base : Heap} {k : Nat} {x : Str} {st : Stmt} {f : Addr} {fd : FuncData} {N ps : List Str} {c : Ct} {t : WX → TS} {a : ASt} (F : FnP K x st f fd) (S : FnScope N ps (defScope st)) (gm : mg x = some (.ref f)) (gb : Binds K fd ps [])
    (hl : ∀ ρ P PX, c ρ P PX → ρ.length = ps.length) (hs : ∀ W, SS K W (t W) a) (hp : ∀ ρ P PX, c ρ P PX → a { nx := fun ρ' => P (.dat .none) ρ', rt := P, ex := PX } (ρ ++ List.replicate (N.length - ρ.length) .un))
    (hd : ∀ (cdv : Value) (A : Around) (outer : List Env) (s : Shared) (H : Hp) (E : XK), Room k (A.deeper (envOfC x (defScope st) s.heap.objs.size f cdv)) → PSs (cxOf (L2.CX P w) P w K mg base N x (defScope st) f cdv A outer s H E) (defBody st) (t fun cls d _ H' => E cls d H')) : Fn P w K mg base (L2.CX P w) (k + 1) x ps c :=
  ⟨f, fd, F.ok S (fun vs H Q E h => spOf_len hl h) fun cdv A outer s H vs Q E hr h => ⟨_, hd cdv A outer s H E hr, body_of h (hs _) hp⟩, gm, F.kp, gb⟩
def aTst (a : AEx) : ATx := fun ρ PX P => a ρ PX fun r ρ1 => match r with
  | .dat (.bool b) => P b ρ1
  | _ => False
theorem td_test {ta : TE} {a : AEx} (ha : ES K W ta a) : TSd K W (tTest ta) (aTst a) := fun C ρ PX P F H σ Q R h xs k =>
  ha C ρ PX _ F H σ _ R h xs fun v F1 H1 r1 ρ1 R1 s1 o1 p1 => by
    cases r1 with
    | dat d =>
      cases d with
      | bool b => cases o1; exact ⟨b, rfl, k b F1 H1 ρ1 R1 s1 p1⟩
      | _ => exact p1.elim
    | _ => exact p1.elim
/-- nothing is promised: the bottom of a recursion -/
theorem Fn.none {P : Program} {w : World} {mg : Str → Option Value} {base : Heap} {n : Nat} {x : Str} {f : Addr} {fd : FuncData} {ps : List Str} {c : Ct} (gm : mg x = some (.ref f)) (kp : PySem.W.keepIn K (.ref f) = true) (gb : Binds K fd ps []) (hc : ∀ ρ P PX, ¬ c ρ P PX) : Fn P w K mg base CX0 n x ps c :=
  ⟨f, fd, ⟨fun vs H Q E h => by obtain ⟨_, _, _, _, _, _, h, _⟩ := h; exact (hc _ _ _ h).elim, fun A outer s H args us vs Q E _ _ _ _ h => by obtain ⟨_, _, _, _, _, _, h, _⟩ := h; exact (hc _ _ _ h).elim⟩, gm, kp, gb⟩
/-! words for the derivations -/
theorem units65 {A : Around} {k : Nat} (hr : Room k A) : A.units + 65 < cLine := by have := hr.un; omega
def gNeg : DUn := fun d P => match d with
  | .int i => P (.dat (.int (-i)))
  | _ => False
theorem u1_neg : U1S K (rU fun i => .int (-i)) gNeg := fun F H x d Pd Q s l h o => by
  cases d with
  | int i => rw [l.int]; exact ⟨i, rfl, o.dat _ _ (.int _) h⟩
  | _ => exact h.elim
theorem pt_tru {a : Expr} {ta : TE} (ha : PE X a ta) (he : ∀ whole, isTrue a X.env whole = (do let v ← whole; standAt a.pos; holding [v] (truthy v)) := by intro _; rfl) : PT X a (tTru X.K ta) := pt_truth ha he
theorem pe_isi {e : Expr} {te : TE} {T : String} {x : Str} {p q pos : Pos} (he : PE X e te) (hg : Gl X "isinstance") (hm : X.mg "isinstance" = none) (hg2 : Gl X x) (hm2 : X.mg x = none) (hv : bootBuiltins x = some (.type T))
    (he1 : starEach (e :: [.Name x q]) X.env = (false, eval e X.env) :: starEach [.Name x q] X.env := by rfl) (he2 : starEach [.Name x q] X.env = (false, eval (.Name x q) X.env) :: starEach [] X.env := by rfl)
    (hpl : (backTo pos (starEach [.Name x q] X.env)).any (·.1) = false := by rfl) (hn : x ≠ "__name__" := by decide) (hd : (x == ("__debug__" : Str)) = false := by decide) : PE X (.Call (.Name "isinstance" p) [e, .Name x q] [] pos) (tIsi X.K T te) :=
  pe_callB call_isi hg hm (by decide +kernel) (pa_cons he (pa_cons (pe_bltn hg2 hm2 hv rfl hn hd) pa_nil he2) he1) (by decide) (by decide) he1 hpl
theorem pe_sortSet {e : Expr} {te : TE} {p q p2 pos : Pos} (hc : X.calm = true) (hu : X.A.units + 64 < cLine) (he : PE X e te) (hg : Gl X "sorted") (hm : X.mg "sorted" = none) (hg2 : Gl X "set") (hm2 : X.mg "set" = none)
    (h1 : starEach [.Call (.Name "set" q) [e] [] p2] X.env = (false, eval (.Call (.Name "set" q) [e] [] p2) X.env) :: starEach [] X.env := by rfl) (h2 : starEach [e] X.env = (false, eval e X.env) :: starEach [] X.env := by rfl) :
    PE X (.Call (.Name "sorted" p) [.Call (.Name "set" q) [e] [] p2] [] pos) (tSortSet X.w X.K te) :=
  pe_callB (AqS.cr_sortK hc hu) hg hm (by decide +kernel) (pa_cons (pe_callTy (AqS.cr_setK hc hu) hg2 hm2 (by decide +kernel) (pa_cons he pa_nil h2) (by decide) (by decide) h2 rfl) pa_nil h1) (by decide) (by decide) h1 rfl
theorem pe_joinA {o e : Expr} {to te : TE} {apos pos : Pos} (ho : PE X o to) (he : PE X e te) (hs : starEach [e] X.env = [(false, eval e X.env)] := by rfl) (hbase : attributeBase o "join" X.env (eval o X.env) = eval o X.env := by rfl) (hline : (apos.endLine == pos.line) = true := by rfl) :
    PE X (.Call (.Attribute o "join" apos) [e] [] pos) (tM1 (rJoin X.K) to te) := pe_join ho he hs hbase hline
theorem pe_callN {n k : Nat} {f : Addr} {fd : FuncData} {ps : List Str} {c : Ct} {x : Str} {p pos : Pos} {e : Expr} {es : List Expr} {t : TA} (G : FnOk X.prog X.w X.K X.mg X.base CX0 n f fd ps (spOf X.K c)) (hr : Room k X.A) (hnk : n ≤ k) (hg : Gl X x) (hm : X.mg x = some (.ref f)) (hk : PySem.W.keepIn X.K (.ref f) = true) (hb : Binds X.K fd ps [])
    (ha : PA X (e :: es) t) (hdb : (x == ("__debug__" : Str)) = false := by decide) (he : starEach (e :: es) X.env = (false, eval e X.env) :: starEach es X.env := by rfl) (hpl : (backTo pos (starEach es X.env)).any (·.1) = false := by rfl) :
    PE X (.Call (.Name x p) (e :: es) [] pos) (tCall (spOf X.K c) [] E0 t) := pe_call G (hr.mono hnk) hg hm hk hb .nil pass0 ha hdb he hpl
end Aq
set_option maxHeartbeats 2000000
/-! loops and comprehensions over data, by invariants; bounds; texts -/
namespace Aq
open PySem L2
theorem forInv {g : ATg} {b : ASt} {D : AEnds} (I : List PyData → List AV → Prop) (step : ∀ d ds ρ, I (d :: ds) ρ → ∀ N : List AV → Prop, (∀ ρ', I ds ρ' → N ρ') → g d ρ fun ρ1 => b { D with nx := N, ct := N, bk := D.nx } ρ1) (fin : ∀ ρ, I [] ρ → D.nx ρ) : ∀ (ds : List PyData) (ρ : List AV), I ds ρ → forGo g b D ds ρ
  | [], ρ, h => fin ρ h
  | d :: ds, ρ, h => step d ds ρ h _ fun ρ' h' => forInv I step fin ds ρ' h'
def lcNext (vs : List Nat) (acc : List PyData) (N : List PyData → List AV → Prop) (r : RV) (ρ3 : List AV) : Prop := match r.hold with
  | .dat e => acc.length < sizeLine ∧ N (acc ++ [e]) (wipeA ρ3 vs)
  | _ => False
theorem lcInv {vs : List Nat} {g : ATg} {tt : ATx} {a : AEx} {P : RV → List AV → Prop} (I : List PyData → List PyData → List AV → Prop)
    (step : ∀ d ds acc ρ, I (d :: ds) acc ρ → ∀ N : List PyData → List AV → Prop, (∀ acc' ρ', I ds acc' ρ' → N acc' ρ') → g d ρ fun ρ1 => tt ρ1 X0 fun k ρ2 => if k = true then a ρ2 X0 fun r ρ3 => lcNext vs acc N r ρ3 else N acc (wipeA ρ2 vs))
    (fin : ∀ acc ρ, I [] acc ρ → P (.own (.ml none acc)) ρ) : ∀ (ds acc : List PyData) (ρ : List AV), I ds acc ρ → lcGo vs g tt a P ds acc ρ
  | [], acc, ρ, h => fin acc ρ h
  | d :: ds, acc, ρ, h => step d ds acc ρ h (fun acc' ρ' => lcGo vs g tt a P ds acc' ρ') fun acc' ρ' h' => lcInv I step fin ds acc' ρ' h'
/-- a comprehension that changes nothing -/
theorem lcPure {vs : List Nat} {g : ATg} {tt : ATx} {a : AEx} {P : RV → List AV → Prop} {ρ : List AV} (st : PyData → List AV) (p : PyData → Bool) (f : PyData → PyData) : ∀ (ds acc : List PyData)
    (_ : ∀ d ∈ ds, ∀ k, k (st d) → g d ρ k) (_ : ∀ d ∈ ds, wipeA (st d) vs = ρ) (_ : ∀ d ∈ ds, ∀ k, k (p d) (st d) → tt (st d) X0 k) (_ : ∀ d ∈ ds, p d = true → ∀ k, k (.dat (f d)) (st d) → a (st d) X0 k) (_ : acc.length + ds.length ≤ sizeLine)
    (_ : P (.own (.ml none (acc ++ (ds.filter p).map f))) ρ), lcGo vs g tt a P ds acc ρ
  | [], acc, _, _, _, _, _, h => by
    simp only [List.filter_nil, List.map_nil, List.append_nil] at h
    exact h
  | d :: ds, acc, h1, h2, h3, h4, hz, h => by
    have m : d ∈ d :: ds := List.mem_cons_self
    have ih := fun acc hz h => lcPure (P := P) st p f ds acc (fun d hd => h1 d (List.mem_cons_of_mem _ hd)) (fun d hd => h2 d (List.mem_cons_of_mem _ hd)) (fun d hd => h3 d (List.mem_cons_of_mem _ hd)) (fun d hd => h4 d (List.mem_cons_of_mem _ hd)) hz h
    rw [List.length_cons] at hz
    unfold lcGo
    refine h1 d m _ (h3 d m _ ?_)
    cases hp : p d with
    | true =>
      rw [if_pos rfl]
      refine h4 d m hp _ ?_
      refine ⟨by omega, ?_⟩
      rw [h2 d m]
      refine ih _ (by rw [List.length_append]; simp; omega) ?_
      rw [List.filter_cons, if_pos hp] at h
      simpa using h
    | false =>
      rw [if_neg Bool.false_ne_true, h2 d m]
      refine ih _ (by omega) ?_
      rw [List.filter_cons, if_neg (by rw [hp]; exact Bool.false_ne_true)] at h
      exact h
theorem filter_yes (ds : List PyData) : ds.filter (fun _ => true) = ds := by simp
/-- without a test -/
theorem lcMap {vs : List Nat} {g : ATg} {a : AEx} {P : RV → List AV → Prop} {ρ : List AV} (st : PyData → List AV) (f : PyData → PyData) (ds acc : List PyData)
    (h1 : ∀ d ∈ ds, ∀ k, k (st d) → g d ρ k) (h2 : ∀ d ∈ ds, wipeA (st d) vs = ρ) (h4 : ∀ d ∈ ds, ∀ k, k (.dat (f d)) (st d) → a (st d) X0 k) (hz : acc.length + ds.length ≤ sizeLine)
    (h : P (.own (.ml none (acc ++ ds.map f))) ρ) : lcGo vs g aYes a P ds acc ρ :=
  lcPure st (fun _ => true) f ds acc h1 h2 (fun d hd k hk => hk) (fun d hd _ => h4 d hd) hz (by rw [filter_yes]; exact h)
/-! bounds: numbers of up to a thousand bits -/
def Sm (i : Int) : Prop := i.natAbs < 2 ^ 1000
theorem mulOk {i j : Int} (hi : Sm i) (hj : Sm j) : CMulW i j := wide_mul hi hj (by decide) (by decide) (by decide)
theorem divOk {i j : Int} (h : 0 < j) (hj : Sm j) : CDivW i j := wide_div h hj (by decide) (by decide)
theorem sm_of {i : Int} (h1 : -(10 ^ 150) ≤ i) (h2 : i ≤ 10 ^ 150) : Sm i := by
  have e : (10 : Nat) ^ 150 < 2 ^ 1000 := by decide +kernel
  have q : i.natAbs ≤ 10 ^ 150 := by omega
  exact Nat.lt_of_le_of_lt q e
theorem powOk {a b : Int} (h0 : 0 ≤ b) (h1 : b ≤ 1000) (h2 : a.natAbs < 2 ^ 64) : CPow a b := ⟨h0, by omega, h2⟩
/-! texts -/
theorem strIn_sign (z : Str) (c : Nat) : strIn z ⟨#[c]⟩ = decide (c ∈ z.cps.toList) := PySem.StrLaws.found_one z c
end Aq
set_option maxHeartbeats 2000000
/-! rows by which the abstract readings run: each only where its thing is known -/
namespace Aq
open PySem L2
section
variable {d : PyData} {ds es : List PyData} {z : Str} {i j : Int} {b c : Bool} {p : Option Nat} {ρ : List AV} {kk : PyData → Prop} {kb : Bool → Prop} {kl : List PyData → Prop} {n : Nat} {kvs : List (PyData × PyData)} {ko : Out → Prop} {kr : RV → List AV → Prop} {kρ : List AV → Prop} {a : AV} {ns : List Int} {PX : PXT} {D : AEnds}
theorem q_hold1 : (RV.dat d).hold = .dat d := rfl
theorem q_hold2 : (RV.bor n).hold = .bor n := rfl
theorem q_hold3 : (RV.own (.ml p ds)).hold = .dat (.list ds) := rfl
theorem q_hold4 : (RV.own (.mdk p kvs)).hold = .dat (.dict kvs) := rfl
theorem q_look1 : (RV.dat d).look ρ = some d := rfl
theorem q_look2 : (RV.bor n).look ρ = (ρ[n]?).bind AV.look := rfl
theorem q_look3 : (RV.own a).look ρ = a.look := rfl
theorem q_alook1 : (AV.dat d).look = some d := rfl
theorem q_alook2 : (AV.ml p ds).look = some (.list ds) := rfl
theorem q_alook3 : (AV.mdk p kvs).look = some (.dict kvs) := rfl
theorem q_withD : withD (some d) kk = kk d := rfl
theorem q_withDs : withDs (some ds) kl = kl ds := rfl
theorem q_withB : withB (.dat (.bool b)) kb = kb b := rfl
theorem q_rvDs0 : rvDs [] = some [] := rfl
theorem q_rvDs1 {rs : List RV} : rvDs (.dat d :: rs) = (rvDs rs).map (d :: ·) := rfl
theorem q_looks0 : looks ρ [] = some [] := rfl
theorem q_looks1 {r : RV} {rs : List RV} : looks ρ (r :: rs) = (r.look ρ).bind fun d => (looks ρ rs).map (d :: ·) := by
  show (match r.look ρ, looks ρ rs with
    | some d, some ds => some (d :: ds)
    | _, _ => none) = _
  cases r.look ρ <;> cases looks ρ rs <;> rfl
theorem q_tru0 : truD .none kb = kb false := rfl
theorem q_tru1 : truD (.bool b) kb = kb b := rfl
theorem q_tru2 : truD (.int i) kb = kb (i != 0) := rfl
theorem q_tru3 : truD (.str z) kb = (z.length ≤ sizeLine ∧ kb ((z.length : Int) != 0)) := rfl
theorem q_tru4 : truD (.list ds) kb = kb (!ds.isEmpty) := rfl
theorem q_tru5 : truD (.tuple ds) kb = kb (!ds.isEmpty) := rfl
theorem q_tru6 : truD (.dict kvs) kb = False := rfl
theorem q_ret1 : retV (.dat d) ρ kr = kr (.dat d) ρ := rfl
theorem q_ret2 : retV (.own a) ρ kr = kr (.own a) ρ := rfl
theorem q_set1 : setR n (.dat d) ρ kρ = kρ (ρ.set n (.dat d)) := rfl
theorem q_set2 : setR n (.own a) ρ kρ = kρ (ρ.set n a) := rfl
theorem q_rv1 : (Out.dat d).rv = .dat d := rfl
theorem q_rv2 : (Out.newL ds).rv = .own (.ml none ds) := rfl
theorem q_rv3 : (Out.newT ds).rv = .dat (.tuple ds) := rfl
theorem q_I {f : Int → Int → (Out → Prop) → Prop} : gI f (.int i) (.int j) ko = f i j ko := rfl
theorem q_add1 : gAdd (.int i) (.int j) ko = ko (.dat (.int (i + j))) := rfl
theorem q_add2 {y : Str} : gAdd (.str z) (.str y) ko = (z.length + y.length ≤ sizeLine ∧ ko (.dat (.str (z ++ y)))) := rfl
theorem q_add3 : gAdd (.list ds) (.list es) ko = (ds.length + es.length ≤ sizeLine ∧ ko (.newL (ds ++ es))) := rfl
theorem q_add4 : gAdd (.tuple ds) (.tuple es) ko = (ds.length + es.length ≤ sizeLine ∧ ko (.dat (.tuple (ds ++ es))) ∧ ko (.newT (ds ++ es))) := rfl
theorem q_IS1 {f : Int → Int → Bool} {g : Str → Str → Bool} : gIS f g (.int i) (.int j) ko = ko (.dat (.bool (f i j))) := rfl
theorem q_IS2 {f : Int → Int → Bool} {g : Str → Str → Bool} {y : Str} : gIS f g (.str z) (.str y) ko = ko (.dat (.bool (g z y))) := rfl
theorem q_is1 {neg : Bool} : gIs neg d .none ko = ko (.dat (.bool (if neg then !isN d else isN d))) := by cases d <;> rfl
theorem q_is2 {neg : Bool} : gIs neg (.bool b) (.bool c) ko = ko (.dat (.bool (if neg then !decide (b = c) else decide (b = c)))) := rfl
theorem q_in1 {neg : Bool} {y : Str} : gIn neg (.str z) (.str y) ko = ko (.dat (.bool (if neg then !strIn y z else strIn y z))) := rfl
theorem q_in2 {neg : Bool} : gIn neg d (.tuple ds) ko = (flatD d = true ∧ ds.all flatD = true ∧ ko (.dat (.bool (if neg then !ds.any fun z => PyData.eqv z d else ds.any fun z => PyData.eqv z d)))) := by cases d <;> rfl
theorem q_in3 {neg : Bool} : gIn neg d (.list ds) ko = (shp d ∧ shp (.list ds) ∧ ko (.dat (.bool (if neg then !ds.any fun z => PyData.eqv z d else ds.any fun z => PyData.eqv z d)))) := by cases d <;> rfl
theorem q_ix1 : gIx (.list ds) (.int i) ko = withD (atI ds i) fun z => ko (.dat z) := rfl
theorem q_ix2 : gIx (.tuple ds) (.int i) ko = withD (atI ds i) fun z => ko (.dat z) := rfl
theorem q_ix3 : gIx (.str z) (.int i) ko = (z.length ≤ sizeLine ∧ match atI z.cps.toList i with
    | some c => ko (.dat (.str ⟨#[c]⟩))
    | none => False) := rfl
theorem q_sl1 {lo hi : Option Int} : gSl (.list ds) lo hi ko = ko (.newL (cutD ds lo hi)) := rfl
theorem q_sl2 {lo hi : Option Int} : gSl (.tuple ds) lo hi ko = (ko (.dat (.tuple (cutD ds lo hi))) ∧ ko (.newT (cutD ds lo hi))) := rfl
theorem q_sl3 {lo hi : Option Int} : gSl (.str z) lo hi ko = (z.length ≤ sizeLine ∧ ko (.dat (.str (cutS z lo hi)))) := rfl
theorem q_len1 : gLen [.list ds] ko = ko (.dat (.int ds.length)) := rfl
theorem q_len2 : gLen [.tuple ds] ko = ko (.dat (.int ds.length)) := rfl
theorem q_len3 : gLen [.str z] ko = (z.length ≤ sizeLine ∧ ko (.dat (.int z.length))) := rfl
theorem q_all {bs : List Bool} : gAll [.list (bs.map PyData.bool)] ko = ko (.dat (.bool (bs.all id))) := by
  show (match boolsD (bs.map PyData.bool) with
    | some bs => ko (.dat (.bool (bs.all id)))
    | none => False) = _
  rw [boolsD_map]
theorem q_any {bs : List Bool} : gAny [.list (bs.map PyData.bool)] ko = ko (.dat (.bool (bs.any id))) := by
  show (match boolsD (bs.map PyData.bool) with
    | some bs => ko (.dat (.bool (bs.any id)))
    | none => False) = _
  rw [boolsD_map]
theorem q_sum {bs : List Int} : gSum [.list (bs.map PyData.int)] ko = ko (.dat (.int bs.sum)) := by
  show (match intsD (bs.map PyData.int) with
    | some bs => ko (.dat (.int bs.sum))
    | none => False) = _
  rw [intsD_map]
theorem q_max2 : gMax [.int i, .int j] ko = ko (.dat (.int (if j > i then j else i))) := rfl
theorem q_min2 : gMin [.int i, .int j] ko = ko (.dat (.int (if j < i then j else i))) := rfl
theorem q_abs : gAbs [.int i] ko = ko (.dat (.int (if i < 0 then -i else i))) := rfl
theorem q_int1 : gInt [.int i] ko = ko (.dat (.int i)) := rfl
theorem q_int2 : gInt [.bool b] ko = ko (.dat (.int (if b then 1 else 0))) := rfl
theorem q_list1 : gList [.list ds] ko = ko (.newL ds) := rfl
theorem q_list2 : gList [.tuple ds] ko = ko (.newL ds) := rfl
theorem q_tupl1 : gTupl [.list ds] ko = ko (.newT ds) := rfl
theorem q_tupl2 : gTupl [.tuple ds] ko = ko (.dat (.tuple ds)) := rfl
theorem q_neg : gNeg (.int i) ko = ko (.dat (.int (-i))) := rfl
theorem q_app {k : PyData → List PyData → Prop} : mAppend ds [d] k = (ds.length < sizeLine ∧ k .none (ds ++ [d])) := rfl
theorem q_ext {k : PyData → List PyData → Prop} : mExtend ds [.list es] k = (ds.length + es.length ≤ sizeLine ∧ k .none (ds ++ es)) := rfl
theorem q_pop {k : PyData → List PyData → Prop} : mPop ds [] k = withD (ds[ds.length - 1]?) fun d => k d ds.dropLast := rfl
theorem q_popAt {k : PyData → List PyData → Prop} : mPopAt ds [.int i] k = ((0 ≤ i ∧ i < 2 ^ 63) ∧ withD (ds[i.toNat]?) fun d => k d (ds.eraseIdx i.toNat)) := rfl
theorem q_ins {k : PyData → List PyData → Prop} : mInsert ds [.int i, d] k = ((ds.length < sizeLine ∧ 0 ≤ i ∧ i < 2 ^ 63) ∧ k .none (ds.take i.toNat ++ [d] ++ ds.drop i.toNat)) := rfl

theorem q_gsNil : gsNil [] ρ kρ = kρ ρ := rfl

theorem q_gT {t : ATgs} : gT n t (.tuple ds) ρ kρ = (ds.length = n ∧ t ds ρ kρ) := rfl
theorem q_back0 {ρ' : List AV} {j : Nat} : backA ρ' [] j ρ = ρ := rfl
theorem q_back1 {ρ' : List AV} {j : Nat} {is : List Nat} (h : outOf ρ' j = some a) : backA ρ' (n :: is) j ρ = backA ρ' is (j + 1) (ρ.set n (a.retag ((ρ[n]?).bind AV.tag))) := by
  rw [backA, h]
theorem q_retag1 {q : Option Nat} : (AV.ml p ds).retag q = .ml q ds := rfl
theorem q_tag1 : (AV.ml p ds).tag = p := rfl
theorem q_arg0 {j : Nat} : argAV ρ [] j = some ([], []) := rfl
theorem q_arg1 {j : Nat} {rs : List RV} : argAV ρ (.dat d :: rs) j = (argAV ρ rs j).map fun p => (.dat d :: p.1, p.2) := rfl

/-- what follows a call -/
def bk (P : RV → List AV → Prop) (ρ1 : List AV) (is : List Nat) (r : RV) (ρ' : List AV) : Prop := match r with
  | .bor _ => False
  | r => P r (backA ρ' is 0 ρ1)
theorem q_bk1 {P : RV → List AV → Prop} {ρ1 ρ' : List AV} {is : List Nat} : bk P ρ1 is (.dat d) ρ' = P (.dat d) (backA ρ' is 0 ρ1) := rfl
theorem q_bk2 {P : RV → List AV → Prop} {ρ1 ρ' : List AV} {is : List Nat} : bk P ρ1 is (.own a) ρ' = P (.own a) (backA ρ' is 0 ρ1) := rfl
def callA (c : Ct) (P : RV → List AV → Prop) (ρ1 : List AV) : Option (List AV × List Nat) → Prop
  | some (ρc, is) => is.Nodup ∧ c ρc (bk P ρ1 is) X0
  | none => False

theorem q_callA {c : Ct} {P : RV → List AV → Prop} {ρ1 ρc : List AV} {is : List Nat} : callA c P ρ1 (some (ρc, is)) = (is.Nodup ∧ c ρc (bk P ρ1 is) X0) := rfl
theorem q_eqv1 : PyData.eqv (.int i) (.int j) = (i == j) := by rw [PyData.eqv]
theorem q_eqv2 {y : Str} : PyData.eqv (.str z) (.str y) = (z == y) := by rw [PyData.eqv]
theorem q_eqv3 : PyData.eqv (.bool b) (.bool c) = (b == c) := by rw [PyData.eqv]
theorem q_eqv4 : PyData.eqv .none .none = true := by rw [PyData.eqv]
theorem q_eqv5 : PyData.eqv (.int i) (.str z) = false := by simp [PyData.eqv]
theorem q_eqv6 : PyData.eqv (.str z) (.int i) = false := by simp [PyData.eqv]
theorem q_eqv7 : PyData.eqv (.list ds) (.list es) = PyData.eqvAll ds es := by rw [PyData.eqv]
theorem q_eqv8 : PyData.eqv (.tuple ds) (.tuple es) = PyData.eqvAll ds es := by rw [PyData.eqv]
theorem q_mul : gMul (.int i) (.int j) ko = (CMulW i j ∧ ko (.dat (.int (i * j)))) := rfl
theorem q_div : gDiv (.int i) (.int j) ko = (CDivW i j ∧ ko (.dat (.int (i / j)))) := rfl
theorem q_mod : gMod (.int i) (.int j) ko = (0 < j ∧ ko (.dat (.int (i % j)))) := rfl
theorem q_pow : gPow (.int i) (.int j) ko = (CPow i j ∧ ko (.dat (.int (i ^ j.toNat)))) := rfl
theorem q_sub : gSubI (.int i) (.int j) ko = ko (.dat (.int (i - j))) := rfl
theorem q_ixN0 : ixN 2 0 = some 0 := rfl
theorem q_ixN1 : ixN 2 1 = some 1 := rfl
theorem q_isT0 {T : String} : isT T .none = (T == "NoneType") := rfl
theorem q_isT1 {T : String} : isT T (.bool b) = (T == "bool" || T == "int") := rfl
theorem q_isT2 {T : String} : isT T (.int i) = (T == "int") := rfl
theorem q_isT3 {T : String} : isT T (.str z) = (T == "str") := rfl
theorem q_isT4 {T : String} : isT T (.list ds) = (T == "list") := rfl
theorem q_isT5 {T : String} : isT T (.tuple ds) = (T == "tuple") := rfl
theorem q_isT6 {T : String} : isT T (.dict kvs) = (T == "dict") := rfl
end

abbrev PK := RV → List AV → Prop
section
variable {d : PyData} {ds es : List PyData} {i j : Int} {b c : Bool} {p : Option Nat} {ρ : List AV} {n : Nat} {PX : PXT} {D : AEnds} {P : PK}
/-! names -/
def varL (ds : List PyData) (n : Nat) (ρ : List AV) (P : PK) : Prop := P (.bor n) ρ ∨ P (.dat (.list ds)) (ρ.set n (.dat (.list ds)))
def varM (ds : List (PyData × PyData)) (n : Nat) (ρ : List AV) (P : PK) : Prop := P (.bor n) ρ ∨ P (.dat (.dict ds)) (ρ.set n (.dat (.dict ds)))
theorem varL_b (h : P (.bor n) ρ) : varL ds n ρ P := .inl h
theorem varL_f (h : P (.dat (.list ds)) (ρ.set n (.dat (.list ds)))) : varL ds n ρ P := .inr h
theorem varM_b {kvs : List (PyData × PyData)} (h : P (.bor n) ρ) : varM kvs n ρ P := .inl h
theorem varM_f {kvs : List (PyData × PyData)} (h : P (.dat (.dict kvs)) (ρ.set n (.dat (.dict kvs)))) : varM kvs n ρ P := .inr h
def varAt (o : Option AV) (n : Nat) (ρ : List AV) (P : PK) : Prop := match o with
  | some (.dat d) => P (.dat d) ρ
  | some (.ml none ds) => varL ds n ρ P
  | some (.mdk none es) => varM es n ρ P
  | some (.ml (some _) _) => P (.bor n) ρ
  | some (.mdk (some _) _) => P (.bor n) ρ
  | some (.scr _) => P (.bor n) ρ
  | some (.opq _) => P (.bor n) ρ
  | some (.mdt _ _) => P (.bor n) ρ
  | _ => False
theorem z_var : aVar n ρ PX P = varAt (ρ[n]?) n ρ P := by
  unfold aVar varAt
  rfl
theorem z_var1 : varAt (some (.dat d)) n ρ P = P (.dat d) ρ := rfl
theorem z_var2 : varAt (some (.ml none ds)) n ρ P = varL ds n ρ P := rfl
theorem z_var3 {kvs : List (PyData × PyData)} : varAt (some (.mdk none kvs)) n ρ P = varM kvs n ρ P := rfl
theorem z_var4 {m : Nat} : varAt (some (.ml (some m) ds)) n ρ P = P (.bor n) ρ := rfl
theorem z_var5 {m : Nat} {kvs : List (PyData × PyData)} : varAt (some (.mdk (some m) kvs)) n ρ P = P (.bor n) ρ := rfl
theorem z_var6 {ns : List Int} : varAt (some (.scr ns)) n ρ P = P (.bor n) ρ := rfl
theorem z_c : aC d ρ PX P = P (.dat d) ρ := rfl
/-! operators -/
def kOut (P : PK) (ρ : List AV) (o : Out) : Prop := P o.rv ρ
def kOp4 (g : DOp) (P : PK) (ρ : List AV) (d e : PyData) : Prop := g d e (kOut P ρ)
def kOp3 (g : DOp) (P : PK) (r2 : RV) (ρ : List AV) (d : PyData) : Prop := withD (r2.look ρ) (kOp4 g P ρ d)
def kOp2 (g : DOp) (P : PK) (r1 r2 : RV) (ρ : List AV) : Prop := withD (r1.look ρ) (kOp3 g P r2 ρ)
def kOp1 (g : DOp) (b : AEx) (PX : PXT) (P : PK) (r1 : RV) (ρ : List AV) : Prop := b ρ PX (kOp2 g P r1.hold)
theorem z_op {g : DOp} {x y : AEx} : aOp g x y ρ PX P = x ρ PX (kOp1 g y PX P) := rfl
def kUn2 (g : DUn) (P : PK) (ρ : List AV) (d : PyData) : Prop := g d (kOut P ρ)
def kUn (g : DUn) (P : PK) (r : RV) (ρ : List AV) : Prop := withD (r.look ρ) (kUn2 g P ρ)
theorem z_un {g : DUn} {x : AEx} : aUn g x ρ PX P = x ρ PX (kUn g P) := rfl
def kCh7 (g' : DOp) (P : PK) (ρ : List AV) (e f : PyData) : Prop := g' e f (kOut P ρ)
def kCh6 (g' : DOp) (P : PK) (r3 : RV) (ρ : List AV) (e : PyData) : Prop := withD (r3.look ρ) (kCh7 g' P ρ e)
def kCh5 (g' : DOp) (P : PK) (r2 r3 : RV) (ρ : List AV) : Prop := withD (r2.look ρ) (kCh6 g' P r3 ρ)
def kChB (g' : DOp) (c : AEx) (PX : PXT) (P : PK) (r2 : RV) (ρ : List AV) (k : Bool) : Prop := if k = true then c ρ PX (kCh5 g' P r2) else P (.dat (.bool false)) ρ
def kChO (g' : DOp) (c : AEx) (PX : PXT) (P : PK) (r2 : RV) (ρ : List AV) (o : Out) : Prop := withB o (kChB g' c PX P r2 ρ)
def kCh4 (g g' : DOp) (c : AEx) (PX : PXT) (P : PK) (r2 : RV) (ρ : List AV) (d e : PyData) : Prop := g d e (kChO g' c PX P r2 ρ)
def kCh3 (g g' : DOp) (c : AEx) (PX : PXT) (P : PK) (r2 : RV) (ρ : List AV) (d : PyData) : Prop := withD (r2.look ρ) (kCh4 g g' c PX P r2 ρ d)
def kCh2 (g g' : DOp) (c : AEx) (PX : PXT) (P : PK) (r1 r2 : RV) (ρ : List AV) : Prop := withD (r1.look ρ) (kCh3 g g' c PX P r2.hold ρ)
def kCh1 (g g' : DOp) (b c : AEx) (PX : PXT) (P : PK) (r1 : RV) (ρ : List AV) : Prop := b ρ PX (kCh2 g g' c PX P r1.hold)
theorem z_chain {g g' : DOp} {x y z : AEx} : aChain g g' x y z ρ PX P = x ρ PX (kCh1 g g' y z PX P) := rfl
/-! rows of arguments -/
def kCons2 (P : List RV → List AV → Prop) (r : RV) (rs : List RV) (ρ : List AV) : Prop := P (r :: rs) ρ
def kCons1 (b : AAx) (PX : PXT) (P : List RV → List AV → Prop) (r : RV) (ρ : List AV) : Prop := b ρ PX (kCons2 P r.hold)
theorem z_cons {x : AEx} {y : AAx} {P : List RV → List AV → Prop} : aCons x y ρ PX P = x ρ PX (kCons1 y PX P) := rfl
theorem z_nil {P : List RV → List AV → Prop} : aNil ρ PX P = P [] ρ := rfl
def kTup2 (P : PK) (ρ : List AV) (ds : List PyData) : Prop := ds.length ≤ sizeLine ∧ P (.dat (.tuple ds)) ρ
def kTup (P : PK) (rs : List RV) (ρ : List AV) : Prop := withDs (rvDs rs) (kTup2 P ρ)
theorem z_tup {x : AAx} : aTup x ρ PX P = x ρ PX (kTup P) := rfl
def kLst2 (P : PK) (ρ : List AV) (ds : List PyData) : Prop := ds.length ≤ sizeLine ∧ P (.own (.ml none ds)) ρ
def kLst (P : PK) (rs : List RV) (ρ : List AV) : Prop := withDs (rvDs rs) (kLst2 P ρ)
theorem z_lst {x : AAx} : aLst x ρ PX P = x ρ PX (kLst P) := rfl
def kCB2 (g : DCl) (P : PK) (ρ : List AV) (ds : List PyData) : Prop := g ds (kOut P ρ)
def kCB (g : DCl) (P : PK) (rs : List RV) (ρ : List AV) : Prop := withDs (looks ρ rs) (kCB2 g P ρ)
theorem z_cb {g : DCl} {x : AAx} : aCB g x ρ PX P = x ρ PX (kCB g P) := rfl
/-! truth -/
def kAndB (b : AEx) (PX : PXT) (P : PK) (r : RV) (ρ : List AV) (c : Bool) : Prop := if c = true then b ρ PX P else P r ρ
def kAnd2 (b : AEx) (PX : PXT) (P : PK) (r : RV) (ρ : List AV) (d : PyData) : Prop := truD d (kAndB b PX P r ρ)
def kAnd1 (b : AEx) (PX : PXT) (P : PK) (r : RV) (ρ : List AV) : Prop := withD (r.hold.look ρ) (kAnd2 b PX P r.hold ρ)
theorem z_andT {x y : AEx} : aAndT x y ρ PX P = x ρ PX (kAnd1 y PX P) := rfl
def kOrB (b : AEx) (PX : PXT) (P : PK) (r : RV) (ρ : List AV) (c : Bool) : Prop := if c = true then P r ρ else b ρ PX P
def kOr2 (b : AEx) (PX : PXT) (P : PK) (r : RV) (ρ : List AV) (d : PyData) : Prop := truD d (kOrB b PX P r ρ)
def kOr1 (b : AEx) (PX : PXT) (P : PK) (r : RV) (ρ : List AV) : Prop := withD (r.hold.look ρ) (kOr2 b PX P r.hold ρ)
theorem z_orT {x y : AEx} : aOrT x y ρ PX P = x ρ PX (kOr1 y PX P) := rfl
def kNotB (P : PK) (ρ : List AV) (c : Bool) : Prop := P (.dat (.bool (!c))) ρ
def kNot2 (P : PK) (ρ : List AV) (d : PyData) : Prop := truD d (kNotB P ρ)
def kNot1 (P : PK) (r : RV) (ρ : List AV) : Prop := withD (r.look ρ) (kNot2 P ρ)
theorem z_notT {x : AEx} : aNotT x ρ PX P = x ρ PX (kNot1 P) := rfl
def kIsi2 (T : String) (P : PK) (ρ : List AV) (d : PyData) : Prop := match d with
  | .dict _ => False
  | d => P (.dat (.bool (isT T d))) ρ
def kIsi (T : String) (P : PK) (r : RV) (ρ : List AV) : Prop := withD (r.hold.look ρ) (kIsi2 T P ρ)
theorem z_isi {T : String} {x : AEx} : aIsi T x ρ PX P = x ρ PX (kIsi T P) := rfl
def kTst (P : Bool → List AV → Prop) (r : RV) (ρ : List AV) : Prop := match r with
  | .dat (.bool b) => P b ρ
  | _ => False
theorem z_tst {x : AEx} {P : Bool → List AV → Prop} : aTst x ρ PX P = x ρ PX (kTst P) := rfl
theorem z_tst1 {P : Bool → List AV → Prop} : kTst P (.dat (.bool b)) ρ = P b ρ := rfl
def kTru3 (P : Bool → List AV → Prop) (ρ : List AV) (b : Bool) : Prop := P b ρ
def kTru2 (P : Bool → List AV → Prop) (ρ : List AV) (d : PyData) : Prop := truD d (kTru3 P ρ)
def kTru (P : Bool → List AV → Prop) (r : RV) (ρ : List AV) : Prop := withD (r.look ρ) (kTru2 P ρ)
theorem z_tru {x : AEx} {P : Bool → List AV → Prop} : aTru x ρ PX P = x ρ PX (kTru P) := rfl
def kAnd (b : ATx) (PX : PXT) (P : Bool → List AV → Prop) (c : Bool) (ρ : List AV) : Prop := if c = true then b ρ PX P else P false ρ
theorem z_and {x y : ATx} {P : Bool → List AV → Prop} : aAnd x y ρ PX P = x ρ PX (kAnd y PX P) := rfl
def kOr (b : ATx) (PX : PXT) (P : Bool → List AV → Prop) (c : Bool) (ρ : List AV) : Prop := if c = true then P true ρ else b ρ PX P
theorem z_or {x y : ATx} {P : Bool → List AV → Prop} : aOr x y ρ PX P = x ρ PX (kOr y PX P) := rfl
def kNot (P : Bool → List AV → Prop) (c : Bool) (ρ : List AV) : Prop := P (!c) ρ
theorem z_not {x : ATx} {P : Bool → List AV → Prop} : aNot x ρ PX P = x ρ PX (kNot P) := rfl
/-! slices -/
def kPart (P : Option Int → List AV → Prop) (r : RV) (ρ : List AV) : Prop := match r with
  | .dat (.int i) => P (some i) ρ
  | _ => False
theorem z_part {x : AEx} {P : Option Int → List AV → Prop} : aPart x ρ PX P = x ρ PX (kPart P) := rfl
theorem z_part1 {P : Option Int → List AV → Prop} : kPart P (.dat (.int i)) ρ = P (some i) ρ := rfl
theorem z_noPart {P : Option Int → List AV → Prop} : aNoPart ρ PX P = P none ρ := rfl
def kSl4 (lo hi : Option Int) (P : PK) (ρ : List AV) (d : PyData) : Prop := gSl d lo hi (kOut P ρ)
def kSl3 (P : PK) (r : RV) (lo hi : Option Int) (ρ : List AV) : Prop := withD (r.look ρ) (kSl4 lo hi P ρ)
def kSl2 (h : AOx) (PX : PXT) (P : PK) (r : RV) (lo : Option Int) (ρ : List AV) : Prop := h ρ PX (kSl3 P r lo)
def kSl1 (l h : AOx) (PX : PXT) (P : PK) (r : RV) (ρ : List AV) : Prop := l ρ PX (kSl2 h PX P r.hold)
theorem z_sl {x : AEx} {l h : AOx} : aSl x l h ρ PX P = x ρ PX (kSl1 l h PX P) := rfl
def kRevL2 (P : PK) (ρ : List AV) (d : PyData) : Prop := match d with
  | .list ds => P (.own (.ml none ds.reverse)) ρ
  | _ => False
def kRevL (P : PK) (r : RV) (ρ : List AV) : Prop := withD (r.look ρ) (kRevL2 P ρ)
theorem z_revL {x : AEx} : aRevL x ρ PX P = x ρ PX (kRevL P) := rfl
theorem z_revL1 : kRevL2 P ρ (.list ds) = P (.own (.ml none ds.reverse)) ρ := rfl
def kRevT2 (P : PK) (ρ : List AV) (d : PyData) : Prop := match d with
  | .tuple ds => P (.dat (.tuple ds.reverse)) ρ
  | _ => False
def kRevT (P : PK) (r : RV) (ρ : List AV) : Prop := withD (r.look ρ) (kRevT2 P ρ)
theorem z_revT {x : AEx} : aRevT x ρ PX P = x ρ PX (kRevT P) := rfl
theorem z_revT1 : kRevT2 P ρ (.tuple ds) = P (.dat (.tuple ds.reverse)) ρ := rfl
/-! methods of lists -/
def kMtP (P : PK) (i : Nat) (p : Option Nat) (ρ : List AV) (d : PyData) (ds : List PyData) : Prop := P (.dat d) (ρ.set i (.ml p ds))
def kMt4 (g : DMt) (P : PK) (i : Nat) (ρ : List AV) (es : List PyData) (o : Option AV) : Prop := match o with
  | some (.ml p ds) => g ds es (kMtP P i p ρ)
  | _ => False
def kMt3 (g : DMt) (P : PK) (i : Nat) (ρ : List AV) (es : List PyData) : Prop := kMt4 g P i ρ es (ρ[i]?)
def kMt2 (g : DMt) (P : PK) (i : Nat) (rs : List RV) (ρ : List AV) : Prop := withDs (rvDs rs) (kMt3 g P i ρ)
def kMtA (g : DMt) (a : AAx) (PX : PXT) (P : PK) (i : Nat) (ρ : List AV) (o : Option AV) : Prop := match o with
  | some (.ml _ _) => a ρ PX (kMt2 g P i)
  | _ => False
def kMt1 (g : DMt) (a : AAx) (PX : PXT) (P : PK) (rb : RV) (ρ : List AV) : Prop := match rb with
  | .bor i => kMtA g a PX P i ρ (ρ[i]?)
  | _ => False
theorem z_mt {g : DMt} {x : AEx} {y : AAx} : aMt g x y ρ PX P = x ρ PX (kMt1 g y PX P) := by
  unfold aMt
  congr 1
theorem z_mt1 {g : DMt} {y : AAx} : kMt1 g y PX P (.bor n) ρ = kMtA g y PX P n ρ (ρ[n]?) := rfl
theorem z_mt2 {g : DMt} {y : AAx} : kMtA g y PX P n ρ (some (.ml p ds)) = y ρ PX (kMt2 g P n) := rfl
theorem z_mt3 {g : DMt} : kMt4 g P n ρ es (some (.ml p ds)) = g ds es (kMtP P n p ρ) := rfl
def kMz2 (g : DMt) (P : PK) (i : Nat) (ρ : List AV) (o : Option AV) : Prop := match o with
  | some (.ml p ds) => g ds [] (kMtP P i p ρ)
  | _ => False
def kMz1 (g : DMt) (P : PK) (rb : RV) (ρ : List AV) : Prop := match rb with
  | .bor i => kMz2 g P i ρ (ρ[i]?)
  | _ => False
theorem z_mt0 {g : DMt} {x : AEx} : aMt0 g x ρ PX P = x ρ PX (kMz1 g P) := by
  unfold aMt0
  congr 1
theorem z_mt01 {g : DMt} : kMz1 g P (.bor n) ρ = kMz2 g P n ρ (ρ[n]?) := rfl
theorem z_mt02 {g : DMt} : kMz2 g P n ρ (some (.ml p ds)) = g ds [] (kMtP P n p ρ) := rfl
/-! joins -/
def kJn4 (z : Str) (P : PK) (ρ : List AV) (o : Option (List Str)) : Prop := match o with
  | some ys => (ys.map (·.length)).sum + ys.length * z.length ≤ 16777216 ∧ P (.dat (.str (Txt.join z ys))) ρ
  | none => False
def kJn3 (z : Str) (P : PK) (ρ : List AV) (d : PyData) : Prop := match d with
  | .list ds => kJn4 z P ρ (strsD ds)
  | _ => False
def kJn2 (z : Str) (P : PK) (r : RV) (ρ : List AV) : Prop := withD (r.look ρ) (kJn3 z P ρ)
def kJn1 (a : AEx) (PX : PXT) (P : PK) (rb : RV) (ρ : List AV) : Prop := match rb with
  | .dat (.str z) => a ρ PX (kJn2 z P)
  | _ => False
theorem z_join {x y : AEx} : aJoin x y ρ PX P = x ρ PX (kJn1 y PX P) := rfl
theorem z_join1 {y : AEx} {z : Str} : kJn1 y PX P (.dat (.str z)) ρ = y ρ PX (kJn2 z P) := rfl
theorem z_join2 {z : Str} : kJn3 z P ρ (.list ds) = kJn4 z P ρ (strsD ds) := rfl
theorem z_join3 {z : Str} {ys : List Str} : kJn4 z P ρ (some ys) = ((ys.map (·.length)).sum + ys.length * z.length ≤ 16777216 ∧ P (.dat (.str (Txt.join z ys))) ρ) := rfl
/-! the script -/
def kLenS (P : PK) (ρ : List AV) (o : Option AV) : Prop := match o with
  | some (.scr ns) => P (.dat (.int ns.length)) ρ
  | _ => False
theorem z_lenS : aLenS n ρ PX P = kLenS P ρ (ρ[n]?) := rfl
theorem z_lenS1 {ns : List Int} : kLenS P ρ (some (.scr ns)) = P (.dat (.int ns.length)) ρ := rfl
def kIxS3 (P : PK) (ρ : List AV) (o : Option Int) : Prop := match o with
  | some z => P (.dat (.int z)) ρ
  | none => False
def kIxS2 (ns : List Int) (P : PK) (r : RV) (ρ : List AV) : Prop := match r with
  | .dat (.int k) => kIxS3 P ρ (atI ns k)
  | _ => False
def kIxS1 (b : AEx) (PX : PXT) (P : PK) (ρ : List AV) (o : Option AV) : Prop := match o with
  | some (.scr ns) => b ρ PX (kIxS2 ns P)
  | _ => False
theorem z_ixS {y : AEx} : aIxS n y ρ PX P = kIxS1 y PX P ρ (ρ[n]?) := rfl
theorem z_ixS1 {y : AEx} {ns : List Int} : kIxS1 y PX P ρ (some (.scr ns)) = y ρ PX (kIxS2 ns P) := rfl
theorem z_ixS2 {ns : List Int} : kIxS2 ns P (.dat (.int i)) ρ = kIxS3 P ρ (atI ns i) := rfl
theorem z_ixS3 : kIxS3 P ρ (some i) = P (.dat (.int i)) ρ := rfl
/-! walks -/
abbrev PD := List PyData → List AV → Prop
def kAny2 (P : PD) (ρ : List AV) (r : RV) : Prop := match r with
  | .dat (.list ds) => P ds ρ
  | .dat (.tuple ds) => P ds ρ
  | .dat (.str z) => P (signs z) ρ
  | _ => False
def kAny (P : PD) (r : RV) (ρ : List AV) : Prop := kAny2 P ρ r.hold
theorem z_any {x : AEx} {P : PD} : aAnyI x ρ PX P = x ρ PX (kAny P) := rfl
theorem z_any1 {P : PD} : kAny2 P ρ (.dat (.list ds)) = P ds ρ := rfl
theorem z_any2 {P : PD} : kAny2 P ρ (.dat (.tuple ds)) = P ds ρ := rfl
theorem z_any3 {P : PD} {z : Str} : kAny2 P ρ (.dat (.str z)) = P (signs z) ρ := rfl
def kRng1 (P : PD) (ρ : List AV) (ds : List PyData) : Prop := match ds with
  | [.int j] => (-(2 ^ 62) ≤ j ∧ j < 2 ^ 62) ∧ P (rng 0 j.toNat) ρ
  | _ => False
def kRngA (P : PD) (rs : List RV) (ρ : List AV) : Prop := withDs (rvDs rs) (kRng1 P ρ)
theorem z_rng1 {x : AAx} {P : PD} : aRng1 x ρ PX P = x ρ PX (kRngA P) := rfl
theorem z_rng11 {P : PD} : kRng1 P ρ [.int j] = ((-(2 ^ 62) ≤ j ∧ j < 2 ^ 62) ∧ P (rng 0 j.toNat) ρ) := rfl
def kRng2 (P : PD) (ρ : List AV) (ds : List PyData) : Prop := match ds with
  | [.int i, .int j] => (-(2 ^ 62) ≤ i ∧ i < 2 ^ 62 ∧ -(2 ^ 62) ≤ j ∧ j < 2 ^ 62) ∧ P (rng i (j - i).toNat) ρ
  | _ => False
def kRngB (P : PD) (rs : List RV) (ρ : List AV) : Prop := withDs (rvDs rs) (kRng2 P ρ)
theorem z_rng2 {x : AAx} {P : PD} : aRng2 x ρ PX P = x ρ PX (kRngB P) := rfl
theorem z_rng21 {P : PD} : kRng2 P ρ [.int i, .int j] = ((-(2 ^ 62) ≤ i ∧ i < 2 ^ 62 ∧ -(2 ^ 62) ≤ j ∧ j < 2 ^ 62) ∧ P (rng i (j - i).toNat) ρ) := rfl
def kEnum (P : PD) (rs : List RV) (ρ : List AV) : Prop := match rs with
  | [.dat (.list ds)] => P (enumD ds 0) ρ
  | _ => False
theorem z_enum {x : AAx} {P : PD} : aEnum x ρ PX P = x ρ PX (kEnum P) := rfl
theorem z_enum1 {P : PD} : kEnum P [.dat (.list ds)] ρ = P (enumD ds 0) ρ := rfl
def kLc (vs : List Nat) (g : ATg) (tt : ATx) (a : AEx) (P : PK) (ds : List PyData) (ρ : List AV) : Prop := lcGo vs g tt a P ds [] (wipeA ρ vs)
theorem z_lc {ai : AIt} {vs : List Nat} {g : ATg} {tt : ATx} {x : AEx} : aLc ai vs g tt x ρ PX P = ai ρ PX (kLc vs g tt x P) := rfl
theorem z_lc1 {vs : List Nat} {g : ATg} {tt : ATx} {x : AEx} : kLc vs g tt x P ds ρ = lcGo vs g tt x P ds [] (wipeA ρ vs) := rfl
theorem z_yes {P : Bool → List AV → Prop} : aYes ρ PX P = P true ρ := rfl
theorem z_lcN1 {vs : List Nat} {acc : List PyData} {N : List PyData → List AV → Prop} : lcNext vs acc N (.dat d) ρ = (acc.length < sizeLine ∧ N (acc ++ [d]) (wipeA ρ vs)) := rfl
theorem z_lcN2 {vs : List Nat} {acc : List PyData} {N : List PyData → List AV → Prop} : lcNext vs acc N (.own (.ml p ds)) ρ = (acc.length < sizeLine ∧ N (acc ++ [.list ds]) (wipeA ρ vs)) := rfl
theorem z_sort {ko : Out → Prop} : gSort [.list ds] ko = (PySem.W.AllAlike ds ∧ PySem.W.Sortable ds ∧ (∀ d ∈ ds, d.depth ≤ 60) ∧ noDics ds = true ∧ ∀ es, es.Perm ds → es.Pairwise AqS.leD → ko (.newL es)) := rfl
def kSS3 (ds : List PyData) (P : PK) (ρ : List AV) (o : Option (List Key)) : Prop := match o with
  | some ks => ks.length + 1 < scanBound ∧ PySem.W.AllAlike ds ∧ ∀ ys : List Key, ys.Nodup → (∀ k, k ∈ ys ↔ k ∈ ks) → (ys.map kD).Pairwise AqS.leD → P (.own (.ml none (ys.map kD))) ρ
  | none => False
def kSS2 (P : PK) (ρ : List AV) (r : RV) : Prop := match r with
  | .dat (.list ds) => kSS3 ds P ρ (keysD ds)
  | _ => False
def kSS1 (P : PK) (r : RV) (ρ : List AV) : Prop := kSS2 P ρ r.hold
theorem z_ss {x : AEx} : aSortSet x ρ PX P = x ρ PX (kSS1 P) := rfl
theorem z_ss1 : kSS2 P ρ (.dat (.list ds)) = kSS3 ds P ρ (keysD ds) := rfl
theorem z_ss2 {ks : List Key} : kSS3 ds P ρ (some ks) = (ks.length + 1 < scanBound ∧ PySem.W.AllAlike ds ∧ ∀ ys : List Key, ys.Nodup → (∀ k, k ∈ ys ↔ k ∈ ks) → (ys.map kD).Pairwise AqS.leD → P (.own (.ml none (ys.map kD))) ρ) := rfl
/-! calls -/
def kCall (c : Ct) (P : PK) (rs : List RV) (ρ : List AV) : Prop := callA c P ρ (argAV ρ rs 0)
theorem z_call0 {c : Ct} {x : AAx} : aCall0 c x ρ PX P = x ρ PX (kCall c P) := rfl
def bkX (PX : PXT) (ρ1 : List AV) (is : List Nat) : PXT := fun cls p ρ' => PX cls p (backA ρ' is 0 ρ1)
def callX (c : Ct) (PX : PXT) (P : PK) (ρ1 : List AV) : Option (List AV × List Nat) → Prop
  | some (ρc, is) => is.Nodup ∧ c ρc (bk P ρ1 is) (bkX PX ρ1 is)
  | none => False
def kCallX (c : Ct) (PX : PXT) (P : PK) (rs : List RV) (ρ : List AV) : Prop := callX c PX P ρ (argAV ρ rs 0)
theorem z_callX {c : Ct} {x : AAx} : aCall c x ρ PX P = x ρ PX (kCallX c PX P) := rfl
theorem z_callX1 {c : Ct} {ρc : List AV} {is : List Nat} : callX c PX P ρ (some (ρc, is)) = (is.Nodup ∧ c ρc (bk P ρ is) (bkX PX ρ is)) := rfl
theorem z_bkX {ρ1 ρ' : List AV} {is : List Nat} {cls : String} {q : Option (Str × PyData)} : True := trivial
def argAt (o : Option AV) (n : Nat) (ρ : List AV) (rs : List RV) (j : Nat) : Option (List AV × List Nat) := match o with
  | some (.ml _ ds) => (argAV ρ rs (j + 1)).map fun p => (.ml (some j) ds :: p.1, n :: p.2)
  | some (.mdk _ ds) => (argAV ρ rs (j + 1)).map fun p => (.mdk (some j) ds :: p.1, n :: p.2)
  | some (.mdt _ ds) => (argAV ρ rs (j + 1)).map fun p => (.mdt (some j) ds :: p.1, n :: p.2)
  | some (.scr ns) => (argAV ρ rs j).map fun p => (.scr ns :: p.1, p.2)
  | some (.opq v) => (argAV ρ rs j).map fun p => (.opq v :: p.1, p.2)
  | _ => none
theorem z_arg2 {j : Nat} {rs : List RV} : argAV ρ (.bor n :: rs) j = argAt (ρ[n]?) n ρ rs j := by
  rw [argAV]
  rfl
theorem z_arg3 {j : Nat} {rs : List RV} : argAt (some (.ml p ds)) n ρ rs j = (argAV ρ rs (j + 1)).map fun p => (.ml (some j) ds :: p.1, n :: p.2) := rfl
theorem z_arg4 {j : Nat} {rs : List RV} {kvs : List (PyData × PyData)} : argAt (some (.mdk p kvs)) n ρ rs j = (argAV ρ rs (j + 1)).map fun p => (.mdk (some j) kvs :: p.1, n :: p.2) := rfl
theorem z_arg5 {j : Nat} {rs : List RV} {ns : List Int} : argAt (some (.scr ns)) n ρ rs j = (argAV ρ rs j).map fun p => (.scr ns :: p.1, p.2) := rfl
/-! statements -/
theorem z_next : sNext D ρ = D.nx ρ := rfl
theorem z_break : sBreak D ρ = D.bk ρ := rfl
theorem z_cont : sCont D ρ = D.ct ρ := rfl
theorem z_seq {a b : ASt} : sSeq a b D ρ = a { D with nx := b D } ρ := rfl
def kDrop (D : AEnds) (r : RV) (ρ : List AV) : Prop := D.nx ρ
theorem z_drop {x : AEx} : sDrop x D ρ = x ρ D.ex (kDrop D) := rfl
def kIf (a b : ASt) (D : AEnds) (k : Bool) (ρ : List AV) : Prop := if k = true then a D ρ else b D ρ
theorem z_if {x : ATx} {a b : ASt} : sIf x a b D ρ = x ρ D.ex (kIf a b D) := rfl
def kRet (D : AEnds) (r : RV) (ρ : List AV) : Prop := retV r ρ D.rt
theorem z_ret {x : AEx} : sRet x D ρ = x ρ D.ex (kRet D) := rfl
theorem z_retN : sRetN D ρ = D.rt (.dat .none) ρ := rfl
def retAt (o : Option AV) (n : Nat) (ρ : List AV) (k : PK) : Prop := match o with
  | some (.ml none ds) => k (.own (.ml none ds)) (ρ.set n .un)
  | some (.mdk none ds) => k (.own (.mdk none ds)) (ρ.set n .un)
  | _ => False
theorem z_ret3 : retV (.bor n) ρ P = retAt (ρ[n]?) n ρ P := rfl
theorem z_ret4 : retAt (some (.ml none ds)) n ρ P = P (.own (.ml none ds)) (ρ.set n .un) := rfl
theorem z_ret5 {kvs : List (PyData × PyData)} : retAt (some (.mdk none kvs)) n ρ P = P (.own (.mdk none kvs)) (ρ.set n .un) := rfl
def kSet (i : Nat) (D : AEnds) (r : RV) (ρ : List AV) : Prop := setR i r ρ D.nx
theorem z_set {x : AEx} : sSet n x D ρ = x ρ D.ex (kSet n D) := rfl
def kAsg2 (g : ATg) (D : AEnds) (ρ : List AV) (r : RV) : Prop := match r with
  | .dat d => g d ρ D.nx
  | _ => False
def kAsg (g : ATg) (D : AEnds) (r : RV) (ρ : List AV) : Prop := kAsg2 g D ρ r.hold
theorem z_asg {x : AEx} {g : ATg} : sAsg x g D ρ = x ρ D.ex (kAsg g D) := rfl
theorem z_asg1 {g : ATg} : kAsg2 g D ρ (.dat d) = g d ρ D.nx := rfl
def kPar2 (i j : Nat) (D : AEnds) (ρ : List AV) (ds : List PyData) : Prop := match ds with
  | [d, e] => D.nx ((ρ.set i (.dat d)).set j (.dat e))
  | _ => False
def kPar (i j : Nat) (D : AEnds) (rs : List RV) (ρ : List AV) : Prop := withDs (rvDs rs) (kPar2 i j D ρ)
theorem z_par {m : Nat} {x : AAx} : sPar n m x D ρ = x ρ D.ex (kPar n m D) := rfl
theorem z_par1 {m : Nat} {e : PyData} : kPar2 n m D ρ [d, e] = D.nx ((ρ.set n (.dat d)).set m (.dat e)) := rfl
def kSub5 (D : AEnds) (d : PyData) (i : Nat) (p : Option Nat) (ds : List PyData) (ρ : List AV) (o : Option Nat) : Prop := match o with
  | some j => D.nx (ρ.set i (.ml p (ds.set j d)))
  | none => False
def kSub4 (D : AEnds) (d : PyData) (i : Nat) (ρ : List AV) (rc : RV) (o : Option AV) : Prop := match rc, o with
  | .dat (.int k), some (.ml p ds) => kSub5 D d i p ds ρ (ixN ds.length k)
  | _, _ => False
def kSub3 (D : AEnds) (d : PyData) (i : Nat) (rc : RV) (ρ : List AV) : Prop := kSub4 D d i ρ rc (ρ[i]?)
def kSub2 (D : AEnds) (c : AEx) (d : PyData) (rb : RV) (ρ : List AV) : Prop := match rb with
  | .bor i => c ρ D.ex (kSub3 D d i)
  | _ => False
def kSub1 (D : AEnds) (b c : AEx) (ρ : List AV) (r : RV) : Prop := match r with
  | .dat d => b ρ D.ex (kSub2 D c d)
  | _ => False
def kSub0 (D : AEnds) (b c : AEx) (r : RV) (ρ : List AV) : Prop := kSub1 D b c ρ r.hold
theorem z_sub {x y z : AEx} : sSub x y z D ρ = x ρ D.ex (kSub0 D y z) := rfl
theorem z_sub1 {y z : AEx} : kSub1 D y z ρ (.dat d) = y ρ D.ex (kSub2 D z d) := rfl
theorem z_sub2 {z : AEx} : kSub2 D z d (.bor n) ρ = z ρ D.ex (kSub3 D d n) := rfl
theorem z_sub4 : kSub4 D d n ρ (.dat (.int i)) (some (.ml p ds)) = kSub5 D d n p ds ρ (ixN ds.length i) := rfl
theorem z_sub5 {m : Nat} : kSub5 D d n p ds ρ (some m) = D.nx (ρ.set n (.ml p (ds.set m d))) := rfl
def kSS_4 (es : List PyData) (D : AEnds) (i : Nat) (ρ : List AV) (lo hi : Option Int) (o : Option AV) : Prop := match lo, hi, o with
  | some a, some c, some (.ml p ds) => (0 ≤ a ∧ a ≤ ds.length ∧ a ≤ c ∧ ds.length + es.length ≤ sizeLine) ∧ D.nx (ρ.set i (.ml p (ds.take a.toNat ++ es ++ ds.drop (min c.toNat ds.length))))
  | _, _, _ => False
def kSS_3 (es : List PyData) (D : AEnds) (i : Nat) (lo hi : Option Int) (ρ : List AV) : Prop := kSS_4 es D i ρ lo hi (ρ[i]?)
def kSS_2 (es : List PyData) (h : AOx) (D : AEnds) (i : Nat) (lo : Option Int) (ρ : List AV) : Prop := h ρ D.ex (kSS_3 es D i lo)
def kSS_1 (es : List PyData) (l h : AOx) (D : AEnds) (rb : RV) (ρ : List AV) : Prop := match rb with
  | .bor i => l ρ D.ex (kSS_2 es h D i)
  | _ => False
def kSS_0 (b : AEx) (l h : AOx) (D : AEnds) (ρ : List AV) (r : RV) : Prop := match r with
  | .dat (.list es) => b ρ D.ex (kSS_1 es l h D)
  | _ => False
def kSetSl (b : AEx) (l h : AOx) (D : AEnds) (r : RV) (ρ : List AV) : Prop := kSS_0 b l h D ρ r.hold
theorem z_setSl {x y : AEx} {l h : AOx} : sSetSl x y l h D ρ = x ρ D.ex (kSetSl y l h D) := rfl
theorem z_setSl0 {y : AEx} {l h : AOx} : kSS_0 y l h D ρ (.dat (.list es)) = y ρ D.ex (kSS_1 es l h D) := rfl
theorem z_setSl1 {l h : AOx} : kSS_1 es l h D (.bor n) ρ = l ρ D.ex (kSS_2 es h D n) := rfl
theorem z_setSl4 : kSS_4 es D n ρ (some i) (some j) (some (.ml p ds)) = ((0 ≤ i ∧ i ≤ ds.length ∧ i ≤ j ∧ ds.length + es.length ≤ sizeLine) ∧ D.nx (ρ.set n (.ml p (ds.take i.toNat ++ es ++ ds.drop (min j.toNat ds.length))))) := rfl
def kFor (g : ATg) (b : ASt) (D : AEnds) (ds : List PyData) (ρ : List AV) : Prop := forGo g b D ds ρ
theorem z_for {ai : AIt} {g : ATg} {b : ASt} : sFor ai g b D ρ = ai ρ D.ex (kFor g b D) := rfl
theorem z_for1 {g : ATg} {b : ASt} : kFor g b D ds ρ = forGo g b D ds ρ := rfl
theorem z_gN {k : List AV → Prop} : gN n d ρ k = k (ρ.set n (.dat d)) := rfl
def kGs (u : ATgs) (ds : List PyData) (k : List AV → Prop) (ρ : List AV) : Prop := u ds ρ k
theorem z_gsCons {t : ATg} {u : ATgs} {k : List AV → Prop} : gsCons t u (d :: ds) ρ k = t d ρ (kGs u ds k) := rfl
end
theorem ixo {α : Type} (x : α) (xs : List α) : atI (x :: xs) 0 = some x := by simp [atI, ixN]
theorem ix1' {α : Type} (x y : α) (xs : List α) : atI (x :: y :: xs) 1 = some y := by
  have : (1 : Int) < (xs.length : Int) + 1 + 1 := by omega
  simp [atI, ixN, this]
theorem ix2' {α : Type} (x y z : α) (xs : List α) : atI (x :: y :: z :: xs) 2 = some z := by
  have : (2 : Int) < (xs.length : Int) + 1 + 1 + 1 := by omega
  simp [atI, ixN, this]
theorem ix3' {α : Type} (x y z u : α) (xs : List α) : atI (x :: y :: z :: u :: xs) 3 = some u := by
  have : (3 : Int) < (xs.length : Int) + 1 + 1 + 1 + 1 := by omega
  simp [atI, ixN, this]
theorem ix4' {α : Type} (x y z u v : α) (xs : List α) : atI (x :: y :: z :: u :: v :: xs) 4 = some v := by
  have : (4 : Int) < (xs.length : Int) + 1 + 1 + 1 + 1 + 1 := by omega
  simp [atI, ixN, this]
theorem ix5' {α : Type} (x y z u v w : α) (xs : List α) : atI (x :: y :: z :: u :: v :: w :: xs) 5 = some w := by
  have : (5 : Int) < (xs.length : Int) + 1 + 1 + 1 + 1 + 1 + 1 := by omega
  simp [atI, ixN, this]
theorem atI_get {α : Type} {xs : List α} {i : Int} (h0 : 0 ≤ i) (h1 : i < xs.length) : atI xs i = xs[i.toNat]? := by
  unfold atI ixN
  rw [if_pos h0, if_pos h1]
  rfl
theorem mem_rng {lo : Int} {n : Nat} {d : PyData} (h : d ∈ rng lo n) : ∃ i, d = .int i ∧ lo ≤ i ∧ i < lo + n := by
  unfold rng at h
  obtain ⟨k, hk, rfl⟩ := List.mem_map.mp h
  rw [List.mem_range] at hk
  exact ⟨_, rfl, by omega, by omega⟩
theorem rng_len {lo : Int} {n : Nat} : (rng lo n).length = n := by simp [rng]
theorem rng_map {α : Type} {lo : Int} {n : Nat} (f : PyData → α) : (rng lo n).map f = (List.range n).map fun (i : Nat) => f (.int (lo + (i : Int))) := by simp [rng]
/-- a comprehension of truths -/
theorem lcBool {vs : List Nat} {g : ATg} {a : AEx} {P : RV → List AV → Prop} {ρ : List AV} (st : PyData → List AV) (f : PyData → Bool) (ds : List PyData)
    (h1 : ∀ d ∈ ds, ∀ k, k (st d) → g d ρ k) (h2 : ∀ d ∈ ds, wipeA (st d) vs = ρ) (h4 : ∀ d ∈ ds, ∀ k, k (.dat (.bool (f d))) (st d) → a (st d) X0 k) (hz : ds.length ≤ 1000)
    (h : P (.own (.ml none ((ds.map f).map PyData.bool))) ρ) : lcGo vs g aYes a P ds [] ρ :=
  lcMap st (fun d => .bool (f d)) ds [] h1 h2 h4 (by simp [sizeLine]; omega) (by
    have e : (ds.map fun d => PyData.bool (f d)) = (ds.map f).map PyData.bool := by simp
    rw [List.nil_append, e]
    exact h)
/-- a loop that looks at each and may go -/
theorem forChk {n : Nat} {b : ASt} {D : AEnds} (S : AV → List AV) (p : PyData → Bool) (hset : ∀ x d, (S x).set n (.dat d) = S (.dat d)) : ∀ (ds : List PyData) (x : AV)
    (_ : ∀ d ∈ ds, ∀ N : List AV → Prop, (p d = true → N (S (.dat d))) → b { D with nx := N, ct := N, bk := D.nx } (S (.dat d)))
    (_ : (∀ d ∈ ds, p d = true) → ∀ x, D.nx (S x)), forGo (gN n) b D ds (S x)
  | [], x, _, fin => fin (fun _ h => by simp at h) x
  | d :: ds, x, step, fin => by
    unfold forGo gN
    rw [hset]
    exact step d List.mem_cons_self _ fun hp => forChk S p hset ds _ (fun e he => step e (List.mem_cons_of_mem _ he)) fun ha => fin fun e he => by
      rcases List.mem_cons.mp he with rfl | he
      · exact hp
      · exact ha e he
theorem forChkG {τ : Type} {g : ATg} {b : ASt} {D : AEnds} (S : τ → List AV) (f : PyData → τ) (p : PyData → Bool) : ∀ (ds : List PyData) (x : τ)
    (_ : ∀ d ∈ ds, ∀ x k, k (S (f d)) → g d (S x) k)
    (_ : ∀ d ∈ ds, ∀ N : List AV → Prop, (p d = true → N (S (f d))) → b { D with nx := N, ct := N, bk := D.nx } (S (f d)))
    (_ : (∀ d ∈ ds, p d = true) → ∀ x, D.nx (S x)), forGo g b D ds (S x)
  | [], x, _, _, fin => fin (fun _ h => by simp at h) x
  | d :: ds, x, hg, step, fin => by
    unfold forGo
    refine hg d List.mem_cons_self x _ ?_
    exact step d List.mem_cons_self _ fun hp => forChkG S f p ds _ (fun e he => hg e (List.mem_cons_of_mem _ he)) (fun e he => step e (List.mem_cons_of_mem _ he)) fun ha => fin fun e he => by
      rcases List.mem_cons.mp he with rfl | he
      · exact hp
      · exact ha e he
theorem shp_int (i : Int) : SeqAt.shaped (.int i) = true := rfl
theorem shp_bool (i : Bool) : SeqAt.shaped (.bool i) = true := rfl
theorem shp_none : SeqAt.shaped .none = true := rfl
section
open PySem.Spec PyProof.Rows
variable {K : PySem.W.Frag}
/-- the law itself: its function object as it stands -/
theorem okLaw {P : Program} {w : World} {mg : Str → Option Value} {base : Heap} {k : Nat} {x : Str} {st : Stmt} {f : Addr} {fd : FuncData} {N ps : List Str} {c : Ct} {t : TS} {a : ASt} (F : FnP K x st f fd) (S : FnScope N ps (defScope st))
    (hl : ∀ ρ P PX, c ρ P PX → ρ.length = ps.length) (hs : ∀ W, SS K W t a) (hp : ∀ ρ P PX, c ρ P PX → a { nx := fun ρ' => P (.dat .none) ρ', rt := P, ex := PX } (ρ ++ List.replicate (N.length - ρ.length) .un))
    (hd : ∀ (cdv : Value) (A : Around) (outer : List Env) (s : Shared) (H : Hp) (E : XK), Room k (A.deeper (envOfC x (defScope st) s.heap.objs.size f cdv)) → PSs (cxOf CX0 P w K mg base N x (defScope st) f cdv A outer s H E).nox (defBody st) t) : FnOk P w K mg base CX0 (k + 1) f fd ps (spOf K c) :=
  F.ok S (fun vs H Q E h => spOf_len hl h) fun cdv A outer s H vs Q E hr h => ⟨t, PSs.nox (hd cdv A outer s H E hr), body_of h (hs _) hp⟩
/-- how a law is called: all is frozen, the script is there -/
theorem law_start {H : Hp} {a : Addr} {ns : List Int} {c : Ct} (h : SqL K H a (ns.map V.int)) (hc : ∀ (P : RV → List AV → Prop) (PX : PXT), (∀ ρ', P (.dat (.bool true)) ρ') → c [.scr ns] P PX) : spOf K c [.ref a] H (fun v _ => v = .bl true) fun _ _ _ => False := by
  refine ⟨H, [], [.scr ns], fun r _ => r = .dat (.bool true), fun _ _ _ => False, ?_, hc _ _ fun _ => rfl, ?_, fun _ _ _ _ _ _ _ _ _ h => h⟩
  · refine ⟨rfl, .refl _, .refl _, fun b o h _ => h, fun b o h => ⟨o, h⟩, fun b o h1 h2 => ?_, fun l hl => by simp at hl, fun _ _ e => e, fun i x e => ?_, fun i j l _ h1 _ => ?_⟩
    · have h1' : H b = some o := h1
      have h2' : H b = none := h2
      rw [h1'] at h2'
      cases h2'
    · match i, e with
      | 0, e =>
        cases e
        exact ⟨_, rfl, a, rfl, h⟩
      | i + 1, e => simp at e
    · obtain ⟨⟨x, e, m⟩, _⟩ := h1
      match i, e with
      | 0, e =>
        cases e
        cases m
      | i + 1, e => simp at e
  · intro v F' H' σ' ρ' r _ ho hr
    subst hr
    cases ho
    rfl
theorem isi_by {T : String} (h : ∀ U ∈ ["NoneType", "bool", "int", "str", "list", "tuple", "dict"], PySem.W.kitOne K (.type U) (.type T) = some (U == T || (U == "bool" && T == "int"))) : IsiOk K T := ⟨h⟩
end
end Aq
set_option maxHeartbeats 3200000
/-! exceptions as values -/
namespace Aq
open PySem PySem.Spec PyProof.Rows L2
theorem exN_ok {P : Program} {w : World} {H : Hp} {h : Heap} {a C t : Addr} (he : h.get? a = some ({ cls := .ref C, dict := none, data := .fields #[.ref t, .none, .none, .none, .bool false, .none] } : Obj)) : ObjOk P w H h a (exN a C t) :=
  ⟨he, ⟨_, he⟩, fun _ _ z k => k _ z⟩
theorem exN_at {P : Program} {w : World} {H : Hp} {h : Heap} {a C t : Addr} (hok : HOk P w H h) (he : H a = some (exN a C t)) : h.get? a = some ({ cls := .ref C, dict := none, data := .fields #[.ref t, .none, .none, .none, .bool false, .none] } : Obj) := by
  have x : ObjOk P w H h a (.ext fun h => h.get? a = some ({ cls := .ref C, dict := none, data := .fields #[.ref t, .none, .none, .none, .bool false, .none] } : Obj)) := hok a _ he
  exact x.1
/-- X(e) -/
def tExN (C : Addr) (ta : TE) : TE := fun σ H Q => ta σ H fun v H1 => ∀ t a, H1 t = none → H1 a = none → t ≠ a → Q (.ref a) (upd (upd H1 t (.tup [v])) a (exN a C t))
section
variable {X : Cx}
theorem pe_excN {C : Addr} {bmB : List Value} {B newId initId : String} {x : Str} {e : Expr} {ta : TE} {p pos : Pos} (F : ExcBaseFacts B newId initId bmB) (q : PySem.W.excIn X.K C bmB newId = true) (gC : X.mg x = some (.ref C)) (kC : PySem.W.keepIn X.K (.ref C) = true) (hg : Gl X x)
    (he : PE X e ta) (hs : starEach [e] X.env = (false, eval e X.env) :: starEach [] X.env := by rfl) (hdb : (x == ("__debug__" : Str)) = false := by decide) :
    PE X (.Call (.Name x p) [e] [] pos) (tExN C ta) := by
  refine ⟨fun pins s σ H Q I h => ?_⟩
  refine wpAny_Call_Name_kw (ld_glob I hg gC ?_ hdb)
  refine PySem.W.callWith_K (h₀ := X.base) I.ok.mod.kin kC ?_ hs (by rfl)
  rw [hs]
  show wpAny _ _ (spliced ((false, eval e X.env) :: backTo pos (starEach [] X.env))) _ _ s
  refine Calls.spliced_cons (thn (he.run pins s σ H _ I h) fun u s1 ⟨v, H1, I1, r1, q1⟩ => ?_)
  refine Calls.spliced_nil ⟨I1.kIn, ?_⟩
  show wpAny _ _ (call (.ref C) [u]) _ _ _
  obtain ⟨bm, N, nm, qn, bs, hdct, sn, sub, ab, col, dd, k0, k1, k2, k3, k5, mN, hC, hN, hni, T⟩ := exc_obj I1.kIn q
  refine wpAny_call_exc_subT F T hC hN hni (fun h' a hm => ?_) (by show 1 ≤ sizeLine; rw [sizeLine_eq]; omega)
  have hn : H1 a = none := I1.hok.gone hm.new
  obtain ⟨t, ht, tn, tt⟩ := hm.there
  have htn : H1 t = none := I1.hok.gone tn
  have ne : t ≠ a := fun e => by
    rw [e, ht] at tt
    have := Option.some.inj tt
    cases this
  obtain ⟨G, g1, g2⟩ := restrict h' fun b => decide (b ≠ a)
  have gk : ∀ b, b ≠ a → G.get? b = h'.get? b := fun b hb => g1 b (decide_eq_true hb)
  have ga : G.get? a = none := g2 a (by simp)
  have nha : ∀ {b : Addr} {o : Obj}, s1.heap.get? b = some o → b ≠ a := fun {b o} z e => by
    rw [e] at z
    have := hm.new
    rw [z] at this
    cases this
  have I2 : Inv X pins σ (upd H1 t (.tup [v])) { s1 with heap := G, toks := s1.toks } := I1.laidN (fun b u z => (gk b (nha z)).trans (hm.keeps b u z)) tn htn ⟨by show 1 ≤ sizeLine; rw [sizeLine_eq]; omega, [u], .cons r1 .nil, ⟨_, (gk t ne).trans tt, rfl, _, rfl⟩⟩
  have hna : upd H1 t (.tup [v]) a = none := by rw [upd_ne (Ne.symm ne)]; exact hn
  have I3 := I2.laidN (h' := h') (o := exN a C t) (t' := s1.toks) (fun b u z => (gk b (fun e => by rw [e, ga] at z; cases z)).symm.trans z) ga hna (exN_ok ht)
  exact ⟨.ref a, _, I3, rfl, q1 t a htn hn ne⟩
end
section
variable {K : PySem.W.Frag} {W : WX}
def kExN (nm : Str) (P : PK) (r : RV) (ρ : List AV) : Prop := match r.hold with
  | .dat d => P (.dat (excD nm d)) ρ
  | _ => False
def aExN (nm : Str) (x : AEx) : AEx := fun ρ PX P => x ρ PX (kExN nm P)
theorem es_exN {nm : Str} {ta : TE} {a : AEx} (ha : ES K W ta a) : ES K W (tExN (He.ga K nm) ta) (aExN nm a) := fun C ρ PX P F H σ Q R h xs k =>
  ha C ρ PX _ F H σ _ R h xs fun v F1 H1 r ρ1 R1 s1 o1 p1 => by
    obtain ⟨F2, R2, s2, o2, n2⟩ := hold_ok R1 o1
    unfold kExN at p1
    cases er : r.hold with
    | bor j => simp only [er] at p1
    | own j => simp only [er] at p1
    | tupO _ _ => simp only [er] at p1
    | dat d =>
      rw [er] at o2
      simp only [er] at p1
      intro t a' ht hA ne
      obtain ⟨R3, s3⟩ := R2.laidF (u := .tup [v]) ht
      obtain ⟨R4, s4⟩ := R3.laidF (p := a') (u := exN a' (He.ga K nm) t) (by rw [upd_ne (Ne.symm ne)]; exact hA)
      have ft : upd (upd F2 t (.tup [v])) a' (exN a' (He.ga K nm) t) t = some (.tup [v]) := by rw [upd_ne ne, upd_same]
      exact k (.ref a') _ _ (.dat (excD nm d)) ρ1 R4 (((s1.trans s2).trans s3).trans s4) (.exc upd_same ft rfl (Dr.mono (s3.trans s4) d v o2)) p1
end
end Aq
set_option maxHeartbeats 3200000
/-! isinstance of exceptions as values, their fields -/
namespace Aq
open PySem PySem.Spec PyProof.Rows L2
/-- at a: an exception of the class at C -/
def ExA (H : Hp) (a C : Addr) : Prop := (∃ t, H a = some (exN a C t)) ∨ ∃ dx fs, H a = some (exo a C (some dx)) ∧ H dx = some (exd dx fs)
section
variable {X : Cx} {pins : List (Addr × Obj)} {σ : L2.St} {H : Hp} {s : Shared}
theorem ExA.inst {a C : Addr} (I : Inv X pins σ H s) (h : ExA H a C) : ∃ ox od, PySem.W.InstAt s.heap a ox C od := by
  rcases h with ⟨t, e⟩ | ⟨dx, fs, e, ed⟩
  · exact ⟨_, none, exN_at I.hok e, rfl, rfl, trivial⟩
  · obtain ⟨t1, ho⟩ := exo_at I.hok e
    obtain ⟨mA, hns, _⟩ := exd_at I.hok ed
    obtain ⟨od, hd, _⟩ := lookIn_ns hns
    exact ⟨_, some od, ho, rfl, rfl, hd⟩
def rIsV (K : PySem.W.Frag) : List V → Hp → VK → Prop := fun xs H Q => ∃ (a C : Addr) (c : V) (cv : Value) (b : Bool), xs = [.ref a, c] ∧ ExA H a C ∧ ExcC K C ∧ (∀ u, RelV c u → u = cv) ∧ PySem.W.kitOne K (.ref C) cv = some b ∧ Q (.bl b) H
theorem call_isV : CallR X (.builtin "isinstance") (rIsV X.K) := by
  intro pins s σ H xs us Q I r h
  obtain ⟨a, C, c, cv, b, rfl, ha, T, hcv, e, q⟩ := h
  cases r with
  | cons rx rr =>
    cases rr with
    | cons rt rr =>
      cases rr
      cases rx
      have ec := hcv _ rt
      subst ec
      obtain ⟨ox, od, J⟩ := ha.inst I
      have hcl : (PySem.W.clsIn X.K C).isSome = true := by
        obtain ⟨cd, hc, _⟩ := PySem.W.any_some T.hd
        rw [hc]
        rfl
      exact PySem.W.kia_one (PySem.W.kitx_exc (ox := ox) (od := od) hcl T.hg T.hk T.hs T.ha T.hn T.ht T.hm) I.kIn J e (fun z => nomatch z) fun tk => ⟨.bl b, H, I.kept (t' := tk) fun _ _ z => z, rfl, q⟩
/-- e.f -/
def tFd (K : PySem.W.Frag) (f : Str) (te : TE) : TE := fun σ H Q => te σ H fun x H1 => ∃ (a C dx : Addr) (v : V), x = .ref a ∧ H1 a = some (exo a C (some dx)) ∧ H1 dx = some (exd dx [(f, v)]) ∧ XfC K C ∧ PySem.W.findIn K (.ref C) f = some none ∧ Q v H1
theorem pe_fd {e : Expr} {te : TE} {pos : Pos} {n : Str} (he : PE X e te) (hb : attributeBase e n X.env (eval e X.env) = eval e X.env := by rfl) : PE X (.Attribute e n pos) (tFd X.K n te) := by
  refine ⟨fun pins s σ H Q I h => ?_⟩
  refine attr_of hb (thn (he.run pins s σ H _ I h) fun u s1 hh => ?_)
  obtain ⟨x, H1, I1, rx, a, C, dx, v, ex, e1, e2, T, hno, q⟩ := hh
  subst ex
  obtain rfl : u = Value.ref a := rx
  obtain ⟨t1, ho⟩ := exo_at I1.hok e1
  obtain ⟨mA, hns, hr⟩ := exd_at I1.hok e2
  obtain ⟨od, hd, hl⟩ := lookIn_ns hns
  have lk : [(n, v)].lookup n = some v := by simp [List.lookup]
  obtain ⟨w, hw, rw'⟩ := RelO.some_of (v := v) (o := mA n) (by rw [← lk]; exact hr n)
  have J : PySem.W.InstAt s1.heap a _ C (some od) := ⟨ho, rfl, rfl, hd⟩
  exact HandSPX.exc_get I1.kIn J T.ga T.gg T.exC (PySem.W.findObj_own T.hdC hno rfl (by rw [hl, hw])) (handed_of rw') ⟨v, H1, I1.tok _, rw', q⟩
end
end Aq
set_option maxHeartbeats 3200000
/-! exceptions with an __init__ of their own, as values -/
namespace Aq
open PySem PySem.Spec PyProof.Rows L2
/-- what is asked of the class whose __init__ is called by its name -/
structure InitC (K : PySem.W.Frag) (C : Addr) : Prop where
  sp : PySem.W.specialIn K (.ref C) "__getattribute__" = some (some (.builtin "type.__getattribute__"))
  rd : PySem.W.readsIn K C (.type "type") = true
  fi : PySem.W.findCls K (.ref C) (.type "type") "__init__" = some (.val (.builtin "ValueError.__init__"))
section
variable {X : Cx} {e : Expr} {es : List Expr} {ta : TA} {p1 p2 pos : Pos}
/-- C.__init__(self, ..), C an own class that takes ValueError's -/
theorem pe_weinit {x : Str} {C : Addr} {pl : Sem Bool} (T : InitC X.K C) (hg : Gl X x) (gC : X.mg x = some (.ref C)) (ha : PA X (e :: es) ta)
    (hc : eval (.Call (.Attribute (.Name x p1) "__init__" p2) (e :: es) [] pos) X.env = (do
      let ov ← eval (.Name x p1) X.env
      standAt p2.atName
      let (f, first) ← holding [ov] (getMethod ov "__init__" pl)
      callWith pos f first (backTo pos (starEach (e :: es) X.env)) (backToKw pos (keywordEach [] X.env))) := by rfl)
    (hse : starEach (e :: es) X.env = (false, eval e X.env) :: starEach es X.env := by rfl) (hno : (backTo pos (starEach es X.env)).any (·.1) = false := by rfl) (hdb : (x == ("__debug__" : Str)) = false := by decide) :
    PE X (.Call (.Attribute (.Name x p1) "__init__" p2) (e :: es) [] pos) (tVeI X.K ta) := by
  refine ⟨fun pins s σ H Q I h => ?_⟩
  refine PySem.W.methodCall_KW (ld_glob I hg gC ?_ hdb) hc
  refine PySem.W.method_cls I.kIn T.sp (PySem.W.cls_value I.kIn T.rd T.fi (by decide +kernel) ?_)
  show wpAny _ _ (callWith pos (Value.builtin "ValueError.__init__") [] (backTo pos (starEach (e :: es) X.env)) []) _ _ _
  refine PyProof.Rows.callWith_method1 (thn (ha.run pos pins _ σ H _ (I.tok _) h) fun us s1 ⟨vs, H1, I1, r1, a, D, ws, ev, hl, TD, ea, q⟩ => ?_) hse hno
  subst ev
  cases r1 with
  | @cons _ u0 _ ur ra rr =>
    obtain rfl : u0 = Value.ref a := ra
    refine oinit_ok TD I1 ea ?_ fun s' J => ⟨.non, H1, J, rfl, q⟩
    rw [← Paired.length rr, sizeLine_eq]
    omega
/-- X(e, ..) by an own __init__ that keeps sp: the exception as a value -/
def tMkV (C : Addr) (sp : Sp) (ta : TA) : TE := fun σ H Q => ta σ H fun vs H1 => vs.length ≤ 1000 ∧ ∀ a, H1 a = none → sp (.ref a :: vs) (upd H1 a (exo a C none)) (fun v H2 => v = .non ∧ Q (.ref a) H2) (fun _ _ _ => False)
theorem pe_mkV {CX : CXT} {x : Str} {C fI : Addr} {k : Nat} {fd : FuncData} {ps : List Str} {sp : Sp} {p : Pos} (T : OexC X.K C) (iC : PySem.W.findIn X.K (.ref C) "__init__" = some (some (.ref fI))) (tI : PySem.W.typeIn X.K (.ref fI) = some (.type "function"))
    (F1 : FnOk X.prog X.w X.K X.mg X.base CX k fI fd ps sp) (hr : Room (k + 1) X.A) (hb : Binds X.K fd ps []) (hx : Passes CX X (fun _ _ _ => False)) (hg : Gl X x) (hm : X.mg x = some (.ref C)) (ha : PA X (e :: es) ta)
    (hdb : (x == ("__debug__" : Str)) = false := by decide) (hse : starEach (e :: es) X.env = (false, eval e X.env) :: starEach es X.env := by rfl) (hno : (backTo pos (starEach es X.env)).any (·.1) = false := by rfl) :
    PE X (.Call (.Name x p) (e :: es) [] pos) (tMkV C sp ta) := by
  refine ⟨fun pins s σ H Q I h => ?_⟩
  obtain ⟨nm, qn, N, bs, bm, sn, sub, ab, col, dd, k0, k1, k2, k3, k5, hC, hbm⟩ := T.cls
  refine wpAny_Call_Name_kw (ld_glob I hg hm ?_ hdb)
  refine PySem.W.callWith_K (h₀ := X.base) I.ok.mod.kin T.kC (thn (ha.run pos pins s σ H _ I h) fun us s1 hh => ?_) hse hno
  obtain ⟨vs, H1, I1, r1, hz, q1⟩ := hh
  refine ⟨I1.kIn, ?_⟩
  show wpAny _ _ (call (.ref C) us) _ _ _
  obtain ⟨hp, g, dr, tk, os⟩ := s1
  generalize ea : hp.objs.size + 1 = a
  have hsz : hp.objs.size ≤ a := by omega
  have hn : H1 a = none := I1.hok.fresh hsz
  have hq := q1 a hn
  generalize eh : (hp.push (PySem.W.kdv_tup us)).push (PySem.HandSPX.excO C hp.objs.size) = hp2
  have kk : ∀ b o, hp.get? b = some o → hp2.get? b = some o := fun b o z => by
    rw [← eh]
    exact Heap.get?_push_of_some _ (Heap.get?_push_of_some _ z)
  have hget : hp2.get? a = some (PySem.HandSPX.excO C hp.objs.size) := by
    rw [← eh, ← ea]
    heap_get
  have I2 : Inv X pins σ (upd H1 a (exo a C none)) ⟨hp2, g, dr, tk, os⟩ := I1.laid (t' := tk) (a := a) (o := exo a C none) (h' := hp2) kk hsz (exo_ok hget)
  have r2 : Vals (V.ref a :: vs) (Value.ref a :: us) := .cons rfl r1
  have hl : (Value.ref a :: us).length = ps.length := r2.length.symm.trans (F1.len _ _ _ _ hq)
  have hus : us.length ≤ sizeLine := by
    rw [← Paired.length r1, sizeLine_eq]
    omega
  have bd := hb _ (Value.ref a :: us) I2.kIn (by rw [List.append_nil]; exact hl)
  rw [List.append_nil] at bd
  refine wpAny_call (PySem.HandSPX.call_own F.excBase_ValueError (fun Y => PySem.HandSPX.refsVE_contains Y bm hbm) (I1.kIn _ _ hC) (PySem.W.looks_findIn I1.kIn iC) (fun self => PySem.W.bind_fn I1.kIn self tI) hus ?_)
  rw [ea, eh]
  refine codeAny_mono (F1.run _ X.stack _ _ ⟨Value.ref a :: us, []⟩ (Value.ref a :: us) _ _ (fun _ _ _ => False) (hr.make C us []) (I2.env0.make C us []) bd r2 hq) fun r s' hq' => ?_
  cases r with
  | error er => exact hx pins σ _ _ er s' I2 hq'
  | ok fl =>
    cases fl with
    | ret u =>
      obtain ⟨v, H2, os2, bare2, un2, hok2, rv, ev, q2⟩ := hq'
      subst ev
      obtain ⟨h2, g2, d2, t2, os'⟩ := s'
      exact ⟨rv, .ref a, H2, I2.call' (ch := []) os2 un2 hok2 bare2 (fun b z => absurd z (by simp)), rfl, q2⟩
    | next => exact False.elim hq'
    | brk => exact False.elim hq'
    | cont => exact False.elim hq'
end
end Aq
set_option maxHeartbeats 3200000
/-! k96: the abstract rules of exceptions as values -/
namespace Aq
open PySem PySem.Spec PyProof.Rows L2
section
open He
variable {K : PySem.W.Frag}
theorem excV_ok {x : Str} (h : excB K x = true) : ExcC K (ga K x) := by
  unfold excB at h
  obtain ⟨h1, h⟩ := ba h
  obtain ⟨h2, h⟩ := ba h
  obtain ⟨h3, h⟩ := ba h
  obtain ⟨h4, h⟩ := ba h
  obtain ⟨h5, h⟩ := ba h
  obtain ⟨h6, h⟩ := ba h
  obtain ⟨h7, h8⟩ := ba h
  exact ⟨eqO_ok h1, eqO_ok h2, of_decide_eq_true h3, h4, eqO_ok h5, eqO_ok h6, of_decide_eq_true h7, of_decide_eq_true h8⟩
theorem kitV_exc (h : kitV K = true) {x : Str} (hx : x ∈ kAll) : ExcC K (ga K x) := excV_ok (ba (List.all_eq_true.mp h x hx)).1
theorem kitV_str (h : kitV K = true) {x : Str} (hx : x ∈ kAll) : PySem.W.findIn K (.ref (ga K x)) "__str__" = some (some (.builtin "BaseException.__str__")) := eqO_ok (ba (ba (List.all_eq_true.mp h x hx)).2).1
theorem kitV_kit (h : kitV K = true) {x : Str} (hx : x ∈ kAll) {y : Str} (hy : y ∈ kYW) : PySem.W.kitOne K (.ref (ga K x)) (cvK K y) = some (isxB x y) := of_decide_eq_true (List.all_eq_true.mp (ba (ba (List.all_eq_true.mp h x hx)).2).2 y hy)
theorem oexB_ok {x : Str} (h : oexB K x = true) : OexC K (ga K x) := by
  unfold oexB at h
  obtain ⟨h1, h⟩ := ba h
  obtain ⟨h2, h⟩ := ba h
  obtain ⟨h3, h⟩ := ba h
  obtain ⟨h4, h5⟩ := ba h
  refine ⟨?_, eqO_ok h2, of_decide_eq_true h3, of_decide_eq_true h4, h5⟩
  clear h2 h3 h4 h5 h
  cases q : K.lookup (ga K x) with
  | none => rw [q] at h1; cases h1
  | some o =>
    obtain ⟨oc, dd, dt, sl⟩ := o
    rw [q] at h1
    cases oc with
    | type c =>
      cases dt with
      | cls cd =>
        have hc := of_decide_eq_true (ba h1).1
        subst hc
        replace h1 := (ba h1).2
        obtain ⟨nm, bs, mro, ns, qn, hd, sn, sub, ab, col, del⟩ := cd
        obtain ⟨l⟩ := sl
        dsimp only at h1
        split at h1
        · rename_i C' bm k0 k1 k2 k3 n k5
          have a1 := of_decide_eq_true (ba h1).1
          replace h1 := (ba h1).2
          have a2 := of_decide_eq_true (ba h1).1
          replace h1 := (ba h1).2
          have a3 := (ba h1).1
          replace h1 := (ba h1).2
          obtain ⟨a4, a5⟩ := ba h1
          rw [Bool.not_eq_true'] at a3
          subst a2 a3 a4
          exact ⟨nm, qn, ns, bs, bm, sn, sub, ab, col, dd, k0, k1, k2, k3, k5, by rw [a1], a5⟩
        · cases h1
      | _ => cases h1
    | _ => cases h1
theorem initB_ok {x : Str} (h : initB K x = true) : InitC K (ga K x) := by
  obtain ⟨h1, h⟩ := ba h
  obtain ⟨h2, h3⟩ := ba h
  refine ⟨eqO_ok h1, h2, ?_⟩
  split at h3
  · rename_i n e
    have := of_decide_eq_true h3
    subst this
    exact e
  · cases h3
theorem fdlB_ok (h : fdlB K = true) {p : Str × Str} (hp : p ∈ fdl) : PySem.W.findIn K (.ref (ga K p.1)) p.2 = some none ∧ OexC K (ga K p.1) := by
  obtain ⟨h1, h2⟩ := ba (List.all_eq_true.mp h p hp)
  exact ⟨eqO_ok h1, oexB_ok h2⟩
theorem iniB_ok {x : Str} (h : iniB K x = true) : PySem.W.findIn K (.ref (ga K x)) "__init__" = some (some (.ref (fAd K (x, some "__init__")))) ∧ PySem.W.typeIn K (.ref (fAd K (x, some "__init__"))) = some (.type "function") := ⟨eqO_ok (ba h).1, of_decide_eq_true (ba h).2⟩
theorem cvV_ref {y : Str} (h : y ≠ "ValueError") : cvK K y = .ref (ga K y) := if_neg h
theorem cvV_ve : cvK K "ValueError" = .type "ValueError" := if_pos rfl
end
section
variable {K : PySem.W.Frag} {W : WX} {F H : Hp} {v : V} {d : PyData} {nm : Str}
def exNm : PyData → Option Str
  | .dict [(.none, .str nm), _] => some nm
  | _ => none
theorem exNm_cs (e : exNm d = some nm) : ∃ p, d = .dict [(.none, .str nm), p] := by
  unfold exNm at e
  split at e
  · cases e
    exact ⟨_, rfl⟩
  · cases e
theorem Dr.exA (s : Same F H) (h : Dr K F v d) (e : exNm d = some nm) : ∃ a, v = .ref a ∧ ExA H a (He.ga K nm) := by
  obtain ⟨p, rfl⟩ := exNm_cs e
  generalize hd : (PyData.dict [(.none, .str nm), p]) = d' at h
  cases h with
  | dic h1 h2 =>
    cases hd
    generalize he : [(PyData.none, PyData.str nm), p] = es at h2
    cases h2 with
    | nil => cases he
    | @cons k v vs d ds h3 h4 =>
      have e2 : PyData.none = kD k := by injection he with e1 _; injection e1
      cases k <;> cases e2
  | exc h1 h2 h3 h4 =>
    cases hd
    subst h3
    exact ⟨_, rfl, .inl ⟨_, s _ _ h1⟩⟩
  | exi h1 h2 h3 h4 =>
    cases hd
    subst h3
    exact ⟨_, rfl, .inr ⟨_, _, s _ _ h1, s _ _ h2⟩⟩
  | _ => cases hd
theorem Lk.dr_of (h : Lk K F H v d) (e : exNm d = some nm) : Dr K F v d := by
  obtain ⟨p, rfl⟩ := exNm_cs e
  rcases h with h | ⟨l, xs, ds', e1, e2, h1, h2⟩ | ⟨l, kvs, es, e1, e2, h1, h2⟩
  · exact h
  · cases e2
  · generalize he : [(PyData.none, PyData.str nm), p] = es' at e2
    cases e2
    cases h2 with
    | nil => cases he
    | @cons k v vs d ds h3 h4 =>
      have e2 : PyData.none = kD k := by injection he with e1 _; injection e1
      cases k <;> cases e2
/-! isinstance(e, C) -/
def kIsV (c : Str) (P : PK) (r : RV) (ρ : List AV) : Prop := match r with
  | .dat d => ∃ nm, exNm d = some nm ∧ nm ∈ kAll ∧ P (.dat (.bool (isxB nm c))) ρ
  | _ => False
def aIsV (c : Str) (x : AEx) : AEx := fun ρ PX P => x ρ PX (kIsV c P)
theorem es_isV {c : Str} {cV : V} {te : TE} {a : AEx} (kt : kitV K = true) (hy : c ∈ kYW) (hc : ∀ u, RelV cV u → u = cvK K c) (ha : ES K W te a) : ES K W (tCB (rIsV K) (tCons te (tCons (tC cV) tNil))) (aIsV c a) := fun C ρ PX P F H σ Q R h xs k =>
  ha C ρ PX _ F H σ _ R h xs fun v F1 H1 r ρ1 R1 s1 o1 p1 => by
    cases r with
    | dat d =>
      obtain ⟨nm, e, hx, p1⟩ := p1
      obtain ⟨a, rfl, hA⟩ := Dr.exA R1.sub o1 e
      exact ⟨a, _, cV, _, _, rfl, hA, kitV_exc kt hx, hc, kitV_kit kt hx hy, k (.bl _) F1 H1 (.dat (.bool _)) ρ1 R1 s1 (.bl _) p1⟩
    | _ => exact p1.elim
/-! e.f -/
def kFd (f : Str) (P : PK) (r : RV) (ρ : List AV) : Prop := ∃ nm d, r = .dat (exiD nm f d) ∧ (nm, f) ∈ fdl ∧ nm ∈ kAll ∧ P (.dat d) ρ
def aFd (f : Str) (x : AEx) : AEx := fun ρ PX P => x ρ PX (kFd f P)
theorem es_fd {f : Str} {te : TE} {a : AEx} (kt : kitV K = true) (hf : fdlB K = true) (ha : ES K W te a) : ES K W (tFd K f te) (aFd f a) := fun C ρ PX P F H σ Q R h xs k =>
  ha C ρ PX _ F H σ _ R h xs fun v F1 H1 r ρ1 R1 s1 o1 p1 => by
    obtain ⟨nm, d, rfl, hm, hx, p1⟩ := p1
    have E := kitV_exc kt hx
    obtain ⟨hno, _⟩ := fdlB_ok hf hm
    have o2 : Dr K F1 v (.dict [(.none, .str nm), (.str f, d)]) := o1
    generalize hd : (PyData.dict [(.none, .str nm), (.str f, d)]) = d' at o2
    cases o2 with
    | dic h1 h2 =>
      cases hd
      generalize he : [(PyData.none, PyData.str nm), (PyData.str f, d)] = es at h2
      cases h2 with
      | nil => cases he
      | @cons k v vs d ds h3 h4 =>
        have e2 : PyData.none = kD k := by injection he with e1 _; injection e1
        cases k <;> cases e2
    | exc h1 h2 h3 h4 => cases hd
    | exi h1 h2 h3 h4 =>
      cases hd
      subst h3
      exact ⟨_, _, _, _, rfl, R1.sub _ _ h1, R1.sub _ _ h2, ⟨E.hg, E.hk, E.hs, E.hd⟩, hno, k _ F1 H1 (.dat d) ρ1 R1 s1 h4 p1⟩
    | _ => cases hd
/-! str(e) -/
def rStrX (K : PySem.W.Frag) : List V → Hp → VK → Prop := fun xs H Q => ∃ (a C t : Addr) (w : Str), xs = [.ref a] ∧ H a = some (exN a C t) ∧ H t = some (.tup [.str w]) ∧ PySem.W.findIn K (.ref C) "__str__" = some (some (.builtin "BaseException.__str__")) ∧ PySem.W.subIn K (.ref C) (.type "BaseException") = some true ∧ Q (.str w) H
theorem call_strX {X : Cx} (hu : X.A.units + 64 < cLine) : CallR X (.type "str") (rStrX X.K) := by
  intro pins s σ H xs us Q I r h
  obtain ⟨a, C, t, w, rfl, ha, ht, hs, hB, q⟩ := h
  cases r with
  | cons rx rr =>
    cases rr
    cases rx
    have ho := exN_at I.hok ha
    have T := I.hok t _ ht
    obtain ⟨_, us, ru, T⟩ := T
    cases ru with
    | cons r1 rr =>
      cases rr
      obtain ⟨tk, rfl⟩ := r1
      obtain ⟨oT, hT, cT, nT, dT⟩ := T
      have T : s.heap.TupAt t [.str w tk] := ⟨oT, nT, hT, cT, dT⟩
      refine PySem.P.str_of_C_one (tk := tk) (m := w) (by omega) ⟨I.kIn, _, _, ho, rfl, rfl, rfl⟩ T hs hB ?_
      exact ⟨.str w, H, I, ⟨tk, rfl⟩, q⟩
def gStrX : DCl := gC1 fun d P => ∃ nm w, d = excD nm (.str w) ∧ nm ∈ kAll ∧ P (.dat (.str w))
theorem r1_strX (kt : kitV K = true) : R1S K (rStrX K) gStrX := r1_of fun F H v d Pd Q s l h o => by
  obtain ⟨nm, w, rfl, hx, h⟩ := h
  have l2 : Dr K F v (.dict [(.none, .str nm), (.none, .str w)]) := l.dr_of rfl
  generalize hd : (PyData.dict [(.none, .str nm), (.none, .str w)]) = d' at l2
  cases l2 with
  | dic h1 h2 =>
    cases hd
    generalize he : [(PyData.none, PyData.str nm), (PyData.none, PyData.str w)] = es at h2
    cases h2 with
    | nil => cases he
    | @cons k v vs d ds h3 h4 =>
      have e2 : PyData.none = kD k := by injection he with e1 _; injection e1
      cases k <;> cases e2
  | exc h1 h2 h3 h4 =>
    cases hd
    subst h3
    cases h4
    exact ⟨_, _, _, w, rfl, s _ _ h1, s _ _ h2, kitV_str kt hx, (kitV_exc kt hx).hs, o.dat _ _ (.str _) h⟩
  | exi h1 h2 h3 h4 => cases hd
  | _ => cases hd
/-! X(e), X with an __init__ that keeps one field -/
def spI (C : Addr) (f : Str) : Sp := fun vs H Q _ => ∃ (a : Addr) (v : V), vs = [.ref a, v] ∧ H a = some (exo a C none) ∧ ∀ dx, H dx = none → dx ≠ a → Q .non (upd (upd H dx (exd dx [(f, v)])) a (exo a C (some dx)))
def kExI (nm f : Str) (P : PK) (r : RV) (ρ : List AV) : Prop := match r.hold with
  | .dat d => P (.dat (exiD nm f d)) ρ
  | _ => False
def aExI (nm f : Str) (x : AEx) : AEx := fun ρ PX P => x ρ PX (kExI nm f P)
theorem es_exI {nm f : Str} {ta : TE} {a : AEx} (ha : ES K W ta a) : ES K W (tMkV (He.ga K nm) (spI (He.ga K nm) f) (tCons ta tNil)) (aExI nm f a) := fun C ρ PX P F H σ Q R h xs k =>
  ha C ρ PX _ F H σ _ R h xs fun v F1 H1 r ρ1 R1 s1 o1 p1 => by
    obtain ⟨F2, R2, s2, o2, n2⟩ := hold_ok R1 o1
    unfold kExI at p1
    cases er : r.hold with
    | bor j => simp only [er] at p1
    | own j => simp only [er] at p1
    | tupO _ _ => simp only [er] at p1
    | dat d =>
      rw [er] at o2
      simp only [er] at p1
      refine ⟨by simp, fun b hb => ⟨b, v, rfl, upd_same, fun dx hdx ne => ⟨rfl, ?_⟩⟩⟩
      rw [upd_ne ne] at hdx
      have e : upd (upd (upd H1 b (exo b (He.ga K nm) none)) dx (exd dx [(f, v)])) b (exo b (He.ga K nm) (some dx)) = upd (upd H1 dx (exd dx [(f, v)])) b (exo b (He.ga K nm) (some dx)) := by
        funext c
        by_cases hc : c = b
        · subst hc; rw [upd_same, upd_same]
        · rw [upd_ne hc, upd_ne hc]
          by_cases hd : c = dx
          · subst hd; rw [upd_same, upd_same]
          · rw [upd_ne hd, upd_ne hd, upd_ne hc]
      rw [e]
      obtain ⟨R3, s3⟩ := R2.laidF (u := exd dx [(f, v)]) hdx
      obtain ⟨R4, s4⟩ := R3.laidF (p := b) (u := exo b (He.ga K nm) (some dx)) (by rw [upd_ne (Ne.symm ne)]; exact hb)
      have ft : upd (upd F2 dx (exd dx [(f, v)])) b (exo b (He.ga K nm) (some dx)) dx = some (exd dx [(f, v)]) := by rw [upd_ne ne, upd_same]
      exact k (.ref b) _ _ (.dat (exiD nm f d)) ρ1 R4 (((s1.trans s2).trans s3).trans s4) (.exi upd_same ft rfl (Dr.mono (s3.trans s4) d v o2)) p1
/-- the reading of such an __init__ -/
def tIni (K : PySem.W.Frag) (f msg : Str) : TS := tSeq (tDrop (tVeI K (tCons (tVar 0) (tCons (tC (.str msg)) tNil)))) (tOst K f (tVar 0) (tVar 1))
theorem tIni_ok {nm f msg : Str} {H : Hp} {vs : List V} {Q : VK} {E : XK} {D : Ends} {N : List Str} (T : OexC K (He.ga K nm)) (hno : PySem.W.findIn K (.ref (He.ga K nm)) f = some none) (h : spI (He.ga K nm) f vs H Q E) (hD : ∀ σ H', Q .non H' → D.nx σ H') : tIni K f msg D (start N vs) H := by
  obtain ⟨a, v, rfl, ha, q⟩ := h
  refine ⟨.ref a, rfl, ?_⟩
  refine ⟨a, He.ga K nm, [.str msg], rfl, by simp, T, ha, ?_⟩
  refine ⟨v, rfl, .ref a, rfl, a, He.ga K nm, rfl, T, hno, .inl ⟨ha, fun dx hdx ne => hD _ _ (q dx hdx ne)⟩⟩
variable {PX : PXT} {P : PK} {ρ : List AV} {ko : Out → Prop}
theorem z_exN {nm : Str} {x : AEx} : aExN nm x ρ PX P = x ρ PX (kExN nm P) := rfl
theorem z_exN1 {nm : Str} : kExN nm P (.dat d) ρ = P (.dat (excD nm d)) ρ := rfl
theorem z_exI {nm f : Str} {x : AEx} : aExI nm f x ρ PX P = x ρ PX (kExI nm f P) := rfl
theorem z_exI1 {nm f : Str} : kExI nm f P (.dat d) ρ = P (.dat (exiD nm f d)) ρ := rfl
theorem z_isV {c : Str} {x : AEx} : aIsV c x ρ PX P = x ρ PX (kIsV c P) := rfl
theorem z_isV1 {c nm : Str} (h : nm ∈ kAll) : kIsV c P (.dat (excD nm d)) ρ = P (.dat (.bool (isxB nm c))) ρ := propext ⟨fun ⟨_, e, _, p⟩ => by cases e; exact p, fun p => ⟨nm, rfl, h, p⟩⟩
theorem z_isV2 {c nm f : Str} (h : nm ∈ kAll) : kIsV c P (.dat (exiD nm f d)) ρ = P (.dat (.bool (isxB nm c))) ρ := propext ⟨fun ⟨_, e, _, p⟩ => by cases e; exact p, fun p => ⟨nm, rfl, h, p⟩⟩
theorem z_fd {f : Str} {x : AEx} : aFd f x ρ PX P = x ρ PX (kFd f P) := rfl
theorem z_fd1 {f nm : Str} (h1 : (nm, f) ∈ fdl) (h2 : nm ∈ kAll) (p : P (.dat d) ρ) : kFd f P (.dat (exiD nm f d)) ρ := ⟨nm, d, rfl, h1, h2, p⟩
theorem q_strX {nm w : Str} (h : nm ∈ kAll) (p : ko (.dat (.str w))) : gStrX [excD nm (.str w)] ko := ⟨nm, w, rfl, h, p⟩
end
end Aq
set_option maxHeartbeats 2000000
namespace Cw
open PySem L2 Aq
local macro_rules | `(tactic| walk_at "aq") => `(tactic| simp -implicitDefEqProofs [z_exN, z_exN1, z_exI, z_exI1, z_isV, z_fd, z_sort, z_lcN1, z_lcN2, z_var, z_var1, z_var2, z_var3, z_var4, z_var5, z_var6, z_c, z_op, z_un, z_chain, z_cons, z_nil, z_tup, z_lst, z_cb, z_andT, z_orT, z_notT, z_isi, z_tst, z_tst1, z_tru, z_and, z_or, z_not, z_part, z_part1, z_noPart, z_sl, z_revL, z_revL1, z_revT, z_revT1, z_mt, z_mt1, z_mt2, z_mt3, z_mt0, z_mt01, z_mt02, z_join, z_join1, z_join2, z_join3, z_lenS, z_lenS1, z_ixS, z_ixS1, z_ixS2, z_ixS3, z_any, z_any1, z_any2, z_any3, z_rng1, z_rng11, z_rng2, z_rng21, z_enum, z_enum1, z_lc, z_lc1, z_yes, z_ss, z_ss1, z_ss2, z_call0, z_callX, z_callX1, z_arg2, z_arg3, z_arg4, z_arg5, z_next, z_break, z_cont, z_seq, z_drop, z_if, z_ret, z_retN, z_ret3, z_ret4, z_ret5, z_set, z_asg, z_asg1, z_par, z_par1, z_sub, z_sub1, z_sub2, z_sub4, z_sub5, z_setSl, z_setSl0, z_setSl1, z_setSl4, z_for, z_for1, z_gN, z_gsCons, kOut, kOp4, kOp3, kOp2, kOp1, kUn2, kUn, kCh7, kCh6, kCh5, kChB, kChO, kCh4, kCh3, kCh2, kCh1, kCons2, kCons1, kTup2, Aq.kTup, kLst2, kLst, kCB2, kCB, kAndB, kAnd2, kAnd1, kOrB, kOr2, kOr1, kNotB, kNot2, kNot1, kIsi2, kIsi, kTru3, kTru2, kTru, kAnd, kOr, kNot, kSl4, kSl3, kSl2, kSl1, kRevL, kRevT, kMtP, kMt3, kMt2, kJn2, kAny, kRngA, kRngB, kSS1, kCall, kCallX, kDrop, kIf, kRet, kSet, kAsg, kPar, kSub3, kSub0, kSS_3, kSS_2, kSetSl, kGs, q_hold1, q_hold2, q_hold3, q_hold4, q_look1, q_look2, q_look3, q_alook1, q_alook2, q_alook3, q_withD, q_withDs, q_withB, q_rvDs0, q_rvDs1, q_looks0, q_looks1, q_tru0, q_tru1, q_tru2, q_tru3, q_tru4, q_tru5, q_tru6, q_ret1, q_ret2, q_set1, q_set2, q_rv1, q_rv2, q_rv3, q_I, q_add1, q_add2, q_add3, q_add4, q_IS1, q_IS2, q_is1, q_is2, q_in1, q_in2, q_in3, q_ix1, q_ix2, q_ix3, q_sl1, q_sl2, q_sl3, q_len1, q_len2, q_len3, q_all, q_any, q_sum, q_max2, q_min2, q_abs, q_int1, q_int2, q_list1, q_list2, q_tupl1, q_tupl2, q_neg, q_app, q_ext, q_pop, q_popAt, q_ins, q_gsNil, q_gT, q_back0, q_retag1, q_tag1, q_arg0, q_arg1, q_bk1, q_bk2, q_callA, q_eqv1, q_eqv2, q_eqv3, q_eqv4, q_eqv5, q_eqv6, q_eqv7, q_eqv8, q_isT0, q_isT1, q_isT2, q_isT3, q_isT4, q_isT5, q_isT6, q_mul, q_div, q_mod, q_pow, q_sub, q_ixN0, q_ixN1, gEq, gNe, gLt, gLe, gGt, gGe, wipeA, ixo, ix1', ix2', ix3', ix4', ix5', shp, shp_int, shp_bool, shp_none])
local macro_rules | `(tactic| walk_at "ao") => `(tactic| simp -implicitDefEqProofs only [z_exN, z_exN1, z_exI, z_exI1, z_isV, z_fd, z_sort, z_lcN1, z_lcN2, z_var, z_var1, z_var2, z_var3, z_var4, z_var5, z_var6, z_c, z_op, z_un, z_chain, z_cons, z_nil, z_tup, z_lst, z_cb, z_andT, z_orT, z_notT, z_isi, z_tst, z_tst1, z_tru, z_and, z_or, z_not, z_part, z_part1, z_noPart, z_sl, z_revL, z_revL1, z_revT, z_revT1, z_mt, z_mt1, z_mt2, z_mt3, z_mt0, z_mt01, z_mt02, z_join, z_join1, z_join2, z_join3, z_lenS, z_lenS1, z_ixS, z_ixS1, z_ixS2, z_ixS3, z_any, z_any1, z_any2, z_any3, z_rng1, z_rng11, z_rng2, z_rng21, z_enum, z_enum1, z_lc, z_lc1, z_yes, z_ss, z_ss1, z_ss2, z_call0, z_callX, z_callX1, z_arg2, z_arg3, z_arg4, z_arg5, z_next, z_break, z_cont, z_seq, z_drop, z_if, z_ret, z_retN, z_ret3, z_ret4, z_ret5, z_set, z_asg, z_asg1, z_par, z_par1, z_sub, z_sub1, z_sub2, z_sub4, z_sub5, z_setSl, z_setSl0, z_setSl1, z_setSl4, z_for, z_for1, z_gN, z_gsCons, kOut, kOp4, kOp3, kOp2, kOp1, kUn2, kUn, kCh7, kCh6, kCh5, kChB, kChO, kCh4, kCh3, kCh2, kCh1, kCons2, kCons1, kTup2, Aq.kTup, kLst2, kLst, kCB2, kCB, kAndB, kAnd2, kAnd1, kOrB, kOr2, kOr1, kNotB, kNot2, kNot1, kIsi2, kIsi, kTru3, kTru2, kTru, kAnd, kOr, kNot, kSl4, kSl3, kSl2, kSl1, kRevL, kRevT, kMtP, kMt3, kMt2, kJn2, kAny, kRngA, kRngB, kSS1, kCall, kCallX, kDrop, kIf, kRet, kSet, kAsg, kPar, kSub3, kSub0, kSS_3, kSS_2, kSetSl, kGs, q_hold1, q_hold2, q_hold3, q_hold4, q_look1, q_look2, q_look3, q_alook1, q_alook2, q_alook3, q_withD, q_withDs, q_withB, q_rvDs0, q_rvDs1, q_looks0, q_looks1, q_tru0, q_tru1, q_tru2, q_tru3, q_tru4, q_tru5, q_tru6, q_ret1, q_ret2, q_set1, q_set2, q_rv1, q_rv2, q_rv3, q_I, q_add1, q_add2, q_add3, q_add4, q_IS1, q_IS2, q_is1, q_is2, q_in1, q_in2, q_in3, q_ix1, q_ix2, q_ix3, q_sl1, q_sl2, q_sl3, q_len1, q_len2, q_len3, q_all, q_any, q_sum, q_max2, q_min2, q_abs, q_int1, q_int2, q_list1, q_list2, q_tupl1, q_tupl2, q_neg, q_app, q_ext, q_pop, q_popAt, q_ins, q_gsNil, q_gT, q_back0, q_retag1, q_tag1, q_arg0, q_arg1, q_bk1, q_bk2, q_callA, q_eqv1, q_eqv2, q_eqv3, q_eqv4, q_eqv5, q_eqv6, q_eqv7, q_eqv8, q_isT0, q_isT1, q_isT2, q_isT3, q_isT4, q_isT5, q_isT6, q_mul, q_div, q_mod, q_pow, q_sub, q_ixN0, q_ixN1, gEq, gNe, gLt, gLe, gGt, gGe, wipeA, ixo, ix1', ix2', ix3', ix4', ix5', shp, shp_int, shp_bool, shp_none, List.nil_append, List.singleton_append, Option.map_some, Option.bind_some, List.getElem?_cons_zero, List.getElem?_cons_succ, List.set_cons_zero, List.set_cons_succ, if_true, if_false, Bool.not_true, Bool.not_false, Bool.false_eq_true, reduceCtorEq])
local macro_rules | `(tactic| walk_at "ax") => `(tactic| try simp -implicitDefEqProofs [z_exN, z_exN1, z_exI, z_exI1, z_isV, z_fd, z_sort, z_lcN1, z_lcN2, z_var, z_var1, z_var2, z_var3, z_var4, z_var5, z_var6, z_c, z_op, z_un, z_chain, z_cons, z_nil, z_tup, z_lst, z_cb, z_andT, z_orT, z_notT, z_isi, z_tst, z_tst1, z_tru, z_and, z_or, z_not, z_part, z_part1, z_noPart, z_sl, z_revL, z_revL1, z_revT, z_revT1, z_mt, z_mt1, z_mt2, z_mt3, z_mt0, z_mt01, z_mt02, z_join, z_join1, z_join2, z_join3, z_lenS, z_lenS1, z_ixS, z_ixS1, z_ixS2, z_ixS3, z_any, z_any1, z_any2, z_any3, z_rng1, z_rng11, z_rng2, z_rng21, z_enum, z_enum1, z_lc, z_lc1, z_yes, z_ss, z_ss1, z_ss2, z_call0, z_callX, z_callX1, z_arg2, z_arg3, z_arg4, z_arg5, z_next, z_break, z_cont, z_seq, z_drop, z_if, z_ret, z_retN, z_ret3, z_ret4, z_ret5, z_set, z_asg, z_asg1, z_par, z_par1, z_sub, z_sub1, z_sub2, z_sub4, z_sub5, z_setSl, z_setSl0, z_setSl1, z_setSl4, z_for, z_for1, z_gN, z_gsCons, kOut, kOp4, kOp3, kOp2, kOp1, kUn2, kUn, kCh7, kCh6, kCh5, kChB, kChO, kCh4, kCh3, kCh2, kCh1, kCons2, kCons1, kTup2, Aq.kTup, kLst2, kLst, kCB2, kCB, kAndB, kAnd2, kAnd1, kOrB, kOr2, kOr1, kNotB, kNot2, kNot1, kIsi2, kIsi, kTru3, kTru2, kTru, kAnd, kOr, kNot, kSl4, kSl3, kSl2, kSl1, kRevL, kRevT, kMtP, kMt3, kMt2, kJn2, kAny, kRngA, kRngB, kSS1, kCall, kCallX, kDrop, kIf, kRet, kSet, kAsg, kPar, kSub3, kSub0, kSS_3, kSS_2, kSetSl, kGs, q_hold1, q_hold2, q_hold3, q_hold4, q_look1, q_look2, q_look3, q_alook1, q_alook2, q_alook3, q_withD, q_withDs, q_withB, q_rvDs0, q_rvDs1, q_looks0, q_looks1, q_tru0, q_tru1, q_tru2, q_tru3, q_tru4, q_tru5, q_tru6, q_ret1, q_ret2, q_set1, q_set2, q_rv1, q_rv2, q_rv3, q_I, q_add1, q_add2, q_add3, q_add4, q_IS1, q_IS2, q_is1, q_is2, q_in1, q_in2, q_in3, q_ix1, q_ix2, q_ix3, q_sl1, q_sl2, q_sl3, q_len1, q_len2, q_len3, q_all, q_any, q_sum, q_max2, q_min2, q_abs, q_int1, q_int2, q_list1, q_list2, q_tupl1, q_tupl2, q_neg, q_app, q_ext, q_pop, q_popAt, q_ins, q_gsNil, q_gT, q_back0, q_retag1, q_tag1, q_arg0, q_arg1, q_bk1, q_bk2, q_callA, q_eqv1, q_eqv2, q_eqv3, q_eqv4, q_eqv5, q_eqv6, q_eqv7, q_eqv8, q_isT0, q_isT1, q_isT2, q_isT3, q_isT4, q_isT5, q_isT6, q_mul, q_div, q_mod, q_pow, q_sub, q_ixN0, q_ixN1, gEq, gNe, gLt, gLe, gGt, gGe, wipeA, ixo, ix1', ix2', ix3', ix4', ix5', shp, shp_int, shp_bool, shp_none, sizeLine_eq])
local macro_rules | `(tactic| walk_at "bw") => `(tactic| (refine varL_b ?_; walk_at "ax"))
local macro_rules | `(tactic| walk_at "fw") => `(tactic| (refine varL_f ?_; walk_at "ax"))
local macro_rules | `(tactic| walk_at "bm") => `(tactic| (refine varM_b ?_; walk_at "ax"))
local macro_rules | `(tactic| walk_at "fm") => `(tactic| (refine varM_f ?_; walk_at "ax"))

/-! _law_draw -/
def N__law_draw : List Str := ["draws", "many", "found", "wide"]
def t__law_draw_1 (w : World) (K : PySem.W.Frag) : TS :=
  (tSeq (tAsg (tOp rModI (tOp rMulW (tOp (rIx K) (tVar 0) (tC (.int 1))) (tC (.int 69621))) (tC (.int 2147483647))) (gSub (tVar 0) (tC (.int 1)) rSetL))
  (tSeq (tAsg (tOp (rAddA K) (tOp rMulW (tVar 2) (tC (.int 268435456))) (tOp rDivW (tOp rModI (tOp rMulW (tOp (rIx K) (tVar 0) (tC (.int 1))) (tOp (rAddA K) (tOp rDivW (tOp (rIx K) (tVar 0) (tC (.int 1))) (tC (.int 128))) (tC (.int 3)))) (tC (.int 2147483629))) (tC (.int 8)))) (gName 2))
  (tAsg (tOp rMulW (tVar 3) (tC (.int 268435456))) (gName 3))))
def a__law_draw_1 : ASt :=
  (sSeq (sSub (aOp gMod (aOp gMul (aOp gIx (aVar 0) (aC (.int 1))) (aC (.int 69621))) (aC (.int 2147483647))) (aVar 0) (aC (.int 1)))
  (sSeq (sSet 2 (aOp gAdd (aOp gMul (aVar 2) (aC (.int 268435456))) (aOp gDiv (aOp gMod (aOp gMul (aOp gIx (aVar 0) (aC (.int 1))) (aOp gAdd (aOp gDiv (aOp gIx (aVar 0) (aC (.int 1))) (aC (.int 128))) (aC (.int 3)))) (aC (.int 2147483629))) (aC (.int 8)))))
  (sSet 3 (aOp gMul (aVar 3) (aC (.int 268435456))))))
theorem ss__law_draw_1 {w : World} {K : PySem.W.Frag} (W : WX) : SS K W (t__law_draw_1 w K) a__law_draw_1 :=
  (ss_seq (ss_sub (es_op r2_mod (es_op r2_mul (es_op r2_ix es_var es_int) es_int) es_int) es_var es_int)
  (ss_seq (ss_set (es_op r2_add (es_op r2_mul es_var es_int) (es_op r2_div (es_op r2_mod (es_op r2_mul (es_op r2_ix es_var es_int) (es_op r2_add (es_op r2_div (es_op r2_ix es_var es_int) es_int) es_int)) es_int) es_int)))
  (ss_set (es_op r2_mul es_var es_int))))
def t__law_draw_2 (w : World) (K : PySem.W.Frag) : TS :=
  (tRet (tOp rModI (tVar 2) (tVar 1)))
def a__law_draw_2 : ASt :=
  (sRet (aOp gMod (aVar 2) (aVar 1)))
theorem ss__law_draw_2 {w : World} {K : PySem.W.Frag} (W : WX) : SS K W (t__law_draw_2 w K) a__law_draw_2 :=
  (ss_ret (es_op r2_mod es_var es_var))
def t__law_draw_3 (w : World) (K : PySem.W.Frag) : TS :=
  (tSeq (tAsg (tC (.int 0)) (gName 2))
  (tSeq (tAsg (tC (.int 1)) (gName 3))
  (tSeq (tWhile (tTest (tOp rLtA (tVar 3) (tVar 1))) (t__law_draw_1 w K))
  (t__law_draw_2 w K))))
def a__law_draw_3 : ASt :=
  (sSeq (sSet 2 (aC (.int 0)))
  (sSeq (sSet 3 (aC (.int 1)))
  (sSeq (sWhile (aTst (aOp gLt (aVar 3) (aVar 1))) a__law_draw_1)
  a__law_draw_2)))
theorem ss__law_draw_3 {w : World} {K : PySem.W.Frag} (W : WX) : SS K W (t__law_draw_3 w K) a__law_draw_3 :=
  (ss_seq (ss_set es_int)
  (ss_seq (ss_set es_int)
  (ss_seq (ss_while (td_test (es_op r2_IS es_var es_var)) (ss__law_draw_1  W))
  (ss__law_draw_2  W))))
def t__law_draw (w : World) (K : PySem.W.Frag) : TS :=
  (tSeq (tIfS (tTest (tOp rGtA (tOp (rIx K) (tVar 0) (tC (.int 0))) (tC (.int 0)))) (tSeq (tAsg (tOp rModI (tOp (rIx K) (tVar 0) (tC (.int 0))) (tVar 1)) (gName 2))
  (tSeq (tAsg (tOp rDivW (tOp (rIx K) (tVar 0) (tC (.int 0))) (tVar 1)) (gSub (tVar 0) (tC (.int 0)) rSetL))
  (tRet (tVar 2)))) tNext)
  (t__law_draw_3 w K))
def a__law_draw : ASt :=
  (sSeq (sIf (aTst (aOp gGt (aOp gIx (aVar 0) (aC (.int 0))) (aC (.int 0)))) (sSeq (sSet 2 (aOp gMod (aOp gIx (aVar 0) (aC (.int 0))) (aVar 1)))
  (sSeq (sSub (aOp gDiv (aOp gIx (aVar 0) (aC (.int 0))) (aVar 1)) (aVar 0) (aC (.int 0)))
  (sRet (aVar 2)))) sNext)
  a__law_draw_3)
theorem ss__law_draw {w : World} {K : PySem.W.Frag} (W : WX) : SS K W (t__law_draw w K) a__law_draw :=
  (ss_seq (ss_if (td_test (es_op r2_IS (es_op r2_ix es_var es_int) es_int)) (ss_seq (ss_set (es_op r2_mod (es_op r2_ix es_var es_int) es_var))
  (ss_seq (ss_sub (es_op r2_div (es_op r2_ix es_var es_int) es_var) es_var es_int)
  (ss_ret es_var))) ss_next)
  (ss__law_draw_3  W))

/-- what a pair of draws is -/
def Dw (a b : Int) : Prop := 0 ≤ a ∧ a < 10 ^ 120 ∧ 0 ≤ b ∧ b < 2147483648
def c__law_draw : Ct := fun ρ P _ => ∃ a b n, ρ = [.ml (some 0) [.int a, .int b], .dat (.int n)] ∧ Dw a b ∧ 1 ≤ n ∧ n ≤ 10 ^ 40 ∧ ∀ k a' b' ρ', 0 ≤ k → k < n → Dw a' b' → outOf ρ' 0 = some (.ml (some 0) [.int a', .int b']) → P (.dat (.int k)) ρ'
theorem len__law_draw (ρ : List AV) (P : RV → List AV → Prop) (PX : PXT) (h : c__law_draw ρ P PX) : ρ.length = 2 := by
  obtain ⟨a, b, n, rfl, _⟩ := h
  rfl
theorem pure__law_draw (ρ : List AV) (P : RV → List AV → Prop) (PX : PXT) (h : c__law_draw ρ P PX) : a__law_draw { nx := fun ρ' => P (.dat .none) ρ', rt := P, ex := PX } (ρ ++ List.replicate (N__law_draw.length - ρ.length) .un) := by
  have eN : N__law_draw.length = 4 := rfl
  obtain ⟨a, b, n, rfl, ⟨ha, ha2, hb, hb2⟩, hn, hn2, h⟩ := h
  unfold a__law_draw
  simp only [eN]
  walk_at "aq"
  split
  · rename_i h0
    refine ⟨by omega, divOk (by omega) (sm_of (by omega) (by omega)), ?_⟩
    refine h _ (a / n) b _ (Int.emod_nonneg _ (by omega)) (Int.emod_lt_of_pos _ (by omega)) ⟨Int.ediv_nonneg ha (by omega), ?_, hb, hb2⟩ rfl
    exact Int.lt_of_le_of_lt (Int.ediv_le_self _ ha) ha2
  · unfold a__law_draw_3
    walk_at "aq"
    refine ⟨fun m ρ => ∃ b' f w, ρ = [.ml (some 0) [.int a, .int b'], .dat (.int n), .dat (.int f), .dat (.int w)] ∧ 0 ≤ b' ∧ b' < 2147483648 ∧ 0 ≤ f ∧ f < w ∧ 1 ≤ w ∧ w ≤ n * 268435456 ∧ m = (n - w).toNat, ⟨_, b, 0, 1, rfl, hb, hb2, by omega, by omega, by omega, by omega, rfl⟩, ?_⟩
    rintro m ρ ⟨b', f, w, rfl, k1, k2, k3, k4, k5, k6, k7⟩
    walk_at "aq"
    split
    · rename_i hw
      unfold a__law_draw_1
      walk_at "aq"
      have x1 : 0 ≤ b' * 69621 % 2147483647 := Int.emod_nonneg _ (by decide)
      have x2 : b' * 69621 % 2147483647 < 2147483647 := Int.emod_lt_of_pos _ (by decide)
      generalize b' * 69621 % 2147483647 = x at x1 x2 ⊢
      have y1 : 0 ≤ x * (x / 128 + 3) % 2147483629 := Int.emod_nonneg _ (by decide)
      have y2 : x * (x / 128 + 3) % 2147483629 < 2147483629 := Int.emod_lt_of_pos _ (by decide)
      refine ⟨mulOk (sm_of (by omega) (by omega)) (sm_of (by decide) (by decide)), mulOk (sm_of (by omega) (by omega)) (sm_of (by decide) (by decide)), divOk (by decide) (sm_of (by decide) (by decide)), mulOk (sm_of (by omega) (by omega)) (sm_of (by omega) (by omega)),
        divOk (by decide) (sm_of (by decide) (by decide)), mulOk (sm_of (by omega) (by omega)) (sm_of (by decide) (by decide)), (n - w * 268435456).toNat, by omega, x, _, _, ⟨rfl, rfl, rfl⟩, x1, by omega, ?_⟩
      generalize x * (x / 128 + 3) % 2147483629 = y at y1 y2 ⊢
      exact ⟨by omega, by omega, by omega, by omega, rfl⟩
    · unfold a__law_draw_2
      walk_at "aq"
      refine ⟨by omega, h _ a b' _ (Int.emod_nonneg _ (by omega)) (Int.emod_lt_of_pos _ (by omega)) ⟨ha, ha2, k1, k2⟩ rfl⟩

/-! _law_draws -/
def N__law_draws : List Str := ["script", "k", "cell"]
def t__law_draws_1 (w : World) (K : PySem.W.Frag) : TS :=
  (tRet (tLst (tCons (tOp rMulW (tVar 2) (tCB rIntA (tCons (tOp rGeA (tVar 2) (tOp rPowI (tC (.int 10)) (tC (.int 18)))) tNil))) (tCons (tOp (rAddA K) (tC (.int 1)) (tOp rModI (tOp (rAddA K) (tOp rMulW (tVar 2) (tC (.int 69621))) (tOp rMulW (tC (.int 86028121)) (tOp (rAddA K) (tVar 1) (tC (.int 1))))) (tC (.int 2147483646)))) tNil))))
def a__law_draws_1 : ASt :=
  (sRet (aLst (aCons (aOp gMul (aVar 2) (aCB gInt (aCons (aOp gGe (aVar 2) (aOp gPow (aC (.int 10)) (aC (.int 18)))) aNil))) (aCons (aOp gAdd (aC (.int 1)) (aOp gMod (aOp gAdd (aOp gMul (aVar 2) (aC (.int 69621))) (aOp gMul (aC (.int 86028121)) (aOp gAdd (aVar 1) (aC (.int 1))))) (aC (.int 2147483646)))) aNil))))
theorem ss__law_draws_1 {w : World} {K : PySem.W.Frag} (W : WX) : SS K W (t__law_draws_1 w K) a__law_draws_1 :=
  (ss_ret (es_lst (as_cons (es_op r2_mul es_var (es_cb r1_int (as_cons (es_op r2_IS es_var (es_op r2_pow es_int es_int)) as_nil))) (as_cons (es_op r2_add es_int (es_op r2_mod (es_op r2_add (es_op r2_mul es_var es_int) (es_op r2_mul es_int (es_op r2_add es_var es_int))) es_int)) as_nil))))
def t__law_draws (w : World) (K : PySem.W.Frag) : TS :=
  (tSeq (tAsg (tOp rMulW (tC (.int 15485863)) (tVar 1)) (gName 2))
  (tSeq (tIfS (tTest (tOp rLtA (tVar 1) (tCB (rLenA K) (tCons (tVar 0) tNil)))) (tAsg (tOp rModI (tOp (rIx K) (tVar 0) (tVar 1)) (tOp rMulW (tOp rPowI (tC (.int 10)) (tC (.int 60))) (tOp rPowI (tC (.int 10)) (tC (.int 60))))) (gName 2)) (tIfS (tTest (tOp rGtA (tCB (rLenA K) (tCons (tVar 0) tNil)) (tC (.int 0)))) (tAsg (tOp (rAddA K) (tOp rModI (tOp (rIx K) (tVar 0) (tOp rModI (tVar 1) (tCB (rLenA K) (tCons (tVar 0) tNil)))) (tOp rPowI (tC (.int 10)) (tC (.int 15)))) (tOp rMulW (tC (.int 15485863)) (tVar 1))) (gName 2)) tNext))
  (t__law_draws_1 w K)))
def a__law_draws : ASt :=
  (sSeq (sSet 2 (aOp gMul (aC (.int 15485863)) (aVar 1)))
  (sSeq (sIf (aTst (aOp gLt (aVar 1) (aLenS 0))) (sSet 2 (aOp gMod (aIxS 0 (aVar 1)) (aOp gMul (aOp gPow (aC (.int 10)) (aC (.int 60))) (aOp gPow (aC (.int 10)) (aC (.int 60)))))) (sIf (aTst (aOp gGt (aLenS 0) (aC (.int 0)))) (sSet 2 (aOp gAdd (aOp gMod (aIxS 0 (aOp gMod (aVar 1) (aLenS 0))) (aOp gPow (aC (.int 10)) (aC (.int 15)))) (aOp gMul (aC (.int 15485863)) (aVar 1)))) sNext))
  a__law_draws_1))
theorem ss__law_draws {w : World} {K : PySem.W.Frag} (W : WX) : SS K W (t__law_draws w K) a__law_draws :=
  (ss_seq (ss_set (es_op r2_mul es_int es_var))
  (ss_seq (ss_if (td_test (es_op r2_IS es_var es_lenS)) (ss_set (es_op r2_mod (es_ixS es_var) (es_op r2_mul (es_op r2_pow es_int es_int) (es_op r2_pow es_int es_int)))) (ss_if (td_test (es_op r2_IS es_lenS es_int)) (ss_set (es_op r2_add (es_op r2_mod (es_ixS (es_op r2_mod es_var es_lenS)) (es_op r2_pow es_int es_int)) (es_op r2_mul es_int es_var))) ss_next))
  (ss__law_draws_1  W)))

def c__law_draws : Ct := fun ρ P _ => ∃ ns k, ρ = [.scr ns, .dat (.int k)] ∧ 0 ≤ k ∧ k ≤ 1000 ∧ ∀ a b ρ', Dw a b → P (.own (.ml none [.int a, .int b])) ρ'
theorem len__law_draws (ρ : List AV) (P : RV → List AV → Prop) (PX : PXT) (h : c__law_draws ρ P PX) : ρ.length = 2 := by
  obtain ⟨_, _, rfl, _⟩ := h
  rfl
theorem pure__law_draws (ρ : List AV) (P : RV → List AV → Prop) (PX : PXT) (h : c__law_draws ρ P PX) : a__law_draws { nx := fun ρ' => P (.dat .none) ρ', rt := P, ex := PX } (ρ ++ List.replicate (N__law_draws.length - ρ.length) .un) := by
  have eN : N__law_draws.length = 3 := rfl
  obtain ⟨ns, k, rfl, h0, h1, h⟩ := h
  unfold a__law_draws
  simp only [eN]
  walk_at "aq"
  have fin : ∀ c : Int, 0 ≤ c → c < 10 ^ 120 → a__law_draws_1 { nx := fun ρ' => P (.dat .none) ρ', rt := P, ex := PX } [.scr ns, .dat (.int k), .dat (.int c)] := by
    intro c hc0 hc1
    unfold a__law_draws_1
    walk_at "aq"
    have x1 : 0 ≤ (c * 69621 + 86028121 * (k + 1)) % 2147483646 := Int.emod_nonneg _ (by decide)
    have x2 : (c * 69621 + 86028121 * (k + 1)) % 2147483646 < 2147483646 := Int.emod_lt_of_pos _ (by decide)
    refine ⟨powOk (by decide) (by decide) (by decide), mulOk (sm_of (by omega) (by omega)) (sm_of (by split <;> decide) (by split <;> decide)), mulOk (sm_of (by omega) (by omega)) (sm_of (by decide) (by decide)), mulOk (sm_of (by decide) (by decide)) (sm_of (by omega) (by omega)), by decide, h _ _ _ ⟨?_, ?_, by omega, by omega⟩⟩
    · split <;> omega
    · split <;> omega
  refine ⟨mulOk (sm_of (by decide) (by decide)) (sm_of (by omega) (by omega)), ?_⟩
  have at_ : ∀ i : Int, 0 ≤ i → i < ns.length → ∃ z, atI ns i = some z := by
    intro i hi0 hi1
    rw [atI_get hi0 hi1, List.getElem?_eq_getElem (by omega)]
    exact ⟨_, rfl⟩
  split
  · rename_i c
    obtain ⟨z, ez⟩ := at_ k h0 c
    rw [ez]
    walk_at "aq"
    exact ⟨powOk (by decide) (by decide) (by decide), mulOk (sm_of (by decide) (by decide)) (sm_of (by decide) (by decide)), fin _ (Int.emod_nonneg _ (by decide)) (Int.emod_lt_of_pos _ (by decide))⟩
  · split
    · rename_i c
      obtain ⟨z, ez⟩ := at_ (k % ns.length) (Int.emod_nonneg _ (by omega)) (Int.emod_lt_of_pos _ (by omega))
      have x1 : 0 ≤ z % 1000000000000000 := Int.emod_nonneg _ (by decide)
      have x2 : z % 1000000000000000 < 1000000000000000 := Int.emod_lt_of_pos _ (by decide)
      refine ⟨by omega, ?_⟩
      rw [ez]
      walk_at "aq"
      exact ⟨powOk (by decide) (by decide) (by decide), mulOk (sm_of (by decide) (by decide)) (sm_of (by omega) (by omega)), fin _ (by omega) (by omega)⟩
    · exact fin _ (by omega) (by omega)
theorem draw_ {a b n : Int} {i : Nat} {p : Option Nat} {ρ1 : List AV} {P : RV → List AV → Prop} (hd : Dw a b) (h1 : 1 ≤ n) (h2 : n ≤ 10 ^ 40) (ht : (ρ1[i]?).bind AV.tag = p) (h : ∀ k a' b', 0 ≤ k → k < n → Dw a' b' → P (.dat (.int k)) (ρ1.set i (.ml p [.int a', .int b']))) : c__law_draw [.ml (some 0) [.int a, .int b], .dat (.int n)] (bk P ρ1 [i]) X0 := by
  refine ⟨a, b, n, rfl, hd, h1, h2, fun k a' b' ρ' hk hk' hd' ho => ?_⟩
  rw [q_bk1, q_back1 ho, q_back0, q_retag1, ht]
  exact h k a' b' hk hk' hd'
theorem at_mem {α : Type} {xs : List α} {i : Int} (h0 : 0 ≤ i) (h1 : i < xs.length) : ∃ x ∈ xs, atI xs i = some x := by
  rw [atI_get h0 h1, List.getElem?_eq_getElem (by omega)]
  exact ⟨_, List.getElem_mem _, rfl⟩
theorem join_signs : ∀ cs : List Nat, Txt.join (PySem.Str.ofString "") (cs.map fun c => (⟨#[c]⟩ : Str)) = ⟨cs.toArray⟩ := by
  intro cs
  have e : (cs.map fun c => (⟨#[c]⟩ : Str)) = (cs.map fun c => [c]).map SX.S := by rw [List.map_map]; rfl
  have e0 : PySem.Str.ofString "" = SX.S [] := rfl
  rw [e, e0, SX.join_S]
  congr 2
  induction cs with
  | nil => rfl
  | cons c cs ih =>
    cases cs with
    | nil => rfl
    | cons d cs =>
      have ih' := ih (by simp)
      rw [List.map_cons] at ih'
      rw [List.map_cons, List.map_cons, TL.joinL, ih']
      rfl
def e0 : Str := ⟨#[]⟩
def unStr : PyData → Str
  | .str s => s
  | _ => e0
theorem perm_strs {es : List PyData} {xs : List Str} (h : es.Perm (xs.map .str)) : ∃ ns : List Str, ns.Perm xs ∧ es = ns.map .str := by
  refine ⟨es.map unStr, ?_, ?_⟩
  · have q := h.map unStr
    rw [List.map_map] at q
    have e : xs.map (unStr ∘ PyData.str) = xs := by
      have : (unStr ∘ PyData.str) = id := rfl
      rw [this, List.map_id]
    rw [e] at q
    exact q
  · rw [List.map_map]
    have : ∀ d ∈ es, (PyData.str ∘ unStr) d = d := by
      intro d hd
      obtain ⟨x, _, rfl⟩ := List.mem_map.mp (h.mem_iff.mp hd)
      rfl
    rw [List.map_congr_left this]
    simp
theorem noDics_strs : ∀ xs : List Str, noDics (xs.map .str) = true
  | [] => by rw [List.map_nil, noDics]
  | x :: xs => by rw [List.map_cons, noDics, noDics_strs xs]; rfl
/-! _law_names -/
def N__law_names : List Str := ["draws", "many", "letters", "stem", "first", "step", "k"]
def t__law_names (w : World) (K : PySem.W.Frag) : TS :=
  (tSeq (tAsg (tC (.str "abcdefghijklmnopqrstuvwxyz")) (gName 2))
  (tSeq (tAsg (tM1 (rJoin K) (tC (.str "")) (tLc (iRng1 (tCons (tOp (rIx K) (tLst (tCons (tC (.int 0)) (tCons (tC (.int 1)) (tCons (tC (.int 2)) (tCons (tC (.int 7)) tNil))))) (tCall (spOf K c__law_draw) [] E0 (tCons (tVar 0) (tCons (tC (.int 4)) tNil)))) tNil)) (gName 6) tYes (tOp (rIx K) (tVar 2) (tCall (spOf K c__law_draw) [] E0 (tCons (tVar 0) (tCons (tC (.int 26)) tNil)))) [6])) (gName 3))
  (tSeq (tAsg (tCall (spOf K c__law_draw) [] E0 (tCons (tVar 0) (tCons (tC (.int 26)) tNil))) (gName 4))
  (tSeq (tAsg (tOp (rIx K) (tLst (tCons (tC (.int 1)) (tCons (tC (.int 3)) (tCons (tC (.int 5)) (tCons (tC (.int 7)) tNil))))) (tCall (spOf K c__law_draw) [] E0 (tCons (tVar 0) (tCons (tC (.int 4)) tNil)))) (gName 5))
  (tRet (tCB (AqS.rSortD K) (tCons (tLc (iRng1 (tCons (tVar 1) tNil)) (gName 6) tYes (tOp (rAddA K) (tVar 3) (tOp (rIx K) (tVar 2) (tOp rModI (tOp (rAddA K) (tVar 4) (tOp rMulW (tVar 5) (tVar 6))) (tC (.int 26))))) [6]) tNil)))))))
def a__law_names : ASt :=
  (sSeq (sSet 2 (aC (.str "abcdefghijklmnopqrstuvwxyz")))
  (sSeq (sSet 3 (aJoin (aC (.str "")) (aLc (aRng1 (aCons (aOp gIx (aLst (aCons (aC (.int 0)) (aCons (aC (.int 1)) (aCons (aC (.int 2)) (aCons (aC (.int 7)) aNil))))) (aCall0 c__law_draw (aCons (aVar 0) (aCons (aC (.int 4)) aNil)))) aNil)) [6] (gN 6) aYes (aOp gIx (aVar 2) (aCall0 c__law_draw (aCons (aVar 0) (aCons (aC (.int 26)) aNil)))))))
  (sSeq (sSet 4 (aCall0 c__law_draw (aCons (aVar 0) (aCons (aC (.int 26)) aNil))))
  (sSeq (sSet 5 (aOp gIx (aLst (aCons (aC (.int 1)) (aCons (aC (.int 3)) (aCons (aC (.int 5)) (aCons (aC (.int 7)) aNil))))) (aCall0 c__law_draw (aCons (aVar 0) (aCons (aC (.int 4)) aNil)))))
  (sRet (aCB gSort (aCons (aLc (aRng1 (aCons (aVar 1) aNil)) [6] (gN 6) aYes (aOp gAdd (aVar 3) (aOp gIx (aVar 2) (aOp gMod (aOp gAdd (aVar 4) (aOp gMul (aVar 5) (aVar 6))) (aC (.int 26)))))) aNil)))))))
theorem ss__law_names {w : World} {K : PySem.W.Frag} (W : WX) : SS K W (t__law_names w K) a__law_names :=
  (ss_seq (ss_set es_str)
  (ss_seq (ss_set (es_join es_str (es_lc (is_rng1 (as_cons (es_op r2_ix (es_lst (as_cons es_int (as_cons es_int (as_cons es_int (as_cons es_int as_nil))))) (es_call (as_cons es_var (as_cons es_int as_nil)))) as_nil)) gs_name td_yes (es_op r2_ix es_var (es_call (as_cons es_var (as_cons es_int as_nil)))) (by decide))))
  (ss_seq (ss_set (es_call (as_cons es_var (as_cons es_int as_nil))))
  (ss_seq (ss_set (es_op r2_ix (es_lst (as_cons es_int (as_cons es_int (as_cons es_int (as_cons es_int as_nil))))) (es_call (as_cons es_var (as_cons es_int as_nil)))))
  (ss_ret (es_cb r1_sort (as_cons (es_lc (is_rng1 (as_cons es_var as_nil)) gs_name td_yes (es_op r2_add es_var (es_op r2_ix es_var (es_op r2_mod (es_op r2_add es_var (es_op r2_mul es_var es_var)) es_int))) (by decide)) as_nil)))))))

def LET : Str := PySem.Str.ofString "abcdefghijklmnopqrstuvwxyz"
theorem letters_list : LET.cps.toList = List.range' 97 26 := by decide +kernel
theorem letters_at {i : Int} (h0 : 0 ≤ i) (h1 : i < 26) : atI LET.cps.toList i = some (97 + i.toNat) := by
  rw [letters_list, atI_get h0 (by simpa using h1), List.getElem?_range' (by omega)]
  simp
theorem letters_len : LET.length ≤ sizeLine := by decide +kernel
def c__law_names : Ct := fun ρ P _ => ∃ a b, ρ = [.ml (some 0) [.int a, .int b], .dat (.int 1)] ∧ Dw a b ∧ ∀ (s : Str) a' b' ρ', s.length ≤ 8 → PyData.strOk s = true → Dw a' b' → outOf ρ' 0 = some (.ml (some 0) [.int a', .int b']) → P (.own (.ml none [.str s])) ρ'
theorem len__law_names (ρ : List AV) (P : RV → List AV → Prop) (PX : PXT) (h : c__law_names ρ P PX) : ρ.length = 2 := by
  obtain ⟨_, _, rfl, _⟩ := h
  rfl
theorem pure__law_names (ρ : List AV) (P : RV → List AV → Prop) (PX : PXT) (h : c__law_names ρ P PX) : a__law_names { nx := fun ρ' => P (.dat .none) ρ', rt := P, ex := PX } (ρ ++ List.replicate (N__law_names.length - ρ.length) .un) := by
  have eN : N__law_names.length = 7 := rfl
  obtain ⟨a, b, rfl, hd, h⟩ := h
  unfold a__law_names
  simp only [eN]
  walk_at "aq"
  refine ⟨by decide, draw_ hd (by decide) (by decide) rfl fun k1 a1 b1 l1 u1 hd1 => ?_⟩
  obtain ⟨x, hx, ex⟩ := at_mem (xs := [PyData.int 0, PyData.int 1, PyData.int 2, PyData.int 7]) l1 (by simpa using u1)
  walk_at "ao"
  rw [ex]
  obtain ⟨m, rfl, hm⟩ : ∃ m : Int, x = .int m ∧ 0 ≤ m ∧ m ≤ 7 ∧ m ≠ 3 := by
    simp at hx
    rcases hx with rfl | rfl | rfl | rfl <;> exact ⟨_, rfl, by decide, by decide, by decide⟩
  walk_at "ao"
  refine ⟨by omega, ?_⟩
  refine lcInv (fun ds acc ρ => ∃ (cs : List Nat) (a b : Int), acc = cs.map (fun c => PyData.str ⟨#[c]⟩) ∧ (∀ c ∈ cs, c < 200) ∧ cs.length + ds.length = m.toNat ∧ Dw a b ∧ ρ = [.ml (some 0) [.int a, .int b], .dat (.int 1), .dat (.str LET), .un, .un, .un, .un]) ?_ ?_ _ _ _ ?_
  · rintro d ds acc ρ ⟨cs, a, b, rfl, hcs, hl, hd, rfl⟩ N hN
    walk_at "aq"
    refine draw_ hd (by decide) (by decide) rfl fun k a' b' l u hd' => ?_
    walk_at "aq"
    refine ⟨letters_len, ?_⟩
    rw [letters_at l u]
    walk_at "aq"
    refine ⟨?_, hN _ _ ⟨cs ++ [97 + k.toNat], a', b', by simp, ?_, ?_, hd', rfl⟩⟩
    · simp at hl
      simp [sizeLine]
      omega
    · intro c hc
      rcases List.mem_append.mp hc with hc | hc
      · exact hcs c hc
      · simp at hc
        omega
    · simp at hl ⊢
      omega
  · rintro acc ρ ⟨cs, a, b, rfl, hcs, hl, hd, rfl⟩
    have e1 : (cs.map fun c => PyData.str ⟨#[c]⟩) = (cs.map fun c => (⟨#[c]⟩ : Str)).map PyData.str := by rw [List.map_map]; rfl
    rw [e1]
    walk_at "ao"
    rw [strsD_map]
    walk_at "ao"
    rw [join_signs]
    refine ⟨?_, ?_⟩
    · have : ((cs.map fun c => (⟨#[c]⟩ : Str)).map (·.length)).sum = cs.length := by
        rw [List.map_map]
        clear hl e1 hcs
        induction cs with
        | nil => rfl
        | cons c cs ih => simp_all [Str.length]; omega
      rw [this]
      simp at hl ⊢
      have : (PySem.Str.ofString "").length = 0 := rfl
      rw [this]
      omega
    walk_at "aq"
    refine draw_ hd (by decide) (by decide) rfl fun f a2 b2 l2 u2 hd2 => ?_
    walk_at "aq"
    refine ⟨by decide, draw_ hd2 (by decide) (by decide) rfl fun k3 a3 b3 l3 u3 hd3 => ?_⟩
    obtain ⟨y, hy, ey⟩ := at_mem (xs := [PyData.int 1, PyData.int 3, PyData.int 5, PyData.int 7]) l3 (by simpa using u3)
    walk_at "ao"
    rw [ey]
    obtain ⟨t, rfl, ht⟩ : ∃ t : Int, y = .int t ∧ (t = 1 ∨ t = 3 ∨ t = 5 ∨ t = 7) := by
      simp at hy
      rcases hy with rfl | rfl | rfl | rfl <;> exact ⟨_, rfl, by decide⟩
    walk_at "ao"
    refine ⟨by decide, ?_⟩
    have hl3 : cs.length = m.toNat := by simpa using hl
    have hl' : cs.length ≤ 7 := by omega
    refine lcMap (fun d => [.ml (some 0) [.int a3, .int b3], .dat (.int 1), .dat (.str LET), .dat (.str ⟨cs.toArray⟩), .dat (.int f), .dat (.int t), .dat d]) (fun d => match d with
      | .int k => .str ⟨(cs ++ [97 + ((f + t * k) % 26).toNat]).toArray⟩
      | _ => .none) _ _ (fun d _ k hk => hk) (fun d _ => rfl) (fun d hd k hk => ?_) ?_ ?_
    · obtain ⟨i, rfl, i0, i1⟩ := mem_rng hd
      have q1 : 0 ≤ (f + t * i) % 26 := Int.emod_nonneg _ (by decide)
      have q2 : (f + t * i) % 26 < 26 := Int.emod_lt_of_pos _ (by decide)
      walk_at "aq"
      refine ⟨mulOk (sm_of (by omega) (by omega)) (sm_of (by omega) (by omega)), letters_len, ?_⟩
      rw [letters_at q1 q2]
      walk_at "aq"
      refine ⟨?_, ?_⟩
      · simp [Str.length, sizeLine]
        omega
      · have e : (⟨cs.toArray⟩ : Str) ++ ⟨#[97 + ((f + t * i) % 26).toNat]⟩ = ⟨(cs ++ [97 + ((f + t * i) % 26).toNat]).toArray⟩ := SX.S_cat cs [97 + ((f + t * i) % 26).toNat]
        rw [e]
        exact hk
    · rw [rng_len]
      decide
    · rw [rng_map]
      have e2 : ((List.range (1 : Int).toNat).map fun (i : Nat) => PyData.str ⟨(cs ++ [97 + ((f + t * (0 + (i : Int))) % 26).toNat]).toArray⟩) = [(⟨(cs ++ [97 + ((f + t * (0 + ((0 : Nat) : Int))) % 26).toNat]).toArray⟩ : Str)].map PyData.str := rfl
      rw [e2]
      walk_at "ao"
      refine ⟨PySem.W.AllAlike.of fun _ _ => rfl, PySem.W.Sortable.others fun b => ⟨nofun, nofun⟩, ?_, noDics_strs _, fun es hp pw => ?_⟩
      · intro d hd
        obtain ⟨z, _, rfl⟩ := List.mem_map.mp hd
        simp [PyData.depth]
      · have := List.perm_singleton.mp hp
        subst this
        refine h _ a3 b3 _ ?_ ?_ hd3 rfl
        · simp [Str.length]
          omega
        · unfold PyData.strOk
          simp only [List.all_toArray, List.all_eq_true, decide_eq_true_eq]
          intro c hc
          rcases List.mem_append.mp hc with hc | hc
          · have := hcs c hc
            omega
          · have q1 : 0 ≤ (f + t * (0 + ((0 : Nat) : Int))) % 26 := Int.emod_nonneg _ (by decide)
            have q2 : (f + t * (0 + ((0 : Nat) : Int))) % 26 < 26 := Int.emod_lt_of_pos _ (by decide)
            have := List.mem_singleton.mp hc
            omega
  · exact ⟨[], a1, b1, rfl, by simp, by simp [rng], hd1, rfl⟩
/-! _law_kind_of -/
def kWs : List Str := ["Faulty", "NoArticles", "NoMan", "NoPage", "NoPages", "NoRank", "NoRow", "NoSum", "NoText", "NotThere", "NothingLeft", "TooMany", "TooMuch", "Twice", "+"]
def ixD : PyData → Nat
  | .int i => i.toNat
  | _ => 0
theorem atI_map {α : Type} {f : α → PyData} {xs : List α} {i : Int} {b : α} (h0 : 0 ≤ i) (h1 : i < xs.length) : atI (xs.map f) i = some (f (xs.getD i.toNat b)) := by
  have hn : i.toNat < xs.length := by omega
  rw [atI_get h0 (by rw [List.length_map]; exact h1), List.getElem?_map, List.getElem?_eq_getElem hn, List.getD_eq_getElem?_getD, List.getElem?_eq_getElem hn]
  rfl
theorem kind_all : ∀ x ∈ kAll, ((rng 0 15).filter fun d => (kYs.map fun y => isxB x y).getD (ixD d) false).map (fun d => kWs.getD (ixD d) "") = [x, "+"] ∧ ([x, "+"].map (·.length)).sum + [x, "+"].length * ("" : Str).length ≤ 16777216 ∧ Txt.join "" [x, "+"] = x ++ "+" := by decide +kernel
/-! _law_kind_of -/
def N__law_kind_of : List Str := ["e", "some", "words", "k"]
def t__law_kind_of (w : World) (K : PySem.W.Frag) : TS :=
  (tSeq (tAsg (tLst (tCons (tCB (rIsV K) (tCons (tVar 0) (tCons (tC (.ref (He.ga K "Faulty"))) tNil))) (tCons (tCB (rIsV K) (tCons (tVar 0) (tCons (tC (.ref (He.ga K "NoArticles"))) tNil))) (tCons (tCB (rIsV K) (tCons (tVar 0) (tCons (tC (.ref (He.ga K "NoMan"))) tNil))) (tCons (tCB (rIsV K) (tCons (tVar 0) (tCons (tC (.ref (He.ga K "NoPage"))) tNil))) tNil))))) (gName 1))
  (tSeq (tAsg (tOp (rAddA K) (tVar 1) (tLst (tCons (tCB (rIsV K) (tCons (tVar 0) (tCons (tC (.ref (He.ga K "NoPages"))) tNil))) (tCons (tCB (rIsV K) (tCons (tVar 0) (tCons (tC (.ref (He.ga K "NoRank"))) tNil))) (tCons (tCB (rIsV K) (tCons (tVar 0) (tCons (tC (.ref (He.ga K "NoRow"))) tNil))) (tCons (tCB (rIsV K) (tCons (tVar 0) (tCons (tC (.ref (He.ga K "NoSum"))) tNil))) tNil)))))) (gName 1))
  (tSeq (tAsg (tOp (rAddA K) (tVar 1) (tLst (tCons (tCB (rIsV K) (tCons (tVar 0) (tCons (tC (.ref (He.ga K "NoText"))) tNil))) (tCons (tCB (rIsV K) (tCons (tVar 0) (tCons (tC (.ref (He.ga K "NotThere"))) tNil))) (tCons (tCB (rIsV K) (tCons (tVar 0) (tCons (tC (.ref (He.ga K "NothingLeft"))) tNil))) (tCons (tCB (rIsV K) (tCons (tVar 0) (tCons (tC (.ref (He.ga K "TooMany"))) tNil))) tNil)))))) (gName 1))
  (tSeq (tAsg (tOp (rAddA K) (tVar 1) (tLst (tCons (tCB (rIsV K) (tCons (tVar 0) (tCons (tC (.ref (He.ga K "TooMuch"))) tNil))) (tCons (tCB (rIsV K) (tCons (tVar 0) (tCons (tC (.ref (He.ga K "Twice"))) tNil))) (tCons (tCB (rIsV K) (tCons (tVar 0) (tCons (tC (.ty "ValueError")) tNil))) tNil))))) (gName 1))
  (tSeq (tAsg (tLst (tCons (tC (.str "Faulty")) (tCons (tC (.str "NoArticles")) (tCons (tC (.str "NoMan")) (tCons (tC (.str "NoPage")) (tCons (tC (.str "NoPages")) (tCons (tC (.str "NoRank")) (tCons (tC (.str "NoRow")) (tCons (tC (.str "NoSum")) (tCons (tC (.str "NoText")) (tCons (tC (.str "NotThere")) tNil))))))))))) (gName 2))
  (tSeq (tAsg (tOp (rAddA K) (tVar 2) (tLst (tCons (tC (.str "NothingLeft")) (tCons (tC (.str "TooMany")) (tCons (tC (.str "TooMuch")) (tCons (tC (.str "Twice")) (tCons (tC (.str "+")) tNil))))))) (gName 2))
  (tRet (tM1 (rJoin K) (tC (.str "")) (tLc (iRng1 (tCons (tC (.int 15)) tNil)) (gName 3) (tTru K (tOp (rIx K) (tVar 1) (tVar 3))) (tOp (rIx K) (tVar 2) (tVar 3)) [3])))))))))
def a__law_kind_of : ASt :=
  (sSeq (sSet 1 (aLst (aCons (aIsV "Faulty" (aVar 0)) (aCons (aIsV "NoArticles" (aVar 0)) (aCons (aIsV "NoMan" (aVar 0)) (aCons (aIsV "NoPage" (aVar 0)) aNil))))))
  (sSeq (sSet 1 (aOp gAdd (aVar 1) (aLst (aCons (aIsV "NoPages" (aVar 0)) (aCons (aIsV "NoRank" (aVar 0)) (aCons (aIsV "NoRow" (aVar 0)) (aCons (aIsV "NoSum" (aVar 0)) aNil)))))))
  (sSeq (sSet 1 (aOp gAdd (aVar 1) (aLst (aCons (aIsV "NoText" (aVar 0)) (aCons (aIsV "NotThere" (aVar 0)) (aCons (aIsV "NothingLeft" (aVar 0)) (aCons (aIsV "TooMany" (aVar 0)) aNil)))))))
  (sSeq (sSet 1 (aOp gAdd (aVar 1) (aLst (aCons (aIsV "TooMuch" (aVar 0)) (aCons (aIsV "Twice" (aVar 0)) (aCons (aIsV "ValueError" (aVar 0)) aNil))))))
  (sSeq (sSet 2 (aLst (aCons (aC (.str "Faulty")) (aCons (aC (.str "NoArticles")) (aCons (aC (.str "NoMan")) (aCons (aC (.str "NoPage")) (aCons (aC (.str "NoPages")) (aCons (aC (.str "NoRank")) (aCons (aC (.str "NoRow")) (aCons (aC (.str "NoSum")) (aCons (aC (.str "NoText")) (aCons (aC (.str "NotThere")) aNil))))))))))))
  (sSeq (sSet 2 (aOp gAdd (aVar 2) (aLst (aCons (aC (.str "NothingLeft")) (aCons (aC (.str "TooMany")) (aCons (aC (.str "TooMuch")) (aCons (aC (.str "Twice")) (aCons (aC (.str "+")) aNil))))))))
  (sRet (aJoin (aC (.str "")) (aLc (aRng1 (aCons (aC (.int 15)) aNil)) [3] (gN 3) (aTru (aOp gIx (aVar 1) (aVar 3))) (aOp gIx (aVar 2) (aVar 3)))))))))))
theorem ss__law_kind_of {w : World} {K : PySem.W.Frag} (kv : kitV K = true) (W : WX) : SS K W (t__law_kind_of w K) a__law_kind_of :=
  (ss_seq (ss_set (es_lst (as_cons (es_isV kv (by decide) (fun u hu => Eq.trans hu (cvV_ref (by decide +kernel)).symm) es_var) (as_cons (es_isV kv (by decide) (fun u hu => Eq.trans hu (cvV_ref (by decide +kernel)).symm) es_var) (as_cons (es_isV kv (by decide) (fun u hu => Eq.trans hu (cvV_ref (by decide +kernel)).symm) es_var) (as_cons (es_isV kv (by decide) (fun u hu => Eq.trans hu (cvV_ref (by decide +kernel)).symm) es_var) as_nil))))))
  (ss_seq (ss_set (es_op r2_add es_var (es_lst (as_cons (es_isV kv (by decide) (fun u hu => Eq.trans hu (cvV_ref (by decide +kernel)).symm) es_var) (as_cons (es_isV kv (by decide) (fun u hu => Eq.trans hu (cvV_ref (by decide +kernel)).symm) es_var) (as_cons (es_isV kv (by decide) (fun u hu => Eq.trans hu (cvV_ref (by decide +kernel)).symm) es_var) (as_cons (es_isV kv (by decide) (fun u hu => Eq.trans hu (cvV_ref (by decide +kernel)).symm) es_var) as_nil)))))))
  (ss_seq (ss_set (es_op r2_add es_var (es_lst (as_cons (es_isV kv (by decide) (fun u hu => Eq.trans hu (cvV_ref (by decide +kernel)).symm) es_var) (as_cons (es_isV kv (by decide) (fun u hu => Eq.trans hu (cvV_ref (by decide +kernel)).symm) es_var) (as_cons (es_isV kv (by decide) (fun u hu => Eq.trans hu (cvV_ref (by decide +kernel)).symm) es_var) (as_cons (es_isV kv (by decide) (fun u hu => Eq.trans hu (cvV_ref (by decide +kernel)).symm) es_var) as_nil)))))))
  (ss_seq (ss_set (es_op r2_add es_var (es_lst (as_cons (es_isV kv (by decide) (fun u hu => Eq.trans hu (cvV_ref (by decide +kernel)).symm) es_var) (as_cons (es_isV kv (by decide) (fun u hu => Eq.trans hu (cvV_ref (by decide +kernel)).symm) es_var) (as_cons (es_isV kv (by decide) (fun u hu => Eq.trans hu cvV_ve.symm) es_var) as_nil))))))
  (ss_seq (ss_set (es_lst (as_cons es_str (as_cons es_str (as_cons es_str (as_cons es_str (as_cons es_str (as_cons es_str (as_cons es_str (as_cons es_str (as_cons es_str (as_cons es_str as_nil))))))))))))
  (ss_seq (ss_set (es_op r2_add es_var (es_lst (as_cons es_str (as_cons es_str (as_cons es_str (as_cons es_str (as_cons es_str as_nil))))))))
  (ss_ret (es_join es_str (es_lc (is_rng1 (as_cons es_int as_nil)) gs_name (td_tru (es_op r2_ix es_var es_var)) (es_op r2_ix es_var es_var) (by decide))))))))))

def c__law_kind_of : Ct := fun ρ P _ => ∃ nm d, ρ = [.dat d] ∧ exNm d = some nm ∧ nm ∈ kAll ∧ ∀ ρ', P (.dat (.str (nm ++ "+"))) ρ'
theorem len__law_kind_of (ρ : List AV) (P : RV → List AV → Prop) (PX : PXT) (h : c__law_kind_of ρ P PX) : ρ.length = 1 := by
  obtain ⟨_, _, rfl, _⟩ := h
  rfl
theorem pure__law_kind_of (ρ : List AV) (P : RV → List AV → Prop) (PX : PXT) (h : c__law_kind_of ρ P PX) : a__law_kind_of { nx := fun ρ' => P (.dat .none) ρ', rt := P, ex := PX } (ρ ++ List.replicate (N__law_kind_of.length - ρ.length) .un) := by
  have eN : N__law_kind_of.length = 4 := rfl
  obtain ⟨nm, d0, rfl, hd, hm, h⟩ := h
  have is : ∀ (c : Str) (P : PK) (ρ : List AV), kIsV c P (.dat d0) ρ = P (.dat (.bool (isxB nm c))) ρ := fun c P ρ => propext ⟨fun ⟨_, e, _, p⟩ => by rw [hd] at e; cases e; exact p, fun p => ⟨nm, hd, hm, p⟩⟩
  unfold a__law_kind_of
  simp only [eN]
  try simp -implicitDefEqProofs [is, z_exN, z_exN1, z_exI, z_exI1, z_isV, z_fd, z_sort, z_lcN1, z_lcN2, z_var, z_var1, z_var2, z_var3, z_var4, z_var5, z_var6, z_c, z_op, z_un, z_chain, z_cons, z_nil, z_tup, z_lst, z_cb, z_andT, z_orT, z_notT, z_isi, z_tst, z_tst1, z_tru, z_and, z_or, z_not, z_part, z_part1, z_noPart, z_sl, z_revL, z_revL1, z_revT, z_revT1, z_mt, z_mt1, z_mt2, z_mt3, z_mt0, z_mt01, z_mt02, z_join, z_join1, z_join2, z_join3, z_lenS, z_lenS1, z_ixS, z_ixS1, z_ixS2, z_ixS3, z_any, z_any1, z_any2, z_any3, z_rng1, z_rng11, z_rng2, z_rng21, z_enum, z_enum1, z_lc, z_lc1, z_yes, z_ss, z_ss1, z_ss2, z_call0, z_callX, z_callX1, z_arg2, z_arg3, z_arg4, z_arg5, z_next, z_break, z_cont, z_seq, z_drop, z_if, z_ret, z_retN, z_ret3, z_ret4, z_ret5, z_set, z_asg, z_asg1, z_par, z_par1, z_sub, z_sub1, z_sub2, z_sub4, z_sub5, z_setSl, z_setSl0, z_setSl1, z_setSl4, z_for, z_for1, z_gN, z_gsCons, kOut, kOp4, kOp3, kOp2, kOp1, kUn2, kUn, kCh7, kCh6, kCh5, kChB, kChO, kCh4, kCh3, kCh2, kCh1, kCons2, kCons1, kTup2, Aq.kTup, kLst2, kLst, kCB2, kCB, kAndB, kAnd2, kAnd1, kOrB, kOr2, kOr1, kNotB, kNot2, kNot1, kIsi2, kIsi, kTru3, kTru2, kTru, kAnd, kOr, kNot, kSl4, kSl3, kSl2, kSl1, kRevL, kRevT, kMtP, kMt3, kMt2, kJn2, kAny, kRngA, kRngB, kSS1, kCall, kCallX, kDrop, kIf, kRet, kSet, kAsg, kPar, kSub3, kSub0, kSS_3, kSS_2, kSetSl, kGs, q_hold1, q_hold2, q_hold3, q_hold4, q_look1, q_look2, q_look3, q_alook1, q_alook2, q_alook3, q_withD, q_withDs, q_withB, q_rvDs0, q_rvDs1, q_looks0, q_looks1, q_tru0, q_tru1, q_tru2, q_tru3, q_tru4, q_tru5, q_tru6, q_ret1, q_ret2, q_set1, q_set2, q_rv1, q_rv2, q_rv3, q_I, q_add1, q_add2, q_add3, q_add4, q_IS1, q_IS2, q_is1, q_is2, q_in1, q_in2, q_in3, q_ix1, q_ix2, q_ix3, q_sl1, q_sl2, q_sl3, q_len1, q_len2, q_len3, q_all, q_any, q_sum, q_max2, q_min2, q_abs, q_int1, q_int2, q_list1, q_list2, q_tupl1, q_tupl2, q_neg, q_app, q_ext, q_pop, q_popAt, q_ins, q_gsNil, q_gT, q_back0, q_retag1, q_tag1, q_arg0, q_arg1, q_bk1, q_bk2, q_callA, q_eqv1, q_eqv2, q_eqv3, q_eqv4, q_eqv5, q_eqv6, q_eqv7, q_eqv8, q_isT0, q_isT1, q_isT2, q_isT3, q_isT4, q_isT5, q_isT6, q_mul, q_div, q_mod, q_pow, q_sub, q_ixN0, q_ixN1, gEq, gNe, gLt, gLe, gGt, gGe, wipeA, ixo, ix1', ix2', ix3', ix4', ix5', shp, shp_int, shp_bool, shp_none, sizeLine_eq]
  refine varL_b ?_
  try simp -implicitDefEqProofs [is, z_exN, z_exN1, z_exI, z_exI1, z_isV, z_fd, z_sort, z_lcN1, z_lcN2, z_var, z_var1, z_var2, z_var3, z_var4, z_var5, z_var6, z_c, z_op, z_un, z_chain, z_cons, z_nil, z_tup, z_lst, z_cb, z_andT, z_orT, z_notT, z_isi, z_tst, z_tst1, z_tru, z_and, z_or, z_not, z_part, z_part1, z_noPart, z_sl, z_revL, z_revL1, z_revT, z_revT1, z_mt, z_mt1, z_mt2, z_mt3, z_mt0, z_mt01, z_mt02, z_join, z_join1, z_join2, z_join3, z_lenS, z_lenS1, z_ixS, z_ixS1, z_ixS2, z_ixS3, z_any, z_any1, z_any2, z_any3, z_rng1, z_rng11, z_rng2, z_rng21, z_enum, z_enum1, z_lc, z_lc1, z_yes, z_ss, z_ss1, z_ss2, z_call0, z_callX, z_callX1, z_arg2, z_arg3, z_arg4, z_arg5, z_next, z_break, z_cont, z_seq, z_drop, z_if, z_ret, z_retN, z_ret3, z_ret4, z_ret5, z_set, z_asg, z_asg1, z_par, z_par1, z_sub, z_sub1, z_sub2, z_sub4, z_sub5, z_setSl, z_setSl0, z_setSl1, z_setSl4, z_for, z_for1, z_gN, z_gsCons, kOut, kOp4, kOp3, kOp2, kOp1, kUn2, kUn, kCh7, kCh6, kCh5, kChB, kChO, kCh4, kCh3, kCh2, kCh1, kCons2, kCons1, kTup2, Aq.kTup, kLst2, kLst, kCB2, kCB, kAndB, kAnd2, kAnd1, kOrB, kOr2, kOr1, kNotB, kNot2, kNot1, kIsi2, kIsi, kTru3, kTru2, kTru, kAnd, kOr, kNot, kSl4, kSl3, kSl2, kSl1, kRevL, kRevT, kMtP, kMt3, kMt2, kJn2, kAny, kRngA, kRngB, kSS1, kCall, kCallX, kDrop, kIf, kRet, kSet, kAsg, kPar, kSub3, kSub0, kSS_3, kSS_2, kSetSl, kGs, q_hold1, q_hold2, q_hold3, q_hold4, q_look1, q_look2, q_look3, q_alook1, q_alook2, q_alook3, q_withD, q_withDs, q_withB, q_rvDs0, q_rvDs1, q_looks0, q_looks1, q_tru0, q_tru1, q_tru2, q_tru3, q_tru4, q_tru5, q_tru6, q_ret1, q_ret2, q_set1, q_set2, q_rv1, q_rv2, q_rv3, q_I, q_add1, q_add2, q_add3, q_add4, q_IS1, q_IS2, q_is1, q_is2, q_in1, q_in2, q_in3, q_ix1, q_ix2, q_ix3, q_sl1, q_sl2, q_sl3, q_len1, q_len2, q_len3, q_all, q_any, q_sum, q_max2, q_min2, q_abs, q_int1, q_int2, q_list1, q_list2, q_tupl1, q_tupl2, q_neg, q_app, q_ext, q_pop, q_popAt, q_ins, q_gsNil, q_gT, q_back0, q_retag1, q_tag1, q_arg0, q_arg1, q_bk1, q_bk2, q_callA, q_eqv1, q_eqv2, q_eqv3, q_eqv4, q_eqv5, q_eqv6, q_eqv7, q_eqv8, q_isT0, q_isT1, q_isT2, q_isT3, q_isT4, q_isT5, q_isT6, q_mul, q_div, q_mod, q_pow, q_sub, q_ixN0, q_ixN1, gEq, gNe, gLt, gLe, gGt, gGe, wipeA, ixo, ix1', ix2', ix3', ix4', ix5', shp, shp_int, shp_bool, shp_none, sizeLine_eq]
  refine varL_b ?_
  try simp -implicitDefEqProofs [is, z_exN, z_exN1, z_exI, z_exI1, z_isV, z_fd, z_sort, z_lcN1, z_lcN2, z_var, z_var1, z_var2, z_var3, z_var4, z_var5, z_var6, z_c, z_op, z_un, z_chain, z_cons, z_nil, z_tup, z_lst, z_cb, z_andT, z_orT, z_notT, z_isi, z_tst, z_tst1, z_tru, z_and, z_or, z_not, z_part, z_part1, z_noPart, z_sl, z_revL, z_revL1, z_revT, z_revT1, z_mt, z_mt1, z_mt2, z_mt3, z_mt0, z_mt01, z_mt02, z_join, z_join1, z_join2, z_join3, z_lenS, z_lenS1, z_ixS, z_ixS1, z_ixS2, z_ixS3, z_any, z_any1, z_any2, z_any3, z_rng1, z_rng11, z_rng2, z_rng21, z_enum, z_enum1, z_lc, z_lc1, z_yes, z_ss, z_ss1, z_ss2, z_call0, z_callX, z_callX1, z_arg2, z_arg3, z_arg4, z_arg5, z_next, z_break, z_cont, z_seq, z_drop, z_if, z_ret, z_retN, z_ret3, z_ret4, z_ret5, z_set, z_asg, z_asg1, z_par, z_par1, z_sub, z_sub1, z_sub2, z_sub4, z_sub5, z_setSl, z_setSl0, z_setSl1, z_setSl4, z_for, z_for1, z_gN, z_gsCons, kOut, kOp4, kOp3, kOp2, kOp1, kUn2, kUn, kCh7, kCh6, kCh5, kChB, kChO, kCh4, kCh3, kCh2, kCh1, kCons2, kCons1, kTup2, Aq.kTup, kLst2, kLst, kCB2, kCB, kAndB, kAnd2, kAnd1, kOrB, kOr2, kOr1, kNotB, kNot2, kNot1, kIsi2, kIsi, kTru3, kTru2, kTru, kAnd, kOr, kNot, kSl4, kSl3, kSl2, kSl1, kRevL, kRevT, kMtP, kMt3, kMt2, kJn2, kAny, kRngA, kRngB, kSS1, kCall, kCallX, kDrop, kIf, kRet, kSet, kAsg, kPar, kSub3, kSub0, kSS_3, kSS_2, kSetSl, kGs, q_hold1, q_hold2, q_hold3, q_hold4, q_look1, q_look2, q_look3, q_alook1, q_alook2, q_alook3, q_withD, q_withDs, q_withB, q_rvDs0, q_rvDs1, q_looks0, q_looks1, q_tru0, q_tru1, q_tru2, q_tru3, q_tru4, q_tru5, q_tru6, q_ret1, q_ret2, q_set1, q_set2, q_rv1, q_rv2, q_rv3, q_I, q_add1, q_add2, q_add3, q_add4, q_IS1, q_IS2, q_is1, q_is2, q_in1, q_in2, q_in3, q_ix1, q_ix2, q_ix3, q_sl1, q_sl2, q_sl3, q_len1, q_len2, q_len3, q_all, q_any, q_sum, q_max2, q_min2, q_abs, q_int1, q_int2, q_list1, q_list2, q_tupl1, q_tupl2, q_neg, q_app, q_ext, q_pop, q_popAt, q_ins, q_gsNil, q_gT, q_back0, q_retag1, q_tag1, q_arg0, q_arg1, q_bk1, q_bk2, q_callA, q_eqv1, q_eqv2, q_eqv3, q_eqv4, q_eqv5, q_eqv6, q_eqv7, q_eqv8, q_isT0, q_isT1, q_isT2, q_isT3, q_isT4, q_isT5, q_isT6, q_mul, q_div, q_mod, q_pow, q_sub, q_ixN0, q_ixN1, gEq, gNe, gLt, gLe, gGt, gGe, wipeA, ixo, ix1', ix2', ix3', ix4', ix5', shp, shp_int, shp_bool, shp_none, sizeLine_eq]
  refine varL_b ?_
  try simp -implicitDefEqProofs [is, z_exN, z_exN1, z_exI, z_exI1, z_isV, z_fd, z_sort, z_lcN1, z_lcN2, z_var, z_var1, z_var2, z_var3, z_var4, z_var5, z_var6, z_c, z_op, z_un, z_chain, z_cons, z_nil, z_tup, z_lst, z_cb, z_andT, z_orT, z_notT, z_isi, z_tst, z_tst1, z_tru, z_and, z_or, z_not, z_part, z_part1, z_noPart, z_sl, z_revL, z_revL1, z_revT, z_revT1, z_mt, z_mt1, z_mt2, z_mt3, z_mt0, z_mt01, z_mt02, z_join, z_join1, z_join2, z_join3, z_lenS, z_lenS1, z_ixS, z_ixS1, z_ixS2, z_ixS3, z_any, z_any1, z_any2, z_any3, z_rng1, z_rng11, z_rng2, z_rng21, z_enum, z_enum1, z_lc, z_lc1, z_yes, z_ss, z_ss1, z_ss2, z_call0, z_callX, z_callX1, z_arg2, z_arg3, z_arg4, z_arg5, z_next, z_break, z_cont, z_seq, z_drop, z_if, z_ret, z_retN, z_ret3, z_ret4, z_ret5, z_set, z_asg, z_asg1, z_par, z_par1, z_sub, z_sub1, z_sub2, z_sub4, z_sub5, z_setSl, z_setSl0, z_setSl1, z_setSl4, z_for, z_for1, z_gN, z_gsCons, kOut, kOp4, kOp3, kOp2, kOp1, kUn2, kUn, kCh7, kCh6, kCh5, kChB, kChO, kCh4, kCh3, kCh2, kCh1, kCons2, kCons1, kTup2, Aq.kTup, kLst2, kLst, kCB2, kCB, kAndB, kAnd2, kAnd1, kOrB, kOr2, kOr1, kNotB, kNot2, kNot1, kIsi2, kIsi, kTru3, kTru2, kTru, kAnd, kOr, kNot, kSl4, kSl3, kSl2, kSl1, kRevL, kRevT, kMtP, kMt3, kMt2, kJn2, kAny, kRngA, kRngB, kSS1, kCall, kCallX, kDrop, kIf, kRet, kSet, kAsg, kPar, kSub3, kSub0, kSS_3, kSS_2, kSetSl, kGs, q_hold1, q_hold2, q_hold3, q_hold4, q_look1, q_look2, q_look3, q_alook1, q_alook2, q_alook3, q_withD, q_withDs, q_withB, q_rvDs0, q_rvDs1, q_looks0, q_looks1, q_tru0, q_tru1, q_tru2, q_tru3, q_tru4, q_tru5, q_tru6, q_ret1, q_ret2, q_set1, q_set2, q_rv1, q_rv2, q_rv3, q_I, q_add1, q_add2, q_add3, q_add4, q_IS1, q_IS2, q_is1, q_is2, q_in1, q_in2, q_in3, q_ix1, q_ix2, q_ix3, q_sl1, q_sl2, q_sl3, q_len1, q_len2, q_len3, q_all, q_any, q_sum, q_max2, q_min2, q_abs, q_int1, q_int2, q_list1, q_list2, q_tupl1, q_tupl2, q_neg, q_app, q_ext, q_pop, q_popAt, q_ins, q_gsNil, q_gT, q_back0, q_retag1, q_tag1, q_arg0, q_arg1, q_bk1, q_bk2, q_callA, q_eqv1, q_eqv2, q_eqv3, q_eqv4, q_eqv5, q_eqv6, q_eqv7, q_eqv8, q_isT0, q_isT1, q_isT2, q_isT3, q_isT4, q_isT5, q_isT6, q_mul, q_div, q_mod, q_pow, q_sub, q_ixN0, q_ixN1, gEq, gNe, gLt, gLe, gGt, gGe, wipeA, ixo, ix1', ix2', ix3', ix4', ix5', shp, shp_int, shp_bool, shp_none, sizeLine_eq]
  refine varL_b ?_
  try simp -implicitDefEqProofs [is, z_exN, z_exN1, z_exI, z_exI1, z_isV, z_fd, z_sort, z_lcN1, z_lcN2, z_var, z_var1, z_var2, z_var3, z_var4, z_var5, z_var6, z_c, z_op, z_un, z_chain, z_cons, z_nil, z_tup, z_lst, z_cb, z_andT, z_orT, z_notT, z_isi, z_tst, z_tst1, z_tru, z_and, z_or, z_not, z_part, z_part1, z_noPart, z_sl, z_revL, z_revL1, z_revT, z_revT1, z_mt, z_mt1, z_mt2, z_mt3, z_mt0, z_mt01, z_mt02, z_join, z_join1, z_join2, z_join3, z_lenS, z_lenS1, z_ixS, z_ixS1, z_ixS2, z_ixS3, z_any, z_any1, z_any2, z_any3, z_rng1, z_rng11, z_rng2, z_rng21, z_enum, z_enum1, z_lc, z_lc1, z_yes, z_ss, z_ss1, z_ss2, z_call0, z_callX, z_callX1, z_arg2, z_arg3, z_arg4, z_arg5, z_next, z_break, z_cont, z_seq, z_drop, z_if, z_ret, z_retN, z_ret3, z_ret4, z_ret5, z_set, z_asg, z_asg1, z_par, z_par1, z_sub, z_sub1, z_sub2, z_sub4, z_sub5, z_setSl, z_setSl0, z_setSl1, z_setSl4, z_for, z_for1, z_gN, z_gsCons, kOut, kOp4, kOp3, kOp2, kOp1, kUn2, kUn, kCh7, kCh6, kCh5, kChB, kChO, kCh4, kCh3, kCh2, kCh1, kCons2, kCons1, kTup2, Aq.kTup, kLst2, kLst, kCB2, kCB, kAndB, kAnd2, kAnd1, kOrB, kOr2, kOr1, kNotB, kNot2, kNot1, kIsi2, kIsi, kTru3, kTru2, kTru, kAnd, kOr, kNot, kSl4, kSl3, kSl2, kSl1, kRevL, kRevT, kMtP, kMt3, kMt2, kJn2, kAny, kRngA, kRngB, kSS1, kCall, kCallX, kDrop, kIf, kRet, kSet, kAsg, kPar, kSub3, kSub0, kSS_3, kSS_2, kSetSl, kGs, q_hold1, q_hold2, q_hold3, q_hold4, q_look1, q_look2, q_look3, q_alook1, q_alook2, q_alook3, q_withD, q_withDs, q_withB, q_rvDs0, q_rvDs1, q_looks0, q_looks1, q_tru0, q_tru1, q_tru2, q_tru3, q_tru4, q_tru5, q_tru6, q_ret1, q_ret2, q_set1, q_set2, q_rv1, q_rv2, q_rv3, q_I, q_add1, q_add2, q_add3, q_add4, q_IS1, q_IS2, q_is1, q_is2, q_in1, q_in2, q_in3, q_ix1, q_ix2, q_ix3, q_sl1, q_sl2, q_sl3, q_len1, q_len2, q_len3, q_all, q_any, q_sum, q_max2, q_min2, q_abs, q_int1, q_int2, q_list1, q_list2, q_tupl1, q_tupl2, q_neg, q_app, q_ext, q_pop, q_popAt, q_ins, q_gsNil, q_gT, q_back0, q_retag1, q_tag1, q_arg0, q_arg1, q_bk1, q_bk2, q_callA, q_eqv1, q_eqv2, q_eqv3, q_eqv4, q_eqv5, q_eqv6, q_eqv7, q_eqv8, q_isT0, q_isT1, q_isT2, q_isT3, q_isT4, q_isT5, q_isT6, q_mul, q_div, q_mod, q_pow, q_sub, q_ixN0, q_ixN1, gEq, gNe, gLt, gLe, gGt, gGe, wipeA, ixo, ix1', ix2', ix3', ix4', ix5', shp, shp_int, shp_bool, shp_none, sizeLine_eq]
  refine lcPure (fun d => [.dat d0, .ml none ((kYs.map (isxB nm)).map .bool), .ml none (kWs.map .str), .dat d]) (fun d => (kYs.map (isxB nm)).getD (ixD d) false) (fun d => .str (kWs.getD (ixD d) "")) _ _ ?_ ?_ ?_ ?_ ?_ ?_
  · intro d _ k hk
    exact hk
  · intro d _
    rfl
  · intro d hd k hk
    obtain ⟨i, rfl, h1, h2⟩ := mem_rng hd
    walk_at "ax"
    walk_at "bw"
    rw [← List.map_map, atI_map (b := false) h1 (by rw [List.length_map]; exact h2)]
    exact hk
  · intro d hd _ k hk
    obtain ⟨i, rfl, h1, h2⟩ := mem_rng hd
    walk_at "ax"
    walk_at "bw"
    rw [atI_map (xs := kWs) (b := ("" : Str)) h1 (by exact h2)]
    rw [List.map_map] at hk
    exact hk
  · rw [rng_len, sizeLine_eq]
    decide
  · have e2 := kind_all nm hm
    rw [List.nil_append]
    have e3 : (((rng 0 15).filter fun d => (kYs.map (isxB nm)).getD (ixD d) false).map fun d => PyData.str (kWs.getD (ixD d) "")) = [nm, "+"].map .str := by
      rw [← e2.1, List.map_map]
      rfl
    rw [e3]
    have e4 : kJn2 "" (kRet { nx := fun ρ' => P (.dat .none) ρ', rt := P, ex := PX }) (.own (.ml none ([nm, "+"].map .str))) [.dat d0, .ml none ((kYs.map (isxB nm)).map .bool), .ml none (kWs.map .str), .un] := by
      unfold kJn2
      rw [q_look3, q_alook2, q_withD, z_join2, strsD_map, z_join3]
      refine ⟨e2.2.1, ?_⟩
      rw [e2.2.2]
      exact h _
    exact e4
end Cw
set_option maxHeartbeats 2000000
namespace Cw
open PySem L2 Aq
local macro_rules | `(tactic| walk_at "aq") => `(tactic| simp -implicitDefEqProofs [z_exN, z_exN1, z_exI, z_exI1, z_isV, z_fd, z_sort, z_lcN1, z_lcN2, z_var, z_var1, z_var2, z_var3, z_var4, z_var5, z_var6, z_c, z_op, z_un, z_chain, z_cons, z_nil, z_tup, z_lst, z_cb, z_andT, z_orT, z_notT, z_isi, z_tst, z_tst1, z_tru, z_and, z_or, z_not, z_part, z_part1, z_noPart, z_sl, z_revL, z_revL1, z_revT, z_revT1, z_mt, z_mt1, z_mt2, z_mt3, z_mt0, z_mt01, z_mt02, z_join, z_join1, z_join2, z_join3, z_lenS, z_lenS1, z_ixS, z_ixS1, z_ixS2, z_ixS3, z_any, z_any1, z_any2, z_any3, z_rng1, z_rng11, z_rng2, z_rng21, z_enum, z_enum1, z_lc, z_lc1, z_yes, z_ss, z_ss1, z_ss2, z_call0, z_callX, z_callX1, z_arg2, z_arg3, z_arg4, z_arg5, z_next, z_break, z_cont, z_seq, z_drop, z_if, z_ret, z_retN, z_ret3, z_ret4, z_ret5, z_set, z_asg, z_asg1, z_par, z_par1, z_sub, z_sub1, z_sub2, z_sub4, z_sub5, z_setSl, z_setSl0, z_setSl1, z_setSl4, z_for, z_for1, z_gN, z_gsCons, kOut, kOp4, kOp3, kOp2, kOp1, kUn2, kUn, kCh7, kCh6, kCh5, kChB, kChO, kCh4, kCh3, kCh2, kCh1, kCons2, kCons1, kTup2, Aq.kTup, kLst2, kLst, kCB2, kCB, kAndB, kAnd2, kAnd1, kOrB, kOr2, kOr1, kNotB, kNot2, kNot1, kIsi2, kIsi, kTru3, kTru2, kTru, kAnd, kOr, kNot, kSl4, kSl3, kSl2, kSl1, kRevL, kRevT, kMtP, kMt3, kMt2, kJn2, kAny, kRngA, kRngB, kSS1, kCall, kCallX, kDrop, kIf, kRet, kSet, kAsg, kPar, kSub3, kSub0, kSS_3, kSS_2, kSetSl, kGs, q_hold1, q_hold2, q_hold3, q_hold4, q_look1, q_look2, q_look3, q_alook1, q_alook2, q_alook3, q_withD, q_withDs, q_withB, q_rvDs0, q_rvDs1, q_looks0, q_looks1, q_tru0, q_tru1, q_tru2, q_tru3, q_tru4, q_tru5, q_tru6, q_ret1, q_ret2, q_set1, q_set2, q_rv1, q_rv2, q_rv3, q_I, q_add1, q_add2, q_add3, q_add4, q_IS1, q_IS2, q_is1, q_is2, q_in1, q_in2, q_in3, q_ix1, q_ix2, q_ix3, q_sl1, q_sl2, q_sl3, q_len1, q_len2, q_len3, q_all, q_any, q_sum, q_max2, q_min2, q_abs, q_int1, q_int2, q_list1, q_list2, q_tupl1, q_tupl2, q_neg, q_app, q_ext, q_pop, q_popAt, q_ins, q_gsNil, q_gT, q_back0, q_retag1, q_tag1, q_arg0, q_arg1, q_bk1, q_bk2, q_callA, q_eqv1, q_eqv2, q_eqv3, q_eqv4, q_eqv5, q_eqv6, q_eqv7, q_eqv8, q_isT0, q_isT1, q_isT2, q_isT3, q_isT4, q_isT5, q_isT6, q_mul, q_div, q_mod, q_pow, q_sub, q_ixN0, q_ixN1, gEq, gNe, gLt, gLe, gGt, gGe, wipeA, ixo, ix1', ix2', ix3', ix4', ix5', shp, shp_int, shp_bool, shp_none])
local macro_rules | `(tactic| walk_at "ao") => `(tactic| simp -implicitDefEqProofs only [z_exN, z_exN1, z_exI, z_exI1, z_isV, z_fd, z_sort, z_lcN1, z_lcN2, z_var, z_var1, z_var2, z_var3, z_var4, z_var5, z_var6, z_c, z_op, z_un, z_chain, z_cons, z_nil, z_tup, z_lst, z_cb, z_andT, z_orT, z_notT, z_isi, z_tst, z_tst1, z_tru, z_and, z_or, z_not, z_part, z_part1, z_noPart, z_sl, z_revL, z_revL1, z_revT, z_revT1, z_mt, z_mt1, z_mt2, z_mt3, z_mt0, z_mt01, z_mt02, z_join, z_join1, z_join2, z_join3, z_lenS, z_lenS1, z_ixS, z_ixS1, z_ixS2, z_ixS3, z_any, z_any1, z_any2, z_any3, z_rng1, z_rng11, z_rng2, z_rng21, z_enum, z_enum1, z_lc, z_lc1, z_yes, z_ss, z_ss1, z_ss2, z_call0, z_callX, z_callX1, z_arg2, z_arg3, z_arg4, z_arg5, z_next, z_break, z_cont, z_seq, z_drop, z_if, z_ret, z_retN, z_ret3, z_ret4, z_ret5, z_set, z_asg, z_asg1, z_par, z_par1, z_sub, z_sub1, z_sub2, z_sub4, z_sub5, z_setSl, z_setSl0, z_setSl1, z_setSl4, z_for, z_for1, z_gN, z_gsCons, kOut, kOp4, kOp3, kOp2, kOp1, kUn2, kUn, kCh7, kCh6, kCh5, kChB, kChO, kCh4, kCh3, kCh2, kCh1, kCons2, kCons1, kTup2, Aq.kTup, kLst2, kLst, kCB2, kCB, kAndB, kAnd2, kAnd1, kOrB, kOr2, kOr1, kNotB, kNot2, kNot1, kIsi2, kIsi, kTru3, kTru2, kTru, kAnd, kOr, kNot, kSl4, kSl3, kSl2, kSl1, kRevL, kRevT, kMtP, kMt3, kMt2, kJn2, kAny, kRngA, kRngB, kSS1, kCall, kCallX, kDrop, kIf, kRet, kSet, kAsg, kPar, kSub3, kSub0, kSS_3, kSS_2, kSetSl, kGs, q_hold1, q_hold2, q_hold3, q_hold4, q_look1, q_look2, q_look3, q_alook1, q_alook2, q_alook3, q_withD, q_withDs, q_withB, q_rvDs0, q_rvDs1, q_looks0, q_looks1, q_tru0, q_tru1, q_tru2, q_tru3, q_tru4, q_tru5, q_tru6, q_ret1, q_ret2, q_set1, q_set2, q_rv1, q_rv2, q_rv3, q_I, q_add1, q_add2, q_add3, q_add4, q_IS1, q_IS2, q_is1, q_is2, q_in1, q_in2, q_in3, q_ix1, q_ix2, q_ix3, q_sl1, q_sl2, q_sl3, q_len1, q_len2, q_len3, q_all, q_any, q_sum, q_max2, q_min2, q_abs, q_int1, q_int2, q_list1, q_list2, q_tupl1, q_tupl2, q_neg, q_app, q_ext, q_pop, q_popAt, q_ins, q_gsNil, q_gT, q_back0, q_retag1, q_tag1, q_arg0, q_arg1, q_bk1, q_bk2, q_callA, q_eqv1, q_eqv2, q_eqv3, q_eqv4, q_eqv5, q_eqv6, q_eqv7, q_eqv8, q_isT0, q_isT1, q_isT2, q_isT3, q_isT4, q_isT5, q_isT6, q_mul, q_div, q_mod, q_pow, q_sub, q_ixN0, q_ixN1, gEq, gNe, gLt, gLe, gGt, gGe, wipeA, ixo, ix1', ix2', ix3', ix4', ix5', shp, shp_int, shp_bool, shp_none, List.nil_append, List.singleton_append, Option.map_some, Option.bind_some, List.getElem?_cons_zero, List.getElem?_cons_succ, List.set_cons_zero, List.set_cons_succ, if_true, if_false, Bool.not_true, Bool.not_false, Bool.false_eq_true, reduceCtorEq])
local macro_rules | `(tactic| walk_at "ax") => `(tactic| try simp -implicitDefEqProofs [z_exN, z_exN1, z_exI, z_exI1, z_isV, z_fd, z_sort, z_lcN1, z_lcN2, z_var, z_var1, z_var2, z_var3, z_var4, z_var5, z_var6, z_c, z_op, z_un, z_chain, z_cons, z_nil, z_tup, z_lst, z_cb, z_andT, z_orT, z_notT, z_isi, z_tst, z_tst1, z_tru, z_and, z_or, z_not, z_part, z_part1, z_noPart, z_sl, z_revL, z_revL1, z_revT, z_revT1, z_mt, z_mt1, z_mt2, z_mt3, z_mt0, z_mt01, z_mt02, z_join, z_join1, z_join2, z_join3, z_lenS, z_lenS1, z_ixS, z_ixS1, z_ixS2, z_ixS3, z_any, z_any1, z_any2, z_any3, z_rng1, z_rng11, z_rng2, z_rng21, z_enum, z_enum1, z_lc, z_lc1, z_yes, z_ss, z_ss1, z_ss2, z_call0, z_callX, z_callX1, z_arg2, z_arg3, z_arg4, z_arg5, z_next, z_break, z_cont, z_seq, z_drop, z_if, z_ret, z_retN, z_ret3, z_ret4, z_ret5, z_set, z_asg, z_asg1, z_par, z_par1, z_sub, z_sub1, z_sub2, z_sub4, z_sub5, z_setSl, z_setSl0, z_setSl1, z_setSl4, z_for, z_for1, z_gN, z_gsCons, kOut, kOp4, kOp3, kOp2, kOp1, kUn2, kUn, kCh7, kCh6, kCh5, kChB, kChO, kCh4, kCh3, kCh2, kCh1, kCons2, kCons1, kTup2, Aq.kTup, kLst2, kLst, kCB2, kCB, kAndB, kAnd2, kAnd1, kOrB, kOr2, kOr1, kNotB, kNot2, kNot1, kIsi2, kIsi, kTru3, kTru2, kTru, kAnd, kOr, kNot, kSl4, kSl3, kSl2, kSl1, kRevL, kRevT, kMtP, kMt3, kMt2, kJn2, kAny, kRngA, kRngB, kSS1, kCall, kCallX, kDrop, kIf, kRet, kSet, kAsg, kPar, kSub3, kSub0, kSS_3, kSS_2, kSetSl, kGs, q_hold1, q_hold2, q_hold3, q_hold4, q_look1, q_look2, q_look3, q_alook1, q_alook2, q_alook3, q_withD, q_withDs, q_withB, q_rvDs0, q_rvDs1, q_looks0, q_looks1, q_tru0, q_tru1, q_tru2, q_tru3, q_tru4, q_tru5, q_tru6, q_ret1, q_ret2, q_set1, q_set2, q_rv1, q_rv2, q_rv3, q_I, q_add1, q_add2, q_add3, q_add4, q_IS1, q_IS2, q_is1, q_is2, q_in1, q_in2, q_in3, q_ix1, q_ix2, q_ix3, q_sl1, q_sl2, q_sl3, q_len1, q_len2, q_len3, q_all, q_any, q_sum, q_max2, q_min2, q_abs, q_int1, q_int2, q_list1, q_list2, q_tupl1, q_tupl2, q_neg, q_app, q_ext, q_pop, q_popAt, q_ins, q_gsNil, q_gT, q_back0, q_retag1, q_tag1, q_arg0, q_arg1, q_bk1, q_bk2, q_callA, q_eqv1, q_eqv2, q_eqv3, q_eqv4, q_eqv5, q_eqv6, q_eqv7, q_eqv8, q_isT0, q_isT1, q_isT2, q_isT3, q_isT4, q_isT5, q_isT6, q_mul, q_div, q_mod, q_pow, q_sub, q_ixN0, q_ixN1, gEq, gNe, gLt, gLe, gGt, gGe, wipeA, ixo, ix1', ix2', ix3', ix4', ix5', shp, shp_int, shp_bool, shp_none, sizeLine_eq])
local macro_rules | `(tactic| walk_at "bw") => `(tactic| (refine varL_b ?_; walk_at "ax"))
local macro_rules | `(tactic| walk_at "fw") => `(tactic| (refine varL_f ?_; walk_at "ax"))
local macro_rules | `(tactic| walk_at "bm") => `(tactic| (refine varM_b ?_; walk_at "ax"))
local macro_rules | `(tactic| walk_at "fm") => `(tactic| (refine varM_f ?_; walk_at "ax"))

def xsD (w : Str) (n1 n2 : Int) : List PyData := [exiD "Faulty" "faults" (.tuple [.tuple [.str w, .int n1, .str "two"]]), excD "NoArticles" (.str w), excD "NoMan" (.str w), excD "NoPage" (.str w), excD "NoPages" (.str w), excD "NoRank" (.str w), excD "NoRow" (.str w), excD "NoSum" (.str w), excD "NoText" (.str w), excD "NotThere" (.str w), excD "NothingLeft" (.str w), excD "TooMany" (.str w), exiD "TooMuch" "most" (.int n2), excD "Twice" (.str w)]
theorem xsD_nm {w : Str} {n1 n2 : Int} : ∀ d ∈ xsD w n1 n2, ∃ nm, exNm d = some nm ∧ nm ∈ kAll := by
  intro d hd
  simp only [xsD, List.mem_cons, List.mem_nil_iff, or_false] at hd
  rcases hd with rfl | rfl | rfl | rfl | rfl | rfl | rfl | rfl | rfl | rfl | rfl | rfl | rfl | rfl <;> exact ⟨_, rfl, by decide⟩
def nmP (d : PyData) : PyData := match exNm d with
  | some nm => .str (nm ++ "+")
  | none => .none
def strP (d : PyData) : PyData := match d with
  | .str x => .str (x ++ "+")
  | _ => .none
theorem eqv_shp {d : PyData} (h : SeqAt.shaped d = true) : PyData.eqv d d = true := by
  unfold SeqAt.shaped at h
  rw [Bool.and_eq_true] at h
  exact SeqAt.eqv_refl d h.1
theorem kAll_short : ∀ x ∈ kAll, x.length ≤ 20 := by decide +kernel
/-! law -/
def N_law : List Str := ["script", "draws", "word", "rows", "most", "some", "words", "one"]
def t_law_1 (w : World) (K : PySem.W.Frag) : TS :=
  (tRet (tAndT K (tOp (rEqD K) (tFd K "faults" (tOp (rIx K) (tVar 5) (tC (.int 0)))) (tVar 3)) (tAndT K (tOp (rEqD K) (tFd K "most" (tOp (rIx K) (tVar 5) (tC (.int 12)))) (tVar 4)) (tOp (rEqD K) (tCB (rStrX K) (tCons (tOp (rIx K) (tVar 5) (tC (.int 1))) tNil)) (tVar 2)))))
def a_law_1 : ASt :=
  (sRet (aAndT (aOp gEq (aFd "faults" (aOp gIx (aVar 5) (aC (.int 0)))) (aVar 3)) (aAndT (aOp gEq (aFd "most" (aOp gIx (aVar 5) (aC (.int 12)))) (aVar 4)) (aOp gEq (aCB gStrX (aCons (aOp gIx (aVar 5) (aC (.int 1))) aNil)) (aVar 2)))))
theorem ss_law_1 {w : World} {K : PySem.W.Frag} (kv : kitV K = true) (kf : fdlB K = true) (W : WX) : SS K W (t_law_1 w K) a_law_1 :=
  (ss_ret (es_andT (es_op r2_eq (es_fd kv kf (es_op r2_ix es_var es_int)) es_var) (es_andT (es_op r2_eq (es_fd kv kf (es_op r2_ix es_var es_int)) es_var) (es_op r2_eq (es_cb (r1_strX kv) (as_cons (es_op r2_ix es_var es_int) as_nil)) es_var))))
def t_law_2 (w : World) (K : PySem.W.Frag) : TS :=
  (tSeq (tIfS (tTest (tOp (rNeD K) (tLc (iAny K (tVar 5)) (gName 7) (tNot (tTru K (tCB (rIsV K) (tCons (tVar 7) (tCons (tC (.ref (He.ga K "WageError"))) tNil))))) (tVar 7) [7]) (tLst tNil))) (tRet (tC (.bl false))) tNext)
  (t_law_1 w K))
def a_law_2 : ASt :=
  (sSeq (sIf (aTst (aOp gNe (aLc (aAnyI (aVar 5)) [7] (gN 7) (aNot (aTru (aIsV "WageError" (aVar 7)))) (aVar 7)) (aLst aNil))) (sRet (aC (.bool false))) sNext)
  a_law_1)
theorem ss_law_2 {w : World} {K : PySem.W.Frag} (kv : kitV K = true) (kf : fdlB K = true) (W : WX) : SS K W (t_law_2 w K) a_law_2 :=
  (ss_seq (ss_if (td_test (es_op r2_ne (es_lc (is_any es_var) gs_name (td_not (td_tru (es_isV kv (by decide) (fun u hu => Eq.trans hu (cvV_ref (by decide +kernel)).symm) es_var))) es_var (by decide)) (es_lst as_nil))) (ss_ret es_bl) ss_next)
  (ss_law_1  kv kf W))
def t_law (w : World) (K : PySem.W.Frag) : TS :=
  (tSeq (tAsg (tCall (spOf K c__law_draws) [] E0 (tCons (tVar 0) (tCons (tC (.int 0)) tNil))) (gName 1))
  (tSeq (tAsg (tOp (rIx K) (tCall (spOf K c__law_names) [] E0 (tCons (tVar 1) (tCons (tC (.int 1)) tNil))) (tC (.int 0))) (gName 2))
  (tSeq (tAsg (tTup (tCons (tTup (tCons (tVar 2) (tCons (tCall (spOf K c__law_draw) [] E0 (tCons (tVar 1) (tCons (tOp rPowI (tC (.int 10)) (tC (.int 12))) tNil))) (tCons (tC (.str "two")) tNil)))) tNil)) (gName 3))
  (tSeq (tAsg (tCall (spOf K c__law_draw) [] E0 (tCons (tVar 1) (tCons (tOp rPowI (tC (.int 10)) (tC (.int 15))) tNil))) (gName 4))
  (tSeq (tAsg (tLst (tCons (tMkV (He.ga K "Faulty") (spI (He.ga K "Faulty") "faults") (tCons (tVar 3) tNil)) (tCons (tExN (He.ga K "NoArticles") (tVar 2)) (tCons (tExN (He.ga K "NoMan") (tVar 2)) (tCons (tExN (He.ga K "NoPage") (tVar 2)) (tCons (tExN (He.ga K "NoPages") (tVar 2)) (tCons (tExN (He.ga K "NoRank") (tVar 2)) (tCons (tExN (He.ga K "NoRow") (tVar 2)) tNil)))))))) (gName 5))
  (tSeq (tAsg (tOp (rAddA K) (tVar 5) (tLst (tCons (tExN (He.ga K "NoSum") (tVar 2)) (tCons (tExN (He.ga K "NoText") (tVar 2)) (tCons (tExN (He.ga K "NotThere") (tVar 2)) (tCons (tExN (He.ga K "NothingLeft") (tVar 2)) (tCons (tExN (He.ga K "TooMany") (tVar 2)) (tCons (tMkV (He.ga K "TooMuch") (spI (He.ga K "TooMuch") "most") (tCons (tVar 4) tNil)) tNil)))))))) (gName 5))
  (tSeq (tDrop (tBM K "list" rAppend (tVar 5) (tCons (tExN (He.ga K "Twice") (tVar 2)) tNil)))
  (tSeq (tAsg (tLst (tCons (tC (.str "Faulty")) (tCons (tC (.str "NoArticles")) (tCons (tC (.str "NoMan")) (tCons (tC (.str "NoPage")) (tCons (tC (.str "NoPages")) (tCons (tC (.str "NoRank")) (tCons (tC (.str "NoRow")) (tCons (tC (.str "NoSum")) (tCons (tC (.str "NoText")) (tCons (tC (.str "NotThere")) tNil))))))))))) (gName 6))
  (tSeq (tAsg (tOp (rAddA K) (tVar 6) (tLst (tCons (tC (.str "NothingLeft")) (tCons (tC (.str "TooMany")) (tCons (tC (.str "TooMuch")) (tCons (tC (.str "Twice")) tNil)))))) (gName 6))
  (tSeq (tIfS (tTest (tOp (rNeD K) (tLc (iAny K (tVar 5)) (gName 7) tYes (tCall (spOf K c__law_kind_of) [] E0 (tCons (tVar 7) tNil)) [7]) (tLc (iAny K (tVar 6)) (gName 7) tYes (tOp (rAddA K) (tVar 7) (tC (.str "+"))) [7]))) (tRet (tC (.bl false))) tNext)
  (t_law_2 w K)))))))))))
def a_law : ASt :=
  (sSeq (sSet 1 (aCall0 c__law_draws (aCons (aVar 0) (aCons (aC (.int 0)) aNil))))
  (sSeq (sSet 2 (aOp gIx (aCall0 c__law_names (aCons (aVar 1) (aCons (aC (.int 1)) aNil))) (aC (.int 0))))
  (sSeq (sSet 3 (aTup (aCons (aTup (aCons (aVar 2) (aCons (aCall0 c__law_draw (aCons (aVar 1) (aCons (aOp gPow (aC (.int 10)) (aC (.int 12))) aNil))) (aCons (aC (.str "two")) aNil)))) aNil)))
  (sSeq (sSet 4 (aCall0 c__law_draw (aCons (aVar 1) (aCons (aOp gPow (aC (.int 10)) (aC (.int 15))) aNil))))
  (sSeq (sSet 5 (aLst (aCons (aExI "Faulty" "faults" (aVar 3)) (aCons (aExN "NoArticles" (aVar 2)) (aCons (aExN "NoMan" (aVar 2)) (aCons (aExN "NoPage" (aVar 2)) (aCons (aExN "NoPages" (aVar 2)) (aCons (aExN "NoRank" (aVar 2)) (aCons (aExN "NoRow" (aVar 2)) aNil)))))))))
  (sSeq (sSet 5 (aOp gAdd (aVar 5) (aLst (aCons (aExN "NoSum" (aVar 2)) (aCons (aExN "NoText" (aVar 2)) (aCons (aExN "NotThere" (aVar 2)) (aCons (aExN "NothingLeft" (aVar 2)) (aCons (aExN "TooMany" (aVar 2)) (aCons (aExI "TooMuch" "most" (aVar 4)) aNil)))))))))
  (sSeq (sDrop (aMt mAppend (aVar 5) (aCons (aExN "Twice" (aVar 2)) aNil)))
  (sSeq (sSet 6 (aLst (aCons (aC (.str "Faulty")) (aCons (aC (.str "NoArticles")) (aCons (aC (.str "NoMan")) (aCons (aC (.str "NoPage")) (aCons (aC (.str "NoPages")) (aCons (aC (.str "NoRank")) (aCons (aC (.str "NoRow")) (aCons (aC (.str "NoSum")) (aCons (aC (.str "NoText")) (aCons (aC (.str "NotThere")) aNil))))))))))))
  (sSeq (sSet 6 (aOp gAdd (aVar 6) (aLst (aCons (aC (.str "NothingLeft")) (aCons (aC (.str "TooMany")) (aCons (aC (.str "TooMuch")) (aCons (aC (.str "Twice")) aNil)))))))
  (sSeq (sIf (aTst (aOp gNe (aLc (aAnyI (aVar 5)) [7] (gN 7) aYes (aCall0 c__law_kind_of (aCons (aVar 7) aNil))) (aLc (aAnyI (aVar 6)) [7] (gN 7) aYes (aOp gAdd (aVar 7) (aC (.str "+")))))) (sRet (aC (.bool false))) sNext)
  a_law_2))))))))))
theorem ss_law {w : World} {K : PySem.W.Frag} (kv : kitV K = true) (kf : fdlB K = true) (W : WX) : SS K W (t_law w K) a_law :=
  (ss_seq (ss_set (es_call (as_cons es_var (as_cons es_int as_nil))))
  (ss_seq (ss_set (es_op r2_ix (es_call (as_cons es_var (as_cons es_int as_nil))) es_int))
  (ss_seq (ss_set (es_tup (as_cons (es_tup (as_cons es_var (as_cons (es_call (as_cons es_var (as_cons (es_op r2_pow es_int es_int) as_nil))) (as_cons es_str as_nil)))) as_nil)))
  (ss_seq (ss_set (es_call (as_cons es_var (as_cons (es_op r2_pow es_int es_int) as_nil))))
  (ss_seq (ss_set (es_lst (as_cons (es_exI es_var) (as_cons (es_exN es_var) (as_cons (es_exN es_var) (as_cons (es_exN es_var) (as_cons (es_exN es_var) (as_cons (es_exN es_var) (as_cons (es_exN es_var) as_nil)))))))))
  (ss_seq (ss_set (es_op r2_add es_var (es_lst (as_cons (es_exN es_var) (as_cons (es_exN es_var) (as_cons (es_exN es_var) (as_cons (es_exN es_var) (as_cons (es_exN es_var) (as_cons (es_exI es_var) as_nil)))))))))
  (ss_seq (ss_drop (es_mt ms_append es_var (as_cons (es_exN es_var) as_nil)))
  (ss_seq (ss_set (es_lst (as_cons es_str (as_cons es_str (as_cons es_str (as_cons es_str (as_cons es_str (as_cons es_str (as_cons es_str (as_cons es_str (as_cons es_str (as_cons es_str as_nil))))))))))))
  (ss_seq (ss_set (es_op r2_add es_var (es_lst (as_cons es_str (as_cons es_str (as_cons es_str (as_cons es_str as_nil)))))))
  (ss_seq (ss_if (td_test (es_op r2_ne (es_lc (is_any es_var) gs_name td_yes (es_call (as_cons es_var as_nil)) (by decide)) (es_lc (is_any es_var) gs_name td_yes (es_op r2_add es_var es_str) (by decide)))) (ss_ret es_bl) ss_next)
  (ss_law_2  kv kf W)))))))))))

def c_law : Ct := fun ρ P _ => ∃ ns : List Int, ρ = [.scr ns] ∧ ∀ ρ', P (.dat (.bool true)) ρ'
theorem len_law (ρ : List AV) (P : RV → List AV → Prop) (PX : PXT) (h : c_law ρ P PX) : ρ.length = 1 := by
  obtain ⟨_, rfl, _⟩ := h
  rfl
theorem pure_law (ρ : List AV) (P : RV → List AV → Prop) (PX : PXT) (h : c_law ρ P PX) : a_law { nx := fun ρ' => P (.dat .none) ρ', rt := P, ex := PX } (ρ ++ List.replicate (N_law.length - ρ.length) .un) := by
  have eN : N_law.length = 8 := rfl
  obtain ⟨ns, rfl, h⟩ := h
  unfold a_law
  simp only [eN]
  walk_at "ax"
  refine ⟨ns, 0, rfl, by decide, by decide, fun a b ρ' hd => ?_⟩
  walk_at "ax"
  walk_at "bw"
  refine ⟨a, b, rfl, hd, fun w a1 b1 ρ' hw hok hd1 ho => ?_⟩
  rw [q_bk2, q_back1 ho]
  walk_at "ax"
  walk_at "bw"
  refine ⟨powOk (by decide) (by decide) (by decide), ?_⟩
  refine ⟨a1, b1, _, rfl, hd1, by decide, by decide, fun n1 a2 b2 ρ' hn0 hn1 hd2 ho => ?_⟩
  rw [q_bk1, q_back1 ho]
  walk_at "ax"
  walk_at "bw"
  refine ⟨powOk (by decide) (by decide) (by decide), ?_⟩
  refine ⟨a2, b2, _, rfl, hd2, by decide, by decide, fun n2 a3 b3 ρ' hm0 hm1 hd3 ho => ?_⟩
  rw [q_bk1, q_back1 ho]
  walk_at "ax"
  walk_at "bw"
  walk_at "bw"
  walk_at "bw"
  walk_at "fw"
  refine lcMap (fun d => [.scr ns, .ml none [.int a3, .int b3], .dat (.str w), .dat (.tuple [.tuple [.str w, .int n1, .str "two"]]), .dat (.int n2), .dat (.list (xsD w n1 n2)), .ml none (kAll.map .str), .dat d]) nmP (xsD w n1 n2) [] (fun d _ k hk => hk) (fun d _ => rfl) (fun d hd k hk => ?_) (by rw [sizeLine_eq]; simp [xsD]) ?_
  · obtain ⟨nm, e, hm⟩ := xsD_nm d hd
    walk_at "ax"
    refine ⟨nm, d, rfl, e, hm, fun ρ' => ?_⟩
    walk_at "ax"
    have e2 : nmP d = .str (nm ++ "+") := by unfold nmP; rw [e]
    rw [e2] at hk
    exact hk
  walk_at "ax"
  walk_at "fw"
  refine lcMap (fun d => [.scr ns, .ml none [.int a3, .int b3], .dat (.str w), .dat (.tuple [.tuple [.str w, .int n1, .str "two"]]), .dat (.int n2), .dat (.list (xsD w n1 n2)), .dat (.list (kAll.map .str)), .dat d]) strP (kAll.map .str) [] (fun d _ k hk => hk) (fun d _ => rfl) (fun d hd k hk => ?_) (by rw [sizeLine_eq]; simp [kAll]) ?_
  · obtain ⟨x, hx, rfl⟩ := List.mem_map.mp hd
    walk_at "ax"
    have := kAll_short x hx
    refine ⟨?_, hk⟩
    have : (PySem.Str.ofString "+").length = 1 := rfl
    omega
  have e1 : (xsD w n1 n2).map nmP = (kAll.map .str).map strP := rfl
  rw [e1]
  walk_at "ax"
  refine ⟨by decide +kernel, ?_⟩
  rw [if_pos (by decide +kernel)]
  unfold a_law_2
  walk_at "ax"
  refine lcPure (fun d => [.scr ns, .ml none [.int a3, .int b3], .dat (.str w), .dat (.tuple [.tuple [.str w, .int n1, .str "two"]]), .dat (.int n2), .dat (.list (xsD w n1 n2)), .dat (.list (kAll.map .str)), .dat d]) (fun _ => false) (fun d => d) (xsD w n1 n2) [] (fun d _ k hk => hk) (fun d _ => rfl) (fun d hd k hk => ?_) (fun d _ z => by cases z) (by rw [sizeLine_eq]; simp [xsD]) ?_
  · obtain ⟨nm, e, hm⟩ := xsD_nm d hd
    walk_at "ax"
    refine ⟨nm, e, hm, ?_⟩
    have e3 : isxB nm "WageError" = true := by simp [isxB]
    walk_at "ax"
    rw [e3]
    exact hk
  have e4 : ([] ++ List.map (fun d => d) (List.filter (fun x => false) (xsD w n1 n2)) : List PyData) = [] := rfl
  rw [e4]
  walk_at "ax"
  unfold a_law_1
  walk_at "ax"
  refine ⟨by decide, ?_⟩
  rw [if_pos (by rfl)]
  refine z_fd1 (by decide) (by decide) ?_
  walk_at "ax"
  have sh : SeqAt.shaped (PyData.tuple [PyData.tuple [PyData.str w, PyData.int n1, PyData.str (PySem.Str.ofString "two")]]) = true := by
    have e7 : PyData.strOk (PySem.Str.ofString "two") = true := by decide +kernel
    simp [SeqAt.shaped, PyData.canLay0, PyData.canLayAll0, PyData.depth, PyData.depthAll, hok, e7]
  refine ⟨sh, ?_⟩
  have e5 := eqv_shp sh
  rw [PyData.eqv] at e5
  rw [if_pos e5]
  have e6 : ∀ (l : List PyData) (x : PyData), l[12]? = some x → atI l 12 = some x := fun l x e => by
    have hl : 12 < l.length := (List.getElem?_eq_some_iff.mp e).1
    rw [atI_get (by decide) (by omega)]
    exact e
  rw [e6 _ (exiD "TooMuch" "most" (.int n2)) rfl]
  rw [q_withD]
  refine z_fd1 (by decide) (by decide) ?_
  walk_at "ax"
  refine q_strX (by decide) ?_
  walk_at "ax"
  exact ⟨by simp [SeqAt.shaped, PyData.canLay0, PyData.depth, hok], h _⟩
/-- how it is called -/
theorem law_go (ns : List Int) (hl : ns.length ≤ 63) (P : RV → List AV → Prop) (PX : PXT) (h : ∀ ρ', P (.dat (.bool true)) ρ') : c_law [.scr ns] P PX := ⟨ns, rfl, h⟩
end Cw
set_option maxHeartbeats 0
namespace Cw
open PySem PySem.Spec PyProof.Rows L2 Aq
section
variable {P : Program} {w : World} {K : PySem.W.Frag} {mg : Str → Option Value} {base : Heap}
theorem sc_Faulty : FnScope ["self", "faults"] ["self", "faults"] (defScope (met 8)) := ⟨rfl, rfl, rfl, by decide +kernel, rfl, by decide +kernel, by decide +kernel⟩
theorem ok_Faulty {f : Addr} {fd : FuncData} (F : FunD K "__init__" "Faulty.__init__" (defArgs (met 8)) (defBody (met 8)) (defScope (met 8)) [] [] f fd) (kf : fdlB K = true) (ki : initB K "WageError" = true) (gW : mg "WageError" = some (.ref (He.ga K "WageError"))) (hi : PySem.W.findIn K (.ref (He.ga K "Faulty")) "__init__" = some (some (.ref f)) ∧ PySem.W.typeIn K (.ref f) = some (.type "function")) : OexC K (He.ga K "Faulty") ∧ PySem.W.findIn K (.ref (He.ga K "Faulty")) "__init__" = some (some (.ref f)) ∧ PySem.W.typeIn K (.ref f) = some (.type "function") ∧ FnOk P w K mg base CX0 1 f fd ["self", "faults"] (spI (He.ga K "Faulty") "faults") ∧ Binds K fd ["self", "faults"] [] := by
  have q := fdlB_ok kf (p := ("Faulty", "faults")) (by decide)
  have nd := sc_Faulty.nd
  refine ⟨q.2, hi.1, hi.2, F.ok sc_Faulty (fun vs H Q E h => by obtain ⟨a, v, rfl, _⟩ := h; rfl) fun cdv A outer s H vs Q E hr h => ⟨tIni K "faults" "pages that cannot be", ?_, tIni_ok q.2 q.1 h (fun _ _ z => z)⟩, F.bindsN fun _ _ _ _ _ _ us hl => match us, hl with | [_, _], _ => rfl⟩
  exact pss_cons (ps_expr (pe_weinit (initB_ok ki) (by rfl) gW (pa_cons (pv 0) (pa_cons pe_str pa_nil)))) (pss_one (ps_ost (pv 0) (pv 1)))
theorem sc_TooMuch : FnScope ["self", "most"] ["self", "most"] (defScope (met 9)) := ⟨rfl, rfl, rfl, by decide +kernel, rfl, by decide +kernel, by decide +kernel⟩
theorem ok_TooMuch {f : Addr} {fd : FuncData} (F : FunD K "__init__" "TooMuch.__init__" (defArgs (met 9)) (defBody (met 9)) (defScope (met 9)) [] [] f fd) (kf : fdlB K = true) (ki : initB K "WageError" = true) (gW : mg "WageError" = some (.ref (He.ga K "WageError"))) (hi : PySem.W.findIn K (.ref (He.ga K "TooMuch")) "__init__" = some (some (.ref f)) ∧ PySem.W.typeIn K (.ref f) = some (.type "function")) : OexC K (He.ga K "TooMuch") ∧ PySem.W.findIn K (.ref (He.ga K "TooMuch")) "__init__" = some (some (.ref f)) ∧ PySem.W.typeIn K (.ref f) = some (.type "function") ∧ FnOk P w K mg base CX0 1 f fd ["self", "most"] (spI (He.ga K "TooMuch") "most") ∧ Binds K fd ["self", "most"] [] := by
  have q := fdlB_ok kf (p := ("TooMuch", "most")) (by decide)
  have nd := sc_TooMuch.nd
  refine ⟨q.2, hi.1, hi.2, F.ok sc_TooMuch (fun vs H Q E h => by obtain ⟨a, v, rfl, _⟩ := h; rfl) fun cdv A outer s H vs Q E hr h => ⟨tIni K "most" "more than there is room for", ?_, tIni_ok q.2 q.1 h (fun _ _ z => z)⟩, F.bindsN fun _ _ _ _ _ _ us hl => match us, hl with | [_, _], _ => rfl⟩
  exact pss_cons (ps_expr (pe_weinit (initB_ok ki) (by rfl) gW (pa_cons (pv 0) (pa_cons pe_str pa_nil)))) (pss_one (ps_ost (pv 0) (pv 1)))
theorem sc__law_draws : FnScope N__law_draws ["script", "k"] (defScope (top 17)) := ⟨rfl, rfl, rfl, by decide +kernel, rfl, by decide +kernel, by decide +kernel⟩
theorem ok__law_draws {f : Addr} {fd : FuncData} (F : FnP K "_law_draws" (top 17) f fd) (gm : mg "_law_draws" = some (.ref f)) (b_len : mg "len" = none) (b_int : mg "int" = none) : Fn P w K mg base CX0 1 "_law_draws" ["script", "k"] c__law_draws := by
  have nd := sc__law_draws.nd
  refine Fn.mk0 (k := 0) (t := t__law_draws w K) (a := a__law_draws) F sc__law_draws gm (F.bindsN fun _ _ _ _ _ _ us hl => match us, hl with | [_, _], _ => rfl) len__law_draws (fun W => ss__law_draws W) (pure__law_draws) fun cdv A outer s H E hr => ?_
  exact (pss_cons (ps_set (i := 2) nd rfl (by first | exact Or.inl rfl | exact Or.inr rfl) (pe_op op_mulW pe_int (pv 1)))
  (pss_cons (ps_if (pt_cmpR op_ltA (pv 1) (pe_callB call_len (by rfl) b_len (by decide +kernel) (pa_cons (pv 0) pa_nil)) (nomark _)) (pss_one (ps_set (i := 2) nd rfl (by first | exact Or.inl rfl | exact Or.inr rfl) (pe_op op_mod (pe_ix ix_seq (pv 0) (pv 1) (fun _ _ => rfl)) (pe_op op_mulW (pe_op op_pow pe_int pe_int) (pe_op op_pow pe_int pe_int))))) (pss_one (ps_if (pt_cmpR op_gtA (pe_callB call_len (by rfl) b_len (by decide +kernel) (pa_cons (pv 0) pa_nil)) pe_int (nomark _)) (pss_one (ps_set (i := 2) nd rfl (by first | exact Or.inl rfl | exact Or.inr rfl) (pe_op op_addA (pe_op op_mod (pe_ix ix_seq (pv 0) (pe_op op_mod (pv 1) (pe_callB call_len (by rfl) b_len (by decide +kernel) (pa_cons (pv 0) pa_nil))) (fun _ _ => rfl)) (pe_op op_pow pe_int pe_int)) (pe_op op_mulW pe_int (pv 1))))) pss_nil)))
  (pss_one (ps_ret (pe_lst (pa_cons (pe_op op_mulW (pv 2) (pe_callTy call_intA (by rfl) b_int (by decide +kernel) (pa_cons (pe_cmpR op_geA (pv 2) (pe_op op_pow pe_int pe_int) (nomark _)) pa_nil))) (pa_cons (pe_op op_addA pe_int (pe_op op_mod (pe_op op_addA (pe_op op_mulW (pv 2) pe_int) (pe_op op_mulW pe_int (pe_op op_addA (pv 1) pe_int))) pe_int)) pa_nil)))))))

theorem sc__law_draw : FnScope N__law_draw ["draws", "many"] (defScope (top 18)) := ⟨rfl, rfl, rfl, by decide +kernel, rfl, by decide +kernel, by decide +kernel⟩
theorem ok__law_draw {f : Addr} {fd : FuncData} (F : FnP K "_law_draw" (top 18) f fd) (gm : mg "_law_draw" = some (.ref f)) : Fn P w K mg base CX0 1 "_law_draw" ["draws", "many"] c__law_draw := by
  have nd := sc__law_draw.nd
  refine Fn.mk0 (k := 0) (t := t__law_draw w K) (a := a__law_draw) F sc__law_draw gm (F.bindsN fun _ _ _ _ _ _ us hl => match us, hl with | [_, _], _ => rfl) len__law_draw (fun W => ss__law_draw W) (pure__law_draw) fun cdv A outer s H E hr => ?_
  exact (pss_cons (ps_if (pt_cmpR op_gtA (pe_ix ix_seq (pv 0) pe_int (fun _ _ => rfl)) pe_int (nomark _)) (pss_cons (ps_set (i := 2) nd rfl (by first | exact Or.inl rfl | exact Or.inr rfl) (pe_op op_mod (pe_ix ix_seq (pv 0) pe_int (fun _ _ => rfl)) (pv 1)))
  (pss_cons (ps_asg (pe_op op_fdivW (pe_ix ix_seq (pv 0) pe_int (fun _ _ => rfl)) (pv 1)) (pg_sub (pv 0) pe_int set_list))
  (pss_one (ps_ret (pv 2))))) pss_nil)
  (pss_cons (ps_set (i := 2) nd rfl (by first | exact Or.inl rfl | exact Or.inr rfl) pe_int)
  (pss_cons (ps_set (i := 3) nd rfl (by first | exact Or.inl rfl | exact Or.inr rfl) pe_int)
  (pss_cons (ps_while PassesOwn.never (pt_cmpR op_ltA (pv 3) (pv 1) (nomark _)) (pss_cons (ps_asg (pe_op op_mod (pe_op op_mulW (pe_ix ix_seq (pv 0) pe_int (fun _ _ => rfl)) pe_int) pe_int) (pg_sub (pv 0) pe_int set_list))
  (pss_cons (ps_set (i := 2) nd rfl (by first | exact Or.inl rfl | exact Or.inr rfl) (pe_op op_addA (pe_op op_mulW (pv 2) pe_int) (pe_op op_fdivW (pe_op op_mod (pe_op op_mulW (pe_ix ix_seq (pv 0) pe_int (fun _ _ => rfl)) (pe_op op_addA (pe_op op_fdivW (pe_ix ix_seq (pv 0) pe_int (fun _ _ => rfl)) pe_int) pe_int)) pe_int) pe_int)))
  (pss_one (ps_set (i := 3) nd rfl (by first | exact Or.inl rfl | exact Or.inr rfl) (pe_op op_mulW (pv 3) pe_int))))))
  (pss_one (ps_ret (pe_op op_mod (pv 2) (pv 1))))))))

theorem sc__law_names : FnScope N__law_names ["draws", "many"] (defScope (top 19)) := ⟨rfl, rfl, rfl, by decide +kernel, rfl, by decide +kernel, by decide +kernel⟩
theorem ok__law_names {f : Addr} {fd : FuncData} (F : FnP K "_law_names" (top 19) f fd) (gm : mg "_law_names" = some (.ref f)) (b_range : mg "range" = none) (b_sorted : mg "sorted" = none) (F__law_draw : Fn P w K mg base CX0 1 "_law_draw" ["draws", "many"] c__law_draw) : Fn P w K mg base CX0 2 "_law_names" ["draws", "many"] c__law_names := by
  obtain ⟨f__law_draw, fd__law_draw, G__law_draw, m__law_draw, p__law_draw, n__law_draw⟩ := F__law_draw.ex
  have lv__law_draw : 1 ≤ 1 := by decide
  have nd := sc__law_names.nd
  refine Fn.mk0 (k := 1) (t := t__law_names w K) (a := a__law_names) F sc__law_names gm (F.bindsN fun _ _ _ _ _ _ us hl => match us, hl with | [_, _], _ => rfl) len__law_names (fun W => ss__law_names W) (pure__law_names) fun cdv A outer s H E hr => ?_
  exact (pss_cons (ps_set (i := 2) nd rfl (by first | exact Or.inl rfl | exact Or.inr rfl) pe_str)
  (pss_cons (ps_set (i := 3) nd rfl (by first | exact Or.inl rfl | exact Or.inr rfl) (pe_joinA pe_str (pe_lc (own := [("k", 6)]) (g := (gName 6)) (tt := tYes) (te := (tOp (rIx K) (tVar 2) (tCall (spOf K c__law_draw) [] E0 (tCons (tVar 0) (tCons (tC (.int 26)) tNil)))))  (by rfl) nd  (pi_range1 (by rfl) b_range (pa_cons (pe_ix ix_seq (pe_lst (pa_cons pe_int (pa_cons pe_int (pa_cons pe_int (pa_cons pe_int pa_nil))))) (pe_callN G__law_draw hr lv__law_draw (by rfl) m__law_draw p__law_draw n__law_draw (pa_cons (pv 0) (pa_cons pe_int pa_nil))) (fun _ _ => rfl)) pa_nil)) (blkOk_by (own := [("k", 6)]) (N := N__law_names) (sc := defScope (top 19)) (by decide +kernel)) (fun _ _ _ _ _ => (pg_name (i := 6) nd rfl (by first | exact Or.inl rfl | exact Or.inr rfl))) (fun _ _ _ _ _ => pts_nil) (fun _ _ _ _ _ => (pe_ix ix_seq (pv 2) (pe_callN G__law_draw hr lv__law_draw (by rfl) m__law_draw p__law_draw n__law_draw (pa_cons (pv 0) (pa_cons pe_int pa_nil))) (fun _ _ => rfl))))))
  (pss_cons (ps_set (i := 4) nd rfl (by first | exact Or.inl rfl | exact Or.inr rfl) (pe_callN G__law_draw hr lv__law_draw (by rfl) m__law_draw p__law_draw n__law_draw (pa_cons (pv 0) (pa_cons pe_int pa_nil))))
  (pss_cons (ps_set (i := 5) nd rfl (by first | exact Or.inl rfl | exact Or.inr rfl) (pe_ix ix_seq (pe_lst (pa_cons pe_int (pa_cons pe_int (pa_cons pe_int (pa_cons pe_int pa_nil))))) (pe_callN G__law_draw hr lv__law_draw (by rfl) m__law_draw p__law_draw n__law_draw (pa_cons (pv 0) (pa_cons pe_int pa_nil))) (fun _ _ => rfl)))
  (pss_one (ps_ret (pe_callB (AqS.cr_sortD hr.units) (by rfl) b_sorted (by decide +kernel) (pa_cons (pe_lc (own := [("k", 6)]) (g := (gName 6)) (tt := tYes) (te := (tOp (rAddA K) (tVar 3) (tOp (rIx K) (tVar 2) (tOp rModI (tOp (rAddA K) (tVar 4) (tOp rMulW (tVar 5) (tVar 6))) (tC (.int 26))))))  (by rfl) nd  (pi_range1 (by rfl) b_range (pa_cons (pv 1) pa_nil)) (blkOk_by (own := [("k", 6)]) (N := N__law_names) (sc := defScope (top 19)) (by decide +kernel)) (fun _ _ _ _ _ => (pg_name (i := 6) nd rfl (by first | exact Or.inl rfl | exact Or.inr rfl))) (fun _ _ _ _ _ => pts_nil) (fun _ _ _ _ _ => (pe_op op_addA (pv 3) (pe_ix ix_seq (pv 2) (pe_op op_mod (pe_op op_addA (pv 4) (pe_op op_mulW (pv 5) (pv 6))) pe_int) (fun _ _ => rfl))))) pa_nil))))))))

theorem sc__law_kind_of : FnScope N__law_kind_of ["e"] (defScope (top 20)) := ⟨rfl, rfl, rfl, by decide +kernel, rfl, by decide +kernel, by decide +kernel⟩
theorem ok__law_kind_of {f : Addr} {fd : FuncData} (F : FnP K "_law_kind_of" (top 20) f fd) (gm : mg "_law_kind_of" = some (.ref f)) (b_isinstance : mg "isinstance" = none) (b_ValueError : mg "ValueError" = none) (b_range : mg "range" = none) (kv : kitV K = true) (g_NoPage : mg "NoPage" = some (.ref (He.ga K "NoPage"))) (g_NoMan : mg "NoMan" = some (.ref (He.ga K "NoMan"))) (g_NoArticles : mg "NoArticles" = some (.ref (He.ga K "NoArticles"))) (g_Faulty : mg "Faulty" = some (.ref (He.ga K "Faulty"))) (g_NoSum : mg "NoSum" = some (.ref (He.ga K "NoSum"))) (g_NoRow : mg "NoRow" = some (.ref (He.ga K "NoRow"))) (g_NoRank : mg "NoRank" = some (.ref (He.ga K "NoRank"))) (g_NoPages : mg "NoPages" = some (.ref (He.ga K "NoPages"))) (g_TooMany : mg "TooMany" = some (.ref (He.ga K "TooMany"))) (g_NothingLeft : mg "NothingLeft" = some (.ref (He.ga K "NothingLeft"))) (g_NotThere : mg "NotThere" = some (.ref (He.ga K "NotThere"))) (g_NoText : mg "NoText" = some (.ref (He.ga K "NoText"))) (g_Twice : mg "Twice" = some (.ref (He.ga K "Twice"))) (g_TooMuch : mg "TooMuch" = some (.ref (He.ga K "TooMuch"))) : Fn P w K mg base CX0 1 "_law_kind_of" ["e"] c__law_kind_of := by
  have nd := sc__law_kind_of.nd
  refine Fn.mk0 (k := 0) (t := t__law_kind_of w K) (a := a__law_kind_of) F sc__law_kind_of gm (F.bindsN fun _ _ _ _ _ _ us hl => match us, hl with | [_], _ => rfl) len__law_kind_of (fun W => ss__law_kind_of kv W) (pure__law_kind_of) fun cdv A outer s H E hr => ?_
  exact (pss_cons (ps_set (i := 1) nd rfl (by first | exact Or.inl rfl | exact Or.inr rfl) (pe_lst (pa_cons (pe_callB call_isV (by rfl) b_isinstance (by decide +kernel) (pa_cons (pv 0) (pa_cons (pe_glob (v := .ref (He.ga K "Faulty")) (by rfl) g_Faulty rfl) pa_nil))) (pa_cons (pe_callB call_isV (by rfl) b_isinstance (by decide +kernel) (pa_cons (pv 0) (pa_cons (pe_glob (v := .ref (He.ga K "NoArticles")) (by rfl) g_NoArticles rfl) pa_nil))) (pa_cons (pe_callB call_isV (by rfl) b_isinstance (by decide +kernel) (pa_cons (pv 0) (pa_cons (pe_glob (v := .ref (He.ga K "NoMan")) (by rfl) g_NoMan rfl) pa_nil))) (pa_cons (pe_callB call_isV (by rfl) b_isinstance (by decide +kernel) (pa_cons (pv 0) (pa_cons (pe_glob (v := .ref (He.ga K "NoPage")) (by rfl) g_NoPage rfl) pa_nil))) pa_nil))))))
  (pss_cons (ps_set (i := 1) nd rfl (by first | exact Or.inl rfl | exact Or.inr rfl) (pe_op op_addA (pv 1) (pe_lst (pa_cons (pe_callB call_isV (by rfl) b_isinstance (by decide +kernel) (pa_cons (pv 0) (pa_cons (pe_glob (v := .ref (He.ga K "NoPages")) (by rfl) g_NoPages rfl) pa_nil))) (pa_cons (pe_callB call_isV (by rfl) b_isinstance (by decide +kernel) (pa_cons (pv 0) (pa_cons (pe_glob (v := .ref (He.ga K "NoRank")) (by rfl) g_NoRank rfl) pa_nil))) (pa_cons (pe_callB call_isV (by rfl) b_isinstance (by decide +kernel) (pa_cons (pv 0) (pa_cons (pe_glob (v := .ref (He.ga K "NoRow")) (by rfl) g_NoRow rfl) pa_nil))) (pa_cons (pe_callB call_isV (by rfl) b_isinstance (by decide +kernel) (pa_cons (pv 0) (pa_cons (pe_glob (v := .ref (He.ga K "NoSum")) (by rfl) g_NoSum rfl) pa_nil))) pa_nil)))))))
  (pss_cons (ps_set (i := 1) nd rfl (by first | exact Or.inl rfl | exact Or.inr rfl) (pe_op op_addA (pv 1) (pe_lst (pa_cons (pe_callB call_isV (by rfl) b_isinstance (by decide +kernel) (pa_cons (pv 0) (pa_cons (pe_glob (v := .ref (He.ga K "NoText")) (by rfl) g_NoText rfl) pa_nil))) (pa_cons (pe_callB call_isV (by rfl) b_isinstance (by decide +kernel) (pa_cons (pv 0) (pa_cons (pe_glob (v := .ref (He.ga K "NotThere")) (by rfl) g_NotThere rfl) pa_nil))) (pa_cons (pe_callB call_isV (by rfl) b_isinstance (by decide +kernel) (pa_cons (pv 0) (pa_cons (pe_glob (v := .ref (He.ga K "NothingLeft")) (by rfl) g_NothingLeft rfl) pa_nil))) (pa_cons (pe_callB call_isV (by rfl) b_isinstance (by decide +kernel) (pa_cons (pv 0) (pa_cons (pe_glob (v := .ref (He.ga K "TooMany")) (by rfl) g_TooMany rfl) pa_nil))) pa_nil)))))))
  (pss_cons (ps_set (i := 1) nd rfl (by first | exact Or.inl rfl | exact Or.inr rfl) (pe_op op_addA (pv 1) (pe_lst (pa_cons (pe_callB call_isV (by rfl) b_isinstance (by decide +kernel) (pa_cons (pv 0) (pa_cons (pe_glob (v := .ref (He.ga K "TooMuch")) (by rfl) g_TooMuch rfl) pa_nil))) (pa_cons (pe_callB call_isV (by rfl) b_isinstance (by decide +kernel) (pa_cons (pv 0) (pa_cons (pe_glob (v := .ref (He.ga K "Twice")) (by rfl) g_Twice rfl) pa_nil))) (pa_cons (pe_callB call_isV (by rfl) b_isinstance (by decide +kernel) (pa_cons (pv 0) (pa_cons (pe_bltn (v := .ty "ValueError") (by rfl) b_ValueError (by decide +kernel) rfl) pa_nil))) pa_nil))))))
  (pss_cons (ps_set (i := 2) nd rfl (by first | exact Or.inl rfl | exact Or.inr rfl) (pe_lst (pa_cons pe_str (pa_cons pe_str (pa_cons pe_str (pa_cons pe_str (pa_cons pe_str (pa_cons pe_str (pa_cons pe_str (pa_cons pe_str (pa_cons pe_str (pa_cons pe_str pa_nil))))))))))))
  (pss_cons (ps_set (i := 2) nd rfl (by first | exact Or.inl rfl | exact Or.inr rfl) (pe_op op_addA (pv 2) (pe_lst (pa_cons pe_str (pa_cons pe_str (pa_cons pe_str (pa_cons pe_str (pa_cons pe_str pa_nil))))))))
  (pss_one (ps_ret (pe_joinA pe_str (pe_lc (own := [("k", 3)]) (g := (gName 3)) (tt := (tTru K (tOp (rIx K) (tVar 1) (tVar 3)))) (te := (tOp (rIx K) (tVar 2) (tVar 3)))  (by rfl) nd  (pi_range1 (by rfl) b_range (pa_cons pe_int pa_nil)) (blkOk_by (own := [("k", 3)]) (N := N__law_kind_of) (sc := defScope (top 20)) (by decide +kernel)) (fun _ _ _ _ _ => (pg_name (i := 3) nd rfl (by first | exact Or.inl rfl | exact Or.inr rfl))) (fun _ _ _ _ _ => (pts_one (pt_tru (pe_ix ix_seq (pv 1) (pv 3) (fun _ _ => rfl))))) (fun _ _ _ _ _ => (pe_ix ix_seq (pv 2) (pv 3) (fun _ _ => rfl)))))))))))))

theorem sc_law : FnScope N_law ["script"] (defScope (top 21)) := ⟨rfl, rfl, rfl, by decide +kernel, rfl, by decide +kernel, by decide +kernel⟩
theorem ok_law {f : Addr} {fd : FuncData} (F : FnP K "law" (top 21) f fd) (gm : mg "law" = some (.ref f)) (b_isinstance : mg "isinstance" = none) (b_str : mg "str" = none) {fI_Faulty : Addr} {fdI_Faulty : FuncData} (o_Faulty : OexC K (He.ga K "Faulty") ∧ PySem.W.findIn K (.ref (He.ga K "Faulty")) "__init__" = some (some (.ref fI_Faulty)) ∧ PySem.W.typeIn K (.ref fI_Faulty) = some (.type "function") ∧ FnOk P w K mg base CX0 1 fI_Faulty fdI_Faulty ["self", "faults"] (spI (He.ga K "Faulty") "faults") ∧ Binds K fdI_Faulty ["self", "faults"] []) {fI_TooMuch : Addr} {fdI_TooMuch : FuncData} (o_TooMuch : OexC K (He.ga K "TooMuch") ∧ PySem.W.findIn K (.ref (He.ga K "TooMuch")) "__init__" = some (some (.ref fI_TooMuch)) ∧ PySem.W.typeIn K (.ref fI_TooMuch) = some (.type "function") ∧ FnOk P w K mg base CX0 1 fI_TooMuch fdI_TooMuch ["self", "most"] (spI (He.ga K "TooMuch") "most") ∧ Binds K fdI_TooMuch ["self", "most"] []) (kv : kitV K = true) (kf : fdlB K = true) (g_Faulty : mg "Faulty" = some (.ref (He.ga K "Faulty"))) (g_TooMuch : mg "TooMuch" = some (.ref (He.ga K "TooMuch"))) (g_WageError : mg "WageError" = some (.ref (He.ga K "WageError"))) (g_NoRow : mg "NoRow" = some (.ref (He.ga K "NoRow"))) (g_NoRank : mg "NoRank" = some (.ref (He.ga K "NoRank"))) (g_NoPages : mg "NoPages" = some (.ref (He.ga K "NoPages"))) (g_NoPage : mg "NoPage" = some (.ref (He.ga K "NoPage"))) (g_NoMan : mg "NoMan" = some (.ref (He.ga K "NoMan"))) (g_NoArticles : mg "NoArticles" = some (.ref (He.ga K "NoArticles"))) (g_TooMany : mg "TooMany" = some (.ref (He.ga K "TooMany"))) (g_NothingLeft : mg "NothingLeft" = some (.ref (He.ga K "NothingLeft"))) (g_NotThere : mg "NotThere" = some (.ref (He.ga K "NotThere"))) (g_NoText : mg "NoText" = some (.ref (He.ga K "NoText"))) (g_NoSum : mg "NoSum" = some (.ref (He.ga K "NoSum"))) (g_Twice : mg "Twice" = some (.ref (He.ga K "Twice"))) (x_NoRow : PySem.W.excIn K (He.ga K "NoRow") He.veBase "ValueError.__new__" = true ∧ PySem.W.keepIn K (.ref (He.ga K "NoRow")) = true ∧ PySem.W.subIn K (.ref (He.ga K "NoRow")) (.type "BaseException") = some true ∧ PySem.W.typeIn K (.ref (He.ga K "NoRow")) = some (.type "type")) (x_NoRank : PySem.W.excIn K (He.ga K "NoRank") He.veBase "ValueError.__new__" = true ∧ PySem.W.keepIn K (.ref (He.ga K "NoRank")) = true ∧ PySem.W.subIn K (.ref (He.ga K "NoRank")) (.type "BaseException") = some true ∧ PySem.W.typeIn K (.ref (He.ga K "NoRank")) = some (.type "type")) (x_NoPages : PySem.W.excIn K (He.ga K "NoPages") He.veBase "ValueError.__new__" = true ∧ PySem.W.keepIn K (.ref (He.ga K "NoPages")) = true ∧ PySem.W.subIn K (.ref (He.ga K "NoPages")) (.type "BaseException") = some true ∧ PySem.W.typeIn K (.ref (He.ga K "NoPages")) = some (.type "type")) (x_NoPage : PySem.W.excIn K (He.ga K "NoPage") He.veBase "ValueError.__new__" = true ∧ PySem.W.keepIn K (.ref (He.ga K "NoPage")) = true ∧ PySem.W.subIn K (.ref (He.ga K "NoPage")) (.type "BaseException") = some true ∧ PySem.W.typeIn K (.ref (He.ga K "NoPage")) = some (.type "type")) (x_NoMan : PySem.W.excIn K (He.ga K "NoMan") He.veBase "ValueError.__new__" = true ∧ PySem.W.keepIn K (.ref (He.ga K "NoMan")) = true ∧ PySem.W.subIn K (.ref (He.ga K "NoMan")) (.type "BaseException") = some true ∧ PySem.W.typeIn K (.ref (He.ga K "NoMan")) = some (.type "type")) (x_NoArticles : PySem.W.excIn K (He.ga K "NoArticles") He.veBase "ValueError.__new__" = true ∧ PySem.W.keepIn K (.ref (He.ga K "NoArticles")) = true ∧ PySem.W.subIn K (.ref (He.ga K "NoArticles")) (.type "BaseException") = some true ∧ PySem.W.typeIn K (.ref (He.ga K "NoArticles")) = some (.type "type")) (x_TooMany : PySem.W.excIn K (He.ga K "TooMany") He.veBase "ValueError.__new__" = true ∧ PySem.W.keepIn K (.ref (He.ga K "TooMany")) = true ∧ PySem.W.subIn K (.ref (He.ga K "TooMany")) (.type "BaseException") = some true ∧ PySem.W.typeIn K (.ref (He.ga K "TooMany")) = some (.type "type")) (x_NothingLeft : PySem.W.excIn K (He.ga K "NothingLeft") He.veBase "ValueError.__new__" = true ∧ PySem.W.keepIn K (.ref (He.ga K "NothingLeft")) = true ∧ PySem.W.subIn K (.ref (He.ga K "NothingLeft")) (.type "BaseException") = some true ∧ PySem.W.typeIn K (.ref (He.ga K "NothingLeft")) = some (.type "type")) (x_NotThere : PySem.W.excIn K (He.ga K "NotThere") He.veBase "ValueError.__new__" = true ∧ PySem.W.keepIn K (.ref (He.ga K "NotThere")) = true ∧ PySem.W.subIn K (.ref (He.ga K "NotThere")) (.type "BaseException") = some true ∧ PySem.W.typeIn K (.ref (He.ga K "NotThere")) = some (.type "type")) (x_NoText : PySem.W.excIn K (He.ga K "NoText") He.veBase "ValueError.__new__" = true ∧ PySem.W.keepIn K (.ref (He.ga K "NoText")) = true ∧ PySem.W.subIn K (.ref (He.ga K "NoText")) (.type "BaseException") = some true ∧ PySem.W.typeIn K (.ref (He.ga K "NoText")) = some (.type "type")) (x_NoSum : PySem.W.excIn K (He.ga K "NoSum") He.veBase "ValueError.__new__" = true ∧ PySem.W.keepIn K (.ref (He.ga K "NoSum")) = true ∧ PySem.W.subIn K (.ref (He.ga K "NoSum")) (.type "BaseException") = some true ∧ PySem.W.typeIn K (.ref (He.ga K "NoSum")) = some (.type "type")) (x_Twice : PySem.W.excIn K (He.ga K "Twice") He.veBase "ValueError.__new__" = true ∧ PySem.W.keepIn K (.ref (He.ga K "Twice")) = true ∧ PySem.W.subIn K (.ref (He.ga K "Twice")) (.type "BaseException") = some true ∧ PySem.W.typeIn K (.ref (He.ga K "Twice")) = some (.type "type")) (F__law_draws : Fn P w K mg base CX0 1 "_law_draws" ["script", "k"] c__law_draws) (F__law_names : Fn P w K mg base CX0 2 "_law_names" ["draws", "many"] c__law_names) (F__law_draw : Fn P w K mg base CX0 1 "_law_draw" ["draws", "many"] c__law_draw) (F__law_kind_of : Fn P w K mg base CX0 1 "_law_kind_of" ["e"] c__law_kind_of) : FnOk P w K mg base CX0 3 f fd ["script"] (spOf K c_law) := by
  obtain ⟨f__law_draws, fd__law_draws, G__law_draws, m__law_draws, p__law_draws, n__law_draws⟩ := F__law_draws.ex
  have lv__law_draws : 1 ≤ 2 := by decide
  obtain ⟨f__law_names, fd__law_names, G__law_names, m__law_names, p__law_names, n__law_names⟩ := F__law_names.ex
  have lv__law_names : 2 ≤ 2 := by decide
  obtain ⟨f__law_draw, fd__law_draw, G__law_draw, m__law_draw, p__law_draw, n__law_draw⟩ := F__law_draw.ex
  have lv__law_draw : 1 ≤ 2 := by decide
  obtain ⟨f__law_kind_of, fd__law_kind_of, G__law_kind_of, m__law_kind_of, p__law_kind_of, n__law_kind_of⟩ := F__law_kind_of.ex
  have lv__law_kind_of : 1 ≤ 2 := by decide
  have nd := sc_law.nd
  refine okLaw (k := 2) (t := t_law w K) (a := a_law) F sc_law len_law (fun W => ss_law kv kf W) (pure_law) fun cdv A outer s H E hr => ?_
  exact (pss_cons (ps_set (i := 1) nd rfl (by first | exact Or.inl rfl | exact Or.inr rfl) (pe_callN G__law_draws hr lv__law_draws (by rfl) m__law_draws p__law_draws n__law_draws (pa_cons (pv 0) (pa_cons pe_int pa_nil))))
  (pss_cons (ps_set (i := 2) nd rfl (by first | exact Or.inl rfl | exact Or.inr rfl) (pe_ix ix_seq (pe_callN G__law_names hr lv__law_names (by rfl) m__law_names p__law_names n__law_names (pa_cons (pv 1) (pa_cons pe_int pa_nil))) pe_int (fun _ _ => rfl)))
  (pss_cons (ps_set (i := 3) nd rfl (by first | exact Or.inl rfl | exact Or.inr rfl) (pe_tup (pa_cons (pe_tup (pa_cons (pv 2) (pa_cons (pe_callN G__law_draw hr lv__law_draw (by rfl) m__law_draw p__law_draw n__law_draw (pa_cons (pv 1) (pa_cons (pe_op op_pow pe_int pe_int) pa_nil))) (pa_cons pe_str pa_nil)))) pa_nil)))
  (pss_cons (ps_set (i := 4) nd rfl (by first | exact Or.inl rfl | exact Or.inr rfl) (pe_callN G__law_draw hr lv__law_draw (by rfl) m__law_draw p__law_draw n__law_draw (pa_cons (pv 1) (pa_cons (pe_op op_pow pe_int pe_int) pa_nil))))
  (pss_cons (ps_set (i := 5) nd rfl (by first | exact Or.inl rfl | exact Or.inr rfl) (pe_lst (pa_cons (pe_mkV o_Faulty.1 o_Faulty.2.1 o_Faulty.2.2.1 o_Faulty.2.2.2.1 (hr.mono (by decide)) o_Faulty.2.2.2.2 pass0 (by rfl) g_Faulty (pa_cons (pv 3) pa_nil)) (pa_cons (pe_excN PySem.F.excBase_ValueError x_NoArticles.1 g_NoArticles x_NoArticles.2.1 (by rfl) (pv 2)) (pa_cons (pe_excN PySem.F.excBase_ValueError x_NoMan.1 g_NoMan x_NoMan.2.1 (by rfl) (pv 2)) (pa_cons (pe_excN PySem.F.excBase_ValueError x_NoPage.1 g_NoPage x_NoPage.2.1 (by rfl) (pv 2)) (pa_cons (pe_excN PySem.F.excBase_ValueError x_NoPages.1 g_NoPages x_NoPages.2.1 (by rfl) (pv 2)) (pa_cons (pe_excN PySem.F.excBase_ValueError x_NoRank.1 g_NoRank x_NoRank.2.1 (by rfl) (pv 2)) (pa_cons (pe_excN PySem.F.excBase_ValueError x_NoRow.1 g_NoRow x_NoRow.2.1 (by rfl) (pv 2)) pa_nil)))))))))
  (pss_cons (ps_set (i := 5) nd rfl (by first | exact Or.inl rfl | exact Or.inr rfl) (pe_op op_addA (pv 5) (pe_lst (pa_cons (pe_excN PySem.F.excBase_ValueError x_NoSum.1 g_NoSum x_NoSum.2.1 (by rfl) (pv 2)) (pa_cons (pe_excN PySem.F.excBase_ValueError x_NoText.1 g_NoText x_NoText.2.1 (by rfl) (pv 2)) (pa_cons (pe_excN PySem.F.excBase_ValueError x_NotThere.1 g_NotThere x_NotThere.2.1 (by rfl) (pv 2)) (pa_cons (pe_excN PySem.F.excBase_ValueError x_NothingLeft.1 g_NothingLeft x_NothingLeft.2.1 (by rfl) (pv 2)) (pa_cons (pe_excN PySem.F.excBase_ValueError x_TooMany.1 g_TooMany x_TooMany.2.1 (by rfl) (pv 2)) (pa_cons (pe_mkV o_TooMuch.1 o_TooMuch.2.1 o_TooMuch.2.2.1 o_TooMuch.2.2.2.1 (hr.mono (by decide)) o_TooMuch.2.2.2.2 pass0 (by rfl) g_TooMuch (pa_cons (pv 4) pa_nil)) pa_nil)))))))))
  (pss_cons (ps_expr (pe_bm PySem.F.plainAttrs_list PySem.F.slot_list_append PySem.F.type_list_append mt_append (pv 5) (pa_cons (pe_excN PySem.F.excBase_ValueError x_Twice.1 g_Twice x_Twice.2.1 (by rfl) (pv 2)) pa_nil)))
  (pss_cons (ps_set (i := 6) nd rfl (by first | exact Or.inl rfl | exact Or.inr rfl) (pe_lst (pa_cons pe_str (pa_cons pe_str (pa_cons pe_str (pa_cons pe_str (pa_cons pe_str (pa_cons pe_str (pa_cons pe_str (pa_cons pe_str (pa_cons pe_str (pa_cons pe_str pa_nil))))))))))))
  (pss_cons (ps_set (i := 6) nd rfl (by first | exact Or.inl rfl | exact Or.inr rfl) (pe_op op_addA (pv 6) (pe_lst (pa_cons pe_str (pa_cons pe_str (pa_cons pe_str (pa_cons pe_str pa_nil)))))))
  (pss_cons (ps_if (pt_cmpR (op_neD hr.units) (pe_lc (own := [("one", 7)]) (g := (gName 7)) (tt := tYes) (te := (tCall (spOf K c__law_kind_of) [] E0 (tCons (tVar 7) tNil)))  (by rfl) nd  (pi_any (pv 5)) (blkOk_by (own := [("one", 7)]) (N := N_law) (sc := defScope (top 21)) (by decide +kernel)) (fun _ _ _ _ _ => (pg_name (i := 7) nd rfl (by first | exact Or.inl rfl | exact Or.inr rfl))) (fun _ _ _ _ _ => pts_nil) (fun _ _ _ _ _ => (pe_callN G__law_kind_of hr lv__law_kind_of (by rfl) m__law_kind_of p__law_kind_of n__law_kind_of (pa_cons (pv 7) pa_nil)))) (pe_lc (own := [("one", 7)]) (g := (gName 7)) (tt := tYes) (te := (tOp (rAddA K) (tVar 7) (tC (.str "+"))))  (by rfl) nd  (pi_any (pv 6)) (blkOk_by (own := [("one", 7)]) (N := N_law) (sc := defScope (top 21)) (by decide +kernel)) (fun _ _ _ _ _ => (pg_name (i := 7) nd rfl (by first | exact Or.inl rfl | exact Or.inr rfl))) (fun _ _ _ _ _ => pts_nil) (fun _ _ _ _ _ => (pe_op op_addA (pv 7) pe_str))) (nomark _)) (pss_one (ps_ret pe_bl)) pss_nil)
  (pss_cons (ps_if (pt_cmpR (op_neD hr.units) (pe_lc (own := [("one", 7)]) (g := (gName 7)) (tt := (tNot (tTru K (tCB (rIsV K) (tCons (tVar 7) (tCons (tC (.ref (He.ga K "WageError"))) tNil)))))) (te := (tVar 7))  (by rfl) nd  (pi_any (pv 5)) (blkOk_by (own := [("one", 7)]) (N := N_law) (sc := defScope (top 21)) (by decide +kernel)) (fun _ _ _ _ _ => (pg_name (i := 7) nd rfl (by first | exact Or.inl rfl | exact Or.inr rfl))) (fun _ _ _ _ _ => (pts_one (pt_not (pt_tru (pe_callB call_isV (by rfl) b_isinstance (by decide +kernel) (pa_cons (pv 7) (pa_cons (pe_glob (v := .ref (He.ga K "WageError")) (by rfl) g_WageError rfl) pa_nil))))))) (fun _ _ _ _ _ => (pv 7))) (pe_lst pa_nil) (nomark _)) (pss_one (ps_ret pe_bl)) pss_nil)
  (pss_one (ps_ret (pe_andT (pe_cmpR (op_eqD hr.units) (pe_fd (pe_ix ix_seq (pv 5) pe_int (fun _ _ => rfl))) (pv 3) (nomark _)) (pe_andT (pe_cmpR (op_eqD hr.units) (pe_fd (pe_ix ix_seq (pv 5) pe_int (fun _ _ => rfl))) (pv 4) (nomark _)) (pe_one (pe_cmpR (op_eqD hr.units) (pe_callTy (call_strX hr.units) (by rfl) b_str (by decide +kernel) (pa_cons (pe_ix ix_seq (pv 5) pe_int (fun _ _ => rfl)) pa_nil)) (pv 2) (nomark _))))))))))))))))))

end
theorem facts {P : Program} {w : World} {K : PySem.W.Frag} {h : Heap} {mg : Str → Option Value} {f : Addr} (X : K.In h) (G : h.Ns mainGlobals mg) (hfa : mg ("law" : Str) = some (.ref f)) (c : He.SaysD fa fn K) (kx : exK K = true) :
    ∃ fd : FuncData, (∀ (s : Shared) (v : Value), BindsTo s fd ⟨[v], []⟩ [("script", v)]) ∧ ∀ base : Heap, K.In base → base.Ns mainGlobals mg → FnOk P w K mg base CX0 3 f fd ["script"] (spOf K c_law) := by
  obtain ⟨kv, kx⟩ := He.ba kx
  obtain ⟨kf, kx⟩ := He.ba kx
  obtain ⟨ki, kx⟩ := He.ba kx
  obtain ⟨ka, kb⟩ := He.ba kx
  obtain ⟨fd__law_draws, P__law_draws⟩ := c.def_ 0 (d := d__law_draws) rfl
  obtain ⟨fd__law_draw, P__law_draw⟩ := c.def_ 1 (d := d__law_draw) rfl
  obtain ⟨fd__law_names, P__law_names⟩ := c.def_ 2 (d := d__law_names) rfl
  obtain ⟨fd__law_kind_of, P__law_kind_of⟩ := c.def_ 3 (d := d__law_kind_of) rfl
  obtain ⟨fd_law, P_law⟩ := c.def_ 4 (d := d_law) rfl
  obtain ⟨fd_Faulty, P_Faulty⟩ := c.def_ 5 (d := d_Faulty) rfl
  obtain ⟨fd_TooMuch, P_TooMuch⟩ := c.def_ 6 (d := d_TooMuch) rfl
  have g__law_draws := He.glo_ok X G (c.fact 0 (f := .glo "_law_draws") rfl)
  have g__law_draw := He.glo_ok X G (c.fact 1 (f := .glo "_law_draw") rfl)
  have g__law_names := He.glo_ok X G (c.fact 2 (f := .glo "_law_names") rfl)
  have g__law_kind_of := He.glo_ok X G (c.fact 3 (f := .glo "_law_kind_of") rfl)
  have g_law := He.glo_ok X G (c.fact 4 (f := .glo "law") rfl)
  have b_len := He.free_ok X G (c.fact 5 (f := .free "len") rfl)
  have b_int := He.free_ok X G (c.fact 6 (f := .free "int") rfl)
  have b_range := He.free_ok X G (c.fact 7 (f := .free "range") rfl)
  have b_sorted := He.free_ok X G (c.fact 8 (f := .free "sorted") rfl)
  have b_isinstance := He.free_ok X G (c.fact 9 (f := .free "isinstance") rfl)
  have b_ValueError := He.free_ok X G (c.fact 10 (f := .free "ValueError") rfl)
  have b_str := He.free_ok X G (c.fact 11 (f := .free "str") rfl)
  have g_NoPage := He.glo_ok X G (c.fact 12 (f := .glo "NoPage") rfl)
  have g_NoMan := He.glo_ok X G (c.fact 13 (f := .glo "NoMan") rfl)
  have g_NoArticles := He.glo_ok X G (c.fact 14 (f := .glo "NoArticles") rfl)
  have g_Faulty := He.glo_ok X G (c.fact 15 (f := .glo "Faulty") rfl)
  have g_NoSum := He.glo_ok X G (c.fact 16 (f := .glo "NoSum") rfl)
  have g_NoRow := He.glo_ok X G (c.fact 17 (f := .glo "NoRow") rfl)
  have g_NoRank := He.glo_ok X G (c.fact 18 (f := .glo "NoRank") rfl)
  have g_NoPages := He.glo_ok X G (c.fact 19 (f := .glo "NoPages") rfl)
  have g_TooMany := He.glo_ok X G (c.fact 20 (f := .glo "TooMany") rfl)
  have g_NothingLeft := He.glo_ok X G (c.fact 21 (f := .glo "NothingLeft") rfl)
  have g_NotThere := He.glo_ok X G (c.fact 22 (f := .glo "NotThere") rfl)
  have g_NoText := He.glo_ok X G (c.fact 23 (f := .glo "NoText") rfl)
  have g_Twice := He.glo_ok X G (c.fact 24 (f := .glo "Twice") rfl)
  have g_TooMuch := He.glo_ok X G (c.fact 25 (f := .glo "TooMuch") rfl)
  have g_WageError := He.glo_ok X G (c.fact 26 (f := .glo "WageError") rfl)
  have x_NoRow := He.exc_ok (c.fact 27 (f := .exc "NoRow") rfl)
  have x_NoRank := He.exc_ok (c.fact 28 (f := .exc "NoRank") rfl)
  have x_NoPages := He.exc_ok (c.fact 29 (f := .exc "NoPages") rfl)
  have x_NoPage := He.exc_ok (c.fact 30 (f := .exc "NoPage") rfl)
  have x_NoMan := He.exc_ok (c.fact 31 (f := .exc "NoMan") rfl)
  have x_NoArticles := He.exc_ok (c.fact 32 (f := .exc "NoArticles") rfl)
  have x_TooMany := He.exc_ok (c.fact 33 (f := .exc "TooMany") rfl)
  have x_NothingLeft := He.exc_ok (c.fact 34 (f := .exc "NothingLeft") rfl)
  have x_NotThere := He.exc_ok (c.fact 35 (f := .exc "NotThere") rfl)
  have x_NoText := He.exc_ok (c.fact 36 (f := .exc "NoText") rfl)
  have x_NoSum := He.exc_ok (c.fact 37 (f := .exc "NoSum") rfl)
  have x_Twice := He.exc_ok (c.fact 38 (f := .exc "Twice") rfl)
  have e := hfa.symm.trans g_law
  cases e
  have b := FunD.bindsA (ps := ["script"]) P_law fun _ _ _ _ _ _ us hl => match us, hl with | [_], _ => rfl
  refine ⟨fd_law, fun s v => b s [v] rfl, fun base _ _ => ?_⟩
  have o_Faulty := ok_Faulty (P := P) (w := w) (base := base) P_Faulty kf ki g_WageError (iniB_ok ka)
  have o_TooMuch := ok_TooMuch (P := P) (w := w) (base := base) P_TooMuch kf ki g_WageError (iniB_ok kb)
  have F__law_draws := ok__law_draws (P := P) (w := w) (base := base) P__law_draws g__law_draws b_len b_int
  have F__law_draw := ok__law_draw (P := P) (w := w) (base := base) P__law_draw g__law_draw
  have F__law_names := ok__law_names (P := P) (w := w) (base := base) P__law_names g__law_names b_range b_sorted F__law_draw
  have F__law_kind_of := ok__law_kind_of (P := P) (w := w) (base := base) P__law_kind_of g__law_kind_of b_isinstance b_ValueError b_range kv g_NoPage g_NoMan g_NoArticles g_Faulty g_NoSum g_NoRow g_NoRank g_NoPages g_TooMany g_NothingLeft g_NotThere g_NoText g_Twice g_TooMuch
  exact ok_law P_law g_law b_isinstance b_str o_Faulty o_TooMuch kv kf g_Faulty g_TooMuch g_WageError g_NoRow g_NoRank g_NoPages g_NoPage g_NoMan g_NoArticles g_TooMany g_NothingLeft g_NotThere g_NoText g_NoSum g_Twice x_NoRow x_NoRank x_NoPages x_NoPage x_NoMan x_NoArticles x_TooMany x_NothingLeft x_NotThere x_NoText x_NoSum x_Twice F__law_draws F__law_names F__law_draw F__law_kind_of
end Cw
open PySem PySem.W PySem.Calls PyProof.Rows
theorem PySem.Challenge.cw_crewpay_k96_refusals_apart_holds : PySem.Challenge.rw_crewpay_k96_refusals_apart.Holds := by
  w_on; o_law
  refine HandSHeadRun.head_any (r := OpenLaw.row PySem.Challenge.rw_crewpay_k96_refusals_apart) (q := view (OpenLaw.row PySem.Challenge.rw_crewpay_k96_refusals_apart).prog [21]) (H := Cw.hk) (ob := Cw.ob) (M := 20000) (loose := Cw.names) (d := HandSHeadRun.topDef (OpenLaw.row PySem.Challenge.rw_crewpay_k96_refusals_apart).prog 21) (kwd := []) Cw.ob_eq
    (by kernel_rfl) (fun s => by kernel_rfl) Cw.run (by kernel_rfl) (by kernel_rfl) (by kernel_rfl) (by rfl) (by first | assumption | decide +kernel) (by decide +kernel) ⟨rfl, rfl, rfl, rfl, rfl, by decide +kernel⟩ ?hw ?hc
  case hw => w_witness2
  case hc =>
    refine L2.walk_ofE (l := PySem.Challenge.rw_crewpay_k96_refusals_apart) (n := 63) (k := 3) (x := "script") (CX := L2.CX0) rfl (by decide) (by kernel_rfl) ⟨rfl, by decide, by decide⟩ ?F (fun _ _ _ _ z => z)
    intro w mg fa h Y G hmg0
    obtain ⟨K, KX, c, kx⟩ := Y
    have hmg : mg ("law" : PySem.Str) = some (.ref fa) := by
      have e : (HandSHeadRun.topDef (OpenLaw.row PySem.Challenge.rw_crewpay_k96_refusals_apart).prog 21).name = ("law" : PySem.Str) := by kernel_rfl
      rw [← e]
      exact hmg0
    obtain ⟨fd, hb, hF⟩ := Cw.facts (P := (PySem.Challenge.rw_crewpay_k96_refusals_apart).prog) (w := w) KX G hmg c kx
    exact ⟨K, fd, Aq.spOf K Cw.c_law, KX, hb, fun H a ns hl _ hS => Aq.law_start hS fun P PX h => Cw.law_go ns hl P PX h, hF⟩

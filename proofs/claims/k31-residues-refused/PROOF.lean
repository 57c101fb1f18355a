import PyProof.Rows.All
import Wide.All
import OpenK.AllK
import Wide.FinOn
import HandS.HeadWalk
import HandS.HeadHook4
import HandS.HeadNt
import HandS.ExcField
import HandS.ExcInit
import HandS.ExcOwn
import HandS.Head2
import HandS.HeadEnd
import HandS.ForMost
import HandS.Exc
import HandS.TryOnly
import HandS.TryMany
import HandS.WordsExc
import HandS.Wide
import HandS.Walk
import HandS.IsInst
import HandS.TupAny
import HandS.TupMul
import HandS.Star
import HandS.Zip
import HandS.Lambda
import HandS.HeadHook1
import HandS.ExcCtx
import HandS.SuiteRaise
import HandS.NoneIn
import HandS.Style
import HandS.Sort
import HandS.Text
import KE.KStateDown
import HandS.Head0
import HandS.Head1
import HandS.HeadHook2
import HandS.Deep
import PyProof.Rows.MatchSeqLen
import PyProof.SliceList
import HandS.Dict
import PyProof.WalkInts
import PyProof.MinMaxWalk
import HandS.SortKw
import PyProof.ExcBaseAll.LookupError
import PyProof.ExcBaseAll.IndexError
import KE.KTryMore
import HandS.Iter
import HandS.WordsDict
import HandS.TupLen
import HandS.More
import HandS.Zip0
import HandS.Property
import HandS.DictComp
import HandS.Conv
import KE.KOpsOwn
import HandS.SlotsOwn
import HandS.ClsMeth
import KE.KDictCopyH
import KE.KDictWalk
import HandS.CallLocal
import HandS.SortRule
import KE.GoesMore
import KE.DataMinMax
import KE.DatumOrd
import HandS.RaiseFrom
import HandS.ExcInitHot
import HandS.DictTup
import PyProof.Rows.RuleDivmod
import PyProof.Rows.TupDisplay
import HandS.ListEq
import HandS.DeepEq
import HandS.CallSlots
import HandS.Defaults
import HandS.FStr
import HandS.RaiseMore
import HandS.OwnEq
import PyProof.InstNe
import HandS.StrMore
import HandS.Call
import PyProof.Draws
import PyProof.StrLoop
import HandS.ReplaceLit
import HandS.MakeKwOnly
import KE.KDflt
import PySem.Challenge.RW_strewfar_k31_residues_refused
set_option Elab.async false
set_option linter.all false
set_option maxRecDepth 100000
set_option maxHeartbeats 8000000
namespace DL
open PySem PySem.Spec PyProof.Rows L2 LamX
abbrev leTail : List Value := [.type "LookupError", .type "Exception", .type "BaseException", .type "object"]
abbrev ieTail : List Value := [.type "IndexError", .type "LookupError", .type "Exception", .type "BaseException", .type "object"]
abbrev XTab := List (Str × Str × Bool)
def refsT (t : List Value) : List Value → Bool
 | .ref _ :: r => refsT t r
 | l => l == t
def bmB (n : String) (bm : List Value) : Bool := (n == "ValueError.__new__" && refsT PySem.HandSPX.veTail bm) || ((n == "LookupError.__new__" && refsT leTail bm) || (n == "IndexError.__new__" && refsT ieTail bm))
def oexC0 (K : PySem.W.Frag) (C : Addr) : Bool := match K.lookup C with
 | some ⟨.type "type", _, .cls cd, sl⟩ => (match cd.mro, sl.toList with
  | .ref C' :: bm, [_, _, _, _, some (.builtin n), _] => C' == C && (!cd.hasDel && (cd.hasDict && bmB n bm))
  | _, _ => false)
 | _ => false
def oexB (K : PySem.W.Frag) (C : Addr) : Bool := oexC0 K C && (decide (PySem.W.findIn K (.ref C) "__setattr__" = some (some (.builtin "object.__setattr__"))) && (decide (PySem.W.subIn K (.ref C) (.type "BaseException") = some true) && (decide (PySem.W.typeIn K (.ref C) = some (.type "type")) && PySem.W.keepIn K (.ref C))))
def xfnB (K : PySem.W.Frag) (C : Addr) (n : Str) : Bool := xfB K C && decide (PySem.W.findIn K (.ref C) n = some none)
def excsB (rs : List (Str × Option Str)) (tb : XTab) (K : PySem.W.Frag) : Bool := (rs.all fun p => oexB K (He.ga K p.1) && (xfnB K (He.ga K p.1) "tag" && (match p.2 with
 | some f => xfnB K (He.ga K p.1) f
 | none => true))) && tb.all fun p => decide (PySem.W.exmOne K (.ref (He.ga K p.1)) (.ref (He.ga K p.2.1)) = some p.2.2)
structure SaysP (fa : List He.Fa) (fn : List He.DefD) (f2 : List He5.DefA) (tf : List He.Defn) (ex : PySem.W.Frag → Bool) (w : World) (h : Heap) (K : PySem.W.Frag) : Prop where
 x : He.SaysX fa fn [] tf ex w h K
 a : He5.SaysA [] f2 K
abbrev AlP : Type := He.AlX × He.AlD
def valP (fn : List He.DefD) (f2 : List He5.DefA) (w : World) : AlP := (He.valX fn [] w, He5.valA f2)
def wfP (K : PySem.W.Frag) (C f : Str) : Addr := He5.wf K (He.ga K C) "property" f
def propB (K : PySem.W.Frag) (C f : Str) : Bool := decide (PySem.W.findIn K (.ref (He.ga K C)) f = some (some (.ref (He.ma K (He.ga K C) f)))) && (decide (PySem.W.specialIn K (.ref (He.ma K (He.ga K C) f)) "__get__" = some (some (.builtin "property.__get__"))) && (decide (PySem.W.takesIn K (.ref (He.ma K (He.ga K C) f)) = some true) && (match PySem.W.recIn K (He.ma K (He.ga K C) f) "property" with
 | some (.ref _ :: _) => true
 | _ => false)))
def propsB (ps : List (Str × Str)) (K : PySem.W.Frag) : Bool := ps.all fun p => propB K p.1 p.2
def selfB (cs : List Str) (K : PySem.W.Frag) : Bool := cs.all fun c => PySem.W.selfFirst K (He.ga K c)
def wfS (K : PySem.W.Frag) (C m : Str) : Addr := He5.wf K (He.ga K C) "staticmethod" m
def statB (K : PySem.W.Frag) (C m : Str) : Bool := He5.wrapB K (He.ga K C) "staticmethod" "staticmethod.__get__" m && (PySem.W.readsIn K (He.ga K C) (.type "type") && (decide (PySem.W.specialIn K (.ref (He.ga K C)) "__getattribute__" = some (some (.builtin "type.__getattribute__"))) && PySem.W.keepIn K (.ref (wfS K C m))))
def statsB (ps : List (Str × Str)) (K : PySem.W.Frag) : Bool := ps.all fun p => statB K p.1 p.2
end DL
namespace DL
open PySem PySem.Spec PyProof.Rows L2 LamX
def addQ : List Addr → Nat → List Addr → Nat × List Addr
 | [], m, acc => (m, acc)
 | a :: r, m, acc => match Nat.beq (Nat.land (Nat.shiftRight m a) 1) 0 with
  | true => addQ r (Nat.lor m (Nat.shiftLeft 1 a)) (a :: acc)
  | false => addQ r m acc
def frontQ (g : Addr → Option Obj) : List Addr → Nat → List Addr → Nat × List Addr
 | [], m, acc => (m, acc)
 | a :: r, m, acc => match g a with
  | some o => match addQ (He.refsD o) m acc with
   | (m', acc') => frontQ g r m' acc'
  | none => frontQ g r m acc
def levQ (g : Addr → Option Obj) : Nat → List Addr → Nat → List Addr → List Addr
 | 0, f, _, all => all ++ f
 | n + 1, f, m, all => match frontQ g f m [] with
  | (m', f') => levQ g n f' m' (all ++ f)
def asQ (g : Addr → Option Obj) (n : Nat) : List Addr := levQ g n [mainGlobals] (Nat.shiftLeft 1 mainGlobals) [] ++ [cStatics]
def obsQ (n : Nat) (fa : List He.Fa) (fn : List He.DefD) (f2 : List He5.DefA) (tf : List He.Defn) (ex : PySem.W.Frag → Bool) (g : Addr → Option Obj) : AlP :=
 ((He.obsT fa fn [] (He.frT g (asQ g n)), ex (He.frT g (asQ g n)) && He.tabsB g tf (He.frT g (asQ g n))), He5.obsA [] f2 (He.frT g (asQ g n)))
theorem saysQ_of {n : Nat} {fa : List He.Fa} {fn : List He.DefD} {f2 : List He5.DefA} {tf : List He.Defn} {ex : PySem.W.Frag → Bool} {w : World} {h : Heap} (e : obsQ n fa fn f2 tf ex h.get? = valP fn f2 w) : SaysP fa fn f2 tf ex w h (He.frT h.get? (asQ h.get? n)) := by
 have e1 : He.obsT fa fn [] (He.frT h.get? (asQ h.get? n)) = He.valT fn [] w := congrArg (fun z : AlP => z.1.1) e
 have e2 : (ex (He.frT h.get? (asQ h.get? n)) && He.tabsB h.get? tf (He.frT h.get? (asQ h.get? n))) = true := congrArg (fun z : AlP => z.1.2) e
 have e3 : He5.obsA [] f2 (He.frT h.get? (asQ h.get? n)) = He5.valA f2 := congrArg (fun z : AlP => z.2) e
 obtain ⟨h1, h2⟩ := Bool.and_eq_true_iff.mp e2
 have one : ∀ p ∈ tf, PySem.W.codeHdIn (He.frT h.get? (asQ h.get? n)) (He.cT (He.frT h.get? (asQ h.get? n)) p).1 (He.cT (He.frT h.get? (asQ h.get? n)) p).2 = true ∧ ∃ o, h.get? (He.cT (He.frT h.get? (asQ h.get? n)) p).2 = some o ∧ He.emptyTab o = true := fun p hp => by
  obtain ⟨h3, h4⟩ := Bool.and_eq_true_iff.mp (List.all_eq_true.mp h2 p hp)
  refine ⟨h3, ?_⟩
  revert h4
  cases h.get? (He.cT (He.frT h.get? (asQ h.get? n)) p).2 with
  | none => intro h4; cases h4
  | some o => exact fun h4 => ⟨o, rfl, h4⟩
 exact ⟨⟨e1, h1, fun p hp => (one p hp).1, fun p hp => by
  obtain ⟨_, o, q, z⟩ := one p hp
  exact He.frT_none q z, fun p hp => by
  obtain ⟨_, o, q, z⟩ := one p hp
  rw [q, He.emptyTab_eq z]⟩, e3⟩
def hookQ (n : Nat) (fa : List He.Fa) (fn : List He.DefD) (f2 : List He5.DefA) (tf : List He.Defn) (ex : PySem.W.Frag → Bool) : PySem.W.Hook where
 α := AlP
 obs := fun s => obsQ n fa fn f2 tf ex s.heap.get?
 val := fun w => valP fn f2 w
 says := fun w h => ∃ K : PySem.W.Frag, K.In h ∧ SaysP fa fn f2 tf ex w h K
 of := fun _ _ e => ⟨_, He.frT_in, saysQ_of e⟩
 keeps := fun _ _ _ ⟨K, hK, c⟩ k => ⟨K, PySem.W.Frag.In.keeps hK k, ⟨⟨c.x.t, c.x.more, c.x.hd, c.x.out, fun p hp => k _ _ (c.x.empty p hp)⟩, c.a⟩⟩
theorem obsQ_eq {n : Nat} {fa : List He.Fa} {fn : List He.DefD} {f2 : List He5.DefA} {tf : List He.Defn} {ex : PySem.W.Frag → Bool} {g : Addr → Option Obj} {s : Shared} (h : ∀ a, g a = s.heap.get? a) : obsQ n fa fn f2 tf ex g = (hookQ n fa fn f2 tf ex).obs s := by
 have e : g = s.heap.get? := funext h
 rw [e]
 rfl
end DL
namespace DL
open PySem PySem.Spec PyProof.Rows L2 LamX
def gtR : PySem.W.SharedT → Addr → Option Obj := HandSHeadRun.getT
def kR (n : Nat) (s : PySem.W.SharedT) : PySem.W.Frag := He.frT (gtR s) (asQ (gtR s) n)
def faR (n : Nat) (fa : List He.Fa) (s : PySem.W.SharedT) : Bool := fa.all fun f => f.ok (kR n s)
def fnR (n : Nat) (fn : List He.DefD) (s : PySem.W.SharedT) : Bool × List He.FnW := (fn.all fun d => d.ok (kR n s), fn.map fun d => He.fnW (kR n s) d.at_)
def exR (n : Nat) (f2 : List He5.DefA) (tf : List He.Defn) (ex : PySem.W.Frag → Bool) (s : PySem.W.SharedT) : Bool × He.AlD := (ex (kR n s) && He.tabsB (gtR s) tf (kR n s), He5.obsA [] f2 (kR n s))
theorem runs_join {n : Nat} {fa fb : List He.Fa} {fn : List He.DefD} {f2 : List He5.DefA} {tf : List He.Defn} {ex : PySem.W.Frag → Bool} {w : World} {x : Option PySem.W.SharedT} {β : Type} {A : PySem.W.SharedT → Bool} {B : PySem.W.SharedT → β} {b : β}
  (h1 : x.map (fun s => (A s, B s)) = some (true, b)) (h2 : x.map (faR n fa) = some true) (h2' : x.map (faR n fb) = some true) (h3 : x.map (fnR n fn) = some (true, fn.map He.DefD.val)) (h4 : x.map (exR n f2 tf ex) = some (true, He5.valA f2)) :
  x.map (fun s => (A s, B s, obsQ n (fa ++ fb) fn f2 tf ex (HandSHeadRun.getT s))) = some (true, b, valP fn f2 w) := by
 cases x with
 | none => cases h1
 | some s =>
  have e1 : (A s, B s) = (true, b) := Option.some.inj h1
  have e2 : faR n fa s = true := Option.some.inj h2
  have e2' : faR n fb s = true := Option.some.inj h2'
  have e3 : fnR n fn s = (true, fn.map He.DefD.val) := Option.some.inj h3
  have e4 : exR n f2 tf ex s = (true, He5.valA f2) := Option.some.inj h4
  show some (A s, B s, obsQ n (fa ++ fb) fn f2 tf ex (gtR s)) = _
  have q1 : A s = true := congrArg Prod.fst e1
  have q2 : B s = b := congrArg Prod.snd e1
  have q3 : (fn.all fun d => d.ok (kR n s)) = true := congrArg Prod.fst e3
  have q4 : (fn.map fun d => He.fnW (kR n s) d.at_) = fn.map He.DefD.val := congrArg Prod.snd e3
  have q5 : (ex (kR n s) && He.tabsB (gtR s) tf (kR n s)) = true := congrArg Prod.fst e4
  have q6 : He5.obsA [] f2 (kR n s) = He5.valA f2 := congrArg Prod.snd e4
  have e : obsQ n (fa ++ fb) fn f2 tf ex (gtR s) = valP fn f2 w := by
   show ((((((fa ++ fb).all fun f => f.ok (kR n s)) && fn.all fun d => d.ok (kR n s), fn.map fun d => He.fnW (kR n s) d.at_), []), ex (kR n s) && He.tabsB (gtR s) tf (kR n s)), He5.obsA [] f2 (kR n s)) = _
   rw [List.all_append, show (fa.all fun f => f.ok (kR n s)) = true from e2, show (fb.all fun f => f.ok (kR n s)) = true from e2', q3, q4, q5, q6]
   rfl
  rw [q1, q2, e]
end DL
namespace K31
open PySem PySem.Spec PyProof.Rows L2 DL LamX
def top (i : Nat) : Stmt := PySem.Challenge.pw_strewfar_k31_residues_refused.main.body.getD i (.Pass ⟨0, 0, 0, 0⟩)
def meth (i j : Nat) : Stmt := match top i with | .ClassDef _ _ _ b _ _ _ _ _ _ _ => b.getD j (.Pass ⟨0, 0, 0, 0⟩) | _ => .Pass ⟨0, 0, 0, 0⟩
abbrev s_origin : Stmt := top 27
abbrev s_add : Stmt := top 28
abbrev s_scale : Stmt := top 29
abbrev s_opposite : Stmt := top 30
abbrev s_is_forward : Stmt := top 31
abbrev s_residue : Stmt := top 32
abbrev s_forward_loop : Stmt := top 43
abbrev s_term_of : Stmt := top 44
abbrev s_period : Stmt := top 63
abbrev s_strewn : Stmt := top 64
abbrev s_check_moduli : Stmt := top 65
abbrev s__a_box : Stmt := top 73
abbrev s__draw : Stmt := top 74
abbrev s__any : Stmt := top 75
abbrev s__refused : Stmt := top 76
def tbX0 : XTab := [("InvalidCount", "InvalidName", false), ("InvalidCount", "DuplicateName", false), ("InvalidCount", "Circular", false), ("InvalidCount", "InUse", false), ("InvalidCount", "UnknownName", false), ("InvalidCount", "TooLong", false), ("InvalidCount", "TooDeep", false), ("InvalidCount", "TooMany", false), ("InvalidCount", "Tangled", false), ("InvalidCount", "UnknownWalker", false), ("InvalidCount", "InvalidPlace", false), ("InvalidCount", "InvalidBlock", false)]
def tbX1 : XTab := [("InvalidCount", "CapacityExceeded", false), ("InvalidCount", "Overload", false), ("InvalidCount", "InvalidBeat", false), ("InvalidCount", "InvalidCount", true), ("TooLong", "InvalidName", false), ("TooLong", "DuplicateName", false), ("TooLong", "Circular", false), ("TooLong", "InUse", false), ("TooLong", "UnknownName", false), ("TooLong", "TooLong", true), ("TooLong", "TooDeep", false), ("TooLong", "TooMany", false)]
def tbX2 : XTab := [("WrongDimension", "InvalidName", false), ("WrongDimension", "DuplicateName", false), ("WrongDimension", "Circular", false), ("WrongDimension", "InUse", false), ("WrongDimension", "UnknownName", false), ("WrongDimension", "TooLong", false), ("WrongDimension", "TooDeep", false), ("WrongDimension", "TooMany", false), ("WrongDimension", "Tangled", false), ("WrongDimension", "UnknownWalker", false), ("WrongDimension", "InvalidPlace", false), ("WrongDimension", "InvalidBlock", false)]
def tbX3 : XTab := [("WrongDimension", "CapacityExceeded", false), ("WrongDimension", "Overload", false), ("WrongDimension", "InvalidBeat", false), ("WrongDimension", "InvalidCount", false), ("WrongDimension", "WrongDimension", true)]
def tbX : XTab := tbX0 ++ tbX1 ++ tbX2 ++ tbX3
def rsX : List (Str × Option Str) := [("InvalidCount", some "number"), ("TooLong", some "limit"), ("WrongDimension", some "given")]
abbrev s__spot : Stmt := top 77
abbrev s_Effect___init__ : Stmt := meth 46 0
abbrev s_Effect_still : Stmt := meth 46 1
abbrev s_Effect_mark : Stmt := meth 46 2
abbrev s_Effect_dimension : Stmt := meth 46 3
abbrev s_Effect_shift : Stmt := meth 46 4
abbrev s_Effect_terms : Stmt := meth 46 6
abbrev s_residue_sums : Stmt := top 66
abbrev s_rotation : Stmt := top 67
abbrev s_offset : Stmt := top 68
abbrev s_Trail___init__ : Stmt := meth 71 0
abbrev s_Trail_go : Stmt := meth 71 2
abbrev s_Trail_effect : Stmt := meth 71 11
abbrev s_law : Stmt := top 78
def dd_origin : He.DefD := ⟨("origin", none), "origin", "origin", defArgs s_origin, defBody s_origin, defScope s_origin, [], []⟩
def dd_add : He.DefD := ⟨("add", none), "add", "add", defArgs s_add, defBody s_add, defScope s_add, [], []⟩
def dd_scale : He.DefD := ⟨("scale", none), "scale", "scale", defArgs s_scale, defBody s_scale, defScope s_scale, [], []⟩
def dd_opposite : He.DefD := ⟨("opposite", none), "opposite", "opposite", defArgs s_opposite, defBody s_opposite, defScope s_opposite, [], []⟩
def dd_is_forward : He.DefD := ⟨("is_forward", none), "is_forward", "is_forward", defArgs s_is_forward, defBody s_is_forward, defScope s_is_forward, [], []⟩
def dd_residue : He.DefD := ⟨("residue", none), "residue", "residue", defArgs s_residue, defBody s_residue, defScope s_residue, [], []⟩
def dd_forward_loop : He.DefD := ⟨("forward_loop", none), "forward_loop", "forward_loop", defArgs s_forward_loop, defBody s_forward_loop, defScope s_forward_loop, [], []⟩
def dd_term_of : He.DefD := ⟨("term_of", none), "term_of", "term_of", defArgs s_term_of, defBody s_term_of, defScope s_term_of, [], []⟩
def dd_period : He.DefD := ⟨("period", none), "period", "period", defArgs s_period, defBody s_period, defScope s_period, [], []⟩
def dd_strewn : He.DefD := ⟨("strewn", none), "strewn", "strewn", defArgs s_strewn, defBody s_strewn, defScope s_strewn, [], []⟩
def dd_check_moduli : He.DefD := ⟨("check_moduli", none), "check_moduli", "check_moduli", defArgs s_check_moduli, defBody s_check_moduli, defScope s_check_moduli, [], []⟩
def dd__a_box : He.DefD := ⟨("_law_a_box", none), "_law_a_box", "_law_a_box", defArgs s__a_box, defBody s__a_box, defScope s__a_box, [], []⟩
def dd__draw : He.DefD := ⟨("_law_draw", none), "_law_draw", "_law_draw", defArgs s__draw, defBody s__draw, defScope s__draw, [], []⟩
def dd__any : He.DefD := ⟨("_law_any", none), "_law_any", "_law_any", defArgs s__any, defBody s__any, defScope s__any, [], []⟩
def dd__refused : He.DefD := ⟨("_law_refused", none), "_law_refused", "_law_refused", defArgs s__refused, defBody s__refused, defScope s__refused, [], []⟩
def dd__spot : He.DefD := ⟨("_law_spot", none), "_law_spot", "_law_spot", defArgs s__spot, defBody s__spot, defScope s__spot, [], []⟩
def dd_Effect___init__ : He.DefD := ⟨("Effect", some "__init__"), "__init__", "Effect.__init__", defArgs s_Effect___init__, defBody s_Effect___init__, defScope s_Effect___init__, [], []⟩
def dd_Effect_still : He5.DefA := ⟨fun K => wfS K "Effect" "still", "still", "Effect.still", defArgs s_Effect_still, defBody s_Effect_still, defScope s_Effect_still, [], []⟩
def dd_Effect_mark : He5.DefA := ⟨fun K => wfS K "Effect" "mark", "mark", "Effect.mark", defArgs s_Effect_mark, defBody s_Effect_mark, defScope s_Effect_mark, [], []⟩
def dd_Effect_dimension : He5.DefA := ⟨fun K => wfP K "Effect" "dimension", "dimension", "Effect.dimension", defArgs s_Effect_dimension, defBody s_Effect_dimension, defScope s_Effect_dimension, [], []⟩
def dd_Effect_shift : He5.DefA := ⟨fun K => wfP K "Effect" "shift", "shift", "Effect.shift", defArgs s_Effect_shift, defBody s_Effect_shift, defScope s_Effect_shift, [], []⟩
def dd_Effect_terms : He.DefD := ⟨("Effect", some "terms"), "terms", "Effect.terms", defArgs s_Effect_terms, defBody s_Effect_terms, defScope s_Effect_terms, [], []⟩
def dd_residue_sums : He.DefD := ⟨("residue_sums", none), "residue_sums", "residue_sums", defArgs s_residue_sums, defBody s_residue_sums, defScope s_residue_sums, [], []⟩
def dd_rotation : He.DefD := ⟨("rotation", none), "rotation", "rotation", defArgs s_rotation, defBody s_rotation, defScope s_rotation, [], []⟩
def dd_offset : He.DefD := ⟨("offset", none), "offset", "offset", defArgs s_offset, defBody s_offset, defScope s_offset, [], []⟩
def dd_Trail___init__ : He.DefD := ⟨("Trail", some "__init__"), "__init__", "Trail.__init__", defArgs s_Trail___init__, defBody s_Trail___init__, defScope s_Trail___init__, [], []⟩
def dd_Trail_go : He5.DefA := ⟨fun K => wfS K "Trail" "go", "go", "Trail.go", defArgs s_Trail_go, defBody s_Trail_go, defScope s_Trail_go, [], []⟩
def dd_Trail_effect : He.DefD := ⟨("Trail", some "effect"), "effect", "Trail.effect", defArgs s_Trail_effect, defBody s_Trail_effect, defScope s_Trail_effect, [], []⟩
def dd_law : He.DefD := ⟨("law", none), "law", "law", defArgs s_law, defBody s_law, defScope s_law, [], []⟩
def ini_InvalidCount : Stmt := match top 17 with | .ClassDef _ _ _ b _ _ _ _ _ _ _ => b.getD 0 (.Pass ⟨0, 0, 0, 0⟩) | _ => .Pass ⟨0, 0, 0, 0⟩
def dx_InvalidCount : He.DefD := ⟨("InvalidCount", some "__init__"), "__init__", "InvalidCount.__init__", defArgs ini_InvalidCount, defBody ini_InvalidCount, defScope ini_InvalidCount, [], []⟩
def ini_TooLong : Stmt := match top 11 with | .ClassDef _ _ _ b _ _ _ _ _ _ _ => b.getD 0 (.Pass ⟨0, 0, 0, 0⟩) | _ => .Pass ⟨0, 0, 0, 0⟩
def dx_TooLong : He.DefD := ⟨("TooLong", some "__init__"), "__init__", "TooLong.__init__", defArgs ini_TooLong, defBody ini_TooLong, defScope ini_TooLong, [], []⟩
def ini_WrongDimension : Stmt := match top 18 with | .ClassDef _ _ _ b _ _ _ _ _ _ _ => b.getD 0 (.Pass ⟨0, 0, 0, 0⟩) | _ => .Pass ⟨0, 0, 0, 0⟩
def dx_WrongDimension : He.DefD := ⟨("WrongDimension", some "__init__"), "__init__", "WrongDimension.__init__", defArgs ini_WrongDimension, defBody ini_WrongDimension, defScope ini_WrongDimension, [], []⟩
def hfnL : List He.DefD := [dd_origin, dd_add, dd_scale, dd_opposite, dd_is_forward, dd_residue, dd_forward_loop, dd_term_of, dd_period, dd_strewn, dd_check_moduli, dd__a_box, dd__draw, dd__any, dd__refused, dd__spot, dd_Effect___init__, dd_Effect_terms, dd_residue_sums, dd_rotation, dd_offset, dd_Trail___init__, dd_Trail_effect, dd_law, dx_InvalidCount, dx_TooLong, dx_WrongDimension]
def hfpL : List He5.DefA := [dd_Effect_still, dd_Effect_mark, dd_Effect_dimension, dd_Effect_shift, dd_Trail_go]
def hfa1 : List He.Fa := [.glo "origin", .glo "add", .glo "scale", .glo "opposite", .glo "is_forward", .glo "residue", .glo "forward_loop", .glo "term_of", .glo "period", .glo "strewn", .glo "check_moduli", .glo "_law_a_box", .glo "_law_draw", .glo "_law_any", .glo "_law_refused", .glo "_law_spot", .glo "Effect", .cls "Effect", .mkr "Effect", .meth "Effect" "terms", .glo "residue_sums", .glo "rotation", .glo "offset", .glo "Trail", .cls "Trail", .mkr "Trail", .meth "Trail" "effect", .glo "law", .noat "Effect" "ground", .noat "Effect" "rows", .noat "Effect" "way", .noat "Trail" "ground", .noat "Trail" "length", .noat "Trail" "rows"]
def hfa2 : List He.Fa := [.noat "Trail" "way", .free "abs", .free "all", .free "divmod", .free "int", .free "len", .free "list", .free "range", .free "sorted", .free "tuple", .free "zip", .int "MAX_CLASSES" 40, .glo "InvalidCount", .meth "InvalidCount" "__init__", .glo "TooLong", .meth "TooLong" "__init__", .glo "WrongDimension", .meth "WrongDimension" "__init__", .glo "CapacityExceeded", .glo "Circular", .glo "DuplicateName", .glo "InUse", .glo "InvalidBeat", .glo "InvalidBlock", .glo "InvalidCommand", .glo "InvalidName", .glo "InvalidPlace", .glo "NothingLeft", .glo "Overload", .glo "ParseError", .glo "Tangled", .glo "TooDeep", .glo "TooMany", .glo "UnknownName", .glo "UnknownWalker"]
def hfaL : List He.Fa := hfa1 ++ hfa2
def psX : List (Str × Str) := [("Effect", "dimension"), ("Effect", "shift")]
def stX : List (Str × Str) := [("Effect", "still"), ("Effect", "mark"), ("Trail", "go")]
def sfX : List Str := []
abbrev exB : PySem.W.Frag → Bool := fun K => excsB rsX tbX K && (propsB psX K && (statsB stX K && selfB sfX K))
abbrev RR : PySem.W.OpenRow := PySem.W.OpenLaw.row PySem.Challenge.rw_strewfar_k31_residues_refused
abbrev hk : PySem.W.Hook := hookQ 5 hfaL hfnL hfpL [("law", none)] exB
def ob (s : PySem.W.SharedT) : AlP := obsQ 5 hfaL hfnL hfpL [("law", none)] exB (HandSHeadRun.getT s)
theorem ob_eq (s : PySem.W.SharedT) : ob s = hk.obs s.abs := obsQ_eq (HandSHeadRun.getT_eq s)
def loose0 : List PySem.Str := ["_wall", "StrewError", "NotFound", "InvalidPlace", "InvalidBlock", "InvalidName", "DuplicateName", "CapacityExceeded", "Circular", "InUse", "TooLong", "TooDeep"]
def loose1 : List PySem.Str := ["TooMany", "Overload", "Tangled", "InvalidBeat", "InvalidCount", "WrongDimension", "ParseError", "InvalidCommand", "UnknownName", "UnknownWalker", "NothingLeft", "is_whole"]
def loose2 : List PySem.Str := ["is_place", "origin", "add", "scale", "opposite", "is_forward", "residue", "unit", "least_column", "lessened", "cleared", "echelon"]
def loose3 : List PySem.Str := ["combination_of", "reach", "solutions", "forward_loop", "term_of", "moved_terms", "Effect", "load_of", "less_moved", "term_marks", "multiplied", "reduced"]
def loose4 : List PySem.Str := ["MAX_TERMS", "MAX_LOAD", "MAX_MODULUS", "common_load", "ends_of", "difference", "translation", "MAX_CLASSES", "period", "strewn", "check_moduli", "residue_sums"]
def loose5 : List PySem.Str := ["rotation", "offset", "reversed_strewing", "Trail", "_law_a_box", "_law_draw", "_law_any", "_law_refused", "_law_spot"]
def loose : List PySem.Str := loose0 ++ loose1 ++ loose2 ++ loose3 ++ loose4 ++ loose5
open PySem.W PySem.Calls in
theorem run1 (w : World) (os : OsState) : (HandSHeadRun.endF (HandSHeadRun.stepQ (HandSHeadRun.denQ HandSHeadRun.tabQ) RR.prog w) 12000 RR.prog w os).map (fun s => (HandSHeadRun.looksF RR.prog (boot_heap w.params) s.abs, HandSHeadRun.seenQ (PySem.W.view RR.prog [78]) loose (importedModules RR.prog.main.body) (fun s => PySem.W.xlAt (PySem.W.view RR.prog [78]) [] s && PySem.W.recOk RR.toRowW.records s) s.abs)) = some (true, PySem.W.openGood (PySem.W.view RR.prog [78]) loose) := by
 kernel_rfl
open PySem.W PySem.Calls in
theorem run2 (w : World) (os : OsState) : (HandSHeadRun.endF (HandSHeadRun.stepQ (HandSHeadRun.denQ HandSHeadRun.tabQ) RR.prog w) 12000 RR.prog w os).map (faR 5 hfa1) = some true := by
 kernel_rfl
open PySem.W PySem.Calls in
theorem run3 (w : World) (os : OsState) : (HandSHeadRun.endF (HandSHeadRun.stepQ (HandSHeadRun.denQ HandSHeadRun.tabQ) RR.prog w) 12000 RR.prog w os).map (faR 5 hfa2) = some true := by
 kernel_rfl
open PySem.W PySem.Calls in
theorem run4 (w : World) (os : OsState) : (HandSHeadRun.endF (HandSHeadRun.stepQ (HandSHeadRun.denQ HandSHeadRun.tabQ) RR.prog w) 12000 RR.prog w os).map (fnR 5 hfnL) = some (true, hfnL.map He.DefD.val) := by
 kernel_rfl
open PySem.W PySem.Calls in
theorem run5 (w : World) (os : OsState) : (HandSHeadRun.endF (HandSHeadRun.stepQ (HandSHeadRun.denQ HandSHeadRun.tabQ) RR.prog w) 12000 RR.prog w os).map (exR 5 hfpL [("law", none)] exB) = some (true, He5.valA hfpL) := by
 kernel_rfl
theorem run (w : World) : HandSHeadRun.RunEq RR (PySem.W.view RR.prog [78]) hk ob 12000 loose w := fun os => runs_join (run1 w os) (run2 w os) (run3 w os) (run4 w os) (run5 w os)
end K31
namespace DL
open PySem PySem.Spec PyProof.Rows L2
inductive Ty where
 | int | bool | str | tuple | list | dict
def Ty.name : Ty → String
 | .int => "int" | .bool => "bool" | .str => "str" | .tuple => "tuple" | .list => "list" | .dict => "dict"
inductive D where
 | non | bl (b : Bool) | int (i : Int) | str (x : Str) | ref (a : Addr) | ty (n : Ty)
 | tup (xs : List D) | lst (xs : List D)
 | scr (ns : List Int)
 | dct (ks : List Str) (xs : List D) | dcT (ks : List (List Int)) (xs : List D) | obj (C : Str) (ks : List Str) (xs : List D)
 | dcl (ks : List Str) (xs : List D)
 | dlT (ks : List (List Int)) (xs : List D)
def kvz (ks : List Str) (xs : List V) : List (Key × V) := (ks.zip xs).map fun p => (Sum.inr p.1, p.2)
def kvt (ks : List (List Int)) (xs : List V) : List (List Key × V) := (ks.zip xs).map fun p => (p.1.map Sum.inl, p.2)
mutual
inductive Rep (K : PySem.W.Frag) (F : Hp) : V → D → Prop
 | non : Rep K F .non .non
 | bl (b : Bool) : Rep K F (.bl b) (.bl b)
 | int (i : Int) : Rep K F (.int i) (.int i)
 | str (x : Str) : Rep K F (.str x) (.str x)
 | ref (a : Addr) : Rep K F (.ref a) (.ref a)
 | ty (n : Ty) : Rep K F (.ty n.name) (.ty n)
 | tup {a : Addr} {xs : List V} {ds : List D} : F a = some (.tup xs) → Reps K F xs ds → ds.length ≤ sizeLine → Rep K F (.ref a) (.tup ds)
 | lst {a : Addr} {xs : List V} {ds : List D} : F a = some (.lst xs) → Reps K F xs ds → ds.length ≤ sizeLine → Rep K F (.ref a) (.lst ds)
 | scr {a : Addr} {ns : List Int} : SqL K F a (ns.map V.int) → Rep K F (.ref a) (.scr ns)
 | dct {a : Addr} {ks : List Str} {xs : List V} {ds : List D} : F a = some (.dK (kvz ks xs)) → Reps K F xs ds → ks.length = ds.length → ds.length ≤ sizeLine → Rep K F (.ref a) (.dct ks ds)
 | dcl {a : Addr} {o : Obj} {ks : List Str} {xs : List V} {ds : List D} : F a = some (.frz o (.dK (kvz ks xs))) → Reps K F xs ds → ks.length = ds.length → ds.length ≤ sizeLine → Rep K F (.ref a) (.dcl ks ds)
 | dlT {a : Addr} {o : Obj} {ks : List (List Int)} {xs : List V} {ds : List D} : F a = some (.frz o (.dT (kvt ks xs))) → Reps K F xs ds → ks.length = ds.length → ds.length ≤ sizeLine → Rep K F (.ref a) (.dlT ks ds)
 | dcT {a : Addr} {ks : List (List Int)} {xs : List V} {ds : List D} : F a = some (.dT (kvt ks xs)) → Reps K F xs ds → ks.length = ds.length → ds.length ≤ sizeLine → Rep K F (.ref a) (.dcT ks ds)
 | obj {a dx : Addr} {C : Str} {ks : List Str} {xs : List V} {ds : List D} : F a = some (.ins (He.ga K C) dx (ks.zip xs)) → Reps K F xs ds → ks.length = ds.length → Rep K F (.ref a) (.obj C ks ds)
inductive Reps (K : PySem.W.Frag) (F : Hp) : List V → List D → Prop
 | nil : Reps K F [] []
 | cons {v : V} {vs : List V} {d : D} {ds : List D} : Rep K F v d → Reps K F vs ds → Reps K F (v :: vs) (d :: ds)
end
theorem seqU {K : PySem.W.Frag} {H H' : Hp} {a : Addr} {xs : List V} (e : Same H H') (h : H a = some (.tup xs)) : SqT K H' a xs := .inl (.inl (e _ _ h))
theorem seqT {K : PySem.W.Frag} {H H' : Hp} {a : Addr} {xs : List V} (e : Same H H') (h : SqT K H a xs) : SqT K H' a xs := by
 rcases h with (h | ⟨o, h⟩) | h
 ·exact .inl (.inl (e _ _ h))
 ·exact .inl (.inr ⟨o, e _ _ h⟩)
 ·exact .inr h
section
variable {K : PySem.W.Frag} {F F' : Hp}
mutual
theorem Rep.mono (e : Same F F') : ∀ {v : V} {d : D}, Rep K F v d → Rep K F' v d
 | _, _, .non => .non
 | _, _, .bl b => .bl b
 | _, _, .int i => .int i
 | _, _, .str x => .str x
 | _, _, .ref a => .ref a
 | _, _, .ty n => .ty n
 | _, _, .tup h r l => .tup (e _ _ h) (Reps.mono e r) l
 | _, _, .lst h r l => .lst (e _ _ h) (Reps.mono e r) l
 | _, _, .scr h => .scr (e.seq h)
 | _, _, .dct h r l z => .dct (e _ _ h) (Reps.mono e r) l z
 | _, _, .dcT h r l z => .dcT (e _ _ h) (Reps.mono e r) l z
 | _, _, .dcl h r l z => .dcl (e _ _ h) (Reps.mono e r) l z
 | _, _, .dlT h r l z => .dlT (e _ _ h) (Reps.mono e r) l z
 | _, _, .obj h r l => .obj (e _ _ h) (Reps.mono e r) l
theorem Reps.mono (e : Same F F') : ∀ {vs : List V} {ds : List D}, Reps K F vs ds → Reps K F' vs ds
 | _, _, .nil => .nil
 | _, _, .cons h r => .cons (Rep.mono e h) (Reps.mono e r)
end
theorem Reps.length : ∀ {vs : List V} {ds : List D}, Reps K F vs ds → vs.length = ds.length
 | _, _, .nil => rfl
 | _, _, .cons _ r => congrArg (· + 1) (Reps.length r)
theorem Reps.get : ∀ {vs : List V} {ds : List D} {i : Nat} {d : D}, Reps K F vs ds → ds[i]? = some d → ∃ v, vs[i]? = some v ∧ Rep K F v d
 | _, _, _, _, .nil, e => by simp at e
 | _, _, 0, _, .cons h _, e => by simp at e; subst e; exact ⟨_, rfl, h⟩
 | _, _, i + 1, _, .cons _ r, e => by
  obtain ⟨v, h1, h2⟩ := Reps.get (i := i) r (by simpa using e)
  exact ⟨v, by simpa using h1, h2⟩
theorem Reps.getV : ∀ {vs : List V} {ds : List D} {i : Nat} {v : V}, Reps K F vs ds → vs[i]? = some v → ∃ d, ds[i]? = some d ∧ Rep K F v d
 | _, _, _, _, .nil, e => by simp at e
 | _, _, 0, _, .cons h _, e => by simp at e; subst e; exact ⟨_, rfl, h⟩
 | _, _, i + 1, _, .cons _ r, e => by
  obtain ⟨v, h1, h2⟩ := Reps.getV (i := i) r (by simpa using e)
  exact ⟨v, by simpa using h1, h2⟩
theorem Reps.append : ∀ {vs ws : List V} {ds es : List D}, Reps K F vs ds → Reps K F ws es → Reps K F (vs ++ ws) (ds ++ es)
 | _, _, _, _, .nil, q => q
 | _, _, _, _, .cons h r, q => .cons h (Reps.append r q)
theorem Reps.snoc {vs : List V} {v : V} {ds : List D} {d : D} (h : Reps K F vs ds) (q : Rep K F v d) : Reps K F (vs ++ [v]) (ds ++ [d]) := h.append (.cons q .nil)
theorem Reps.take : ∀ (n : Nat) {vs : List V} {ds : List D}, Reps K F vs ds → Reps K F (vs.take n) (ds.take n)
 | 0, _, _, _ => .nil
 | _ + 1, _, _, .nil => .nil
 | n + 1, _, _, .cons h r => .cons h (Reps.take n r)
theorem Reps.drop : ∀ (n : Nat) {vs : List V} {ds : List D}, Reps K F vs ds → Reps K F (vs.drop n) (ds.drop n)
 | 0, _, _, r => r
 | _ + 1, _, _, .nil => .nil
 | n + 1, _, _, .cons _ r => Reps.drop n r
theorem Reps.set : ∀ {vs : List V} {ds : List D} {v : V} {d : D} (i : Nat), Reps K F vs ds → Rep K F v d → Reps K F (vs.set i v) (ds.set i d)
 | _, _, _, _, _, .nil, _ => .nil
 | _, _, _, _, 0, .cons _ r, q => .cons q r
 | _, _, _, _, i + 1, .cons h r, q => .cons h (Reps.set i r q)
theorem Reps.rep : ∀ (n : Nat) {vs : List V} {ds : List D}, Reps K F vs ds → Reps K F (List.replicate n vs).flatten (List.replicate n ds).flatten
 | 0, _, _, _ => .nil
 | n + 1, _, _, r => by
  rw [List.replicate_succ, List.replicate_succ, List.flatten_cons, List.flatten_cons]
  exact r.append (Reps.rep n r)
theorem Reps.bls : ∀ {vs : List V} {ns : List Bool}, Reps K F vs (ns.map D.bl) → vs = ns.map V.bl
 | _, [], .nil => rfl
 | _, n :: ns, .cons h r => by
  cases h
  rw [Reps.bls r]
  rfl
theorem Reps.of_ints : ∀ (ns : List Int), Reps K F (ns.map V.int) (ns.map D.int)
 | [] => .nil
 | n :: ns => .cons (.int n) (Reps.of_ints ns)
theorem Reps.of_strs : ∀ (ns : List Str), Reps K F (ns.map V.str) (ns.map D.str)
 | [] => .nil
 | n :: ns => .cons (.str n) (Reps.of_strs ns)
end
inductive MO where
 | lst (ds : List D)
 | dct (ks : List Str) (ds : List D) | dcT (ks : List (List Int)) (ds : List D) | ins (C : Str) (ks : List Str) (ds : List D) | tab (q : Str)
abbrev MH := Addr → Option MO
def mupd (M : MH) (a : Addr) (o : MO) : MH := fun b => if b = a then some o else M b
def mdel (M : MH) (a : Addr) : MH := fun b => if b = a then none else M b
theorem mupd_same {M : MH} {a : Addr} {o : MO} : mupd M a o a = some o := if_pos rfl
theorem mupd_ne {M : MH} {a b : Addr} {o : MO} (h : b ≠ a) : mupd M a o b = M b := if_neg h
theorem mdel_same {M : MH} {a : Addr} : mdel M a a = none := if_pos rfl
theorem mdel_ne {M : MH} {a b : Addr} (h : b ≠ a) : mdel M a b = M b := if_neg h
def Sub (M M' : MH) : Prop := ∀ a o, M a = some o → M' a = some o
theorem Sub.refl (M : MH) : Sub M M := fun _ _ h => h
def RepO (K : PySem.W.Frag) (F : Hp) : MO → HO → Prop
 | .lst ds, o => ∃ xs, o = .lst xs ∧ Reps K F xs ds ∧ ds.length ≤ sizeLine
 | .dct ks ds, o => ∃ xs, o = .dK (kvz ks xs) ∧ Reps K F xs ds ∧ ks.length = ds.length ∧ ds.length ≤ sizeLine
 | .dcT ks ds, o => ∃ xs, o = .dT (kvt ks xs) ∧ Reps K F xs ds ∧ ks.length = ds.length ∧ ds.length ≤ sizeLine
 | .ins C ks ds, o => ∃ dx xs, o = .ins (He.ga K C) dx (ks.zip xs) ∧ Reps K F xs ds ∧ ks.length = ds.length
 | .tab q, o => ∃ ps : Array Value, o = .tbl ps ∧ TriplesOk ps.toList ∧ ∀ (pos : Pos) (cv : Value), codeAmong pos ps.toList = some cv → ∃ c, cv = .ref c ∧ F c = some (LamX.CodeO c q)
theorem RepO.mono {K : PySem.W.Frag} {F F' : Hp} (e : Same F F') : ∀ {m : MO} {o : HO}, RepO K F m o → RepO K F' m o
 | .lst _, _, ⟨xs, h, r, l⟩ => ⟨xs, h, r.mono e, l⟩
 | .dct _ _, _, ⟨xs, h, r, l, z⟩ => ⟨xs, h, r.mono e, l, z⟩
 | .dcT _ _, _, ⟨xs, h, r, l, z⟩ => ⟨xs, h, r.mono e, l, z⟩
 | .ins _ _ _, _, ⟨dx, xs, h, r, l⟩ => ⟨dx, xs, h, r.mono e, l⟩
 | .tab _, _, ⟨ps, h, t, c⟩ => ⟨ps, h, t, fun p v q => let ⟨a, h1, h2⟩ := c p v q; ⟨a, h1, e _ _ h2⟩⟩
def frzD : MO → Option D
 | .lst ds => some (.lst ds) | .dct ks ds => some (.dct ks ds) | .dcT ks ds => some (.dcT ks ds) | .ins C ks ds => some (.obj C ks ds) | .tab _ => none
theorem RepO.frz {K : PySem.W.Frag} {F F' : Hp} {a : Addr} {o : HO} {d : D} : ∀ {m : MO}, frzD m = some d → RepO K F m o → Same F F' → F' a = some o → Rep K F' (.ref a) d
 | .lst _, e, ⟨xs, h, r, l⟩, s, g => by cases e; subst h; exact .lst g (r.mono s) l
 | .dct _ _, e, ⟨xs, h, r, l, z⟩, s, g => by cases e; subst h; exact .dct g (r.mono s) l z
 | .dcT _ _, e, ⟨xs, h, r, l, z⟩, s, g => by cases e; subst h; exact .dcT g (r.mono s) l z
 | .ins _ _ _, e, ⟨dx, xs, h, r, l⟩, s, g => by cases e; subst h; exact .obj g (r.mono s) l
 | .tab _, e, _, _, _ => by cases e
structure RepS (K : PySem.W.Frag) (H F : Hp) (M : MH) : Prop where
 fz : Same F H
 mu : ∀ a m, M a = some m → F a = none ∧ ∃ o, H a = some o ∧ RepO K F m o
def NT : HO → Prop
 | .tup _ => False
 | _ => True
structure Ext (H F : Hp) (M : MH) (H' F' : Hp) (M' : MH) : Prop where
 sm : Same F F'
 fr : ∀ a o, H a = some o → NT o → F a = none → M a = none → H' a = some o ∧ F' a = none ∧ M' a = none
theorem Ext.refl (H F : Hp) (M : MH) : Ext H F M H F M := ⟨Same.refl F, fun _ _ a _ b c => ⟨a, b, c⟩⟩
theorem Ext.trans {H F : Hp} {M : MH} {H1 F1 : Hp} {M1 : MH} {H2 F2 : Hp} {M2 : MH} (a : Ext H F M H1 F1 M1) (b : Ext H1 F1 M1 H2 F2 M2) : Ext H F M H2 F2 M2 :=
 ⟨a.sm.trans b.sm, fun c o h1 ht h2 h3 => let ⟨q1, q2, q3⟩ := a.fr c o h1 ht h2 h3; b.fr c o q1 ht q2 q3⟩
section
variable {K : PySem.W.Frag} {H F : Hp} {M : MH} {a : Addr}
theorem RepS.fno (S : RepS K H F M) (h : H a = none) : F a = none := S.fz.free h
theorem RepS.mno (S : RepS K H F M) (h : H a = none) : M a = none := by
 cases e : M a with
 | none => rfl
 | some m =>
  obtain ⟨_, o, q, _⟩ := S.mu a m e
  rw [h] at q
  cases q
theorem RepO.nt {F : Hp} {m : MO} {o : HO} (h : RepO K F m o) : NT o := by
 cases m with
 | lst ds => obtain ⟨_, e, _⟩ := h; rw [e]; trivial
 | dct ks ds => obtain ⟨_, e, _⟩ := h; rw [e]; trivial
 | dcT ks ds => obtain ⟨_, e, _⟩ := h; rw [e]; trivial
 | ins C ks ds => obtain ⟨_, _, e, _⟩ := h; rw [e]; trivial
 | tab q => obtain ⟨_, e, _⟩ := h; rw [e]; trivial
theorem RepS.adopt (S : RepS K H F M) {xs : List V} (h : H a = some (.tup xs)) : RepS K H (upd F a (.tup xs)) M ∧ Ext H F M H (upd F a (.tup xs)) M := by
 have sF : Same F (upd F a (.tup xs)) := fun b u q => by
  by_cases hb : b = a
  ·subst hb
   have := S.fz b u q
   rw [h] at this
   cases this
   exact upd_same
  ·rw [upd_ne hb]; exact q
 refine ⟨⟨fun b u q => ?_, fun b m q => ?_⟩, sF, fun b u q1 qt q2 q3 => ?_⟩
 ·by_cases hb : b = a
  ·subst hb; rw [upd_same] at q; cases q; exact h
  ·rw [upd_ne hb] at q; exact S.fz b u q
 ·obtain ⟨q1, u, q2, q3⟩ := S.mu b m q
  have hb : b ≠ a := fun z => by
   rw [z, h] at q2
   cases q2
   exact q3.nt
  exact ⟨by rw [upd_ne hb]; exact q1, u, q2, q3.mono sF⟩
 ·have hb : b ≠ a := fun z => by rw [z, h] at q1; cases q1; exact qt
  exact ⟨q1, by rw [upd_ne hb]; exact q2, q3⟩
theorem RepS.lay (S : RepS K H F M) (h : H a = none) (o : HO) : RepS K (upd H a o) (upd F a o) M ∧ Ext H F M (upd H a o) (upd F a o) M := by
 have hf := S.fno h
 have hm := S.mno h
 have sF : Same F (upd F a o) := fun b u q => by rw [upd_ne (ne_of_none q hf)]; exact q
 refine ⟨⟨fun b u q => ?_, fun b m q => ?_⟩, sF, fun b u q1 qt q2 q3 => ?_⟩
 ·by_cases hb : b = a
  ·subst hb; rw [upd_same] at q ⊢; exact q
  ·rw [upd_ne hb] at q ⊢; exact S.fz b u q
 ·have hb : b ≠ a := fun z => by rw [z, hm] at q; cases q
  obtain ⟨q1, u, q2, q3⟩ := S.mu b m q
  exact ⟨by rw [upd_ne hb]; exact q1, u, by rw [upd_ne hb]; exact q2, q3.mono sF⟩
 ·have hb : b ≠ a := fun z => by rw [z, h] at q1; cases q1
  exact ⟨by rw [upd_ne hb]; exact q1, by rw [upd_ne hb]; exact q2, q3⟩
theorem RepS.layM (S : RepS K H F M) (h : H a = none) {o : HO} {m : MO} (r : RepO K F m o) : RepS K (upd H a o) F (mupd M a m) ∧ Ext H F M (upd H a o) F (mupd M a m) := by
 have hf := S.fno h
 have hm := S.mno h
 refine ⟨⟨fun b u q => ?_, fun b n q => ?_⟩, Same.refl F, fun b u q1 qt q2 q3 => ?_⟩
 ·rw [upd_ne (ne_of_none q hf)]; exact S.fz b u q
 ·by_cases hb : b = a
  ·subst hb; rw [mupd_same] at q; cases q
   exact ⟨hf, o, upd_same, r⟩
  ·rw [mupd_ne hb] at q
   obtain ⟨q1, u, q2, q3⟩ := S.mu b n q
   exact ⟨q1, u, by rw [upd_ne hb]; exact q2, q3⟩
 ·have hb : b ≠ a := fun z => by rw [z, h] at q1; cases q1
  exact ⟨by rw [upd_ne hb]; exact q1, q2, by rw [mupd_ne hb]; exact q3⟩
theorem RepS.write (S : RepS K H F M) {m0 m : MO} (h : M a = some m0) {o : HO} (r : RepO K F m o) : RepS K (upd H a o) F (mupd M a m) ∧ Ext H F M (upd H a o) F (mupd M a m) := by
 obtain ⟨hf, _⟩ := S.mu a m0 h
 refine ⟨⟨fun b u q => ?_, fun b n q => ?_⟩, Same.refl F, fun b u q1 qt q2 q3 => ?_⟩
 ·rw [upd_ne (ne_of_none q hf)]; exact S.fz b u q
 ·by_cases hb : b = a
  ·subst hb; rw [mupd_same] at q; cases q
   exact ⟨hf, o, upd_same, r⟩
  ·rw [mupd_ne hb] at q
   obtain ⟨q1, u, q2, q3⟩ := S.mu b n q
   exact ⟨q1, u, by rw [upd_ne hb]; exact q2, q3⟩
 ·have hb : b ≠ a := fun z => by rw [z, h] at q3; cases q3
  exact ⟨by rw [upd_ne hb]; exact q1, q2, by rw [mupd_ne hb]; exact q3⟩
theorem RepS.freeze (S : RepS K H F M) {m : MO} {o : HO} (h : M a = some m) (ho : H a = some o) : RepS K H (upd F a o) (mdel M a) ∧ Ext H F M H (upd F a o) (mdel M a) := by
 obtain ⟨hf, _⟩ := S.mu a m h
 have sF : Same F (upd F a o) := fun b u q => by rw [upd_ne (ne_of_none q hf)]; exact q
 refine ⟨⟨fun b u q => ?_, fun b n q => ?_⟩, sF, fun b u q1 qt q2 q3 => ?_⟩
 ·by_cases hb : b = a
  ·subst hb; rw [upd_same] at q; cases q; exact ho
  ·rw [upd_ne hb] at q; exact S.fz b u q
 ·have hb : b ≠ a := fun z => by rw [z, mdel_same] at q; cases q
  rw [mdel_ne hb] at q
  obtain ⟨q1, u, q2, q3⟩ := S.mu b n q
  exact ⟨by rw [upd_ne hb]; exact q1, u, q2, q3.mono sF⟩
 ·have hb : b ≠ a := fun z => by rw [z, h] at q3; cases q3
  exact ⟨q1, by rw [upd_ne hb]; exact q2, by rw [mdel_ne hb]; exact q3⟩
theorem RepS.forget {M' : MH} (S : RepS K H F M) (s : Sub M' M) : RepS K H F M' ∧ Ext H F M H F M' :=
 ⟨⟨S.fz, fun b n q => S.mu b n (s b n q)⟩, Same.refl F, fun b u q1 qt q2 q3 => ⟨q1, q2, by
  cases e : M' b with
  | none => rfl
  | some n => rw [s b n e] at q3; cases q3⟩⟩
theorem RepS.mlst (S : RepS K H F M) {ds : List D} (h : M a = some (.lst ds)) : F a = none ∧ ds.length ≤ sizeLine ∧ ∃ xs, H a = some (.lst xs) ∧ Reps K F xs ds := by
 obtain ⟨hf, o, ho, xs, e, r, l⟩ := S.mu a _ h
 subst e
 exact ⟨hf, l, xs, ho, r⟩
end
abbrev Rh := List (Option D)
inductive RepE (K : PySem.W.Frag) (F : Hp) : L2.St → Rh → Prop
 | nil : RepE K F [] []
 | no {x : Option V} {σ : L2.St} {ρ : Rh} : RepE K F σ ρ → RepE K F (x :: σ) (none :: ρ)
 | yes {v : V} {d : D} {σ : L2.St} {ρ : Rh} : Rep K F v d → RepE K F σ ρ → RepE K F (some v :: σ) (some d :: ρ)
section
variable {K : PySem.W.Frag} {F F' : Hp}
theorem RepE.mono (e : Same F F') : ∀ {σ : L2.St} {ρ : Rh}, RepE K F σ ρ → RepE K F' σ ρ
 | _, _, .nil => .nil
 | _, _, .no r => .no (RepE.mono e r)
 | _, _, .yes h r => .yes (h.mono e) (RepE.mono e r)
theorem RepE.get : ∀ {σ : L2.St} {ρ : Rh} {i : Nat} {d : D}, RepE K F σ ρ → ρ[i]? = some (some d) → ∃ v, σ[i]? = some (some v) ∧ Rep K F v d
 | _, _, _, _, .nil, e => by simp at e
 | _, _, 0, _, .no _, e => by simp at e
 | _, _, 0, _, .yes h _, e => by simp at e; subst e; exact ⟨_, rfl, h⟩
 | _, _, i + 1, _, .no r, e => by
  obtain ⟨v, h1, h2⟩ := RepE.get (i := i) r (by simpa using e)
  exact ⟨v, by simpa using h1, h2⟩
 | _, _, i + 1, _, .yes _ r, e => by
  obtain ⟨v, h1, h2⟩ := RepE.get (i := i) r (by simpa using e)
  exact ⟨v, by simpa using h1, h2⟩
theorem RepE.set : ∀ {σ : L2.St} {ρ : Rh} {v : V} {d : D} (i : Nat), RepE K F σ ρ → Rep K F v d → RepE K F (σ.set i (some v)) (ρ.set i (some d))
 | _, _, _, _, _, .nil, _ => .nil
 | _, _, _, _, 0, .no r, q => .yes q r
 | _, _, _, _, 0, .yes _ r, q => .yes q r
 | _, _, _, _, i + 1, .no r, q => .no (RepE.set i r q)
 | _, _, _, _, i + 1, .yes h r, q => .yes h (RepE.set i r q)
theorem RepE.setNo : ∀ {σ : L2.St} {ρ : Rh} {x : Option V} (i : Nat), RepE K F σ ρ → RepE K F (σ.set i x) (ρ.set i none)
 | _, _, _, _, .nil => .nil
 | _, _, _, 0, .no r => .no r
 | _, _, _, 0, .yes _ r => .no r
 | _, _, _, i + 1, .no r => .no (RepE.setNo i r)
 | _, _, _, i + 1, .yes h r => .yes h (RepE.setNo i r)
theorem RepE.setD : ∀ {σ : L2.St} {ρ : Rh} {v : V} {d : D} (i : Nat), RepE K F σ ρ → σ[i]? = some (some v) → Rep K F v d → RepE K F σ (ρ.set i (some d))
 | _, _, _, _, _, .nil, _, _ => .nil
 | _, _, _, _, 0, .no r, e, q => by simp at e; subst e; exact .yes q r
 | _, _, _, _, 0, .yes _ r, e, q => by simp at e; subst e; exact .yes q r
 | _, _, _, _, i + 1, .no r, e, q => .no (RepE.setD i r (by simpa using e) q)
 | _, _, _, _, i + 1, .yes h r, e, q => .yes h (RepE.setD i r (by simpa using e) q)
end
def wipeD (ρ : Rh) : List Nat → Rh
 | [] => ρ
 | v :: vs => (wipeD ρ vs).set v none
theorem RepE.wipe {K : PySem.W.Frag} {F : Hp} {σ : L2.St} {ρ : Rh} (r : RepE K F σ ρ) : ∀ vs : List Nat, RepE K F (L2.wipe σ vs) (wipeD ρ vs)
 | [] => r
 | v :: vs => (r.wipe vs).setNo v
def startD (N : List Str) (ds : List D) : Rh := ds.map some ++ List.replicate (N.length - ds.length) none
theorem RepE.start {K : PySem.W.Frag} {F : Hp} {N : List Str} {vs : List V} {ds : List D} (r : Reps K F vs ds) : RepE K F (L2.start N vs) (startD N ds) := by
 unfold L2.start startD
 have tail : ∀ n : Nat, RepE K F (List.replicate n (none : Option V)) (List.replicate n (none : Option D)) := fun n => by
  induction n with
  | zero => exact .nil
  | succ n ih => exact .no ih
 rw [r.length]
 have go : ∀ {vs : List V} {ds : List D} {σ : L2.St} {ρ : Rh}, Reps K F vs ds → RepE K F σ ρ → RepE K F (vs.map some ++ σ) (ds.map some ++ ρ) := fun {vs ds σ ρ} r q => by
  induction ds generalizing vs with
  | nil => cases r; exact q
  | cons d ds ih =>
   cases r with
   | cons h t => exact .yes h (ih t)
 exact go r (tail _)
end DL
namespace DL
open PySem PySem.Spec PyProof.Rows L2
abbrev KD := D → MH → Prop
abbrev KE := Str → List (Str × D) → MH → Prop
inductive RepF (K : PySem.W.Frag) (F : Hp) : List (Str × V) → List (Str × D) → Prop
 | nil : RepF K F [] []
 | cons {n : Str} {v : V} {d : D} {vs : List (Str × V)} {ds : List (Str × D)} : Rep K F v d → RepF K F vs ds → RepF K F ((n, v) :: vs) ((n, d) :: ds)
def PostV (K : PySem.W.Frag) (H F : Hp) (M : MH) (k : KD) (Q : VK) : Prop := ∀ v d H' F' M', Ext H F M H' F' M' → RepS K H' F' M' → Rep K F' v d → k d M' → Q v H'
def PostB (K : PySem.W.Frag) (H F : Hp) (M : MH) (k : Bool → MH → Prop) (Q : Bool → Hp → Prop) : Prop := ∀ b H' F' M', Ext H F M H' F' M' → RepS K H' F' M' → k b M' → Q b H'
def PostA (K : PySem.W.Frag) (H F : Hp) (M : MH) (k : List D → MH → Prop) (Q : List V → Hp → Prop) : Prop := ∀ vs ds H' F' M', Ext H F M H' F' M' → RepS K H' F' M' → Reps K F' vs ds → k ds M' → Q vs H'
def PostX (K : PySem.W.Frag) (H F : Hp) (M : MH) (x : KE) (w : XK) : Prop := ∀ nm dd vfs fs H' F' M', Ext H F M H' F' M' → RepS K H' F' M' → H' dd = some (.xd vfs) → RepF K F' vfs fs → x nm fs M' → w (.ref (He.ga K nm)) (some dd) H'
section
variable {K : PySem.W.Frag} {H F : Hp} {M : MH} {H' F' : Hp} {M' : MH}
theorem PostV.on {k : KD} {Q : VK} (p : PostV K H F M k Q) (e : Ext H F M H' F' M') : PostV K H' F' M' k Q := fun v d H2 F2 M2 e2 => p v d H2 F2 M2 (e.trans e2)
theorem PostB.on {k : Bool → MH → Prop} {Q : Bool → Hp → Prop} (p : PostB K H F M k Q) (e : Ext H F M H' F' M') : PostB K H' F' M' k Q := fun b H2 F2 M2 e2 => p b H2 F2 M2 (e.trans e2)
theorem PostX.on {x : KE} {w : XK} (p : PostX K H F M x w) (e : Ext H F M H' F' M') : PostX K H' F' M' x w := fun C dd vfs fs H2 F2 M2 e2 => p C dd vfs fs H2 F2 M2 (e.trans e2)
theorem PostV.at {k : KD} {Q : VK} (p : PostV K H F M k Q) (S : RepS K H F M) {v : V} {d : D} (r : Rep K F v d) (h : k d M) : Q v H := p v d H F M (Ext.refl _ _ _) S r h
end
abbrev WE := Rh → MH → KD → KE → Prop
abbrev WT := Rh → MH → (Bool → MH → Prop) → KE → Prop
abbrev WA := Rh → MH → (List D → MH → Prop) → KE → Prop
def tOf (K : PySem.W.Frag) (W : WX) (w : WE) : TE := fun σ H Q => ∃ F M ρ k x, RepS K H F M ∧ RepE K F σ ρ ∧ w ρ M k x ∧ PostV K H F M k Q ∧ PostX K H F M x (fun c d => W c d σ)
def tOfT (K : PySem.W.Frag) (W : WX) (w : WT) : TT := fun σ H Q => ∃ F M ρ k x, RepS K H F M ∧ RepE K F σ ρ ∧ w ρ M k x ∧ PostB K H F M k Q ∧ PostX K H F M x (fun c d => W c d σ)
def tOfA (K : PySem.W.Frag) (W : WX) (w : WA) : TA := fun σ H Q => ∃ F M ρ k x, RepS K H F M ∧ RepE K F σ ρ ∧ w ρ M k x ∧ PostA K H F M k Q ∧ PostX K H F M x (fun c d => W c d σ)
theorem takes0N {X : Cx} : L2N.Takes X (fun _ _ _ _ => False) := fun _ _ ⟨_, _, _, _, _, _, _, _, _, _, _, _, _, _, _, _, w⟩ => w.elim
theorem sky_n {B : Heap} {l : List Env} {a : Addr} {cls : Value} {d : Option Addr} {L : Addr} {h : Heap} (x : Sky B l a (L2N.Zn cls d) L h) : Sky B l a (Zc cls d) L h := by
 rcases x with ⟨h1, h2, h3, oe, vs, he, hz, r⟩ | x | x
 ·exact .inl ⟨h1, h2, h3, oe, vs, he, hz.zc, r⟩
 ·exact .inr (.inl (L2H.flyingZ_imp (fun o z => L2N.Zn.zc z) x))
 ·exact .inr (.inr ⟨x.1, x.2.1, x.2.2.1, L2H.tracedZ_imp (fun o z => L2N.Zn.zc z) x.2.2.2⟩)
structure TkC where
 t : Cx → WX → Prop
 zero : ∀ {X : Cx}, t X fun _ _ _ _ => False
 n : ∀ {X : Cx} {W : WX}, t X W → L2N.Takes X W
theorem passLN {X : Cx} : Passes (L2N.CX X.prog X.w) X (fun _ _ _ => False) := fun _ _ _ _ _ _ _ h => by
 obtain ⟨_, _, _, _, _, _, _, _, _, _, _, _, z⟩ := h
 exact z.elim
theorem takes_n {X : Cx} {W : WX} (t : Takes X W) : L2N.Takes X W := fun u s' ⟨a, B, sI, pins, σ, H, cls, d, e, I, nb, up, sky, na, os, ag, w⟩ => t u s' ⟨a, B, sI, pins, σ, H, cls, d, e, I, nb, up, sky_n sky, na, os, ag, w⟩
def tkN : TkC := ⟨fun X W => L2N.Takes X W, takes0N, id⟩
def tkL : TkC := ⟨fun X W => L2.Takes X W, L2.takes0, takes_n⟩
structure DE (Tq : TkC) (X : Cx) (e : Expr) (w : WE) : Prop where
 pe : ∀ W, Tq.t X W → PE X e (tOf X.K W w)
structure DT (Tq : TkC) (X : Cx) (e : Expr) (w : WT) : Prop where
 pt : ∀ W, Tq.t X W → PT X e (tOfT X.K W w)
structure DW (Tq : TkC) (X : Cx) (e : Expr) (w : WT) : Prop where
 pw : ∀ W, Tq.t X W → PW X e (tOfT X.K W w)
structure DA (Tq : TkC) (X : Cx) (es : List Expr) (w : WA) : Prop where
 pa : ∀ W, Tq.t X W → PA X es (tOfA X.K W w)
section
variable {X : Cx}
theorem pe_imp {e : Expr} {t t' : TE} (h : PE X e t) (i : ∀ σ H Q, t' σ H Q → t σ H Q) : PE X e t' := ⟨fun pins s σ H Q I q => h.run pins s σ H Q I (i σ H Q q)⟩
theorem pt_imp {e : Expr} {t t' : TT} (h : PT X e t) (i : ∀ σ H Q, t' σ H Q → t σ H Q) : PT X e t' := ⟨fun pins s σ H Q I q => h.run pins s σ H Q I (i σ H Q q)⟩
theorem pw_imp {e : Expr} {t t' : TT} (h : PW X e t) (i : ∀ σ H Q, t' σ H Q → t σ H Q) : PW X e t' := ⟨fun wh pins s σ H Q I q => h.run wh pins s σ H Q I (i σ H Q q)⟩
theorem pa_imp {e : List Expr} {t t' : TA} (h : PA X e t) (i : ∀ σ H Q, t' σ H Q → t σ H Q) : PA X e t' := ⟨fun pos pins s σ H Q I q => h.run pos pins s σ H Q I (i σ H Q q)⟩
theorem ps_imp {st : Stmt} {t t' : TS} (h : PS X st t) (i : ∀ E σ H, t' E σ H → t E σ H) : PS X st t' := ⟨fun pins s σ H E I q => h.run pins s σ H E I (i E σ H q)⟩
theorem pss_imp {st : List Stmt} {t t' : TS} (h : PSs X st t) (i : ∀ E σ H, t' E σ H → t E σ H) : PSs X st t' := ⟨fun pins s σ H E I q => h.run pins s σ H E I (i E σ H q)⟩
theorem pi_imp {tg iter : Expr} {t t' : TI} (h : PI X tg iter t) (i : ∀ σ H R, t' σ H R → t σ H R) : PI X tg iter t' := ⟨fun pins s σ H R I q => h.run pins s σ H R I (i σ H R q)⟩
theorem pg_imp {tg : Expr} {t t' : TG} (h : PG X tg t) (i : ∀ v σ H Q, t' v σ H Q → t v σ H Q) : PG X tg t' := ⟨fun pins s σ H v u Q I r q => h.run pins s σ H v u Q I r (i v σ H Q q)⟩
end
def gd (b : Bool) (p : Prop) : Prop := match b with
 | true => p
 | false => False
theorem gd_of {b : Bool} {p : Prop} (h : gd b p) : b = true ∧ p := by
 cases b with
 | true => exact ⟨rfl, h⟩
 | false => exact h.elim
def wVar (i : Nat) : WE := fun ρ M k _ => match ρ[i]? with
 | some (some d) => k d M
 | _ => False
def wC (d : D) : WE := fun _ M k _ => k d M
section
variable {X : Cx} {pos : Pos}
theorem de_var {Tq : TkC} {i : Nat} {x : Str} (h : PE X (.Name x pos) (tVar i)) : DE Tq X (.Name x pos) (wVar i) := by
 refine ⟨fun W _ => pe_imp h fun σ H Q q => ?_⟩
 obtain ⟨F, M, ρ, k, x, S, E, w, pv, px⟩ := q
 unfold wVar at w
 split at w
 ·rename_i d e
  obtain ⟨v, h1, h2⟩ := E.get e
  exact ⟨v, h1, pv.at S h2 w⟩
 ·exact w.elim
theorem dv {Tq : TkC} (i : Nat) {x : Str} (hN : X.N[i]? = some x := by rfl) (hv : Vis X.env.scope x := by first | exact Or.inl rfl | exact Or.inr (Or.inl rfl) | exact Or.inr (Or.inr rfl)) (hd : (x == ("__debug__" : Str)) = false := by decide)
  (hcd : (x == ("__classdict__" : Str)) = false := by decide) : DE Tq X (.Name x pos) (wVar i) := de_var (pe_var hN hv hd hcd)
theorem de_c {Tq : TkC} {e : Expr} {v : V} {d : D} (h : PE X e (tC v)) (r : ∀ F, Rep X.K F v d) : DE Tq X e (wC d) := by
 refine ⟨fun W _ => pe_imp h fun σ H Q q => ?_⟩
 obtain ⟨F, M, ρ, k, x, S, E, w, pv, px⟩ := q
 exact pv.at S (r F) w
theorem de_int {Tq : TkC} {i : Int} {j} : DE Tq X (.Constant (.int i) j pos) (wC (.int i)) := de_c pe_int fun _ => .int i
theorem de_bl {Tq : TkC} {b : Bool} {j} : DE Tq X (.Constant (.bool b) j pos) (wC (.bl b)) := de_c pe_bl fun _ => .bl b
theorem de_non {Tq : TkC} {j} : DE Tq X (.Constant .none j pos) (wC .non) := de_c pe_non fun _ => .non
theorem de_str {Tq : TkC} {x : Str} {j} : DE Tq X (.Constant (.str x) j pos) (wC (.str x)) := de_c pe_str fun _ => .str x
theorem de_glob {Tq : TkC} {x : Str} {v : V} {u : Value} {d : D} (hm : X.mg x = some u) (r : RelV v u) (rd : ∀ F, Rep X.K F v d) (hg : Gl X x := by rfl) (hd : (x == ("__debug__" : Str)) = false := by decide) : DE Tq X (.Name x pos) (wC d) := de_c (pe_glob hg hm r hd) rd
end
def wOp (r : D → D → MH → KD → Prop) (wa wb : WE) : WE := fun ρ M k x => wa ρ M (fun d M1 => wb ρ M1 (fun e M2 => r d e M2 k) x) x
def wUn (r : D → MH → KD → Prop) (wa : WE) : WE := fun ρ M k x => wa ρ M (fun d M1 => r d M1 k) x
def OpD (X : Cx) (f : Value → Value → Sem Value) (r : D → D → MH → KD → Prop) : Prop :=
 ∃ r2 : R2, OpR X f r2 ∧ ∀ d e v u H F M k Q, RepS X.K H F M → Rep X.K F v d → Rep X.K F u e → r d e M k → PostV X.K H F M k Q → r2 v u H Q
def UnD (X : Cx) (f : Value → Sem Value) (r : D → MH → KD → Prop) : Prop :=
 ∃ r2 : V → Hp → VK → Prop, UnR X f r2 ∧ ∀ d v H F M k Q, RepS X.K H F M → Rep X.K F v d → r d M k → PostV X.K H F M k Q → r2 v H Q
section
variable {X : Cx} {a b : Expr} {wa wb : WE} {pos : Pos}
theorem two {W : WX} {σ : L2.St} {H F : Hp} {M : MH} {ρ : Rh} {k : D → D → MH → Prop} {x : KE} {Q : V → V → Hp → Prop} (S : RepS X.K H F M) (E : RepE X.K F σ ρ)
  (w : wa ρ M (fun d M1 => wb ρ M1 (fun e M2 => k d e M2) x) x) (px : PostX X.K H F M x (fun c d => W c d σ))
  (h : ∀ v u d e H2 F2 M2, Ext H F M H2 F2 M2 → RepS X.K H2 F2 M2 → Rep X.K F2 v d → Rep X.K F2 u e → k d e M2 → Q v u H2) : tOf X.K W wa σ H fun v H1 => tOf X.K W wb σ H1 fun u H2 => Q v u H2 := by
 refine ⟨F, M, ρ, _, x, S, E, w, fun v d H1 F1 M1 e1 S1 r1 w1 => ?_, px⟩
 refine ⟨F1, M1, ρ, _, x, S1, E.mono e1.sm, w1, fun u e H2 F2 M2 e2 S2 r2 w2 => ?_, px.on e1⟩
 exact h v u d e H2 F2 M2 (e1.trans e2) S2 (r1.mono e2.sm) r2 w2
theorem de_op {Tq : TkC} {op : Operator} {r : D → D → MH → KD → Prop} (ho : OpD X (binaryOp op) r) (ha : DE Tq X a wa) (hb : DE Tq X b wb) : DE Tq X (.BinOp a op b pos) (wOp r wa wb) := by
 obtain ⟨r2, h, s⟩ := ho
 refine ⟨fun W tk => pe_imp (pe_op h (ha.pe W tk) (hb.pe W tk)) fun σ H Q q => ?_⟩
 obtain ⟨F, M, ρ, k, x, S, E, w, pv, px⟩ := q
 exact two S E w px fun v u d e H2 F2 M2 e2 S2 r1 r2 w2 => s d e v u H2 F2 M2 k Q S2 r1 r2 w2 (pv.on e2)
theorem de_un {Tq : TkC} {op : UnaryOp} {r : D → MH → KD → Prop} (ho : UnD X (unaryOp op) r) (ha : DE Tq X a wa) : DE Tq X (.UnaryOp op a pos) (wUn r wa) := by
 obtain ⟨r2, h, s⟩ := ho
 refine ⟨fun W tk => pe_imp (pe_un h (ha.pe W tk)) fun σ H Q q => ?_⟩
 obtain ⟨F, M, ρ, k, x, S, E, w, pv, px⟩ := q
 exact ⟨F, M, ρ, _, x, S, E, w, fun v d H1 F1 M1 e1 S1 r1 w1 => s d v H1 F1 M1 k Q S1 r1 w1 (pv.on e1), px⟩
theorem de_cmp {Tq : TkC} {op : CmpOp} {r : D → D → MH → KD → Prop} (ho : OpD X (compareOp op) r) (ha : DE Tq X a wa) (hb : DE Tq X b wb) (hm : behindInMarks op b = false := by first | exact nomark _ | rfl) : DE Tq X (.Compare a [op] [b] pos) (wOp r wa wb) := by
 obtain ⟨r2, h, s⟩ := ho
 refine ⟨fun W tk => pe_imp (pe_cmpR h (ha.pe W tk) (hb.pe W tk) hm) fun σ H Q q => ?_⟩
 obtain ⟨F, M, ρ, k, x, S, E, w, pv, px⟩ := q
 exact two S E w px fun v u d e H2 F2 M2 e2 S2 r1 r2 w2 => s d e v u H2 F2 M2 k Q S2 r1 r2 w2 (pv.on e2)
def onBl (d : D) (p : Bool → Prop) : Prop := match d with
 | .bl b => p b
 | _ => False
def wTest (w : WE) : WT := fun ρ M k x => w ρ M (fun d M1 => onBl d fun b => k b M1) x
theorem bl_of {K : PySem.W.Frag} {F : Hp} {v : V} {d : D} {p : Bool → Prop} (r : Rep K F v d) (h : onBl d p) : ∃ b, v = .bl b ∧ p b := by
 cases d with
 | bl b => cases r; exact ⟨b, rfl, h⟩
 | _ => exact h.elim
theorem dt_cmp {Tq : TkC} {op : CmpOp} {r : D → D → MH → KD → Prop} (ho : OpD X (compareOp op) r) (ha : DE Tq X a wa) (hb : DE Tq X b wb) (hm : behindInMarks op b = false := by first | exact nomark _ | rfl) : DT Tq X (.Compare a [op] [b] pos) (wTest (wOp r wa wb)) := by
 obtain ⟨r2, h, s⟩ := ho
 refine ⟨fun W tk => pt_imp (pt_cmpR h (ha.pe W tk) (hb.pe W tk) hm) fun σ H Q q => ?_⟩
 obtain ⟨F, M, ρ, k, x, S, E, w, pv, px⟩ := q
 refine two S E w px fun v u d e H2 F2 M2 e2 S2 r1 r2 w2 => s d e v u H2 F2 M2 _ _ S2 r1 r2 w2 fun v' d' H3 F3 M3 e3 S3 r3 w3 => ?_
 obtain ⟨b, rfl, w4⟩ := bl_of r3 w3
 exact ⟨b, rfl, pv b H3 F3 M3 (e2.trans e3) S3 w4⟩
theorem dt_val {Tq : TkC} {e : Expr} {w : WE} (h : DE Tq X e w) (he : ∀ whole, isTrue e X.env whole = (do let v ← whole; standAt e.pos; holding [v] (truthy v)) := by intro _; rfl) : DT Tq X e (wTest w) := by
 refine ⟨fun W tk => pt_imp (pt_val (h.pe W tk) he) fun σ H Q q => ?_⟩
 obtain ⟨F, M, ρ, k, x, S, E, w, pv, px⟩ := q
 refine ⟨F, M, ρ, _, x, S, E, w, fun v' d' H3 F3 M3 e3 S3 r3 w3 => ?_, px⟩
 obtain ⟨b, rfl, w4⟩ := bl_of r3 w3
 exact ⟨b, rfl, pv b H3 F3 M3 e3 S3 w4⟩
theorem DW.dt {Tq : TkC} {w : WT} {e : Expr} (h : DW Tq X e w) : DT Tq X e w := ⟨fun W tk => (h.pw W tk).pt⟩
def wAnd (w u : WT) : WT := fun ρ M k x => w ρ M (fun b M1 => match b with
 | true => u ρ M1 k x
 | false => k false M1) x
def wOr (w u : WT) : WT := fun ρ M k x => w ρ M (fun b M1 => match b with
 | true => k true M1
 | false => u ρ M1 k x) x
variable {rest : List Expr} {wt wu : WT}
theorem dw_and1 {Tq : TkC} (ha : DT Tq X a wt) : DW Tq X (.BoolOp .And [a] pos) wt := ⟨fun W tk => pw_and1 (ha.pt W tk)⟩
theorem dw_or1 {Tq : TkC} (ha : DT Tq X a wt) : DW Tq X (.BoolOp .Or [a] pos) wt := ⟨fun W tk => pw_or1 (ha.pt W tk)⟩
theorem dw_and {Tq : TkC} (ha : DT Tq X a wt) (hb : DW Tq X (.BoolOp .And (b :: rest) pos) wu) : DW Tq X (.BoolOp .And (a :: b :: rest) pos) (wAnd wt wu) := by
 refine ⟨fun W tk => pw_imp (pw_and (ha.pt W tk) (hb.pw W tk)) fun σ H Q q => ?_⟩
 obtain ⟨F, M, ρ, k, x, S, E, w, pv, px⟩ := q
 refine ⟨F, M, ρ, _, x, S, E, w, fun c H3 F3 M3 e3 S3 w3 => ?_, px⟩
 cases c with
 | true => rw [if_pos rfl]; exact ⟨F3, M3, ρ, k, x, S3, E.mono e3.sm, w3, pv.on e3, px.on e3⟩
 | false => rw [if_neg Bool.false_ne_true]; exact pv _ H3 F3 M3 e3 S3 w3
theorem dw_or {Tq : TkC} (ha : DT Tq X a wt) (hb : DW Tq X (.BoolOp .Or (b :: rest) pos) wu) : DW Tq X (.BoolOp .Or (a :: b :: rest) pos) (wOr wt wu) := by
 refine ⟨fun W tk => pw_imp (pw_or (ha.pt W tk) (hb.pw W tk)) fun σ H Q q => ?_⟩
 obtain ⟨F, M, ρ, k, x, S, E, w, pv, px⟩ := q
 refine ⟨F, M, ρ, _, x, S, E, w, fun c H3 F3 M3 e3 S3 w3 => ?_, px⟩
 cases c with
 | true => rw [if_pos rfl]; exact pv _ H3 F3 M3 e3 S3 w3
 | false => rw [if_neg Bool.false_ne_true]; exact ⟨F3, M3, ρ, k, x, S3, E.mono e3.sm, w3, pv.on e3, px.on e3⟩
def wIf (wt : WT) (wa wb : WE) : WE := fun ρ M k x => wt ρ M (fun b M1 => match b with
 | true => wa ρ M1 k x
 | false => wb ρ M1 k x) x
theorem de_if {Tq : TkC} {c : Expr} (hc : DT Tq X c wt) (ha : DE Tq X a wa) (hb : DE Tq X b wb) : DE Tq X (.IfExp c a b pos) (wIf wt wa wb) := by
 refine ⟨fun W tk => pe_imp (pe_ifExp (hc.pt W tk) (ha.pe W tk) (hb.pe W tk)) fun σ H Q q => ?_⟩
 obtain ⟨F, M, ρ, k, x, S, E, w, pv, px⟩ := q
 refine ⟨F, M, ρ, _, x, S, E, w, fun c H3 F3 M3 e3 S3 w3 => ?_, px⟩
 cases c with
 | true => rw [if_pos rfl]; exact ⟨F3, M3, ρ, k, x, S3, E.mono e3.sm, w3, pv.on e3, px.on e3⟩
 | false => rw [if_neg Bool.false_ne_true]; exact ⟨F3, M3, ρ, k, x, S3, E.mono e3.sm, w3, pv.on e3, px.on e3⟩
end
def wNil : WA := fun _ M k _ => k [] M
def wCons (wa : WE) (wr : WA) : WA := fun ρ M k x => wa ρ M (fun d M1 => wr ρ M1 (fun ds M2 => k (d :: ds) M2) x) x
def onSeq (d : D) (p : List D → Prop) : Prop := match d with
 | .tup ds => p ds
 | .lst ds => p ds
 | _ => False
theorem seq_of {K : PySem.W.Frag} {F : Hp} {v : V} {d : D} {p : List D → Prop} (r : Rep K F v d) (h : onSeq d p) : ∃ a xs ds, v = .ref a ∧ (SqT K F a xs ∨ SqL K F a xs) ∧ Reps K F xs ds ∧ ds.length ≤ sizeLine ∧ p ds := by
 cases d with
 | tup ds => cases r with | tup a b c => exact ⟨_, _, _, rfl, .inl (SqT.of a), b, c, h⟩
 | lst ds => cases r with | lst a b c => exact ⟨_, _, _, rfl, .inr (SqL.of a), b, c, h⟩
 | _ => exact h.elim
def wTup (wa : WA) : WE := fun ρ M k x => wa ρ M (fun ds M1 => gd (Nat.ble ds.length 4096) (k (.tup ds) M1)) x
def wLst (wa : WA) : WE := fun ρ M k x => wa ρ M (fun ds M1 => gd (Nat.ble ds.length 4096) (k (.lst ds) M1)) x
def wLstM (wa : WA) : WE := fun ρ M k x => wa ρ M (fun ds M1 => gd (Nat.ble ds.length 4096) (∀ a, M1 a = none → k (.ref a) (mupd M1 a (.lst ds)))) x
theorem le_line {n : Nat} (h : n ≤ 4096) : n ≤ sizeLine := by rw [sizeLine_eq]; omega
section
variable {X : Cx} {e : Expr} {es : List Expr} {we : WE} {wa : WA} {pos : Pos}
theorem da_nil {Tq : TkC} : DA Tq X [] wNil := by
 refine ⟨fun W _ => pa_imp pa_nil fun σ H Q q => ?_⟩
 obtain ⟨F, M, ρ, k, x, S, E, w, pv, px⟩ := q
 exact pv _ _ H F M (Ext.refl _ _ _) S .nil w
theorem da_cons {Tq : TkC} (he : DE Tq X e we) (hr : DA Tq X es wa) (hs : starEach (e :: es) X.env = (false, eval e X.env) :: starEach es X.env := by rfl) : DA Tq X (e :: es) (wCons we wa) := by
 refine ⟨fun W tk => pa_imp (pa_cons (he.pe W tk) (hr.pa W tk) hs) fun σ H Q q => ?_⟩
 obtain ⟨F, M, ρ, k, x, S, E, w, pv, px⟩ := q
 refine ⟨F, M, ρ, _, x, S, E, w, fun v d H1 F1 M1 e1 S1 r1 w1 => ?_, px⟩
 refine ⟨F1, M1, ρ, _, x, S1, E.mono e1.sm, w1, fun us es H2 F2 M2 e2 S2 r2 w2 => ?_, px.on e1⟩
 exact pv _ _ H2 F2 M2 (e1.trans e2) S2 (.cons (r1.mono e2.sm) r2) w2
theorem de_tup {Tq : TkC} {x1} (h : DA Tq X es wa) : DE Tq X (.Tuple es x1 pos) (wTup wa) := by
 refine ⟨fun W tk => pe_imp (pe_tup (h.pa W tk)) fun σ H Q q => ?_⟩
 obtain ⟨F, M, ρ, k, x, S, E, w, pv, px⟩ := q
 refine ⟨F, M, ρ, _, x, S, E, w, fun vs ds H1 F1 M1 e1 S1 r1 w1 => ?_, px⟩
 obtain ⟨hb, w1⟩ := gd_of w1
 have hl : ds.length ≤ sizeLine := le_line (Nat.le_of_ble_eq_true hb)
 refine ⟨by rw [r1.length]; exact hl, fun p hp => ?_⟩
 obtain ⟨S2, e2⟩ := S1.lay hp (.tup vs)
 exact pv _ _ _ _ _ (e1.trans e2) S2 (.tup upd_same (r1.mono e2.sm) hl) w1
theorem de_lst {Tq : TkC} (h : DA Tq X es wa) : DE Tq X (.List es pos) (wLst wa) := by
 refine ⟨fun W tk => pe_imp (pe_lst (h.pa W tk)) fun σ H Q q => ?_⟩
 obtain ⟨F, M, ρ, k, x, S, E, w, pv, px⟩ := q
 refine ⟨F, M, ρ, _, x, S, E, w, fun vs ds H1 F1 M1 e1 S1 r1 w1 => ?_, px⟩
 obtain ⟨hb, w1⟩ := gd_of w1
 have hl : ds.length ≤ sizeLine := le_line (Nat.le_of_ble_eq_true hb)
 refine ⟨by rw [r1.length]; exact hl, fun p hp => ?_⟩
 obtain ⟨S2, e2⟩ := S1.lay hp (.lst vs)
 exact pv _ _ _ _ _ (e1.trans e2) S2 (.lst upd_same (r1.mono e2.sm) hl) w1
theorem de_lstM {Tq : TkC} (h : DA Tq X es wa) : DE Tq X (.List es pos) (wLstM wa) := by
 refine ⟨fun W tk => pe_imp (pe_lst (h.pa W tk)) fun σ H Q q => ?_⟩
 obtain ⟨F, M, ρ, k, x, S, E, w, pv, px⟩ := q
 refine ⟨F, M, ρ, _, x, S, E, w, fun vs ds H1 F1 M1 e1 S1 r1 w1 => ?_, px⟩
 obtain ⟨hb, w1⟩ := gd_of w1
 have hl : ds.length ≤ sizeLine := le_line (Nat.le_of_ble_eq_true hb)
 refine ⟨by rw [r1.length]; exact hl, fun p hp => ?_⟩
 obtain ⟨S2, e2⟩ := S1.layM hp (o := .lst vs) (m := .lst ds) ⟨vs, rfl, r1, hl⟩
 exact pv _ _ _ _ _ (e1.trans e2) S2 (.ref p) (w1 p (S1.mno hp))
end
end DL
namespace DL
open PySem PySem.Spec PyProof.Rows L2
structure EndsD where
 nx : Rh → MH → Prop
 rt : KD
 bk : Rh → MH → Prop
 ct : Rh → MH → Prop
 xc : KE
abbrev WS := Rh → MH → EndsD → Prop
def PostS (K : PySem.W.Frag) (H F : Hp) (M : MH) (k : Rh → MH → Prop) (Q : L2.St → Hp → Prop) : Prop := ∀ σ ρ H' F' M', Ext H F M H' F' M' → RepS K H' F' M' → RepE K F' σ ρ → k ρ M' → Q σ H'
theorem PostS.on {K : PySem.W.Frag} {H F : Hp} {M : MH} {H' F' : Hp} {M' : MH} {k : Rh → MH → Prop} {Q : L2.St → Hp → Prop} (p : PostS K H F M k Q) (e : Ext H F M H' F' M') : PostS K H' F' M' k Q := fun v d H2 F2 M2 e2 => p v d H2 F2 M2 (e.trans e2)
structure FinD (K : PySem.W.Frag) (W : WX) (H F : Hp) (M : MH) (E : EndsD) (D : Ends) : Prop where
 nx : PostS K H F M E.nx D.nx
 rt : PostV K H F M E.rt D.rt
 bk : PostS K H F M E.bk D.bk
 ct : PostS K H F M E.ct D.ct
 xc : ∀ σ, PostX K H F M E.xc (fun c d => W c d σ)
theorem FinD.on {K : PySem.W.Frag} {W : WX} {H F : Hp} {M : MH} {H' F' : Hp} {M' : MH} {E : EndsD} {D : Ends} (f : FinD K W H F M E D) (e : Ext H F M H' F' M') : FinD K W H' F' M' E D := ⟨f.nx.on e, f.rt.on e, f.bk.on e, f.ct.on e, fun σ => (f.xc σ).on e⟩
def tOfS (K : PySem.W.Frag) (W : WX) (w : WS) : TS := fun D σ H => ∃ F M ρ E, RepS K H F M ∧ RepE K F σ ρ ∧ w ρ M E ∧ FinD K W H F M E D
abbrev Pss (X : Cx) : Prop := PassesOwn (model X.prog X.w) X.A X.env X.xe
structure DS (Tq : TkC) (X : Cx) (st : Stmt) (w : WS) : Prop where
 ps : ∀ W, Tq.t X W → Pss X → PS X st (tOfS X.K W w)
structure DSs (Tq : TkC) (X : Cx) (st : List Stmt) (w : WS) : Prop where
 ps : ∀ W, Tq.t X W → Pss X → PSs X st (tOfS X.K W w)
def wNext : WS := fun ρ M E => E.nx ρ M
def wSeq (w u : WS) : WS := fun ρ M E => w ρ M { E with nx := fun ρ1 M1 => u ρ1 M1 E }
def wRet (w : WE) : WS := fun ρ M E => w ρ M E.rt E.xc
def wDrop (w : WE) : WS := fun ρ M E => w ρ M (fun _ M1 => E.nx ρ M1) E.xc
def wSet (i : Nat) (w : WE) : WS := fun ρ M E => w ρ M (fun d M1 => E.nx (ρ.set i (some d)) M1) E.xc
def wIfS (c : WT) (w u : WS) : WS := fun ρ M E => c ρ M (fun b M1 => match b with
 | true => w ρ M1 E
 | false => u ρ M1 E) E.xc
def wFrzD (i : Nat) (w : WS) : WS := fun ρ M E => ∃ a m e, ρ[i]? = some (some (.ref a)) ∧ M a = some m ∧ frzD m = some e ∧ w (ρ.set i (some e)) (mdel M a) E
section
variable {X : Cx} {st : Stmt} {rest : List Stmt} {w u : WS} {e : Expr} {we : WE} {pos : Pos}
theorem dss_nil {Tq : TkC} : DSs Tq X [] wNext := by
 refine ⟨fun W _ _ => pss_imp pss_nil fun D σ H q => ?_⟩
 obtain ⟨F, M, ρ, E, S, R, w, f⟩ := q
 exact f.nx _ _ H F M (Ext.refl _ _ _) S R w
theorem dss_cons {Tq : TkC} (h1 : DS Tq X st w) (h2 : DSs Tq X rest u) : DSs Tq X (st :: rest) (wSeq w u) := by
 refine ⟨fun W tk hp => pss_imp (pss_cons (h1.ps W tk hp) (h2.ps W tk hp)) fun D σ H q => ?_⟩
 obtain ⟨F, M, ρ, E, S, R, w, f⟩ := q
 exact ⟨F, M, ρ, _, S, R, w, fun σ' ρ' H' F' M' e' S' R' w' => ⟨F', M', ρ', E, S', R', w', f.on e'⟩, f.rt, f.bk, f.ct, f.xc⟩
theorem dss_one {Tq : TkC} (h1 : DS Tq X st w) : DSs Tq X [st] w := ⟨fun W tk hp => pss_one (h1.ps W tk hp)⟩
theorem dss_frzD {Tq : TkC} (i : Nat) (h : DSs Tq X rest w) : DSs Tq X rest (wFrzD i w) := by
 refine ⟨fun W tk hp => pss_imp (h.ps W tk hp) fun D σ H q => ?_⟩
 obtain ⟨F, M, ρ, E, S, R, ⟨a, m, e, h1, h2, h0, w⟩, f⟩ := q
 obtain ⟨_, o, ho, hr⟩ := S.mu a m h2
 obtain ⟨S2, e2⟩ := S.freeze h2 ho
 obtain ⟨v, hv, rv⟩ := R.get h1
 cases rv
 exact ⟨_, _, _, E, S2, (R.mono e2.sm).setD i hv (hr.frz h0 e2.sm upd_same), w, f.on e2⟩
theorem ds_expr {Tq : TkC} (he : DE Tq X e we) (hs : swapsWith e none pos.line X.env = pure false := by rfl) : DS Tq X (.Expr e pos) (wDrop we) := by
 refine ⟨fun W tk _ => ps_imp (ps_expr (he.pe W tk) hs) fun D σ H q => ?_⟩
 obtain ⟨F, M, ρ, E, S, R, w, f⟩ := q
 exact ⟨F, M, ρ, _, _, S, R, w, fun v d H1 F1 M1 e1 S1 r1 w1 => f.nx _ _ H1 F1 M1 e1 S1 (R.mono e1.sm) w1, f.xc σ⟩
theorem ds_ret {Tq : TkC} (he : DE Tq X e we) : DS Tq X (.Return (some e) pos) (wRet we) := by
 refine ⟨fun W tk _ => ps_imp (ps_ret (he.pe W tk)) fun D σ H q => ?_⟩
 obtain ⟨F, M, ρ, E, S, R, w, f⟩ := q
 exact ⟨F, M, ρ, _, _, S, R, w, f.rt, f.xc σ⟩
theorem ds_if {Tq : TkC} {c : Expr} {a b : List Stmt} {wc : WT} (hc : DT Tq X c wc) (ha : DSs Tq X a w) (hb : DSs Tq X b u) : DS Tq X (.If c a b pos) (wIfS wc w u) := by
 refine ⟨fun W tk hp => ps_imp (ps_if (hc.pt W tk) (ha.ps W tk hp) (hb.ps W tk hp)) fun D σ H q => ?_⟩
 obtain ⟨F, M, ρ, E, S, R, w, f⟩ := q
 refine ⟨F, M, ρ, _, _, S, R, w, fun b H1 F1 M1 e1 S1 w1 => ?_, f.xc σ⟩
 cases b with
 | true => rw [if_pos rfl]; exact ⟨F1, M1, ρ, E, S1, R.mono e1.sm, w1, f.on e1⟩
 | false => rw [if_neg Bool.false_ne_true]; exact ⟨F1, M1, ρ, E, S1, R.mono e1.sm, w1, f.on e1⟩
theorem set_in {W : WX} {i : Nat} {σ : L2.St} {H : Hp} {D : Ends} (q : tOfS X.K W (wSet i we) D σ H) : tAsg (tOf X.K W we) (gName i) D σ H := by
 obtain ⟨F, M, ρ, E, S, R, w, f⟩ := q
 exact ⟨F, M, ρ, _, _, S, R, w, fun v d H1 F1 M1 e1 S1 r1 w1 => f.nx _ _ H1 F1 M1 e1 S1 ((R.mono e1.sm).set i r1) w1, f.xc σ⟩
theorem ds_set {Tq : TkC} {i : Nat} {x : Str} {pos' : Pos} (hN : X.N.Nodup) (hi : X.N[i]? = some x) (hx : Loc X.env.scope x) (he : DE Tq X e we) (hs : swapsWith e (some (.Name x pos')) pos.line X.env = pure false := by rfl) (hf : X.fn x = true ∨ X.env.scope.names.lookup x = some .local := by first | exact .inl rfl | exact .inr rfl | assumption) :
  DS Tq X (.Assign [.Name x pos'] e pos) (wSet i we) := ⟨fun W tk _ => ps_imp (ps_set hN hi hx (he.pe W tk) hs hf) fun D σ H q => set_in q⟩
end
abbrev WG := D → Rh → MH → (Rh → MH → Prop) → Prop
abbrev WGs := List D → Rh → MH → (Rh → MH → Prop) → Prop
structure Chg (is : List Nat) (σ σ' : L2.St) : Prop where
 len : σ'.length = σ.length
 at_ : ∀ j, j ∉ is → σ'[j]? = σ[j]?
theorem Chg.refl (is : List Nat) (σ : L2.St) : Chg is σ σ := ⟨rfl, fun _ _ => rfl⟩
theorem Chg.wipe {is vs : List Nat} {σ σ' : L2.St} (c : Chg is σ σ') (h : ∀ i ∈ is, i ∈ vs) : L2.wipe σ' vs = L2.wipe σ vs := by
 have look : ∀ (τ : L2.St) (ws : List Nat) (j : Nat), (L2.wipe τ ws)[j]? = if j < τ.length then (if j ∈ ws then some none else τ[j]?) else none := fun τ ws j => by
  induction ws with
  | nil =>
   show τ[j]? = _
   by_cases hj : j < τ.length
   ·rw [if_pos hj]; simp
   ·rw [if_neg hj]; exact List.getElem?_eq_none (Nat.not_lt.mp hj)
  | cons w ws ih =>
   show ((L2.wipe τ ws).set w none)[j]? = _
   by_cases hj : j < τ.length
   ·rw [if_pos hj] at ih ⊢
    by_cases e : w = j
    ·subst e
     rw [List.getElem?_set_self (by rw [L2.wipe_length]; exact hj), if_pos List.mem_cons_self]
    ·rw [List.getElem?_set_ne e, ih]
     by_cases hm : j ∈ ws
     ·rw [if_pos hm, if_pos (List.mem_cons_of_mem _ hm)]
     ·rw [if_neg hm, if_neg (fun z => (List.mem_cons.mp z).elim (fun z => e z.symm) hm)]
   ·rw [if_neg hj]
    exact List.getElem?_eq_none (by rw [List.length_set, L2.wipe_length]; exact Nat.not_lt.mp hj)
 refine List.ext_getElem? fun j => ?_
 rw [look, look, c.len]
 by_cases hj : j < σ.length
 ·rw [if_pos hj, if_pos hj]
  by_cases hm : j ∈ vs
  ·rw [if_pos hm, if_pos hm]
  ·rw [if_neg hm, if_neg hm]
   exact c.at_ j fun z => hm (h j z)
 ·rw [if_neg hj, if_neg hj]
def PostG (K : PySem.W.Frag) (H F : Hp) (M : MH) (is : List Nat) (σ : L2.St) (k : Rh → MH → Prop) (Q : L2.St → Hp → Prop) : Prop := ∀ σ' ρ H' F' M', Ext H F M H' F' M' → RepS K H' F' M' → RepE K F' σ' ρ → Chg is σ σ' → k ρ M' → Q σ' H'
def gOf (K : PySem.W.Frag) (is : List Nat) (w : WG) : TG := fun v σ H Q => ∃ d F M ρ k, RepS K H F M ∧ RepE K F σ ρ ∧ Rep K F v d ∧ w d ρ M k ∧ PostG K H F M is σ k Q
def gsOf (K : PySem.W.Frag) (is : List Nat) (w : WGs) : TGs := fun vs σ H Q => ∃ ds F M ρ k, RepS K H F M ∧ RepE K F σ ρ ∧ Reps K F vs ds ∧ w ds ρ M k ∧ PostG K H F M is σ k Q
structure DG (X : Cx) (tg : Expr) (is : List Nat) (w : WG) : Prop where
 pg : PG X tg (gOf X.K is w)
structure DGs (X : Cx) (ts : List Expr) (is : List Nat) (w : WGs) : Prop where
 pg : PGs X ts (gsOf X.K is w)
def wgN (i : Nat) : WG := fun d ρ M k => k (ρ.set i (some d)) M
def wgNil : WGs := fun ds ρ M k => match ds with
 | [] => k ρ M
 | _ => False
def wgCons (w : WG) (u : WGs) : WGs := fun ds ρ M k => match ds with
 | d :: r => w d ρ M fun ρ1 M1 => u r ρ1 M1 k
 | [] => False
def wgTup (n : Nat) (w : WGs) : WG := fun d ρ M k => onSeq d fun ds => gd (Nat.beq ds.length n) (w ds ρ M k)
section
variable {X : Cx} {pos : Pos}
theorem dg_name {i : Nat} {x : Str} (hN : X.N.Nodup) (hi : X.N[i]? = some x) (hx : Loc X.env.scope x) (hf : X.fn x = true ∨ X.env.scope.names.lookup x = some .local := by first | exact .inl rfl | exact .inr rfl | assumption) : DG X (.Name x pos) [i] (wgN i) := by
 refine ⟨pg_imp (pg_name hN hi hx hf) fun v σ H Q q => ?_⟩
 obtain ⟨d, F, M, ρ, k, S, R, r, w, f⟩ := q
 exact f _ _ H F M (Ext.refl _ _ _) S (R.set i r) ⟨List.length_set, fun j hj => List.getElem?_set_ne fun z => hj (by simp [z])⟩ w
theorem pgs_imp {ts : List Expr} {t t' : TGs} (h : PGs X ts t) (i : ∀ v σ H Q, t' v σ H Q → t v σ H Q) : PGs X ts t' := ⟨fun pins s σ H v u Q I r q => h.run pins s σ H v u Q I r (i v σ H Q q)⟩
theorem dgs_nil : DGs X [] [] wgNil := by
 refine ⟨pgs_imp pgs_nil fun v σ H Q q => ?_⟩
 obtain ⟨ds, F, M, ρ, k, S, R, r, w, f⟩ := q
 cases ds with
 | nil => cases r; exact ⟨rfl, f _ _ H F M (Ext.refl _ _ _) S R (Chg.refl _ _) w⟩
 | cons d ds => exact w.elim
theorem dgs_cons {e : Expr} {es : List Expr} {is js : List Nat} {w : WG} {u : WGs} (h1 : DG X e is w) (h2 : DGs X es js u)
  (hs : (assignEach (e :: es) X.env).map (·.2) = assign e X.env :: (assignEach es X.env).map (·.2) := by rfl) : DGs X (e :: es) (is ++ js) (wgCons w u) := by
 refine ⟨pgs_imp (pgs_cons h1.pg h2.pg hs) fun v σ H Q q => ?_⟩
 obtain ⟨ds, F, M, ρ, k, S, R, r, w, f⟩ := q
 cases ds with
 | nil => exact w.elim
 | cons d ds =>
  cases r with
  | cons r1 r2 =>
   exact ⟨_, _, rfl, d, F, M, ρ, _, S, R, r1, w, fun σ' ρ' H' F' M' e' S' R' c' w' => ⟨ds, F', M', ρ', k, S', R', r2.mono e'.sm, w', fun σ2 ρ2 H2 F2 M2 e2 S2 R2 c2 w2 =>
    f σ2 ρ2 H2 F2 M2 (e'.trans e2) S2 R2 ⟨c2.len.trans c'.len, fun j hj => (c2.at_ j fun z => hj (List.mem_append_right _ z)).trans (c'.at_ j fun z => hj (List.mem_append_left _ z))⟩ w2⟩⟩
theorem dg_tup {es : List Expr} {k : Nat} {is : List Nat} {w : WGs} {n : Nat} (hc : X.calm = true) (h : DGs X es is w)
  (hn : (assignEach es X.env).length = n := by rfl) (hst : (assignEach es X.env).findIdx? (·.1) = none := by rfl) : DG X (.Tuple es k pos) is (wgTup n w) := by
 refine ⟨⟨fun pins s σ H v u Q I rv q => ?_⟩⟩
 obtain ⟨d, F, M, ρ, k, S, R, r, w, f⟩ := q
 obtain ⟨a, xs, ds, rfl, hq, hr, hl, w⟩ := seq_of r w
 obtain ⟨hb, w⟩ := gd_of w
 have hlen : ds.length = n := Nat.eq_of_beq_eq_true hb
 have hx : xs.length = n := hr.length.trans hlen
 have inner : gsOf X.K is _ xs σ H Q := ⟨ds, F, M, ρ, k, S, R, hr, w, f⟩
 rcases hq with hq | hq
 ·exact (pg_tup hc h.pg hn hst).run pins s σ H _ u Q I rv ⟨a, xs, rfl, seqT S.fz hq, hx, inner⟩
 ·exact (pg_lst hc h.pg hn hst).run pins s σ H _ u Q I rv ⟨a, xs, rfl, S.fz.seq hq, hx, inner⟩
def wAsg (we : WE) (g : WG) : WS := fun ρ M E => we ρ M (fun d M1 => g d ρ M1 E.nx) E.xc
theorem ds_asg {Tq : TkC} {tg e : Expr} {we : WE} {is : List Nat} {g : WG} (he : DE Tq X e we) (hg : DG X tg is g) (hs : swapsWithSole [tg] e pos.line X.env = pure false := by rfl) (hw : swappedStores [tg] e X.env = pure none := by rfl)
  (h1 : (assignEach [tg] X.env).map (·.2) = [assign tg X.env] := by rfl) : DS Tq X (.Assign [tg] e pos) (wAsg we g) := by
 refine ⟨fun W tk _ => ps_imp (ps_asg (he.pe W tk) hg.pg hs hw h1) fun D σ H q => ?_⟩
 obtain ⟨F, M, ρ, E, S, R, w, f⟩ := q
 exact ⟨F, M, ρ, _, _, S, R, w, fun v d H1 F1 M1 e1 S1 r1 w1 => ⟨d, F1, M1, ρ, _, S1, R.mono e1.sm, r1, w1, fun σ2 ρ2 H2 F2 M2 e2 S2 R2 _ w2 => f.nx σ2 ρ2 H2 F2 M2 (e1.trans e2) S2 R2 w2⟩, f.xc σ⟩
def wPut (wo wi we : WE) : WS := fun ρ M E => we ρ M (fun d M1 => wo ρ M1 (fun o M2 => wi ρ M2 (fun i M3 => ∃ a ds n j, o = .ref a ∧ i = .int n ∧ M3 a = some (.lst ds) ∧ ixN ds.length n = some j ∧ E.nx ρ (mupd M3 a (.lst (ds.set j d)))) E.xc) E.xc) E.xc
theorem ds_put {Tq : TkC} {o i e : Expr} {wo wi we : WE} {pt : Pos} (ho : DE Tq X o wo) (hi : DE Tq X i wi) (he : DE Tq X e we)
  (ha : ∀ v, assign (.Subscript o i pt) X.env v = (do
   let ov ← holding [v] (eval o X.env)
   let iv ← holding [v, ov] (eval i X.env)
   standAt pt
   holding [v, ov, iv] (setItem ov iv v)
   release [v, ov, iv] []) := by intro _; rfl)
  (hs : swapsWithSole [.Subscript o i pt] e pos.line X.env = pure false := by rfl) (hw : swappedStores [.Subscript o i pt] e X.env = pure none := by rfl)
  (h1 : (assignEach [.Subscript o i pt] X.env).map (·.2) = [assign (.Subscript o i pt) X.env] := by rfl) : DS Tq X (.Assign [.Subscript o i pt] e pos) (wPut wo wi we) := by
 refine ⟨fun W tk _ => ps_imp (ps_asg (he.pe W tk) (pg_sub (ho.pe W tk) (hi.pe W tk) set_list ha) hs hw h1) fun D σ H q => ?_⟩
 obtain ⟨F, M, ρ, E, S, R, w, f⟩ := q
 refine ⟨F, M, ρ, _, _, S, R, w, fun v d H1 F1 M1 e1 S1 r1 w1 => ?_, f.xc σ⟩
 refine ⟨F1, M1, ρ, _, _, S1, R.mono e1.sm, w1, fun vo o H2 F2 M2 e2 S2 r2 w2 => ?_, (f.xc σ).on e1⟩
 have e12 := e1.trans e2
 refine ⟨F2, M2, ρ, _, _, S2, R.mono e12.sm, w2, fun vi i H3 F3 M3 e3 S3 r3 w3 => ?_, (f.xc σ).on e12⟩
 obtain ⟨a, ds, n, j, rfl, rfl, hm, hj, w4⟩ := w3
 cases r2
 cases r3
 obtain ⟨_, hl, xs, hx, hr⟩ := S3.mlst hm
 obtain ⟨S4, e4⟩ := S3.write hm (o := .lst (xs.set j v)) (m := .lst (ds.set j d)) ⟨_, rfl, hr.set j (r1.mono (e2.trans e3).sm), by rw [List.length_set]; exact hl⟩
 have e := (e12.trans e3).trans e4
 exact ⟨a, xs, n, j, rfl, rfl, hx, by rw [hr.length]; exact hj, f.nx _ _ _ _ _ e S4 (R.mono e.sm) w4⟩
end
structure Wks (K : PySem.W.Frag) (F : Hp) (J : It) (ds : List D) (g : MH → Prop) : Prop where
 sz : ds.length ≤ sizeLine
 go : ∀ i H F' M, i < ds.length → Same F F' → RepS K H F' M → g M → J.go i H
 stop : ∀ H F' M, Same F F' → RepS K H F' M → g M → J.stop ds.length H
 yld : ∀ i H v H3 F' M, i < ds.length → Same F F' → RepS K H F' M → g M → J.yld i H v H3 → ∃ F3 d, Ext H F' M H3 F3 M ∧ RepS K H3 F3 M ∧ ds[i]? = some d ∧ Rep K F3 v d
abbrev WI := Rh → MH → (List D → (MH → Prop) → MH → Prop) → KE → Prop
def iOf (K : PySem.W.Frag) (W : WX) (w : WI) : TI := fun σ H R => ∃ F M ρ k x, RepS K H F M ∧ RepE K F σ ρ ∧ w ρ M k x ∧
 (∀ J ds g H' F' M', Ext H F M H' F' M' → RepS K H' F' M' → Wks K F' J ds g → k ds g M' → R J H') ∧ PostX K H F M x (fun c d => W c d σ)
structure DI (Tq : TkC) (X : Cx) (tg iter : Expr) (w : WI) : Prop where
 pi : ∀ W, Tq.t X W → PI X tg iter (iOf X.K W w)
def wiSeq (w : WE) : WI := fun ρ M k x => w ρ M (fun d M1 => onSeq d fun ds => k ds (fun _ => True) M1) x
def intsFrom (lo : Int) : Nat → List D
 | 0 => []
 | n + 1 => .int lo :: intsFrom (lo + 1) n
theorem intsFrom_len : ∀ (n : Nat) (lo : Int), (intsFrom lo n).length = n
 | 0, _ => rfl
 | n + 1, lo => congrArg (· + 1) (intsFrom_len n (lo + 1))
theorem intsFrom_get : ∀ (n : Nat) (lo : Int) (i : Nat), i < n → (intsFrom lo n)[i]? = some (.int (lo + i))
 | 0, _, _, h => absurd h (Nat.not_lt_zero _)
 | n + 1, lo, 0, _ => by simp [intsFrom]
 | n + 1, lo, i + 1, h => by
  have q := intsFrom_get n (lo + 1) i (Nat.lt_of_succ_lt_succ h)
  show (intsFrom (lo + 1) n)[i]? = _
  rw [q]
  congr 2
  omega
def onInt (d : D) (p : Int → Prop) : Prop := match d with
 | .int i => p i
 | _ => False
theorem int_of {K : PySem.W.Frag} {F : Hp} {v : V} {d : D} {p : Int → Prop} (r : Rep K F v d) (h : onInt d p) : ∃ b, v = .int b ∧ p b := by
 cases d with
 | int b => cases r; exact ⟨b, rfl, h⟩
 | _ => exact h.elim
def wiR1 (w : WE) : WI := fun ρ M k x => w ρ M (fun d M1 => onInt d fun n => n ≤ 16777216 ∧ -(2 ^ 62) ≤ n ∧ k (intsFrom 0 n.toNat) (fun _ => True) M1) x
section
variable {X : Cx} {tg : Expr}
theorem wks_list {K : PySem.W.Frag} {F : Hp} {a : Addr} {xs : List V} {ds : List D} (h : SqL K F a xs) (r : Reps K F xs ds) (hl : ds.length ≤ sizeLine) : Wks K F (Itl K a) ds (fun _ => True) where
 sz := hl
 go := fun i H F' M hi s S _ => by
  have h' := S.fz.seq (s.seq h)
  have hi' : i < xs.length := by rw [r.length]; exact hi
  exact ⟨xs, xs[i], h', by simp [hi']⟩
 stop := fun H F' M s S _ => ⟨xs, S.fz.seq (s.seq h), by rw [r.length]; exact Nat.le_refl _⟩
 yld := fun i H v H3 F' M hi s S _ y => by
  obtain ⟨e, y⟩ := y
  subst e
  obtain ⟨d, h1, h2⟩ := r.getV (y xs (S.fz.seq (s.seq h)))
  exact ⟨F', d, Ext.refl _ _ _, S, h1, h2.mono s⟩
theorem wks_tup {K : PySem.W.Frag} {F : Hp} {a : Addr} {xs : List V} {ds : List D} (h : SqT K F a xs) (r : Reps K F xs ds) (hl : ds.length ≤ sizeLine) : Wks K F (Itt K a) ds (fun _ => True) where
 sz := hl
 go := fun i H F' M hi s S _ => by
  have h' := seqT S.fz (seqT s h)
  have hi' : i < xs.length := by rw [r.length]; exact hi
  exact ⟨xs, xs[i], h', by simp [hi']⟩
 stop := fun H F' M s S _ => ⟨xs, seqT S.fz (seqT s h), by rw [r.length]; exact Nat.le_refl _⟩
 yld := fun i H v H3 F' M hi s S _ y => by
  obtain ⟨e, y⟩ := y
  subst e
  obtain ⟨d, h1, h2⟩ := r.getV (y xs (seqT S.fz (seqT s h)))
  exact ⟨F', d, Ext.refl _ _ _, S, h1, h2.mono s⟩
theorem wks_range {K : PySem.W.Frag} {F : Hp} {lo : Int} {n : Nat} (hl : n ≤ sizeLine) : Wks K F (Itr lo n) (intsFrom lo n) (fun _ => True) where
 sz := by rw [intsFrom_len]; exact hl
 go := fun i H F' M hi s S _ => by rw [intsFrom_len] at hi; exact hi
 stop := fun H F' M s S _ => by rw [intsFrom_len]; exact Nat.le_refl _
 yld := fun i H v H3 F' M hi s S _ y => by
  obtain ⟨e, y⟩ := y
  subst e
  rw [intsFrom_len] at hi
  subst y
  exact ⟨F', _, Ext.refl _ _ _, S, intsFrom_get n lo i hi, .int _⟩
theorem di_seq {Tq : TkC} {e : Expr} {w : WE} (h : DE Tq X e w) : DI Tq X tg e (wiSeq w) := by
 refine ⟨fun W tk => ⟨fun pins s σ H R I q => ?_⟩⟩
 obtain ⟨F, M, ρ, k, x, S, E, w, f, px⟩ := q
 refine thn ((h.pe W tk).run pins s σ H (fun v H1 => ∃ d F1 M1, Ext H F M H1 F1 M1 ∧ RepS X.K H1 F1 M1 ∧ Rep X.K F1 v d ∧ onSeq d fun ds => k ds (fun _ => True) M1) I ⟨F, M, ρ, _, x, S, E, w, fun v d H1 F1 M1 e1 S1 r1 w1 => ⟨d, F1, M1, e1, S1, r1, w1⟩, px⟩) fun u s1 ⟨v, H1, I1, rv, d, F1, M1, e1, S1, r1, w1⟩ => ?_
 obtain ⟨a, xs, ds, rfl, hq, hr, hl, w1⟩ := seq_of r1 w1
 cases rv
 rcases hq with hq | hq
 ·obtain ⟨its, rv, p, hz⟩ := I1.tuple (seqT S1.fz hq)
  refine wpAny_pyIter_tuple (show s1.heap.IsTuple a its.toArray from p) ?_
  refine ⟨s1.heap.objs.size, [s1.heap.objs.size], _, _, H1, rfl, I1.kept (t' := s1.toks) fun b o e => Heap.get?_push_of_some _ e, turn_tuple a _, ⟨_, Heap.get?_push_size _ rfl, rfl, rfl⟩, fun b hb => ?_, f _ _ _ _ _ _ e1 S1 (wks_tup hq hr hl) w1⟩
  have e : b = s1.heap.objs.size := by simpa using hb
  subst e
  exact I1.fpOk (Nat.le_refl _) (I1.hok.fresh (Nat.le_refl _))
 ·obtain ⟨its, rv, p, hz⟩ := I1.list (S1.fz.seq hq)
  refine wpAny_pyIter_list p.isList ?_
  refine ⟨s1.heap.objs.size, [s1.heap.objs.size], _, _, H1, rfl, I1.kept (t' := s1.toks) fun b o e => Heap.get?_push_of_some _ e, turn_list a _, ⟨_, Heap.get?_push_size _ rfl, rfl, rfl⟩, fun b hb => ?_, f _ _ _ _ _ _ e1 S1 (wks_list hq hr hl) w1⟩
  have e : b = s1.heap.objs.size := by simpa using hb
  subst e
  exact I1.fpOk (Nat.le_refl _) (I1.hok.fresh (Nat.le_refl _))
theorem di_r1 {Tq : TkC} {a : Expr} {w : WE} {p pos : Pos} (hm : X.mg "range" = none) (ha : DE Tq X a w) (hg : Gl X "range" := by rfl) (hs : starEach [a] X.env = [(false, eval a X.env)] := by rfl) (h0 : starEach (a :: []) X.env = (false, eval a X.env) :: starEach [] X.env := by rfl) : DI Tq X tg (.Call (.Name "range" p) [a] [] pos) (wiR1 w) := by
 refine ⟨fun W tk => pi_imp (pi_range1 hg hm (pa_cons (ha.pe W tk) pa_nil h0) hs) fun σ H R q => ?_⟩
 obtain ⟨F, M, ρ, k, x, S, E, w, f, px⟩ := q
 refine ⟨F, M, ρ, _, x, S, E, w, fun v d H1 F1 M1 e1 S1 r1 w1 => ?_, px⟩
 obtain ⟨n, rfl, h1, h2, w2⟩ := int_of r1 w1
 exact ⟨n, rfl, h2, by omega, f _ _ _ _ _ _ e1 S1 (wks_range (by rw [sizeLine_eq]; omega)) w2⟩
end
def forD0 (gt : WG) (wb : WS) (g : MH → Prop) (E : EndsD) : List D → Rh → MH → Prop
 | [], ρ, M => g M ∧ E.nx ρ M
 | d :: r, ρ, M => g M ∧ gt d ρ M fun ρ1 M1 => wb ρ1 M1 { nx := forD0 gt wb g E r, rt := E.rt, bk := E.nx, ct := forD0 gt wb g E r, xc := E.xc }
@[irreducible] def forD (gt : WG) (wb : WS) (g : MH → Prop) (E : EndsD) (ds : List D) (ρ : Rh) (M : MH) : Prop := forD0 gt wb g E ds ρ M
theorem forD_eq {gt : WG} {wb : WS} {g : MH → Prop} {E : EndsD} {ds : List D} {ρ : Rh} {M : MH} : forD gt wb g E ds ρ M = forD0 gt wb g E ds ρ M := by unfold forD; rfl
def wFor (wi : WI) (gt : WG) (wb : WS) : WS := fun ρ M E => wi ρ M (fun ds g M1 => forD gt wb g E ds ρ M1) E.xc
def whD (wt : WT) (wb : WS) (E : EndsD) : Nat → Rh → MH → Prop
 | 0, _, _ => False
 | n + 1, ρ, M => wt ρ M (fun b M1 => match b with
  | true => wb ρ M1 { nx := whD wt wb E n, rt := E.rt, bk := E.nx, ct := whD wt wb E n, xc := E.xc }
  | false => E.nx ρ M1) E.xc
def wWhile (wt : WT) (wb : WS) : WS := fun ρ M E => ∃ n, whD wt wb E n ρ M
theorem drop_cons {α : Type} {l : List α} {i : Nat} {d : α} (h : l[i]? = some d) : l.drop i = d :: l.drop (i + 1) := by
 obtain ⟨h1, h2⟩ := List.getElem?_eq_some_iff.mp h
 rw [List.drop_eq_getElem_cons h1, h2]
section
variable {X : Cx} {pos : Pos}
theorem ds_for {Tq : TkC} {tg iter : Expr} {body : List Stmt} {wi : WI} {is : List Nat} {gt : WG} {wb : WS} (hc : X.calm = true) (hi : DI Tq X tg iter wi) (hg : DG X tg is gt) (hb : DSs Tq X body wb)
  (hs : ∀ x, foldedSetIterable iter X.env x = pure x := by intro _; rfl) : DS Tq X (.For tg iter body [] pos) (wFor wi gt wb) := by
 refine ⟨fun W tk hp => ps_imp (ps_for hp hc (hi.pi W tk) hg.pg (hb.ps W tk hp) hs) fun D σ H q => ?_⟩
 obtain ⟨F, M, ρ, E, S, R, w, f⟩ := q
 refine ⟨F, M, ρ, _, _, S, R, w, fun J ds g H1 F1 M1 e1 S1 wk w1 => ?_, f.xc σ⟩
 have w1 : forD0 gt wb g E ds ρ M1 := forD_eq ▸ w1
 refine ⟨fun i m σ' H' => m = ds.length - i ∧ i ≤ ds.length ∧ ∃ F' M' ρ', Ext H1 F1 M1 H' F' M' ∧ RepS X.K H' F' M' ∧ RepE X.K F' σ' ρ' ∧ forD0 gt wb g E (ds.drop i) ρ' M', ⟨_, rfl, Nat.zero_le _, F1, M1, ρ, Ext.refl _ _ _, S1, R.mono e1.sm, w1⟩, ?_⟩
 rintro i m σ' H' ⟨rfl, hi, F', M', ρ', e', S', R', w'⟩
 by_cases hlt : i < ds.length
 ·obtain ⟨d, hd⟩ : ∃ d, ds[i]? = some d := ⟨ds[i], by simp [hlt]⟩
  rw [drop_cons hd] at w'
  obtain ⟨gm, w'⟩ := w'
  refine .inr ⟨wk.go i H' F' M' hlt e'.sm S' gm, fun σ2 H2 => ∃ F2 M2 ρ2, Ext H1 F1 M1 H2 F2 M2 ∧ RepS X.K H2 F2 M2 ∧ RepE X.K F2 σ2 ρ2 ∧ forD0 gt wb g E (ds.drop (i + 1)) ρ2 M2, fun σ2 H2 n2 => ⟨_, by omega, rfl, hlt, n2⟩, fun v H3 y => ?_⟩
  obtain ⟨F3, d', e3, S3, hd', r3⟩ := wk.yld i H' v H3 F' M' hlt e'.sm S' gm y
  rw [hd] at hd'
  cases hd'
  refine ⟨d, F3, M', ρ', _, S3, R'.mono e3.sm, r3, w', fun σ4 ρ4 H4 F4 M4 e4 S4 R4 _ w4 => ?_⟩
  have e14 := (e'.trans e3).trans e4
  have f4 := f.on (e1.trans e14)
  refine ⟨F4, M4, ρ4, _, S4, R4, w4, fun σ5 ρ5 H5 F5 M5 e5 S5 R5 w5 => ⟨F5, M5, ρ5, e14.trans e5, S5, R5, w5⟩, f4.rt, f4.nx, fun σ5 ρ5 H5 F5 M5 e5 S5 R5 w5 => ⟨F5, M5, ρ5, e14.trans e5, S5, R5, w5⟩, f4.xc⟩
 ·have e : i = ds.length := by omega
  subst e
  rw [List.drop_length] at w'
  exact .inl ⟨wk.stop H' F' M' e'.sm S' w'.1, f.nx _ _ H' F' M' (e1.trans e') S' R' w'.2⟩
theorem ds_while {Tq : TkC} {c : Expr} {body : List Stmt} {wt : WT} {wb : WS} (hc : DT Tq X c wt) (hb : DSs Tq X body wb) : DS Tq X (.While c body [] pos) (wWhile wt wb) := by
 refine ⟨fun W tk hp => ps_imp (ps_while hp (hc.pt W tk) (hb.ps W tk hp)) fun D σ H q => ?_⟩
 obtain ⟨F, M, ρ, E, S, R, ⟨n, w⟩, f⟩ := q
 refine ⟨fun m σ' H' => ∃ F' M' ρ', Ext H F M H' F' M' ∧ RepS X.K H' F' M' ∧ RepE X.K F' σ' ρ' ∧ whD wt wb E m ρ' M', ⟨n, F, M, ρ, Ext.refl _ _ _, S, R, w⟩, ?_⟩
 rintro m σ' H' ⟨F', M', ρ', e', S', R', w'⟩
 cases m with
 | zero => exact w'.elim
 | succ m =>
  refine ⟨F', M', ρ', _, _, S', R', w', fun b H1 F1 M1 e1 S1 w1 => ?_, (f.xc σ').on e'⟩
  have e01 := e'.trans e1
  have f1 := f.on e01
  cases b with
  | true =>
   refine iteT ?_
   have more : ∀ {σ2 : L2.St} {H2 F2 : Hp} {M2 : MH} {ρ2 : Rh}, Ext H1 F1 M1 H2 F2 M2 → RepS X.K H2 F2 M2 → RepE X.K F2 σ2 ρ2 → whD wt wb E m ρ2 M2 → ∃ F' M' ρ', Ext H F M H2 F' M' ∧ RepS X.K H2 F' M' ∧ RepE X.K F' σ2 ρ' ∧ whD wt wb E m ρ' M' := fun {σ2 H2 F2 M2 ρ2} e2 S2 R2 w2 => ⟨F2, M2, ρ2, e01.trans e2, S2, R2, w2⟩
   exact ⟨fun σ2 H2 => ∃ F' M' ρ', Ext H F M H2 F' M' ∧ RepS X.K H2 F' M' ∧ RepE X.K F' σ2 ρ' ∧ whD wt wb E m ρ' M', fun σ2 H2 n2 => ⟨m, Nat.lt_succ_self m, n2⟩,
    F1, M1, ρ', _, S1, R'.mono e1.sm, w1, fun σ5 ρ5 H5 F5 M5 e5 S5 R5 w5 => more e5 S5 R5 w5, f1.rt, f1.nx, fun σ5 ρ5 H5 F5 M5 e5 S5 R5 w5 => more e5 S5 R5 w5, f1.xc⟩
  | false =>
   refine iteF ?_
   exact f.nx _ _ H1 F1 M1 e01 S1 (R'.mono e1.sm) w1
end
def noX : KE := fun _ _ _ => False
theorem noX_post {K : PySem.W.Frag} {H F : Hp} {M : MH} {w : XK} : PostX K H F M noX w := fun _ _ _ _ _ _ _ _ _ _ _ z => z.elim
abbrev noW : WX := fun _ _ _ _ => False
structure DTs (Tq : TkC) (X : Cx) (ifs : List Expr) (w : WT) : Prop where
 pt : ∀ W, Tq.t X W → PTs X ifs (tOfT X.K W w)
def wYes : WT := fun _ M k _ => k true M
def compD (gt : WG) (wt : WT) (we : WE) (g : MH → Prop) (ρ : Rh) : List D → MH → (List D → MH → Prop) → Prop
 | [], M, k => g M ∧ k [] M
 | d :: r, M, k => g M ∧ gt d ρ M fun ρ1 M1 => wt ρ1 M1 (fun b M2 => match b with
  | true => we ρ1 M2 (fun e M3 => compD gt wt we g ρ r M3 fun es M4 => k (e :: es) M4) noX
  | false => compD gt wt we g ρ r M2 k) noX
def wLc (wi : WI) (gt : WG) (wt : WT) (we : WE) (own : List Nat) : WE := fun ρ M k x => wi ρ M (fun ds g M1 => compD gt wt we g (wipeD ρ own) ds M1 fun es M2 => k (.lst es) M2) x
section
variable {X : Cx}
theorem dts_nil {Tq : TkC} : DTs Tq X [] wYes := by
 refine ⟨fun W _ => ⟨fun pins s σ H Q I q => ?_⟩⟩
 obtain ⟨F, M, ρ, k, x, S, E, w, pv, px⟩ := q
 exact pts_nil.run pins s σ H Q I (pv true H F M (Ext.refl _ _ _) S w)
theorem dts_one {Tq : TkC} {c : Expr} {w : WT} (h : DT Tq X c w) : DTs Tq X [c] w := ⟨fun W tk => pts_one (h.pt W tk)⟩
theorem RepS.untold {K : PySem.W.Frag} {H F : Hp} {M : MH} {a : Addr} (S : RepS K H F M) (hf : F a = none) (hm : M a = none) (o : HO) : RepS K (upd H a o) F M :=
 ⟨fun b u q => by rw [upd_ne (ne_of_none q hf)]; exact S.fz b u q, fun b m q => by
  obtain ⟨q1, u, q2, q3⟩ := S.mu b m q
  have hb : b ≠ a := fun z => by rw [z, hm] at q; cases q
  exact ⟨q1, u, by rw [upd_ne hb]; exact q2, q3⟩⟩
theorem Ext.at_new {H F : Hp} {M : MH} {H' F' : Hp} {M' : MH} {a : Addr} (e : Ext H F M H' F' M') (h : H a = none) (o : HO) : Ext H F M (upd H' a o) F' M' :=
 ⟨e.sm, fun b u q1 qt q2 q3 => by
  have hb : b ≠ a := fun z => by rw [z, h] at q1; cases q1
  rw [upd_ne hb]
  exact e.fr b u q1 qt q2 q3⟩
theorem wipe_wipe (σ : L2.St) (vs : List Nat) : L2.wipe (L2.wipe σ vs) vs = L2.wipe σ vs := by
 have c : Chg vs σ (L2.wipe σ vs) := ⟨L2.wipe_length σ vs, fun j hj => by
  induction vs with
  | nil => rfl
  | cons w ws ih =>
   show ((L2.wipe σ ws).set w none)[j]? = _
   rw [List.getElem?_set_ne fun z => hj (by simp [z])]
   exact ih fun z => hj (List.mem_cons_of_mem _ z)⟩
 exact c.wipe fun i h => h
theorem lc_in {K : PySem.W.Frag} {wi : WI} {is : List Nat} {gt : WG} {wt : WT} {we : WE} {own : List Nat} (hsub : ∀ i ∈ is, i ∈ own) {W : WX} {σ : L2.St} {H : Hp} {Q : VK} {F : Hp} {M : MH} {ρ : Rh} {x : KE} {k : List D → MH → Prop}
  (S : RepS K H F M) (R : RepE K F σ ρ) (w : wi ρ M (fun ds g M1 => compD gt wt we g (wipeD ρ own) ds M1 k) x) (px : PostX K H F M x (fun c d => W c d σ))
  (fin : ∀ (H1 F1 : Hp) (M1 : MH) (D : Addr) vs es H' F' M', Ext H F M H1 F1 M1 → H1 D = none → Ext H1 F1 M1 H' F' M' → RepS K H' F' M' → H' D = some (.lst vs) → F' D = none → M' D = none → Reps K F' vs es → es.length ≤ sizeLine → k es M' → Q (.ref D) H') :
  tLc (iOf K W wi) (gOf K is gt) (tOfT K noW wt) (tOf K noW we) own σ H Q := by
 refine ⟨F, M, ρ, _, x, S, R, w, fun J ds g H1 F1 M1 e1 S1 wk w1 => ?_, px⟩
 intro D hD
 have R1 : RepE K F1 (L2.wipe σ own) (wipeD ρ own) := (R.mono e1.sm).wipe own
 refine ⟨fun i m H' => m = ds.length - i ∧ i ≤ ds.length ∧ ∃ F' M' vs acc, Ext H1 F1 M1 H' F' M' ∧ RepS K H' F' M' ∧ H' D = some (.lst vs) ∧ F' D = none ∧ M' D = none ∧ Reps K F' vs acc ∧ acc.length ≤ i ∧
   compD gt wt we g (wipeD ρ own) (ds.drop i) M' (fun es M'' => k (acc ++ es) M''),
  ⟨_, rfl, Nat.zero_le _, F1, M1, [], [], (Ext.refl _ _ _).at_new hD _, S1.untold (S1.fno hD) (S1.mno hD) _, upd_same, S1.fno hD, S1.mno hD, .nil, Nat.le_refl _, w1⟩, ?_⟩
 rintro i m H' ⟨rfl, hi, F', M', vs, acc, e', S', hD', fD, mD, ra, la, w'⟩
 by_cases hlt : i < ds.length
 ·obtain ⟨d, hd⟩ : ∃ d, ds[i]? = some d := ⟨ds[i], by simp [hlt]⟩
  rw [drop_cons hd] at w'
  obtain ⟨gm, w'⟩ := w'
  refine .inr ⟨wk.go i H' F' M' hlt e'.sm S' gm, fun H2 => ∃ F2 M2 vs acc, Ext H1 F1 M1 H2 F2 M2 ∧ RepS K H2 F2 M2 ∧ H2 D = some (.lst vs) ∧ F2 D = none ∧ M2 D = none ∧ Reps K F2 vs acc ∧ acc.length ≤ i + 1 ∧
   compD gt wt we g (wipeD ρ own) (ds.drop (i + 1)) M2 (fun es M'' => k (acc ++ es) M''), fun H2 n2 => ⟨_, by omega, rfl, hlt, n2⟩, fun v H3 y => ?_⟩
  obtain ⟨F3, d', e3, S3, hd', r3⟩ := wk.yld i H' v H3 F' M' hlt e'.sm S' gm y
  rw [hd] at hd'
  cases hd'
  obtain ⟨hD3, fD3, mD3⟩ := e3.fr D _ hD' True.intro fD mD
  refine ⟨d, F3, M', _, _, S3, R1.mono (e'.trans e3).sm, r3, w', fun σ4 ρ4 H4 F4 M4 e4 S4 R4 c4 w4 => ⟨c4.wipe hsub |>.trans ?_, ?_⟩⟩
  ·exact wipe_wipe σ own
  obtain ⟨hD4, fD4, mD4⟩ := e4.fr D _ hD3 True.intro fD3 mD3
  refine ⟨F4, M4, ρ4, _, noX, S4, R4, w4, fun b H5 F5 M5 e5 S5 w5 => ?_, noX_post⟩
  obtain ⟨hD5, fD5, mD5⟩ := e5.fr D _ hD4 True.intro fD4 mD4
  have e05 := ((e'.trans e3).trans e4).trans e5
  have e35 := (e3.trans e4).trans e5
  cases b with
  | true =>
   refine iteT ?_
   refine ⟨F5, M5, ρ4, _, noX, S5, R4.mono e5.sm, w5, fun u e H6 F6 M6 e6 S6 r6 w6 => ?_, noX_post⟩
   obtain ⟨hD6, fD6, mD6⟩ := e6.fr D _ hD5 True.intro fD5 mD5
   have rv := ra.mono (e35.trans e6).sm
   refine ⟨vs, hD6, by rw [rv.length]; have := wk.sz; omega, F6, M6, _, acc ++ [e], (e05.trans e6).at_new hD _, S6.untold fD6 mD6 _, upd_same, fD6, mD6, rv.snoc r6, by rw [List.length_append, List.length_singleton]; omega, ?_⟩
   have q : (fun es M'' => k (acc ++ [e] ++ es) M'') = (fun es M'' => k (acc ++ (e :: es)) M'') := by
    funext es M''
    rw [List.append_assoc]
    rfl
   rw [q]
   exact w6
  | false =>
   refine iteF ?_
   exact ⟨F5, M5, vs, acc, e05, S5, hD5, fD5, mD5, ra.mono e35.sm, Nat.le_succ_of_le la, w5⟩
 ·have e : i = ds.length := by omega
  subst e
  rw [List.drop_length] at w'
  refine .inl ⟨wk.stop H' F' M' e'.sm S' w'.1, ?_⟩
  have w2 : k (acc ++ []) M' := w'.2
  rw [List.append_nil] at w2
  exact fin H1 F1 M1 D vs acc H' F' M' e1 hD e' S' hD' fD mD ra (Nat.le_trans la wk.sz) w2
section
variable {elt tg iter : Expr} {ifs : List Expr} {scope : Scope} {own : List (Str × Nat)} {pos : Pos} {wi : WI} {is : List Nat} {gt : WG} {wt : WT} {we : WE}
theorem fin_frz {K : PySem.W.Frag} {H F : Hp} {M : MH} {k : KD} {Q : VK} (pv : PostV K H F M k Q) (H1 F1 : Hp) (M1 : MH) (L : Addr) (vs : List V) (es : List D) (H' F' : Hp) (M' : MH) (e1 : Ext H F M H1 F1 M1) (hD : H1 L = none) (e' : Ext H1 F1 M1 H' F' M')
  (S' : RepS K H' F' M') (hD' : H' L = some (.lst vs)) (fD : F' L = none) (mD : M' L = none) (r : Reps K F' vs es) (hl : es.length ≤ sizeLine) (w : k (.lst es) M') : Q (.ref L) H' := by
 have sF : Same F' (upd F' L (.lst vs)) := fun b u q => by rw [upd_ne (ne_of_none q fD)]; exact q
 have S2 : RepS K H' (upd F' L (.lst vs)) M' := ⟨fun b u q => by
  by_cases hb : b = L
  ·subst hb; rw [upd_same] at q; cases q; exact hD'
  ·rw [upd_ne hb] at q; exact S'.fz b u q, fun b m q => by
  have hb : b ≠ L := fun z => by rw [z, mD] at q; cases q
  obtain ⟨q1, u, q2, q3⟩ := S'.mu b m q
  exact ⟨by rw [upd_ne hb]; exact q1, u, q2, q3.mono sF⟩⟩
 have e2 : Ext H1 F1 M1 H' (upd F' L (.lst vs)) M' := ⟨e'.sm.trans sF, fun b u q1 qt q2 q3 => by
  have hb : b ≠ L := fun z => by rw [z, hD] at q1; cases q1
  rw [upd_ne hb]
  exact e'.fr b u q1 qt q2 q3⟩
 exact pv _ _ _ _ _ (e1.trans e2) S2 (.lst upd_same (r.mono sF) hl) w
theorem de_lc {Tq : TkC} (hc : X.calm = true) (hN : X.N.Nodup) (hi : DI Tq X tg iter wi) (ok : BlkOk X.N X.env.scope scope own) (hsub : ∀ i ∈ is, i ∈ own.map (·.2))
  (hg : ∀ (s : Shared) (H : Hp) (C : Addr) (cl : List (Str × Addr)) (fp : List Addr), DG (X.blk s H scope (compEnvC scope cl C X.env) fp) tg is gt) (ht : ∀ (s : Shared) (H : Hp) (C : Addr) (cl : List (Str × Addr)) (fp : List Addr), DTs Tq (X.blk s H scope (compEnvC scope cl C X.env) fp) ifs wt)
  (he : ∀ (s : Shared) (H : Hp) (C : Addr) (cl : List (Str × Addr)) (fp : List Addr), DE Tq (X.blk s H scope (compEnvC scope cl C X.env) fp) elt we) (hs : ∀ x, foldedSetIterable iter X.env x = pure x := by intro _; rfl) :
  DE Tq X (.ListComp elt [⟨tg, iter, ifs, 0⟩] scope pos) (wLc wi gt wt we (own.map (·.2))) := by
 refine ⟨fun W tk => pe_imp (pe_lc (te := tOf X.K noW we) (tt := tOfT X.K noW wt) (g := gOf X.K is gt) hc hN (hi.pi W tk) ok (fun s H C cl fp => (hg s H C cl fp).pg) (fun s H C cl fp => (ht s H C cl fp).pt noW Tq.zero) (fun s H C cl fp => (he s H C cl fp).pe noW Tq.zero) hs) fun σ H Q q => ?_⟩
 obtain ⟨F, M, ρ, k, x, S, R, w, pv, px⟩ := q
 exact lc_in hsub S R w px (fin_frz pv)
theorem ds_setLc {Tq : TkC} {i : Nat} {y : Str} {py spos : Pos} (hc : X.calm = true) (hN : X.N.Nodup) (hy : X.N[i]? = some y) (hyl : X.env.scope.names.lookup y = some .local) (hsw : swapsWith (.ListComp elt [⟨tg, iter, ifs, 0⟩] scope pos) (some (.Name y py)) spos.line X.env = pure true)
  (hi : DI Tq X tg iter wi) (ok : BlkOk X.N X.env.scope scope own) (hsub : ∀ i ∈ is, i ∈ own.map (·.2))
  (hg : ∀ (s : Shared) (H : Hp) (C : Addr) (cl : List (Str × Addr)) (fp : List Addr), DG (X.blk s H scope (compEnvC scope cl C X.env) fp) tg is gt) (ht : ∀ (s : Shared) (H : Hp) (C : Addr) (cl : List (Str × Addr)) (fp : List Addr), DTs Tq (X.blk s H scope (compEnvC scope cl C X.env) fp) ifs wt)
  (he : ∀ (s : Shared) (H : Hp) (C : Addr) (cl : List (Str × Addr)) (fp : List Addr), DE Tq (X.blk s H scope (compEnvC scope cl C X.env) fp) elt we) (hs : ∀ x, foldedSetIterable iter X.env x = pure x := by intro _; rfl) :
  DS Tq X (.Assign [.Name y py] (.ListComp elt [⟨tg, iter, ifs, 0⟩] scope pos) spos) (wSet i (wLc wi gt wt we (own.map (·.2)))) := by
 refine ⟨fun W tk _ => ps_imp (ps_setLc (te := tOf X.K noW we) (tt := tOfT X.K noW wt) (g := gOf X.K is gt) hc hN hy hyl hsw (hi.pi W tk) ok (fun s H C cl fp => (hg s H C cl fp).pg) (fun s H C cl fp => (ht s H C cl fp).pt noW Tq.zero) (fun s H C cl fp => (he s H C cl fp).pe noW Tq.zero) hs) fun D σ H q => ?_⟩
 obtain ⟨F, M, ρ, k, x, S, R, w, pv, px⟩ := set_in (X := X) q
 exact lc_in hsub S R w px (fin_frz pv)
end
end
abbrev WF := List D → MH → KD → KE → Prop
def spD (K : PySem.W.Frag) (n : Nat) (wf : WF) : Sp := fun vs H Q E => ∃ F M ds k x, RepS K H F M ∧ Reps K F vs ds ∧ ds.length = n ∧ wf ds M k x ∧ PostV K H F M k Q ∧ PostX K H F M x E
structure FnD (P : Program) (w : World) (K : PySem.W.Frag) (mg : Str → Option Value) (base : Heap) (f : Str) (k n : Nat) (wf : WF) : Prop where
 ex : ∃ (a : Addr) (fd : FuncData) (ps : List Str), ps.length = n ∧ FnOk P w K mg base (L2N.CX P w) k a fd ps (spD K n wf) ∧ mg f = some (.ref a) ∧ PySem.W.keepIn K (.ref a) = true ∧ Binds K fd ps []
def wCall (wf : WF) (n : Nat) (wa : WA) : WE := fun ρ M k x => wa ρ M (fun ds M1 => gd (Nat.beq ds.length n) (wf ds M1 k x)) x
section
variable {X : Cx} {pos p : Pos} {f : Str} {e : Expr} {es : List Expr} {k n : Nat} {wf : WF} {wa : WA}
theorem de_call {Tq : TkC} (F : FnD X.prog X.w X.K X.mg X.base f k n wf) (hr : Room k X.A) (ha : DA Tq X (e :: es) wa) (hg : Gl X f := by rfl) (hd : (f == ("__debug__" : Str)) = false := by decide)
  (he : starEach (e :: es) X.env = (false, eval e X.env) :: starEach es X.env := by rfl) (hpl : (backTo pos (starEach es X.env)).any (·.1) = false := by rfl) : DE Tq X (.Call (.Name f p) (e :: es) [] pos) (wCall wf n wa) := by
 obtain ⟨a, fd, ps, hn, G, hm, hk, hb⟩ := F.ex
 refine ⟨fun W tk => pe_imp (pe_callS G hr hg hm hk hb (fun σ => L2N.passAt (Tq.n tk) σ) (ha.pa W tk) hd he hpl) fun σ H Q q => ?_⟩
 obtain ⟨F, M, ρ, k, x, S, R, w, pv, px⟩ := q
 refine ⟨F, M, ρ, _, x, S, R, w, fun vs ds H1 F1 M1 e1 S1 r1 w1 => ?_, px⟩
 obtain ⟨hl, w1⟩ := gd_of w1
 exact ⟨F1, M1, ds, k, x, S1, r1, Nat.eq_of_beq_eq_true hl, w1, pv.on e1, px.on e1⟩
end
def Lt (k : KD) : KD := fun d M => ∃ M', Sub M' M ∧ (k d M' ∨ ∃ a m e, d = .ref a ∧ M a = some m ∧ frzD m = some e ∧ M' a = none ∧ k e M')
theorem Lt.now {k : KD} {d : D} {M : MH} (h : k d M) : Lt k d M := ⟨M, Sub.refl M, .inl h⟩
theorem Lt.drop {k : KD} {d : D} {M M' : MH} (s : Sub M' M) (h : k d M') : Lt k d M := ⟨M', s, .inl h⟩
theorem Lt.frzM {k : KD} {a : Addr} {m : MO} {e : D} {M M' : MH} (s : Sub M' M) (h1 : M a = some m) (h0 : frzD m = some e) (h2 : M' a = none) (h : k e M') : Lt k (.ref a) M := ⟨M', s, .inr ⟨a, m, e, rfl, h1, h0, h2, h⟩⟩
def Ltx (x : KE) : KE := fun C fs M => ∃ M', Sub M' M ∧ x C fs M'
theorem Ltx.now {x : KE} {C : Str} {fs : List (Str × D)} {M : MH} (h : x C fs M) : Ltx x C fs M := ⟨M, Sub.refl M, h⟩
def retE (k : KD) (x : KE) : EndsD := { nx := fun _ M => Lt k .non M, rt := Lt k, bk := fun _ _ => False, ct := fun _ _ => False, xc := Ltx x }
theorem PostV.lt {K : PySem.W.Frag} {H F : Hp} {M : MH} {k : KD} {Q : VK} (pv : PostV K H F M k Q) : PostV K H F M (Lt k) Q := fun v d H' F' M' e S r h => by
 obtain ⟨M2, s, h | ⟨a, m, d2, rfl, h1, h0, h2, h⟩⟩ := h
 ·obtain ⟨S2, e2⟩ := S.forget s
  exact pv v d _ _ _ (e.trans e2) S2 r h
 ·cases r
  obtain ⟨_, o, ho, hr⟩ := S.mu a m h1
  obtain ⟨S2, e2⟩ := S.freeze h1 ho
  have s2 : Sub M2 (mdel M' a) := fun b o q => by
   have hb : b ≠ a := fun z => by rw [z, h2] at q; cases q
   rw [mdel_ne hb]
   exact s b o q
  obtain ⟨S3, e3⟩ := S2.forget s2
  exact pv _ _ _ _ _ ((e.trans e2).trans e3) S3 (hr.frz h0 e2.sm upd_same) h
theorem PostX.lt {K : PySem.W.Frag} {H F : Hp} {M : MH} {x : KE} {w : XK} (px : PostX K H F M x w) : PostX K H F M (Ltx x) w := fun C dd vfs fs H' F' M' e S hd r h => by
 obtain ⟨M2, s, h⟩ := h
 obtain ⟨S2, e2⟩ := S.forget s
 exact px C dd vfs fs _ _ _ (e.trans e2) S2 hd r h
section
variable {P : Program} {w : World} {K : PySem.W.Frag} {mg : Str → Option Value} {base : Heap}
theorem fun_okN {y ql : Str} {t0 : Stmt} {g : Addr} {gd : FuncData} {Ns qs : List Str} {j : Nat} {wish : Sp} (G : Fun K y ql t0 g gd) (S : FnScope Ns qs (defScope t0)) (hn : ∀ ws H Q E, wish ws H Q E → ws.length = qs.length)
  (hB : ∀ (cv : Value) (A : Around) (around : List Env) (s : Shared) (H : Hp) (ws : List V) (Q : VK) (E : XK), Room j (A.deeper (envOfC ql (defScope t0) s.heap.objs.size g cv)) → wish ws H Q E →
   ∃ t, PSs (cxOf (L2N.CX P w) P w K mg base Ns ql (defScope t0) g cv A around s H E) (defBody t0) t ∧ t { nx := fun _ H' => Q .non H', rt := Q } (L2.start Ns ws) H) : FnOk P w K mg base (L2N.CX P w) (j + 1) g gd qs wish := by
 obtain ⟨_, _, _, _, _, _, cv, _, _, rfl, at', hc⟩ := G.ex
 exact fn_of at' hc S hn fun A around s H ws Q E room q => hB cv A around s H ws Q E room q
theorem fn_d {x qual : Str} {st : Stmt} {f : Addr} {fd : FuncData} {N ps : List Str} {k : Nat} {wf : WF} {wb : WS} (G : Fun K x qual st f fd) (S : FnScope N ps (defScope st))
  (hb : ∀ (cdv : Value) (A : Around) (outer : List Env) (s : Shared) (H : Hp) (E : XK), Room k (A.deeper (envOfC qual (defScope st) s.heap.objs.size f cdv)) → DSs tkN (cxOf (L2N.CX P w) P w K mg base N qual (defScope st) f cdv A outer s H E) (defBody st) wb)
  (hw : ∀ ds M k x, ds.length = ps.length → wf ds M k x → wb (startD N ds) M (retE k x)) : FnOk P w K mg base (L2N.CX P w) (k + 1) f fd ps (spD K ps.length wf) := by
 refine fun_okN G S (fun vs H Q E h => ?_) (fun cdv A outer s H vs Q E hr h => ?_)
 ·obtain ⟨F, M, ds, k, x, S, r, hl, _⟩ := h
  exact r.length.trans hl
 ·have d := hb cdv A outer s H E hr
  refine ⟨_, d.ps (fun cls d _ H => E cls d H) (L2N.takes_of rfl rfl rfl rfl) (passes_of rfl), ?_⟩
  obtain ⟨F, M, ds, k, x, S1, r, hl, q, pv, px⟩ := h
  exact ⟨F, M, startD N ds, retE k x, S1, RepE.start r, hw ds M k x hl q, fun σ' ρ' H' F' M' e' S' R' w' => pv.lt _ _ _ _ _ e' S' .non w', pv.lt, fun _ _ _ _ _ _ _ _ z => z.elim, fun _ _ _ _ _ _ _ _ z => z.elim, fun σ => px.lt⟩
end
end DL
namespace DL
open PySem PySem.Spec PyProof.Rows L2
theorem tuple_mul1 (l : Addr) (items : Array Value) (n : Nat) (dd : Option Addr) (sl : Array (Option Value)) (x : Int) (u : Tok) (c0 : (decide (x < -(2 ^ 63)) || decide (x ≥ 2 ^ 63)) = false) (c1 : (items.isEmpty || x == 1) = true) :
  Meets (Builtin.«tuple.__mul__» ⟨[.ref l, .int x u], []⟩) (fun _ R s => s.heap.get? l = some { cls := .type "tuple", dict := dd, data := .seq items n, slots := sl } ∧ R (.ok (.ret (Value.ref l))) s) :=
 .of_wp fun prog w A R s h => by
  obtain ⟨hp, g, d, tk, os⟩ := s
  obtain ⟨hl, h⟩ := h
  have f1 := AutoSeq1.idx_int
  wp_walk using wpAny_loadPart' hl
  repeat (first
   | (refine wpAny_ite_false (decide_eq_false (by rw [c0]; exact Bool.false_ne_true)) ?_; wp_walk using wpAny_loadPart' hl)
   | (refine wpAny_ite_true (decide_eq_true (by rw [c1])) ?_; wp_walk using wpAny_loadPart' hl))
  exact ⟨_, rfl, h⟩
theorem tuple_mul0 (l : Addr) (items : Array Value) (n : Nat) (dd : Option Addr) (sl : Array (Option Value)) (x : Int) (u : Tok) (c0 : (decide (x < -(2 ^ 63)) || decide (x ≥ 2 ^ 63)) = false) (c1 : (items.isEmpty || x == 1) = false) (c2 : (decide (x ≤ 0) || items.isEmpty) = true) :
  Meets (Builtin.«tuple.__mul__» ⟨[.ref l, .int x u], []⟩) (fun _ R s => s.heap.get? l = some { cls := .type "tuple", dict := dd, data := .seq items n, slots := sl } ∧
   R (.ok (.ret (Value.ref s.heap.objs.size))) { s with heap := s.heap.push { cls := Value.type "tuple", data := Data.seq #[] }, toks := s.toks }) :=
 .of_wp fun prog w A R s h => by
  obtain ⟨hp, g, d, tk, os⟩ := s
  obtain ⟨hl, h⟩ := h
  have f1 := AutoSeq1.idx_int
  wp_walk using wpAny_loadPart' hl
  repeat (first
   | (refine wpAny_ite_false (decide_eq_false (by rw [c0]; exact Bool.false_ne_true)) ?_; wp_walk using wpAny_loadPart' hl)
   | (refine wpAny_ite_false (decide_eq_false (by rw [c1]; exact Bool.false_ne_true)) ?_; wp_walk using wpAny_loadPart' hl)
   | (refine wpAny_ite_true (decide_eq_true (by rw [c2])) ?_; wp_walk using wpAny_loadPart' hl))
  exact ⟨_, rfl, h⟩
theorem flat_len {α : Type} (n : Nat) (xs : List α) : (List.replicate n xs).flatten.length = n * xs.length := by
 induction n with
 | zero => simp
 | succ n ih => rw [List.replicate_succ, List.flatten_cons, List.length_append, ih, Nat.succ_mul, Nat.add_comm]
theorem flat_nil {α : Type} (n : Nat) : (List.replicate n ([] : List α)).flatten = [] := by
 induction n with
 | zero => rfl
 | succ n ih => rw [List.replicate_succ, List.flatten_cons, ih]; rfl
def rRepA (K : PySem.W.Frag) : R2 := fun x y H Q => ∃ l k xs, x = .ref l ∧ y = .int k ∧ SqT K H l xs ∧ k ≤ 1000 ∧ -1000000 ≤ k ∧ xs.length ≤ 1000 ∧
 ((xs = [] ∨ k = 1) → Q (.ref l) H) ∧ (xs ≠ [] → k ≠ 1 → ∀ p, H p = none → Q (.ref p) (upd H p (.tup (List.replicate k.toNat xs).flatten)))
theorem op_repA {X : Cx} : OpR X (binaryOp .Mult) (rRepA X.K) := by
 intro pins s σ H x y v u Q I rx ry h
 obtain ⟨l, k, xs, rfl, rfl, hT, h1, h2, hz, q1, q2⟩ := h
 by_cases hk : xs ≠ [] ∧ 2 ≤ k
 ·exact op_repT pins s σ H _ _ v u Q I rx ry ⟨l, k, xs, rfl, rfl, hT, hk.1, hk.2, h1, hz, q2 hk.1 (by omega)⟩
 cases rx
 obtain ⟨t, rfl⟩ := ry
 obtain ⟨its, r, ⟨⟨cls, dd, data, sl⟩, ho, hc, n, hd⟩, hs⟩ := I.tuple hT
 simp only at hc hd
 subst hc hd
 have hle : its.length = xs.length := r.length.symm
 have c0 : (decide (k < -(2 ^ 63)) || decide (k ≥ 2 ^ 63)) = false := by
  rw [decide_eq_false (by omega), decide_eq_false (by omega)] <;> rfl
 by_cases hs1 : xs = [] ∨ k = 1
 ·have c1 : (its.toArray.isEmpty || k == 1) = true := by
   rcases hs1 with e | e
   ·subst e
    have : its = [] := List.eq_nil_of_length_eq_zero (by rw [hle]; rfl)
    subst this
    rfl
   ·subst e
    simp
  exact wpAny_binaryOp_repeat_ref (T := "tuple") (U := "int") (by decide) ⟨_, ho, rfl⟩ (fun s' => typeIs_int s' k t) noFill_tuple_mul F.fills_int_mul F.slot_int_rmul repeat_tuple F.slot_int_index.lookup
   (call_meets F.slot_int_rmul (typeIs_int s k t) F.entry_int_rmul (F.args_int_rmul_2 _ _) (int_rmul_tuple k t l its.toArray n dd sl)
    ⟨ho, rfl, ⟨_, ho, rfl⟩, call_meets F.slot_tuple_mul ⟨_, ho, rfl⟩ F.entry_tuple_mul (F.args_tuple_mul_2 _ _) (tuple_mul1 l its.toArray n dd sl k t c0 c1) ⟨ho, ⟨.ref l, H, I, rfl, q1 hs1⟩⟩⟩)
 ·have hx : xs ≠ [] := fun e => hs1 (.inl e)
  have hk1 : k ≠ 1 := fun e => hs1 (.inr e)
  have hk0 : k ≤ 0 := Int.not_lt.mp fun z => hk ⟨hx, by omega⟩
  have hi : its.toArray.isEmpty = false := by
   cases its with
   | nil => exact absurd (List.eq_nil_of_length_eq_zero hle.symm) hx
   | cons a b => rfl
  have c1 : (its.toArray.isEmpty || k == 1) = false := by
   rw [hi, Bool.false_or]
   exact beq_eq_false_iff_ne.mpr hk1
  have c2 : (decide (k ≤ 0) || its.toArray.isEmpty) = true := by rw [decide_eq_true hk0]; rfl
  refine wpAny_binaryOp_repeat_ref (T := "tuple") (U := "int") (by decide) ⟨_, ho, rfl⟩ (fun s' => typeIs_int s' k t) noFill_tuple_mul F.fills_int_mul F.slot_int_rmul repeat_tuple F.slot_int_index.lookup
   (call_meets F.slot_int_rmul (typeIs_int s k t) F.entry_int_rmul (F.args_int_rmul_2 _ _) (int_rmul_tuple k t l its.toArray n dd sl)
    ⟨ho, rfl, ⟨_, ho, rfl⟩, call_meets F.slot_tuple_mul ⟨_, ho, rfl⟩ F.entry_tuple_mul (F.args_tuple_mul_2 _ _) (tuple_mul0 l its.toArray n dd sl k t c0 c1 c2) ⟨ho, ?_⟩⟩)
  have q := q2 hx hk1
  have e0 : k.toNat = 0 := by omega
  rw [e0] at q
  refine ⟨.ref s.heap.objs.size, _, I.laid (t' := s.toks) (o := .tup []) (fun b ob q => Heap.get?_push_of_some _ q) (Nat.le_refl _) ?_, rfl, q _ (I.hok.fresh (Nat.le_refl _))⟩
  exact ⟨Nat.zero_le _, [], .nil, ⟨_, Heap.get?_push_size _ rfl, rfl, 0, rfl⟩⟩
section
variable {X : Cx}
abbrev RD := D → D → MH → KD → Prop
def rAdd : RD := fun d e M k => match d, e with
 | .int i, .int j => k (.int (i + j)) M
 | .str a, .str b => a.length + b.length ≤ sizeLine ∧ k (.str (a ++ b)) M
 | .tup a, .tup b => a.length + b.length ≤ sizeLine ∧ k (.tup (a ++ b)) M
 | .lst a, .lst b => a.length + b.length ≤ sizeLine ∧ k (.lst (a ++ b)) M
 | _, _ => False
theorem od_add : OpD X (binaryOp .Add) rAdd := by
 refine ⟨_, op_add.or (op_add_str.or (op_catA.or op_cat)), fun d e v u H F M k Q S rd re h pv => ?_⟩
 cases d <;> cases e <;> try exact h.elim
 ·cases rd; cases re
  exact .inl ⟨_, _, rfl, rfl, pv.at S (.int _) h⟩
 ·cases rd; cases re
  exact .inr (.inl ⟨_, _, rfl, rfl, h.1, pv.at S (.str _) h.2⟩)
 ·rename_i ds es
  cases rd with
  | @tup a xs _ ha ra la =>
  cases re with
  | @tup b ys _ hb rb lb =>
  have hz : xs.length + ys.length ≤ sizeLine := by rw [ra.length, rb.length]; exact h.1
  refine .inr (.inr (.inl ⟨a, b, xs, ys, rfl, rfl, seqU S.fz ha, seqU S.fz hb, hz, fun ex => ?_, fun _ ey => ?_, fun _ _ p hp => ?_⟩))
  ·subst ex
   cases ra
   exact pv.at S (.tup hb rb lb) h.2
  ·subst ey
   cases rb
   have h2 := h.2
   rw [List.append_nil] at h2
   exact pv.at S (.tup ha ra la) h2
  ·obtain ⟨S2, e2⟩ := S.lay hp (.tup (xs ++ ys))
   exact pv _ _ _ _ _ e2 S2 (.tup upd_same ((ra.append rb).mono e2.sm) (by rw [List.length_append]; exact h.1)) h.2
 ·rename_i ds es
  cases rd with
  | @lst a xs _ ha ra la =>
  cases re with
  | @lst b ys _ hb rb lb =>
  have hz : xs.length + ys.length ≤ sizeLine := by rw [ra.length, rb.length]; exact h.1
  refine .inr (.inr (.inr ⟨a, b, xs, ys, rfl, rfl, S.fz _ _ ha, S.fz _ _ hb, hz, fun p hp => ?_⟩))
  obtain ⟨S2, e2⟩ := S.lay hp (.lst (xs ++ ys))
  exact pv _ _ _ _ _ e2 S2 (.lst upd_same ((ra.append rb).mono e2.sm) (by rw [List.length_append]; exact h.1)) h.2
def onII (d e : D) (p : Int → Int → Prop) : Prop := match d, e with
 | .int i, .int j => p i j
 | _, _ => False
theorem ii_of {K : PySem.W.Frag} {F : Hp} {v u : V} {d e : D} {p : Int → Int → Prop} (r : Rep K F v d) (q : Rep K F u e) (h : onII d e p) : ∃ i j, v = .int i ∧ u = .int j ∧ p i j := by
 cases d <;> cases e <;> first | exact h.elim | skip
 cases r; cases q
 exact ⟨_, _, rfl, rfl, h⟩
def rInt (C : Int → Int → Prop) (g : Int → Int → D) : RD := fun d e M k => onII d e fun i j => C i j ∧ k (g i j) M
def rInt0 (g : Int → Int → D) : RD := fun d e M k => onII d e fun i j => k (g i j) M
theorem od_int {f : Value → Value → Sem Value} {C : Int → Int → Prop} {g : Int → Int → V} {gd : Int → Int → D} (h : OpR X f (rI C g)) (r : ∀ K F i j, Rep K F (g i j) (gd i j)) : OpD X f (rInt C gd) :=
 ⟨_, h, fun d e v u H F M k Q S rd re h pv => by
  obtain ⟨i, j, rfl, rfl, c, w⟩ := ii_of rd re h
  exact ⟨i, j, rfl, rfl, c, pv.at S (r _ _ i j) w⟩⟩
theorem od_int0 {f : Value → Value → Sem Value} {g : Int → Int → V} {gd : Int → Int → D} (h : OpR X f (rI0 g)) (r : ∀ K F i j, Rep K F (g i j) (gd i j)) : OpD X f (rInt0 gd) :=
 ⟨_, h, fun d e v u H F M k Q S rd re h pv => by
  obtain ⟨i, j, rfl, rfl, w⟩ := ii_of rd re h
  exact ⟨i, j, rfl, rfl, pv.at S (r _ _ i j) w⟩⟩
def rSub : RD := rInt0 fun i j => .int (i - j)
theorem od_sub : OpD X (binaryOp .Sub) rSub := od_int0 op_sub fun _ _ _ _ => .int _
def CFd (_ j : Int) : Prop := j ≠ 0 ∧ j.natAbs.log2 < 9000
theorem op_fdivA : OpR X (binaryOp .FloorDiv) (rI CFd fun i j => .int (i.fdiv j)) := opI fun _ _ _ _ _ _ _ hc q => floordiv_int hc.1 q (.inl (PyProof.noPylong_of_log2 hc.2))
def rFdiv : RD := rInt CFd fun i j => .int (i.fdiv j)
theorem od_fdiv : OpD X (binaryOp .FloorDiv) rFdiv := od_int op_fdivA fun _ _ _ _ => .int _
def rMod : RD := rInt (fun _ j => j ≠ 0) fun i j => .int (i.fmod j)
theorem od_mod : OpD X (binaryOp .Mod) rMod := od_int op_modN fun _ _ _ _ => .int _
def rPow : RD := rInt CPow fun i j => .int (i ^ j.toNat)
theorem od_pow : OpD X (binaryOp .Pow) rPow := od_int op_pow fun _ _ _ _ => .int _
theorem op_mulA : OpR X (binaryOp .Mult) (rI IntMulOk fun i j => .int (i * j)) := opI fun _ _ _ _ _ _ _ hc q => mul_int q hc
def rMul0 : RD := fun d e M k => match d, e with
 | .int i, .int j => IntMulOk i j ∧ k (.int (i * j)) M
 | .tup a, .int n => (n ≤ 1000 ∧ -1000000 ≤ n ∧ a.length ≤ 1000) ∧ k (.tup (List.replicate n.toNat a).flatten) M
 | _, _ => False
theorem od_mul0 : OpD X (binaryOp .Mult) rMul0 := by
 refine ⟨_, op_mulA.or op_repA, fun d e v u H F M k Q S rd re h pv => ?_⟩
 cases d <;> cases e <;> try exact h.elim
 ·cases rd; cases re
  exact .inl ⟨_, _, rfl, rfl, h.1, pv.at S (.int _) h.2⟩
 ·rename_i ds n
  cases re
  cases rd with
  | @tup a xs _ ha ra la =>
  obtain ⟨⟨h1, h2, h3⟩, h4⟩ := h
  refine .inr ⟨a, n, xs, rfl, rfl, seqU S.fz ha, h1, h2, by rw [ra.length]; exact h3, fun hs => ?_, fun hx hn p hp => ?_⟩
  ·rcases hs with ex | en
   ·subst ex
    cases ra
    rw [flat_nil] at h4
    exact pv.at S (.tup ha .nil la) h4
   ·subst en
    have e1 : (List.replicate (1 : Int).toNat ds).flatten = ds := by show (List.replicate 1 ds).flatten = ds; simp
    rw [e1] at h4
    exact pv.at S (.tup ha ra la) h4
  ·obtain ⟨S2, e2⟩ := S.lay hp (.tup (List.replicate n.toNat xs).flatten)
   have hl : (List.replicate n.toNat ds).flatten.length ≤ sizeLine := by
    rw [flat_len, sizeLine_eq]
    have a1 : n.toNat * ds.length ≤ 1000 * 1000 := Nat.mul_le_mul (by omega) h3
    omega
   exact pv _ _ _ _ _ e2 S2 (.tup upd_same ((ra.rep _).mono e2.sm) hl) h4
def strRep (z : Str) (n : Int) : Str := ⟨(List.replicate n.toNat z.cps).foldl (· ++ ·) #[]⟩
theorem foldl_app (xs : List (Array Nat)) (acc : Array Nat) : (xs.foldl (· ++ ·) acc).toList = acc.toList ++ (xs.map (·.toList)).flatten := by
 induction xs generalizing acc with
 | nil => simp
 | cons a r ih => rw [List.foldl_cons, ih]; simp
theorem strRep_list (z : Str) (n : Int) : (strRep z n).cps.toList = (List.replicate n.toNat z.cps.toList).flatten := by
 unfold strRep
 rw [foldl_app]
 simp
theorem strRep_len (z : Str) (n : Int) : (strRep z n).length = n.toNat * z.length := by
 show (strRep z n).cps.size = _
 rw [← Array.length_toList, strRep_list, flat_len, Array.length_toList]
 rfl
theorem strRep_one (z : Str) : strRep z 1 = z := by
 show (⟨(List.replicate 1 z.cps).foldl (· ++ ·) #[]⟩ : Str) = z
 simp [List.replicate]
theorem strRep_nil (z : Str) (n : Int) (h : z.length = 0) : strRep z n = z := by
 have h1 : (strRep z n).cps.size = 0 := by
  have := strRep_len z n
  rw [h, Nat.mul_zero] at this
  exact this
 have h2 : z.cps.size = 0 := h
 show (⟨(strRep z n).cps⟩ : Str) = ⟨z.cps⟩
 rw [Array.eq_empty_of_size_eq_zero h1, Array.eq_empty_of_size_eq_zero h2]
theorem op_mulS {X : Cx} : OpR X (binaryOp .Mult) (fun x y H Q => ∃ z n, x = .str z ∧ y = .int n ∧ -1000000 ≤ n ∧ n ≤ 1000 ∧ z.length ≤ 1000 ∧ Q (.str (strRep z n)) H) := by
 intro pins s σ H x y v u Q I rx ry h
 obtain ⟨z, n, rfl, rfl, h1, h2, h3, q⟩ := h
 obtain ⟨t, rfl⟩ := rx
 obtain ⟨t', rfl⟩ := ry
 have hl : z.length * n.toNat ≤ 1000 * 1000 := Nat.mul_le_mul h3 (by omega)
 refine PySem.P.mul_str (by rw [decide_eq_false (by omega), decide_eq_false (by omega)]; rfl) (fun hn _ => ?_) (fun _ _ => decide_eq_false (Nat.not_lt.mpr (by rw [sizeLine_eq]; omega))) ?_
 ·have hn' : 1 ≤ n := by omega
  have : (1000 : Int) ≤ (2 ^ 63 - 1) / n := by
   rw [Int.le_ediv_iff_mul_le (by omega)]
   omega
  omega
 ·by_cases hn : n < 1
  ·rw [if_pos hn]
   have e : strRep z n = Str.empty := by
    have e0 : n.toNat = 0 := by omega
    unfold strRep
    rw [e0]
    rfl
   rw [e] at q
   exact ⟨by decide, .str _, H, I.tok _, ⟨_, rfl⟩, q⟩
  ·rw [if_neg hn]
   by_cases hc : (n == 1 || z.length == 0) = true
   ·rw [if_pos hc]
    have e : strRep z n = z := by
     rcases Bool.or_eq_true_iff.mp hc with a | a
     ·have : n = 1 := by simpa using a
      subst this
      exact strRep_one z
     ·exact strRep_nil z n (by simpa using a)
    rw [e] at q
    exact ⟨.str _, H, I, ⟨_, rfl⟩, q⟩
   ·rw [if_neg hc]
    exact ⟨by show (strRep z n).length ≤ _; rw [strRep_len, sizeLine_eq, Nat.mul_comm]; omega, .str _, H, I.tok _, ⟨_, rfl⟩, q⟩
def rMul : RD := fun d e M k => match d, e with
 | .str z, .int n => (-1000000 ≤ n ∧ n ≤ 1000 ∧ z.length ≤ 1000) ∧ k (.str (strRep z n)) M
 | .lst a, .int n => (n ≤ 1000 ∧ -1000000 ≤ n ∧ a.length ≤ 1000) ∧ k (.lst (List.replicate n.toNat a).flatten) M
 | .lst a, .bl b => k (.lst (if b then a else [])) M
 | _, _ => rMul0 d e M k
theorem od_mul {X : Cx} : OpD X (binaryOp .Mult) rMul := by
 obtain ⟨r0, h0, s0⟩ := od_mul0 (X := X)
 refine ⟨_, op_mulS.or (op_rep.or (op_mul_lb.or h0)), fun d e v u H F M k Q S rd re h pv => ?_⟩
 have old : rMul0 d e M k → r0 v u H Q := fun h => s0 d e v u H F M k Q S rd re h pv
 cases d with
 | str z =>
  cases e with
  | int n =>
   cases rd; cases re
   exact .inl ⟨z, n, rfl, rfl, h.1.1, h.1.2.1, h.1.2.2, pv.at S (.str _) h.2⟩
  | _ => exact .inr (.inr (.inr (old h)))
 | lst ds =>
  cases e with
  | int n =>
   cases re
   cases rd with
   | @lst a xs _ ha ra la =>
   obtain ⟨⟨h1, h2, h3⟩, h4⟩ := h
   have hm : xs.length * n.toNat ≤ 1000 * 1000 := Nat.mul_le_mul (by rw [ra.length]; exact h3) (by omega)
   refine .inr (.inl ⟨a, n, xs, rfl, rfl, S.fz _ _ ha, by omega, by omega, by rw [sizeLine_eq]; omega, fun p hp => ?_⟩)
   obtain ⟨S2, e2⟩ := S.lay hp (.lst (List.replicate n.toNat xs).flatten)
   have hl : (List.replicate n.toNat ds).flatten.length ≤ sizeLine := by
    rw [flat_len, sizeLine_eq, Nat.mul_comm, ← ra.length]
    omega
   exact pv _ _ _ _ _ e2 S2 (.lst upd_same ((ra.rep _).mono e2.sm) hl) h4
  | bl b =>
   cases re
   cases rd with
   | @lst a xs _ ha ra la =>
   refine .inr (.inr (.inl ⟨a, xs, b, rfl, rfl, SqL.of (S.fz _ _ ha), fun p hp => ?_⟩))
   cases b with
   | true =>
    obtain ⟨S2, e2⟩ := S.lay hp (.lst xs)
    exact pv _ _ _ _ _ e2 S2 (.lst upd_same (ra.mono e2.sm) la) h
   | false =>
    obtain ⟨S2, e2⟩ := S.lay hp (.lst [])
    exact pv _ _ _ _ _ e2 S2 (.lst upd_same .nil (Nat.zero_le _)) h
  | _ => exact .inr (.inr (.inr (old h)))
 | _ => exact .inr (.inr (.inr (old (by cases e <;> exact h))))
theorem mulOk_l {i j : Int} (h1 : -(2 ^ 64) < i) (h2 : i < 2 ^ 64) : IntMulOk i j := .of_left (intBits_le_64 h1 h2)
theorem mulOk_r {i j : Int} (h1 : -(2 ^ 64) < j) (h2 : j < 2 ^ 64) : IntMulOk i j := .of_right (intBits_le_64 h1 h2)
theorem mulOk_w {i j : Int} {a b : Nat} (ha : i.natAbs < 2 ^ a) (hb : j.natAbs < 2 ^ b) (h0 : 0 < a := by decide) (h1 : 0 < b := by decide) (h : a + b ≤ 1000000 := by decide) : IntMulOk i j := (wide_mul ha hb h0 h1 h).ok
def rLt : RD := fun d e M k => match d, e with
 | .int i, .int j => k (.bl (decide (i < j))) M
 | .str i, .str j => k (.bl (decide (i.cps.toList < j.cps.toList))) M
 | _, _ => False
theorem od_lt : OpD X (compareOp .Lt) rLt := by
 refine ⟨_, op_lt.or op_lt_str, fun d e v u H F M k Q S rd re h pv => ?_⟩
 cases d <;> cases e <;> try exact h.elim
 ·cases rd; cases re
  exact .inl ⟨_, _, rfl, rfl, pv.at S (.bl _) h⟩
 ·cases rd; cases re
  exact .inr ⟨_, _, rfl, rfl, pv.at S (.bl _) h⟩
def rLe : RD := rInt0 fun i j => .bl (decide (i ≤ j))
theorem od_le : OpD X (compareOp .LtE) rLe := od_int0 op_le fun _ _ _ _ => .bl _
def rGt : RD := rInt0 fun i j => .bl (decide (j < i))
theorem od_gt : OpD X (compareOp .Gt) rGt := od_int0 op_gt fun _ _ _ _ => .bl _
def isNon : D → Bool
 | .non => true
 | _ => false
theorem non_of {K : PySem.W.Frag} {F : Hp} {v : V} {d : D} (r : Rep K F v d) : decide (v = .non) = isNon d := by
 cases r <;> rfl
def rIsNot : RD := fun d e M k => match e with
 | .non => k (.bl (!isNon d)) M
 | _ => False
theorem od_isNot : OpD X (compareOp .IsNot) rIsNot := ⟨_, op_notN, fun d e v u H F M k Q S rd re h pv => by
 cases e <;> try exact h.elim
 cases re
 rw [non_of rd]
 exact ⟨rfl, pv.at S (.bl _) h⟩⟩
mutual
def toPy : D → Option PyData
 | .non => some .none
 | .bl b => some (.bool b)
 | .int i => some (.int i)
 | .str x => some (.str x)
 | .tup ds => (toPys ds).map .tuple
 | .lst ds => (toPys ds).map .list
 | .ref _ => none
 | .ty _ => none
 | .scr _ => none
 | .dct _ _ => none
 | .dcT _ _ => none
 | .dcl _ _ => none
 | .dlT _ _ => none
 | .obj _ _ _ => none
def toPys : List D → Option (List PyData)
 | [] => some []
 | d :: ds => (toPy d).bind fun p => (toPys ds).map (p :: ·)
end
mutual
theorem dp_of {K : PySem.W.Frag} {F H : Hp} (s : Same F H) : ∀ {v : V} {d : D} {p : PyData}, Rep K F v d → toPy d = some p → Dp K H v p
 | _, _, _, .non, e => by cases e; exact .non
 | _, _, _, .bl b, e => by cases e; exact .bl b
 | _, _, _, .int i, e => by cases e; exact .int i
 | _, _, _, .str x, e => by cases e; exact .str x
 | _, _, _, .ref a, e => by cases e
 | _, _, _, .ty n, e => by cases e
 | _, _, _, .scr h, e => by cases e
 | _, _, _, .dct _ _ _ _, e => by cases e
 | _, _, _, .dcT _ _ _ _, e => by cases e
 | _, _, _, .dcl _ _ _ _, e => by cases e
 | _, _, _, .dlT _ _ _ _, e => by cases e
 | _, _, _, .obj _ _ _, e => by cases e
 | _, _, _, .tup h r _, e => by
  obtain ⟨ps, e1, rfl⟩ := Option.map_eq_some_iff.mp e
  exact .tup (SqT.of (s _ _ h)) (dps_of s r e1)
 | _, _, _, .lst h r _, e => by
  obtain ⟨ps, e1, rfl⟩ := Option.map_eq_some_iff.mp e
  exact .lst (SqL.of (s _ _ h)) (dps_of s r e1)
theorem dps_of {K : PySem.W.Frag} {F H : Hp} (s : Same F H) : ∀ {vs : List V} {ds : List D} {ps : List PyData}, Reps K F vs ds → toPys ds = some ps → DpAll K H vs ps
 | _, _, _, .nil, e => by cases e; exact .nil
 | _, _, _, .cons h r, e => by
  obtain ⟨p, e1, e2⟩ := Option.bind_eq_some_iff.mp e
  obtain ⟨qs, e3, rfl⟩ := Option.map_eq_some_iff.mp e2
  exact .cons (dp_of s h e1) (dps_of s r e3)
end
def scalD : D → D → Option Bool
 | .non, .non => some true | .non, .int _ => some false | .int _, .non => some false | .non, .bl _ => some false | .bl _, .non => some false | .non, .str _ => some false | .str _, .non => some false
 | .int i, .int j => some (decide (i = j)) | .bl i, .bl j => some (decide (i = j)) | .str i, .str j => some (decide (i = j))
 | .int _, .str _ => some false | .str _, .int _ => some false | .bl _, .str _ => some false | .str _, .bl _ => some false
 | _, _ => none
theorem scal_of {K : PySem.W.Frag} {F : Hp} {v u : V} {d e : D} {b : Bool} (r : Rep K F v d) (q : Rep K F u e) (h : scalD d e = some b) : scal v u = true ∧ decide (v = u) = b := by
 cases d <;> cases e <;> first | (cases h; done) | skip
 all_goals (cases r; cases q; refine ⟨rfl, ?_⟩; have h' := Option.some.inj h; rw [← h']; first | rfl | (rw [Bool.eq_iff_iff]; simp))
def onO {α : Type} (o : Option α) (p : α → Prop) : Prop := match o with
 | some a => p a
 | none => False
theorem onO_of {α : Type} {o : Option α} {p : α → Prop} (h : onO o p) : ∃ a, o = some a ∧ p a := by
 cases o with
 | some a => exact ⟨a, rfl, h⟩
 | none => exact h.elim
@[irreducible] def rEqP : RD := fun d e M k => ∃ p q, toPy d = some p ∧ toPy e = some q ∧ SeqAt.shaped p = true ∧ SeqAt.shaped q = true ∧ k (.bl (PyData.eqv p q)) M
@[irreducible] def rNeP : RD := fun d e M k => ∃ p q, toPy d = some p ∧ toPy e = some q ∧ SeqAt.shaped p = true ∧ SeqAt.shaped q = true ∧ k (.bl (!PyData.eqv p q)) M
def rNeg : D → MH → KD → Prop := fun d M k => onInt d fun i => k (.int (-i)) M
theorem ud_neg : UnD X (unaryOp .USub) rNeg := ⟨_, un_neg, fun d v H F M k Q S rd h pv => by
 obtain ⟨i, rfl, w⟩ := int_of rd h
 exact ⟨i, rfl, pv.at S (.int _) w⟩⟩
end
section
variable {X : Cx} {a b e : Expr} {wa wb we : WE} {pos : Pos}
def wIx (wa wb : WE) : WE := fun ρ M k x => wa ρ M (fun d M1 => wb ρ M1 (fun e M2 => match d, e with
 | .tup ds, .int i => onO (atI ds i) fun y => k y M2
 | .lst ds, .int i => onO (atI ds i) fun y => k y M2
 | .ref l, .int i => ∃ ds, M2 l = some (.lst ds) ∧ onO (atI ds i) fun y => k y M2
 | .str z, .int i => z.length ≤ sizeLine ∧ onO (atI z.cps.toList i) fun c => k (.str ⟨#[c]⟩) M2
 | _, _ => False) x) x
theorem Reps.atI {K : PySem.W.Frag} {F : Hp} {vs : List V} {ds : List D} {i : Int} {d : D} (r : Reps K F vs ds) (h : L2.atI ds i = some d) : ∃ v, L2.atI vs i = some v ∧ Rep K F v d := by
 unfold L2.atI at h ⊢
 rw [r.length]
 cases q : ixN ds.length i with
 | none => rw [q] at h; cases h
 | some j =>
  rw [q] at h
  exact r.get h
theorem de_ix {Tq : TkC} (ha : DE Tq X a wa) (hb : DE Tq X b wb) (hs : PlainIx b := by intro _ _; rfl) : DE Tq X (.Subscript a b pos) (wIx wa wb) := by
 refine ⟨fun W tk => pe_imp (pe_ix ix_seq (ha.pe W tk) (hb.pe W tk) hs) fun σ H Q q => ?_⟩
 obtain ⟨F, M, ρ, k, x, S, E, w, pv, px⟩ := q
 refine two S E w px fun v u d e H2 F2 M2 e2 S2 r1 r2 w2 => ?_
 have pv2 := pv.on e2
 cases e with
 | int n =>
  cases r2
  cases d with
  | ref l =>
   cases r1
   obtain ⟨ds, hm, w3⟩ := w2
   obtain ⟨y, h1, h2⟩ := onO_of w3
   obtain ⟨_, _, xs, hx, hr⟩ := S2.mlst hm
   obtain ⟨z, h3, h4⟩ := hr.atI h1
   exact .inl ⟨_, xs, _, z, rfl, rfl, SqL.of hx, h3, pv2.at S2 h4 h2⟩
  | str z =>
   cases r1
   obtain ⟨hz, w3⟩ := w2
   obtain ⟨y, h1, h2⟩ := onO_of w3
   exact .inr (.inr ⟨_, _, y, rfl, rfl, hz, h1, pv2.at S2 (.str _) h2⟩)
  | tup ds =>
   cases r1 with
   | tup hq hr hl =>
   obtain ⟨y, h1, h2⟩ := onO_of w2
   obtain ⟨z, h3, h4⟩ := hr.atI h1
   exact .inr (.inl ⟨_, _, _, z, rfl, rfl, seqU S2.fz hq, h3, pv2.at S2 h4 h2⟩)
  | lst ds =>
   cases r1 with
   | lst hq hr hl =>
   obtain ⟨y, h1, h2⟩ := onO_of w2
   obtain ⟨z, h3, h4⟩ := hr.atI h1
   exact .inl ⟨_, _, _, z, rfl, rfl, SqL.of (S2.fz _ _ hq), h3, pv2.at S2 h4 h2⟩
  | _ => exact w2.elim
 | _ => cases d <;> exact w2.elim
abbrev WO := Rh → MH → (Option Int → MH → Prop) → KE → Prop
def tOfO (K : PySem.W.Frag) (W : WX) (w : WO) : TO := fun σ H Q => ∃ F M ρ k x, RepS K H F M ∧ RepE K F σ ρ ∧ w ρ M k x ∧ (∀ o H' F' M', Ext H F M H' F' M' → RepS K H' F' M' → k o M' → Q o H') ∧ PostX K H F M x (fun c d => W c d σ)
structure DO (Tq : TkC) (X : Cx) (e : Option Expr) (w : WO) : Prop where
 po : ∀ W, Tq.t X W → PO X e (tOfO X.K W w)
def wNoPart : WO := fun _ M k _ => k none M
def wPart (w : WE) : WO := fun ρ M k x => w ρ M (fun d M1 => onInt d fun i => k (some i) M1) x
theorem po_imp {e : Option Expr} {t t' : TO} (h : PO X e t) (i : ∀ σ H Q, t' σ H Q → t σ H Q) : PO X e t' := ⟨fun pins s σ H Q I q => h.run pins s σ H Q I (i σ H Q q)⟩
theorem do_none {Tq : TkC} : DO Tq X none wNoPart := by
 refine ⟨fun W _ => po_imp po_none fun σ H Q q => ?_⟩
 obtain ⟨F, M, ρ, k, x, S, E, w, pv, px⟩ := q
 exact pv _ H F M (Ext.refl _ _ _) S w
theorem do_some {Tq : TkC} (h : DE Tq X e we) : DO Tq X (some e) (wPart we) := by
 refine ⟨fun W tk => po_imp (po_some (h.pe W tk)) fun σ H Q q => ?_⟩
 obtain ⟨F, M, ρ, k, x, S, E, w, pv, px⟩ := q
 refine ⟨F, M, ρ, _, x, S, E, w, fun v d H1 F1 M1 e1 S1 r1 w1 => ?_, px⟩
 obtain ⟨i, rfl, w2⟩ := int_of r1 w1
 exact ⟨i, rfl, pv _ H1 F1 M1 e1 S1 w2⟩
def cutD {α : Type} (xs : List α) (lo hi : Option Int) : List α := (xs.drop (HT.sIx xs.length 0 lo)).take (HT.sIx xs.length xs.length hi - HT.sIx xs.length 0 lo)
theorem cutD_len {α : Type} (xs : List α) (lo hi : Option Int) : (cutD xs lo hi).length ≤ xs.length := by
 unfold cutD
 rw [List.length_take, List.length_drop]
 omega
theorem Reps.cut {K : PySem.W.Frag} {F : Hp} {vs : List V} {ds : List D} (r : Reps K F vs ds) (lo hi : Option Int) : Reps K F (cutV vs lo hi) (cutD ds lo hi) := by
 unfold cutV cutD
 rw [r.length]
 exact (r.drop _).take _
theorem cutD_all {α : Type} {xs : List α} {lo hi : Option Int} (h : HT.sIx xs.length 0 lo = 0 ∧ HT.sIx xs.length xs.length hi = xs.length) : cutD xs lo hi = xs := by
 unfold cutD
 rw [h.1, h.2, List.drop_zero, Nat.sub_zero, List.take_length]
theorem cutV_ints (ns : List Int) (lo hi : Option Int) : cutV (ns.map V.int) lo hi = (cutD ns lo hi).map V.int := by
 unfold cutV cutD
 rw [List.length_map, List.map_take, List.map_drop]
def wSl (wa : WE) (wl wh : WO) : WE := fun ρ M k x => wa ρ M (fun d M1 => wl ρ M1 (fun lo M2 => wh ρ M2 (fun hi M3 => match d with
 | .tup ds => k (.tup (cutD ds lo hi)) M3
 | .lst ds => k (.lst (cutD ds lo hi)) M3
 | .scr ns => k (.scr (cutD ns lo hi)) M3
 | .ref l => ∃ ds, M3 l = some (.lst ds) ∧ k (.lst (cutD ds lo hi)) M3
 | .str z => z.length ≤ sizeLine ∧ k (.str (cutS z lo hi)) M3
 | _ => False) x) x) x
theorem de_sl {Tq : TkC} {lo hi : Option Expr} {wl wh : WO} {p2 : Pos} (ha : DE Tq X a wa) (hl : DO Tq X lo wl) (hh : DO Tq X hi wh) : DE Tq X (.Subscript a (.Slice lo hi none p2) pos) (wSl wa wl wh) := by
 refine ⟨fun W tk => pe_imp (pe_slice (sl_list.or (sl_tupA.or sl_str)) (ha.pe W tk) (hl.po W tk) (hh.po W tk)) fun σ H Q q => ?_⟩
 obtain ⟨F, M, ρ, k, x, S, E, w, pv, px⟩ := q
 refine ⟨F, M, ρ, _, x, S, E, w, fun v d H1 F1 M1 e1 S1 r1 w1 => ?_, px⟩
 refine ⟨F1, M1, ρ, _, x, S1, E.mono e1.sm, w1, fun l H2 F2 M2 e2 S2 w2 => ?_, px.on e1⟩
 have e12 := e1.trans e2
 refine ⟨F2, M2, ρ, _, x, S2, E.mono e12.sm, w2, fun u H3 F3 M3 e3 S3 w3 => ?_, px.on e12⟩
 have e13 := e12.trans e3
 have pv3 := pv.on e13
 have r3 := r1.mono (e2.trans e3).sm
 cases d with
 | ref q =>
  cases r3
  obtain ⟨ds, hm, w4⟩ := w3
  obtain ⟨_, hl, xs, hx, hr⟩ := S3.mlst hm
  refine .inl ⟨_, xs, rfl, SqL.of hx, fun p hp => ?_⟩
  obtain ⟨S4, e4⟩ := S3.lay hp (.lst (cutV xs l u))
  exact pv3 _ _ _ _ _ e4 S4 (.lst upd_same ((hr.cut l u).mono e4.sm) (Nat.le_trans (cutD_len _ _ _) hl)) w4
 | str z =>
  cases r3
  obtain ⟨hz, w4⟩ := w3
  exact .inr (.inr ⟨_, rfl, hz, pv3.at S3 (.str _) w4⟩)
 | tup ds =>
  have w4 : k (.tup (cutD ds l u)) M3 := w3
  cases r3 with
  | @tup p xs _ hq hr hl =>
  refine .inr (.inl ⟨p, xs, rfl, seqU S3.fz hq, fun hw => ?_, fun _ p hp => ?_⟩)
  ·rw [hr.length] at hw
   rw [cutD_all hw] at w4
   exact pv3.at S3 (.tup hq hr hl) w4
  ·obtain ⟨S4, e4⟩ := S3.lay hp (.tup (cutV xs l u))
   exact pv3 _ _ _ _ _ e4 S4 (.tup upd_same ((hr.cut l u).mono e4.sm) (Nat.le_trans (cutD_len _ _ _) hl)) w4
 | lst ds =>
  have w4 : k (.lst (cutD ds l u)) M3 := w3
  cases r3 with
  | @lst p xs _ hq hr hl =>
  refine .inl ⟨p, xs, rfl, SqL.of (S3.fz _ _ hq), fun p hp => ?_⟩
  obtain ⟨S4, e4⟩ := S3.lay hp (.lst (cutV xs l u))
  exact pv3 _ _ _ _ _ e4 S4 (.lst upd_same ((hr.cut l u).mono e4.sm) (Nat.le_trans (cutD_len _ _ _) hl)) w4
 | scr ns =>
  have w4 : k (.scr (cutD ns l u)) M3 := w3
  cases r3 with
  | @scr p _ hq =>
  refine .inl ⟨p, ns.map V.int, rfl, S3.fz.seq hq, fun p hp => ?_⟩
  obtain ⟨S4, e4⟩ := S3.lay hp (.lst (cutV (ns.map V.int) l u))
  exact pv3 _ _ _ _ _ e4 S4 (.scr (by rw [← cutV_ints]; exact SqL.of upd_same)) w4
 | _ => exact w3.elim
end
section
variable {X : Cx} {x : Str} {p pos : Pos} {e : Expr} {es : List Expr} {wa : WA} {id T : String}
abbrev RB := List D → MH → KD → Prop
def CallD (X : Cx) (f : Value) (r : RB) : Prop := ∃ r2, CallR X f r2 ∧ ∀ ds vs H F M k Q, RepS X.K H F M → Reps X.K F vs ds → r ds M k → PostV X.K H F M k Q → r2 vs H Q
def wCB (r : RB) (wa : WA) : WE := fun ρ M k x => wa ρ M (fun ds M1 => r ds M1 k) x
theorem de_callB {Tq : TkC} {r : RB} (hc : CallD X (.builtin id) r) (hm : X.mg x = none) (hv : bootBuiltins x = some (.builtin id)) (ha : DA Tq X (e :: es) wa) (hg : Gl X x := by rfl) (hn : x ≠ "__name__" := by decide) (hdb : (x == ("__debug__" : Str)) = false := by decide)
  (he : starEach (e :: es) X.env = (false, eval e X.env) :: starEach es X.env := by rfl) (hpl : (backTo pos (starEach es X.env)).any (·.1) = false := by rfl) : DE Tq X (.Call (.Name x p) (e :: es) [] pos) (wCB r wa) := by
 obtain ⟨r2, h, s⟩ := hc
 refine ⟨fun W tk => pe_imp (pe_callB h hg hm hv (ha.pa W tk) hn hdb he hpl) fun σ H Q q => ?_⟩
 obtain ⟨F, M, ρ, k, x, S, E, w, pv, px⟩ := q
 exact ⟨F, M, ρ, _, x, S, E, w, fun vs ds H1 F1 M1 e1 S1 r1 w1 => s ds vs H1 F1 M1 k Q S1 r1 w1 (pv.on e1), px⟩
theorem de_callTy {Tq : TkC} {r : RB} (hc : CallD X (.type T) r) (hm : X.mg x = none) (hv : bootBuiltins x = some (.type T)) (ha : DA Tq X (e :: es) wa) (hg : Gl X x := by rfl) (hn : x ≠ "__name__" := by decide) (hdb : (x == ("__debug__" : Str)) = false := by decide)
  (he : starEach (e :: es) X.env = (false, eval e X.env) :: starEach es X.env := by rfl) (hpl : (backTo pos (starEach es X.env)).any (·.1) = false := by rfl) : DE Tq X (.Call (.Name x p) (e :: es) [] pos) (wCB r wa) := by
 obtain ⟨r2, h, s⟩ := hc
 refine ⟨fun W tk => pe_imp (pe_callTy h hg hm hv (ha.pa W tk) hn hdb he hpl) fun σ H Q q => ?_⟩
 obtain ⟨F, M, ρ, k, x, S, E, w, pv, px⟩ := q
 exact ⟨F, M, ρ, _, x, S, E, w, fun vs ds H1 F1 M1 e1 S1 r1 w1 => s ds vs H1 F1 M1 k Q S1 r1 w1 (pv.on e1), px⟩
def on1 (ds : List D) (p : D → Prop) : Prop := match ds with
 | [d] => p d
 | _ => False
theorem on1_of {ds : List D} {p : D → Prop} (h : on1 ds p) : ∃ d, ds = [d] ∧ p d := by
 match ds, h with
 | [d], h => exact ⟨d, rfl, h⟩
def on2 (ds : List D) (p : D → D → Prop) : Prop := match ds with
 | [d, e] => p d e
 | _ => False
theorem on2_of {ds : List D} {p : D → D → Prop} (h : on2 ds p) : ∃ d e, ds = [d, e] ∧ p d e := by
 match ds, h with
 | [d, e], h => exact ⟨d, e, rfl, h⟩
theorem reps1 {K : PySem.W.Frag} {F : Hp} {vs : List V} {d : D} (r : Reps K F vs [d]) : ∃ v, vs = [v] ∧ Rep K F v d := by
 cases r with
 | cons h t => cases t; exact ⟨_, rfl, h⟩
theorem reps2 {K : PySem.W.Frag} {F : Hp} {vs : List V} {d e : D} (r : Reps K F vs [d, e]) : ∃ v u, vs = [v, u] ∧ Rep K F v d ∧ Rep K F u e := by
 cases r with
 | cons h t => cases t with
  | cons h2 t2 => cases t2; exact ⟨_, _, rfl, h, h2⟩
def lenD (d : D) (M : MH) (k : Nat → Prop) : Prop := match d with
 | .tup xs => k xs.length
 | .lst xs => k xs.length
 | .ref a => ∃ xs, M a = some (.lst xs) ∧ k xs.length
 | .str z => z.length ≤ sizeLine ∧ k z.length
 | _ => False
def rLn : RB := fun ds M k => on1 ds fun d => lenD d M fun n => k (.int n) M
theorem cd_len : CallD X (.builtin "len") rLn := by
 refine ⟨_, call_len, fun ds vs H F M k Q S r0 h0 pv => ?_⟩
 obtain ⟨d, rfl, h⟩ := on1_of h0
 obtain ⟨v, rfl, r⟩ := reps1 r0
 cases d with
 | ref a =>
  cases r
  obtain ⟨xs, hm, w⟩ := h
  obtain ⟨_, _, ys, hx, hr⟩ := S.mlst hm
  exact ⟨_, _, rfl, .inl ⟨ys, SqL.of hx, hr.length.symm⟩, pv.at S (.int _) w⟩
 | str z =>
  cases r
  obtain ⟨hz, w⟩ := h
  exact ⟨_, _, rfl, ⟨hz, rfl⟩, pv.at S (.int _) w⟩
 | tup ds =>
  cases r with
  | tup hq hr hl => exact ⟨_, _, rfl, .inr ⟨_, seqU S.fz hq, hr.length.symm⟩, pv.at S (.int _) h⟩
 | lst ds =>
  cases r with
  | lst hq hr hl => exact ⟨_, _, rfl, .inl ⟨_, SqL.of (S.fz _ _ hq), hr.length.symm⟩, pv.at S (.int _) h⟩
 | _ => exact h.elim
def itemsD (d : D) (M : MH) (k : List D → Prop) : Prop := match d with
 | .tup xs => k xs
 | .lst xs => k xs
 | .scr ns => ns.length ≤ 100 ∧ k (ns.map .int)
 | .ref a => ∃ xs, M a = some (.lst xs) ∧ k xs
 | _ => False
theorem items_of {K : PySem.W.Frag} {H F : Hp} {M : MH} {v : V} {d : D} {k : List D → Prop} (S : RepS K H F M) (r : Rep K F v d) (h : itemsD d M k) : ∃ a xs ds, v = .ref a ∧ (SqL K H a xs ∨ SqT K H a xs) ∧ Reps K F xs ds ∧ ds.length ≤ sizeLine ∧ k ds := by
 cases d with
 | ref a =>
  cases r
  obtain ⟨xs, hm, w⟩ := h
  obtain ⟨_, hl, ys, hx, hr⟩ := S.mlst hm
  exact ⟨_, _, _, rfl, .inl (SqL.of hx), hr, hl, w⟩
 | tup ds =>
  cases r with
  | tup hq hr hl => exact ⟨_, _, _, rfl, .inr (seqU S.fz hq), hr, hl, h⟩
 | lst ds =>
  cases r with
  | lst hq hr hl => exact ⟨_, _, _, rfl, .inl (SqL.of (S.fz _ _ hq)), hr, hl, h⟩
 | scr ns =>
  cases r with
  | scr hq => exact ⟨_, _, _, rfl, .inl (S.fz.seq hq), Reps.of_ints _, by rw [List.length_map, sizeLine_eq]; have := h.1; omega, h.2⟩
 | _ => exact h.elim
def rList : RB := fun ds M k => on1 ds fun d => itemsD d M fun xs => k (.lst xs) M
theorem cd_list : CallD X (.type "list") rList := by
 refine ⟨_, call_list_of, fun ds vs H F M k Q S r0 h0 pv => ?_⟩
 obtain ⟨d, rfl, h⟩ := on1_of h0
 obtain ⟨v, rfl, r⟩ := reps1 r0
 obtain ⟨a, xs, ds, rfl, hq, hr, hl, w⟩ := items_of S r h
 refine ⟨a, xs, rfl, hq, fun l hn => ?_⟩
 obtain ⟨S2, e2⟩ := S.lay hn (.lst xs)
 exact pv _ _ _ _ _ e2 S2 (.lst upd_same (hr.mono e2.sm) hl) w
def rTuple : RB := fun ds M k => on1 ds fun d => itemsD d M fun xs => k (.tup xs) M
theorem cd_tuple : CallD X (.type "tuple") rTuple := by
 refine ⟨_, call_tuple_of, fun ds vs H F M k Q S r0 h0 pv => ?_⟩
 obtain ⟨d, rfl, h⟩ := on1_of h0
 obtain ⟨v, rfl, r⟩ := reps1 r0
 have mk : ∀ {a : Addr} {xs : List V} {es : List D}, Reps X.K F xs es → es.length ≤ sizeLine → k (.tup es) M → ∀ l, H l = none → Q (.ref l) (upd H l (.tup xs)) := fun hr hl w l hn => by
  obtain ⟨S2, e2⟩ := S.lay hn (.tup _)
  exact pv _ _ _ _ _ e2 S2 (.tup upd_same (hr.mono e2.sm) hl) w
 cases d with
 | ref a =>
  cases r
  obtain ⟨xs', hm, w'⟩ := h
  obtain ⟨_, hl', ys, hx, hr'⟩ := S.mlst hm
  exact ⟨_, _, rfl, .inl ⟨SqL.of hx, mk (a := a) hr' hl' w'⟩⟩
 | tup ds =>
  cases r with
  | tup hq hr hl => exact ⟨_, _, rfl, .inr ⟨seqU S.fz hq, pv.at S (.tup hq hr hl) h⟩⟩
 | lst ds =>
  cases r with
  | @lst a _ _ hq hr hl => exact ⟨_, _, rfl, .inl ⟨SqL.of (S.fz _ _ hq), mk (a := a) hr hl h⟩⟩
 | scr ns =>
  cases r with
  | @scr a _ hq => exact ⟨_, _, rfl, .inl ⟨S.fz.seq hq, mk (a := a) (Reps.of_ints _) (by rw [List.length_map, sizeLine_eq]; have := h.1; omega) h.2⟩⟩
 | _ => exact h.elim
def rInt1 : RB := fun ds M k => on1 ds fun d => match d with
 | .int i => k (.int i) M
 | .bl b => k (.int (if b then 1 else 0)) M
 | _ => False
theorem cd_int : CallD X (.type "int") rInt1 := by
 refine ⟨_, call_int1, fun ds vs H F M k Q S r0 h0 pv => ?_⟩
 obtain ⟨d, rfl, h⟩ := on1_of h0
 obtain ⟨v, rfl, r⟩ := reps1 r0
 cases d with
 | bl b => cases r; exact .inr ⟨_, rfl, pv.at S (.int _) h⟩
 | int i => cases r; exact .inl ⟨_, rfl, pv.at S (.int _) h⟩
 | _ => exact h.elim
def rAbs : RB := fun ds M k => on1 ds fun d => onInt d fun i => k (.int (if i < 0 then -i else i)) M
theorem cd_abs : CallD X (.builtin "abs") rAbs := by
 refine ⟨_, call_abs, fun ds vs H F M k Q S r0 h0 pv => ?_⟩
 obtain ⟨d, rfl, h⟩ := on1_of h0
 obtain ⟨v, rfl, r⟩ := reps1 r0
 obtain ⟨i, rfl, w⟩ := int_of r h
 exact ⟨i, rfl, pv.at S (.int _) w⟩
def blsOf : List D → Option (List Bool)
 | [] => some []
 | .bl i :: r => (blsOf r).map (i :: ·)
 | _ => none
theorem blsOf_eq : ∀ {ds : List D} {ns : List Bool}, blsOf ds = some ns → ds = ns.map .bl
 | [], ns, h => by cases h; rfl
 | .bl i :: r, ns, h => by
  obtain ⟨ms, h1, rfl⟩ := Option.map_eq_some_iff.mp (show (blsOf r).map (i :: ·) = some ns from h)
  rw [blsOf_eq h1]
  rfl
def onLst (d : D) (p : List D → Prop) : Prop := match d with
 | .lst ds => p ds
 | _ => False
theorem lst_of {K : PySem.W.Frag} {F : Hp} {v : V} {d : D} {p : List D → Prop} (r : Rep K F v d) (h : onLst d p) : ∃ a xs ds, v = .ref a ∧ F a = some (.lst xs) ∧ Reps K F xs ds ∧ ds.length ≤ sizeLine ∧ p ds := by
 cases d with
 | lst ds => cases r with | lst a b c => exact ⟨_, _, _, rfl, a, b, c, h⟩
 | _ => exact h.elim
def rAll : RB := fun ds M k => on1 ds fun d => onLst d fun es => onO (blsOf es) fun ns => k (.bl (ns.all (fun b => b))) M
theorem cd_all (hc : X.calm = true) : CallD X (.builtin "all") rAll := by
 refine ⟨_, cr_all hc, fun ds vs H F M k Q S r0 h0 pv => ?_⟩
 obtain ⟨d, rfl, h⟩ := on1_of h0
 obtain ⟨v, rfl, r⟩ := reps1 r0
 obtain ⟨a, xs, es, rfl, hq, hr, hl, w⟩ := lst_of r h
 obtain ⟨ns, h1, w⟩ := onO_of w
 rw [blsOf_eq h1] at hr
 have e := hr.bls
 subst e
 exact ⟨a, ns, rfl, SqL.of (S.fz _ _ hq), pv.at S (.bl _) w⟩
inductive Kd where
 | non | bl | int | str | tup | lst
def Kd.name : Kd → String
 | .non => "NoneType" | .bl => "bool" | .int => "int" | .str => "str" | .tup => "tuple" | .lst => "list"
end
def wApp (wo we : WE) : WE := fun ρ M k x => wo ρ M (fun o M1 => ∃ a ds0, o = .ref a ∧ M1 a = some (.lst ds0) ∧ we ρ M1 (fun d M2 => ∃ ds, M2 a = some (.lst ds) ∧ ds.length < sizeLine ∧ k .non (mupd M2 a (.lst (ds ++ [d])))) x) x
section
variable {X : Cx} {o e : Expr} {wo we : WE} {apos cpos : Pos}
theorem de_app {Tq : TkC} (ho : DE Tq X o wo) (he : DE Tq X e we) (hs : starEach (e :: []) X.env = (false, eval e X.env) :: starEach [] X.env := by rfl)
  (hbase : attributeBase o "append" X.env (eval o X.env) = eval o X.env := by rfl)
  (hfew : ((backTo cpos (starEach (e :: []) X.env)).all (fun x => !x.1) && (backToKw cpos (keywordEach [] X.env)).all (fun x => x.1.isSome)
   && decide ((e :: []).length + ([] : List Keyword).length + (if ([] : List Keyword).isEmpty then 0 else 1) < 30)) = true := by rfl)
  (hline : (apos.endLine == cpos.line) = true := by rfl) (hplain : (backTo cpos (starEach [] X.env)).any (·.1) = false := by rfl) :
  DE Tq X (.Call (.Attribute o "append" apos) [e] [] cpos) (wApp wo we) := by
 refine ⟨fun W tk => pe_imp (pe_bm PySem.F.plainAttrs_list PySem.F.slot_list_append PySem.F.type_list_append mt_append (ho.pe W tk) (pa_cons (he.pe W tk) pa_nil hs) hbase hfew hline hs hplain) fun σ H Q q => ?_⟩
 obtain ⟨F, M, ρ, k, x, S, R, w, pv, px⟩ := q
 refine ⟨F, M, ρ, _, x, S, R, w, fun v d H1 F1 M1 e1 S1 r1 w1 => ?_, px⟩
 obtain ⟨a, ds0, rfl, hm0, w2⟩ := w1
 cases r1
 obtain ⟨_, _, xs0, hx0, _⟩ := S1.mlst hm0
 refine ⟨Or.inl ⟨rfl, _, SqL.of hx0⟩, F1, M1, ρ, _, x, S1, R.mono e1.sm, w2, fun u e H2 F2 M2 e2 S2 r2 w3 => ?_, px.on e1⟩
 obtain ⟨ds, hm, hl, w4⟩ := w3
 obtain ⟨_, _, xs, hx, hr⟩ := S2.mlst hm
 obtain ⟨S3, e3⟩ := S2.write hm (o := .lst (xs ++ [u])) (m := .lst (ds ++ [e])) ⟨_, rfl, hr.snoc r2, by rw [List.length_append]; exact hl⟩
 exact ⟨a, xs, u, rfl, rfl, hx, by rw [hr.length]; exact hl, pv _ _ _ _ _ ((e1.trans e2).trans e3) S3 .non w4⟩
end
end DL
namespace DL
open PySem PySem.Spec PyProof.Rows L2
def zipD : List D → List D → List D
 | a :: as, b :: bs => .tup [a, b] :: zipD as bs
 | _, _ => []
theorem zipD_len : ∀ as bs : List D, (zipD as bs).length = min as.length bs.length
 | [], _ => by simp [zipD]
 | _ :: _, [] => by simp [zipD]
 | a :: as, b :: bs => by
  show (zipD as bs).length + 1 = min (as.length + 1) (bs.length + 1)
  rw [zipD_len as bs]
  omega
theorem zipD_get : ∀ (as bs : List D) (i : Nat) (a b : D), as[i]? = some a → bs[i]? = some b → (zipD as bs)[i]? = some (.tup [a, b])
 | [], _, _, _, _, h, _ => by simp at h
 | _ :: _, [], _, _, _, _, h => by simp at h
 | a :: as, b :: bs, 0, _, _, h1, h2 => by simp at h1 h2; subst h1 h2; rfl
 | a :: as, b :: bs, i + 1, _, _, h1, h2 => zipD_get as bs i _ _ (by simpa using h1) (by simpa using h2)
theorem pair_yld {K : PySem.W.Frag} {H F : Hp} {M : MH} {T : Addr} {x y : V} {a b : D} (S : RepS K H F M) (hT : H T = none) (r1 : Rep K F x a) (r2 : Rep K F y b) :
  ∃ F3, Ext H F M (upd H T (.tup [x, y])) F3 M ∧ RepS K (upd H T (.tup [x, y])) F3 M ∧ Rep K F3 (.ref T) (.tup [a, b]) := by
 obtain ⟨S2, e2⟩ := S.lay hT (.tup [x, y])
 exact ⟨_, e2, S2, .tup upd_same (.cons (r1.mono e2.sm) (.cons (r2.mono e2.sm) .nil)) (le_line (by show 2 ≤ 4096; decide))⟩
section
variable {K : PySem.W.Frag} {F : Hp} {a b : Addr} {xs ys : List V} {as bs : List D}
theorem wks_zip (h1 : F a = some (.lst xs)) (r1 : Reps K F xs as) (l1 : as.length ≤ sizeLine) (h2 : F b = some (.lst ys)) (r2 : Reps K F ys bs) : Wks K F (Itz K a b) (zipD as bs) (fun _ => True) where
 sz := by rw [zipD_len]; omega
 go := fun i H F' M hi s S _ => by
  rw [zipD_len] at hi
  have hx : i < xs.length := by rw [r1.length]; omega
  have hy : i < ys.length := by rw [r2.length]; omega
  exact ⟨xs, ys, xs[i], ys[i], SqL.of (S.fz _ _ (s _ _ h1)), SqL.of (S.fz _ _ (s _ _ h2)), by simp [hx], by simp [hy]⟩
 stop := fun H F' M s S _ => ⟨xs, ys, SqL.of (S.fz _ _ (s _ _ h1)), SqL.of (S.fz _ _ (s _ _ h2)), by rw [zipD_len, r1.length, r2.length]; omega⟩
 yld := fun i H v H3 F' M hi s S _ y => by
  obtain ⟨T, x, z, rfl, hT, rfl, q1, q2⟩ := y
  obtain ⟨d, g1, g2⟩ := r1.getV (q1 xs (SqL.of (S.fz _ _ (s _ _ h1))))
  obtain ⟨e, g3, g4⟩ := r2.getV (q2 ys (SqL.of (S.fz _ _ (s _ _ h2))))
  obtain ⟨F3, e3, S3, r3⟩ := pair_yld S hT (g2.mono s) (g4.mono s)
  exact ⟨F3, _, e3, S3, zipD_get as bs i d e g1 g3, r3⟩
theorem wks_zipT (h1 : SqT K F a xs) (r1 : Reps K F xs as) (l1 : as.length ≤ sizeLine) (h2 : SqT K F b ys) (r2 : Reps K F ys bs) : Wks K F (RZ.ItzT K a b) (zipD as bs) (fun _ => True) where
 sz := by rw [zipD_len]; omega
 go := fun i H F' M hi s S _ => by
  rw [zipD_len] at hi
  have hx : i < xs.length := by rw [r1.length]; omega
  have hy : i < ys.length := by rw [r2.length]; omega
  exact ⟨xs, ys, xs[i], ys[i], seqT S.fz (seqT s h1), seqT S.fz (seqT s h2), by simp [hx], by simp [hy]⟩
 stop := fun H F' M s S _ => ⟨xs, ys, seqT S.fz (seqT s h1), seqT S.fz (seqT s h2), by rw [zipD_len, r1.length, r2.length]; omega⟩
 yld := fun i H v H3 F' M hi s S _ y => by
  obtain ⟨T, x, z, rfl, hT, rfl, q1, q2⟩ := y
  obtain ⟨d, g1, g2⟩ := r1.getV (q1 xs (seqT S.fz (seqT s h1)))
  obtain ⟨e, g3, g4⟩ := r2.getV (q2 ys (seqT S.fz (seqT s h2)))
  obtain ⟨F3, e3, S3, r3⟩ := pair_yld S hT (g2.mono s) (g4.mono s)
  exact ⟨F3, _, e3, S3, zipD_get as bs i d e g1 g3, r3⟩
end
def wiZip (wa wb : WE) : WI := fun ρ M k x => wa ρ M (fun d M1 => wb ρ M1 (fun e M2 => match d, e with
 | .tup xs, .tup ys => k (zipD xs ys) (fun _ => True) M2
 | .lst xs, .lst ys => k (zipD xs ys) (fun _ => True) M2
 | _, _ => False) x) x
section
variable {X : Cx} {a b : Expr} {wa wb : WE} {p pos tpos : Pos} {elts : List Expr} {kk : Nat}
theorem di_zip {Tq : TkC} (hm : X.mg "zip" = none) (ha : DE Tq X a wa) (hb : DE Tq X b wb) (hg : Gl X "zip" := by rfl) (hs : starEach [a, b] X.env = (false, eval a X.env) :: starEach [b] X.env := by rfl) (hpl : (backTo pos (starEach [b] X.env)).any (·.1) = false := by rfl)
  (h00 : starEach (b :: []) X.env = (false, eval b X.env) :: starEach [] X.env := by rfl) : DI Tq X (.Tuple elts kk tpos) (.Call (.Name "zip" p) [a, b] [] pos) (wiZip wa wb) := by
 refine ⟨fun W tk => pi_imp (RZ.pi_zipA hg hm (pa_cons (ha.pe W tk) (pa_cons (hb.pe W tk) pa_nil h00) hs) hs hpl) fun σ H R q => ?_⟩
 obtain ⟨F, M, ρ, k, x, S, E, w, f, px⟩ := q
 refine ⟨F, M, ρ, _, x, S, E, w, fun v d H1 F1 M1 e1 S1 r1 w1 => ?_, px⟩
 refine ⟨F1, M1, ρ, _, x, S1, E.mono e1.sm, w1, fun u e H2 F2 M2 e2 S2 r2 w2 => ?_, px.on e1⟩
 have r1' := r1.mono e2.sm
 have e12 := e1.trans e2
 cases d with
 | tup xs =>
  cases e with
  | tup ys =>
   cases r1' with
   | tup q1 q2 q3 =>
   cases r2 with
   | tup s1 s2 s3 => exact ⟨_, _, _, _, rfl, .inr ⟨seqU S2.fz q1, seqU S2.fz s1, f _ _ _ _ _ _ e12 S2 (wks_zipT (SqT.of q1) q2 q3 (SqT.of s1) s2) w2⟩⟩
  | _ => exact w2.elim
 | lst xs =>
  cases e with
  | lst ys =>
   cases r1' with
   | lst q1 q2 q3 =>
   cases r2 with
   | lst s1 s2 s3 => exact ⟨_, _, _, _, rfl, .inl ⟨SqL.of (S2.fz _ _ q1), SqL.of (S2.fz _ _ s1), f _ _ _ _ _ _ e12 S2 (wks_zip q1 q2 q3 s1 s2) w2⟩⟩
  | _ => exact w2.elim
 | _ => cases e <;> exact w2.elim
end
def wAug (i : Nat) (r : RD) (we : WE) : WS := fun ρ M E => ∃ d, ρ[i]? = some (some d) ∧ we ρ M (fun e M1 => r d e M1 fun z M2 => E.nx (ρ.set i (some z)) M2) E.xc
def IpD (X : Cx) (op : Operator) (r : RD) : Prop := ∃ r2 : TIp, PIp X op r2 ∧ ∀ d e v u H F M k Q, RepS X.K H F M → Rep X.K F v d → Rep X.K F u e → r d e M k → PostV X.K H F M k Q → r2 v u H Q
section
variable {X : Cx} {e : Expr} {we : WE} {pos : Pos}
theorem ds_aug {Tq : TkC} {i : Nat} {x : Str} {op : Operator} {r : RD} {pos' : Pos} (hN : X.N.Nodup) (hi : X.N[i]? = some x) (hx : Loc X.env.scope x) (ho : IpD X op r) (he : DE Tq X e we) (hf : X.fn x = true ∨ X.env.scope.names.lookup x = some .local := by first | exact .inl rfl | exact .inr rfl | assumption) :
  DS Tq X (.AugAssign (.Name x pos') op e pos) (wAug i r we) := by
 obtain ⟨r2, h, s⟩ := ho
 refine ⟨fun W tk _ => ps_imp (ps_aug hN hi hx (he.pe W tk) h hf) fun D σ H q => ?_⟩
 obtain ⟨F, M, ρ, E, S, R, ⟨d, h1, w⟩, f⟩ := q
 obtain ⟨v, hv, rv⟩ := R.get h1
 refine ⟨v, hv, F, M, ρ, _, _, S, R, w, fun u e H1 F1 M1 e1 S1 r1 w1 => ?_, f.xc σ⟩
 refine s d e v u H1 F1 M1 _ _ S1 (rv.mono e1.sm) r1 w1 fun z y H2 F2 M2 e2 S2 r2 w2 => ?_
 have e12 := e1.trans e2
 exact f.nx _ _ _ _ _ e12 S2 ((R.mono e12.sm).set i r2) w2
theorem ip_intD {op : Operator} {f : Int → Int → Int} (h : PIp X op (ipI f)) : IpD X op (rInt0 fun i j => .int (f i j)) :=
 ⟨_, h, fun d e v u H F M k Q S rd re h pv => by
  obtain ⟨i, j, rfl, rfl, w⟩ := ii_of rd re h
  exact ⟨i, j, rfl, rfl, pv.at S (.int _) w⟩⟩
def rIadd : RD := rInt0 fun i j => .int (i + j)
theorem id_add : IpD X .Add rIadd := ip_intD ip_add
def rEq : RD := fun d e M k => match d with
 | .ref a => ∃ ds, M a = some (.lst ds) ∧ rEqP (.lst ds) e M k
 | _ => match scalD d e with
  | some b => k (.bl b) M
  | none => rEqP d e M k
def rNe : RD := fun d e M k => match d with
 | .ref a => ∃ ds, M a = some (.lst ds) ∧ rNeP (.lst ds) e M k
 | _ => match scalD d e with
  | some b => k (.bl (!b)) M
  | none => rNeP d e M k
def rEq0 : RD := fun d e M k => match scalD d e with
  | some b => k (.bl b) M
  | none => rEqP d e M k
def rNe0 : RD := fun d e M k => match scalD d e with
  | some b => k (.bl (!b)) M
  | none => rNeP d e M k
theorem rEq_cases {d e : D} {M : MH} {k : KD} (h : rEq d e M k) : (∃ a ds, d = .ref a ∧ M a = some (.lst ds) ∧ rEqP (.lst ds) e M k) ∨ rEq0 d e M k := by
 cases d with
 | ref a =>
  obtain ⟨ds, h1, h2⟩ := h
  exact .inl ⟨a, ds, rfl, h1, h2⟩
 | _ => exact .inr h
theorem rNe_cases {d e : D} {M : MH} {k : KD} (h : rNe d e M k) : (∃ a ds, d = .ref a ∧ M a = some (.lst ds) ∧ rNeP (.lst ds) e M k) ∨ rNe0 d e M k := by
 cases d with
 | ref a =>
  obtain ⟨ds, h1, h2⟩ := h
  exact .inl ⟨a, ds, rfl, h1, h2⟩
 | _ => exact .inr h
theorem dp_ref {K : PySem.W.Frag} {H F : Hp} {M : MH} {a : Addr} {ds : List D} {p : PyData} (S : RepS K H F M) (h : M a = some (.lst ds)) (e : toPy (.lst ds) = some p) : Dp K H (.ref a) p := by
 obtain ⟨ps, e1, rfl⟩ := Option.map_eq_some_iff.mp e
 obtain ⟨_, _, xs, hx, hr⟩ := S.mlst h
 exact .lst (SqL.of hx) (dps_of S.fz hr e1)
theorem od_eq (hu : X.A.units + 64 < cLine) : OpD X (compareOp .Eq) rEq := by
 refine ⟨_, op_eq.or (op_eqD hu), fun d e v u H F M k Q S rd re h0 pv => ?_⟩
 rcases rEq_cases h0 with ⟨a, ds, rfl, hm, h⟩ | h
 ·unfold rEqP at h
  obtain ⟨p, q, h1, h2, h3, h4, h5⟩ := h
  cases rd
  exact .inr ⟨p, q, dp_ref S hm h1, dp_of S.fz re h2, h3, h4, pv.at S (.bl _) h5⟩
 unfold rEq0 at h
 split at h
 ·rename_i b hb
  obtain ⟨h3, h4⟩ := scal_of rd re hb
  exact .inl ⟨h3, by rw [h4]; exact pv.at S (.bl _) h⟩
 ·unfold rEqP at h
  obtain ⟨p, q, h1, h2, h3, h4, h5⟩ := h
  exact .inr ⟨p, q, dp_of S.fz rd h1, dp_of S.fz re h2, h3, h4, pv.at S (.bl _) h5⟩
theorem od_ne (hu : X.A.units + 64 < cLine) : OpD X (compareOp .NotEq) rNe := by
 refine ⟨_, op_ne.or (op_neD hu), fun d e v u H F M k Q S rd re h0 pv => ?_⟩
 rcases rNe_cases h0 with ⟨a, ds, rfl, hm, h⟩ | h
 ·unfold rNeP at h
  obtain ⟨p, q, h1, h2, h3, h4, h5⟩ := h
  cases rd
  exact .inr ⟨p, q, dp_ref S hm h1, dp_of S.fz re h2, h3, h4, pv.at S (.bl _) h5⟩
 unfold rNe0 at h
 split at h
 ·rename_i b hb
  obtain ⟨h3, h4⟩ := scal_of rd re hb
  exact .inl ⟨h3, by rw [h4]; exact pv.at S (.bl _) h⟩
 ·unfold rNeP at h
  obtain ⟨p, q, h1, h2, h3, h4, h5⟩ := h
  exact .inr ⟨p, q, dp_of S.fz rd h1, dp_of S.fz re h2, h3, h4, pv.at S (.bl _) h5⟩
end
end DL
namespace DL
open PySem PySem.Spec PyProof.Rows L2
section
variable {gt : WG} {wt : WT} {we : WE} {g : MH → Prop} {ρ : Rh}
theorem compD_map (f : D → D) : ∀ (ds : List D) {M : MH} {k : List D → MH → Prop}, g M → (∀ d, d ∈ ds → ∀ k' : KD, k' (f d) M → gt d ρ M fun ρ1 M1 => we ρ1 M1 k' noX) → k (ds.map f) M → compD gt wYes we g ρ ds M k
 | [], _, _, hg, _, hk => ⟨hg, hk⟩
 | d :: r, M, k, hg, h, hk => ⟨hg, h d List.mem_cons_self _ (compD_map f r hg (fun e he => h e (List.mem_cons_of_mem _ he)) hk)⟩
theorem compD_filter (p : D → Bool) (f : D → D) : ∀ (ds : List D) {M : MH} {k : List D → MH → Prop}, g M →
  (∀ d, d ∈ ds → ∀ (k1 : KD) (k2 : MH → Prop), (p d = true → k1 (f d) M) → (p d = false → k2 M) → gt d ρ M fun ρ1 M1 => wt ρ1 M1 (fun b M2 => match b with
   | true => we ρ1 M2 k1 noX
   | false => k2 M2) noX) → k ((ds.filter p).map f) M → compD gt wt we g ρ ds M k
 | [], _, _, hg, _, hk => ⟨hg, hk⟩
 | d :: r, M, k, hg, h, hk => by
  refine ⟨hg, h d List.mem_cons_self _ _ (fun hp => ?_) fun hp => ?_⟩
  ·refine compD_filter p f r hg (fun e he => h e (List.mem_cons_of_mem _ he)) ?_
   rw [List.filter_cons, if_pos hp] at hk
   exact hk
  ·refine compD_filter p f r hg (fun e he => h e (List.mem_cons_of_mem _ he)) ?_
   rw [List.filter_cons, if_neg (by rw [hp]; exact Bool.false_ne_true)] at hk
   exact hk
inductive All2 (R : D → D → Prop) : List D → List D → Prop
 | nil : All2 R [] []
 | cons {a b : D} {as bs : List D} : R a b → All2 R as bs → All2 R (a :: as) (b :: bs)
theorem compD_draw (I : MH → Prop) (R : D → D → Prop) (hI : ∀ M, I M → g M) : ∀ (ds : List D) {M : MH} {k : List D → MH → Prop}, I M →
  (∀ d, d ∈ ds → ∀ M (k' : KD), I M → (∀ e M', R d e → I M' → k' e M') → gt d ρ M fun ρ1 M1 => we ρ1 M1 k' noX) → (∀ es M', All2 R ds es → I M' → k es M') → compD gt wYes we g ρ ds M k
 | [], M, _, hi, _, hk => ⟨hI M hi, hk [] M .nil hi⟩
 | d :: r, M, k, hi, h, hk => ⟨hI M hi, h d List.mem_cons_self M _ hi fun e M' he hi' => compD_draw I R hI r hi' (fun a ha => h a (List.mem_cons_of_mem _ ha)) fun es M2 hs hi2 => hk _ _ (.cons he hs) hi2⟩
end
theorem forD0_inv {gt : WG} {wb : WS} {g : MH → Prop} {E : EndsD} (I : List D → Rh → MH → Prop) (hg : ∀ ds ρ M, I ds ρ M → g M) (hnil : ∀ ρ M, I [] ρ M → E.nx ρ M)
  (hs : ∀ d r ρ M (nx : Rh → MH → Prop), I (d :: r) ρ M → (∀ ρ' M', I r ρ' M' → nx ρ' M') → gt d ρ M fun ρ1 M1 => wb ρ1 M1 { nx := nx, rt := E.rt, bk := E.nx, ct := nx, xc := E.xc }) : ∀ (ds : List D) (ρ : Rh) (M : MH), I ds ρ M → forD0 gt wb g E ds ρ M
 | [], ρ, M, h => ⟨hg _ _ _ h, hnil ρ M h⟩
 | d :: r, ρ, M, h => ⟨hg _ _ _ h, hs d r ρ M _ h fun ρ' M' h' => forD0_inv I hg hnil hs r ρ' M' h'⟩
theorem forD_inv {gt : WG} {wb : WS} {g : MH → Prop} {E : EndsD} (I : List D → Rh → MH → Prop) (hg : ∀ ds ρ M, I ds ρ M → g M) (hnil : ∀ ρ M, I [] ρ M → E.nx ρ M)
  (hs : ∀ d r ρ M (nx : Rh → MH → Prop), I (d :: r) ρ M → (∀ ρ' M', I r ρ' M' → nx ρ' M') → gt d ρ M fun ρ1 M1 => wb ρ1 M1 { nx := nx, rt := E.rt, bk := E.nx, ct := nx, xc := E.xc }) : ∀ (ds : List D) (ρ : Rh) (M : MH), I ds ρ M → forD gt wb g E ds ρ M := fun ds ρ M h => forD_eq ▸ forD0_inv I hg hnil hs ds ρ M h
def BoxAt (M : MH) (a : Addr) : Prop := ∃ (cs : List Int) (i s m : Int), M a = some (.lst [.lst (cs.map .int), .int i, .int s, .int m]) ∧ cs.length ≤ 63 ∧ 0 ≤ i
def Off (a : Addr) (M M' : MH) : Prop := ∀ b, b ≠ a → M' b = M b
theorem Off.refl (a : Addr) (M : MH) : Off a M M := fun _ _ => rfl
theorem Off.trans {a : Addr} {M M1 M2 : MH} (h : Off a M M1) (h' : Off a M1 M2) : Off a M M2 := fun b hb => (h' b hb).trans (h b hb)
theorem Off.upd (a : Addr) (M : MH) (o : MO) : Off a M (mupd M a o) := fun b hb => mupd_ne hb
theorem Off.upd2 {a : Addr} {M M' : MH} (h : Off a M M') (o : MO) : Off a M (mupd M' a o) := fun b hb => (mupd_ne hb).trans (h b hb)
def sp__a_box : WF := fun ds M k _ => ∃ ns, ds = [.scr ns] ∧ ns.length ≤ 63 ∧ ∀ a M', M a = none → BoxAt M' a → Off a M M' → k (.ref a) M'
def sp__draw : WF := fun ds M k _ => ∃ a n, ds = [.ref a, .int n] ∧ 0 < n ∧ n.natAbs.log2 < 9000 ∧ BoxAt M a ∧ ∀ v M', 0 ≤ v → v < n → BoxAt M' a → Off a M M' → k (.int v) M'
def pickD : D → Option (List D)
 | .lst ds => some ds
 | .tup ds => some ds
 | .str z => some (z.cps.toList.map fun c => .str ⟨#[c]⟩)
 | _ => none
def sp__any : WF := fun ds M k _ => ∃ a row its, ds = [.ref a, row] ∧ pickD row = some its ∧ its ≠ [] ∧ its.length ≤ 4096 ∧ BoxAt M a ∧ ∀ d M', d ∈ its → BoxAt M' a → Off a M M' → k d M'
mutual
def plain : D → Bool
 | .non => true | .bl _ => true | .int _ => true | .str _ => true
 | .tup ds => plains ds | .lst ds => plains ds
 | _ => false
def plains : List D → Bool
 | [] => true
 | d :: ds => plain d && plains ds
end
mutual
def dep : D → Nat
 | .tup ds => deps ds + 1
 | .lst ds => deps ds + 1
 | _ => 0
def deps : List D → Nat
 | [] => 0
 | d :: ds => max (dep d) (deps ds)
end
end DL
namespace DL
open PySem PySem.Spec PyProof.Rows L2
local macro_rules | `(tactic| walk_at "w") => `(tactic| try conv => whnf)
local macro_rules | `(tactic| walk_at "m") => `(tactic| (refine ⟨_, (by first | assumption | exact mupd_same : _ = some (MO.lst _)), ?_⟩; try conv => whnf))
local macro_rules | `(tactic| walk_at "p") => `(tactic| (refine ⟨_, _, _, _, rfl, rfl, (by first | assumption | exact mupd_same : _ = some (MO.lst _)), rfl, ?_⟩; try conv => whnf))
local macro_rules | `(tactic| walk_at "*") => `(tactic| (refine ⟨(by first | exact mulOk_r (by decide) (by decide) | exact mulOk_l (by decide) (by decide) | exact mulOk_l (by omega) (by omega) | exact mulOk_r (by omega) (by omega) : IntMulOk _ _), ?_⟩; try conv => whnf))
local macro_rules | `(tactic| walk_at "/") => `(tactic| (refine ⟨by first | decide | omega | exact ⟨by decide, by decide⟩, ?_⟩; try conv => whnf))
local macro_rules | `(tactic| walk_at "go") => `(tactic| ((try conv => whnf); repeat (first | walk_at "m" | walk_at "p" | walk_at "*")))
theorem atI_map {α β : Type} {f : α → β} {xs : List α} {i : Int} (h0 : 0 ≤ i) (h1 : i < xs.length) : ∃ c, atI (xs.map f) i = some (f c) := by
 have hl : i.toNat < xs.length := by omega
 refine ⟨xs[i.toNat], ?_⟩
 unfold atI ixN
 rw [if_pos h0, List.length_map, if_pos h1]
 show (xs.map f)[i.toNat]? = _
 rw [List.getElem?_map, List.getElem?_eq_getElem hl]
 rfl
theorem atI_mem {α : Type} {xs : List α} {i : Int} (h0 : 0 ≤ i) (h1 : i < xs.length) : ∃ c, c ∈ xs ∧ atI xs i = some c := by
 have hl : i.toNat < xs.length := by omega
 refine ⟨xs[i.toNat], List.getElem_mem hl, ?_⟩
 unfold atI ixN
 rw [if_pos h0, if_pos h1]
 show xs[i.toNat]? = _
 rw [List.getElem?_eq_getElem hl]
theorem atI_cons0 {α : Type} {a : α} {r : List α} : atI (a :: r) 0 = some a := by
 unfold atI ixN
 rw [if_pos (by decide), if_pos (by rw [List.length_cons]; omega)]
 rfl
theorem onO_mk {α : Type} {o : Option α} {p : α → Prop} {a : α} (h : o = some a) (q : p a) : onO o p := by subst h; exact q
theorem fmod_lo {a b : Int} (h : 0 < b) : 0 ≤ a.fmod b := Int.fmod_nonneg_of_pos a h
theorem fmod_hi {a b : Int} (h : 0 < b) : a.fmod b < b := Int.fmod_lt_of_pos a h
mutual
def pyOf : D → PyData
 | .non => .none
 | .bl b => .bool b
 | .int i => .int i
 | .str x => .str x
 | .tup ds => .tuple (pyOfs ds)
 | .lst ds => .list (pyOfs ds)
 | .ref _ => .none
 | .ty _ => .none
 | .scr _ => .none
 | .dct _ _ => .none
 | .dcT _ _ => .none
 | .dcl _ _ => .none
 | .dlT _ _ => .none
 | .obj _ _ _ => .none
def pyOfs : List D → List PyData
 | [] => []
 | d :: ds => pyOf d :: pyOfs ds
end
mutual
def lays : D → Bool
 | .non => true | .bl _ => true | .int _ => true
 | .str x => PyData.strOk x
 | .tup ds => layss ds | .lst ds => layss ds
 | _ => false
def layss : List D → Bool
 | [] => true
 | d :: ds => lays d && layss ds
end
mutual
theorem lays_py : ∀ {d : D}, lays d = true → toPy d = some (pyOf d) ∧ (pyOf d).canLay0 = true ∧ (pyOf d).depth = dep d
 | .non, _ => ⟨rfl, rfl, rfl⟩
 | .bl _, _ => ⟨rfl, rfl, rfl⟩
 | .int _, _ => ⟨rfl, rfl, rfl⟩
 | .str x, h => ⟨rfl, h, rfl⟩
 | .tup ds, h => by
  obtain ⟨h1, h2, h3⟩ := layss_py (ds := ds) h
  refine ⟨?_, h2, ?_⟩
  ·show (toPys ds).map PyData.tuple = _
   rw [h1]
   rfl
  ·show PyData.depthAll (pyOfs ds) + 1 = deps ds + 1
   rw [h3]
 | .lst ds, h => by
  obtain ⟨h1, h2, h3⟩ := layss_py (ds := ds) h
  refine ⟨?_, h2, ?_⟩
  ·show (toPys ds).map PyData.list = _
   rw [h1]
   rfl
  ·show PyData.depthAll (pyOfs ds) + 1 = deps ds + 1
   rw [h3]
 | .ref _, h => by cases h
 | .ty _, h => by cases h
 | .scr _, h => by cases h
 | .dct _ _, h => by cases h
 | .dcT _ _, h => by cases h
 | .dcl _ _, h => by cases h
 | .dlT _ _, h => by cases h
 | .obj _ _ _, h => by cases h
theorem layss_py : ∀ {ds : List D}, layss ds = true → toPys ds = some (pyOfs ds) ∧ PyData.canLayAll0 (pyOfs ds) = true ∧ PyData.depthAll (pyOfs ds) = deps ds
 | [], _ => ⟨rfl, rfl, rfl⟩
 | d :: ds, h => by
  have h' : lays d = true ∧ layss ds = true := Bool.and_eq_true_iff.mp h
  obtain ⟨a1, a2, a3⟩ := lays_py h'.1
  obtain ⟨b1, b2, b3⟩ := layss_py h'.2
  refine ⟨?_, ?_, ?_⟩
  ·show (toPy d).bind (fun p => (toPys ds).map (p :: ·)) = _
   rw [a1, b1]
   rfl
  ·show ((pyOf d).canLay0 && PyData.canLayAll0 (pyOfs ds)) = true
   rw [a2, b2]
   rfl
  ·show max (pyOf d).depth (PyData.depthAll (pyOfs ds)) = max (dep d) (deps ds)
   rw [a3, b3]
end
def eqD (d e : D) : Bool := PyData.eqv (pyOf d) (pyOf e)
theorem scal_eqv {d e : D} {b : Bool} (h : scalD d e = some b) : eqD d e = b := by
 cases d <;> cases e <;> first | (cases h; done) | skip
 all_goals (have h' := Option.some.inj h; rw [← h']; first | rfl | (show (_ == _) = decide (_ = _); rw [Bool.eq_iff_iff]; simp))
theorem rEqP_lays {d e : D} {M : MH} {k : KD} (h1 : lays d = true) (h2 : lays e = true) (q : k (.bl (eqD d e)) M) (h3 : dep d ≤ 64 := by decide) (h4 : dep e ≤ 64 := by decide) : rEqP d e M k := by
 unfold rEqP
 obtain ⟨a1, a2, a3⟩ := lays_py h1
 obtain ⟨b1, b2, b3⟩ := lays_py h2
 exact ⟨_, _, a1, b1, by unfold SeqAt.shaped; rw [a2, a3, decide_eq_true h3]; rfl, by unfold SeqAt.shaped; rw [b2, b3, decide_eq_true h4]; rfl, q⟩
theorem rNeP_lays {d e : D} {M : MH} {k : KD} (h1 : lays d = true) (h2 : lays e = true) (q : k (.bl (!eqD d e)) M) (h3 : dep d ≤ 64 := by decide) (h4 : dep e ≤ 64 := by decide) : rNeP d e M k := by
 unfold rNeP
 obtain ⟨a1, a2, a3⟩ := lays_py h1
 obtain ⟨b1, b2, b3⟩ := lays_py h2
 exact ⟨_, _, a1, b1, by unfold SeqAt.shaped; rw [a2, a3, decide_eq_true h3]; rfl, by unfold SeqAt.shaped; rw [b2, b3, decide_eq_true h4]; rfl, q⟩
theorem eqD_nil (xs : List D) : eqD (.lst xs) (.lst []) = xs.isEmpty := by
 cases xs <;> simp [eqD, pyOf, pyOfs, PyData.eqv, PyData.eqvAll]
def N__a_box : List Str := ["_law_script", "_law_cells", "_law_mark", "_law_cell"]
def w__a_box : WS := (wSeq (wSet 1 (wCB rList (wCons (wSl (wVar 0) wNoPart (wPart (wC (.int 63)))) wNil)))
 (wSeq (wSet 2 (wOp rAdd (wC (.int 3814)) (wOp rMul (wC (.int 67)) (wCB rLn (wCons (wVar 1) wNil)))))
 (wSeq (wFor (wiSeq (wVar 1)) (wgN 3) (wSet 2 (wOp rMod (wOp rAdd (wOp rMul (wVar 2) (wC (.int 1709))) (wVar 3)) (wC (.int 2147483587)))))
 (wRet (wLstM (wCons (wVar 1) (wCons (wC (.int 0)) (wCons (wC (.int 0)) (wCons (wVar 2) wNil)))))))))
theorem hw__a_box (ds : List D) (M : MH) (k : KD) (x : KE) (_ : ds.length = 1) (h : sp__a_box ds M k x) : w__a_box (startD N__a_box ds) M (retE k x) := by
 obtain ⟨ns, rfl, hl, hk⟩ := h
 walk_at "w"
 have hc : (cutD ns none (some 63)).length ≤ 63 := Nat.le_trans (cutD_len _ _ _) hl
 generalize cutD ns none (some 63) = cs at hc
 refine ⟨by omega, ?_⟩
 walk_at "go"
 refine forD_inv (fun ds ρ M' => M' = M ∧ (∃ cs', ds = cs'.map .int) ∧ ∃ m o, ρ = [some (.scr ns), some (.lst (cs.map .int)), some (.int m), o]) (fun _ _ _ _ => trivial) (fun ρ M' hI => ?_) (fun d r ρ M' nx hI hn => ?_) _ _ _ ⟨rfl, ⟨cs, rfl⟩, _, _, rfl⟩
 ·obtain ⟨rfl, _, m, o, rfl⟩ := hI
  walk_at "w"
  intro a ha
  exact Lt.now (hk _ _ ha ⟨cs, 0, 0, m, mupd_same, hc, by decide⟩ (DL.Off.upd _ _ _))
 ·obtain ⟨rfl, ⟨cs', e⟩, m, o, rfl⟩ := hI
  cases cs' with
  | nil => cases e
  | cons c cs' =>
   cases e
   walk_at "go"
   refine ⟨(by decide : (2147483587 : Int) ≠ 0), ?_⟩
   exact hn _ _ ⟨rfl, ⟨cs', rfl⟩, _, _, rfl⟩
def N__draw : List Str := ["_law_box", "_law_many", "_law_drawn", "_law_seed", "_law_fold", "_law_twist"]
def w__draw : WS := (wSeq (wIfS (wTest (wOp rLt (wIx (wVar 0) (wC (.int 2))) (wC (.int 2)))) (wSeq (wPut (wVar 0) (wC (.int 1)) (wOp rAdd (wIx (wVar 0) (wC (.int 1))) (wC (.int 1))))
 (wSeq (wSet 3 (wOp rAdd (wIx (wVar 0) (wC (.int 3))) (wOp rMul (wIx (wVar 0) (wC (.int 1))) (wC (.int 6151)))))
 (wSeq (wIfS (wTest (wOp rLe (wIx (wVar 0) (wC (.int 1))) (wCB rLn (wCons (wIx (wVar 0) (wC (.int 0))) wNil)))) (wSet 3 (wIx (wIx (wVar 0) (wC (.int 0))) (wOp rSub (wIx (wVar 0) (wC (.int 1))) (wC (.int 1))))) wNext)
 (wSeq (wIfS (wOr (wTest (wOp rGt (wIx (wVar 0) (wC (.int 1))) (wCB rLn (wCons (wIx (wVar 0) (wC (.int 0))) wNil)))) (wTest (wOp rLt (wVar 3) (wOp rPow (wC (.int 10)) (wC (.int 18)))))) (wSeq (wSet 4 (wOp rMod (wOp rAdd (wOp rAdd (wOp rMul (wVar 3) (wC (.int 48271))) (wOp rMul (wIx (wVar 0) (wC (.int 1))) (wC (.int 40692)))) (wIx (wVar 0) (wC (.int 3)))) (wC (.int 2147483647))))
 (wSeq (wSet 5 (wOp rMod (wOp rAdd (wOp rMul (wVar 4) (wVar 4)) (wIx (wVar 0) (wC (.int 1)))) (wC (.int 998244353))))
 (wRet (wOp rMod (wOp rFdiv (wOp rMod (wOp rAdd (wOp rMul (wVar 5) (wC (.int 69621))) (wVar 4)) (wC (.int 2147483629))) (wC (.int 7))) (wVar 1))))) wNext)
 (wPut (wVar 0) (wC (.int 2)) (wVar 3)))))) wNext)
 (wSeq (wSet 2 (wOp rMod (wIx (wVar 0) (wC (.int 2))) (wVar 1)))
 (wSeq (wPut (wVar 0) (wC (.int 2)) (wOp rFdiv (wIx (wVar 0) (wC (.int 2))) (wVar 1)))
 (wRet (wVar 2)))))
theorem hw__draw (ds : List D) (M : MH) (k : KD) (x : KE) (_ : ds.length = 2) (h : sp__draw ds M k x) : w__draw (startD N__draw ds) M (retE k x) := by
 obtain ⟨a, n, rfl, hn, hn2, ⟨cs, i, s, m, hM, hc, hi⟩, hk⟩ := h
 have hfin : ∀ (s' i' : Int) (M' : MH) (o1 o2 o3 o4 : Option D), 0 ≤ i' → DL.Off a M M' → M' a = some (.lst [.lst (cs.map .int), .int i', .int s', .int m]) → wSeq (wSet 2 (wOp rMod (wIx (wVar 0) (wC (.int 2))) (wVar 1)))
   (wSeq (wPut (wVar 0) (wC (.int 2)) (wOp rFdiv (wIx (wVar 0) (wC (.int 2))) (wVar 1))) (wRet (wVar 2))) [some (.ref a), some (.int n), o1, o2, o3, o4] M' (retE k x) := by
  intro s' i' M' o1 o2 o3 o4 hi' hO hM'
  walk_at "go"
  walk_at "/"
  walk_at "go"
  refine ⟨⟨by omega, hn2⟩, ?_⟩
  walk_at "go"
  exact Lt.now (hk _ _ (fmod_lo hn) (fmod_hi hn) ⟨cs, i', _, m, mupd_same, hc, hi'⟩ (hO.upd2 _))
 walk_at "w"
 walk_at "m"
 cases hs : decide (s < 2)
 ·exact hfin s i M _ _ _ _ hi (DL.Off.refl _ _) hM
 walk_at "go"
 have hmid : ∀ (sd : Int) (M' : MH) (o1 : Option D) , DL.Off a M M' → M' a = some (.lst [.lst (cs.map .int), .int (i + 1), .int s, .int m]) → wSeq
      (wIfS
       (wOr (wTest (wOp rGt (wIx (wVar 0) (wC (D.int 1))) (wCB rLn (wCons (wIx (wVar 0) (wC (D.int 0))) wNil))))
        (wTest (wOp rLt (wVar 3) (wOp rPow (wC (D.int 10)) (wC (D.int 18))))))
       (wSeq
        (wSet 4
         (wOp rMod
          (wOp DL.rAdd
           (wOp DL.rAdd (wOp rMul (wVar 3) (wC (D.int 48271)))
            (wOp rMul (wIx (wVar 0) (wC (D.int 1))) (wC (D.int 40692))))
           (wIx (wVar 0) (wC (D.int 3))))
          (wC (D.int 2147483647))))
        (wSeq
         (wSet 5
          (wOp rMod (wOp DL.rAdd (wOp rMul (wVar 4) (wVar 4)) (wIx (wVar 0) (wC (D.int 1))))
           (wC (D.int 998244353))))
         (wRet
          (wOp rMod
           (wOp rFdiv
            (wOp rMod (wOp DL.rAdd (wOp rMul (wVar 5) (wC (D.int 69621))) (wVar 4)) (wC (D.int 2147483629)))
            (wC (D.int 7)))
           (wVar 1)))))
       wNext)
      (wPut (wVar 0) (wC (D.int 2)) (wVar 3)) [some (.ref a), some (.int n), o1, some (.int sd), none, none] M'
    { nx := fun ρ1 M1 => wSeq (wSet 2 (wOp rMod (wIx (wVar 0) (wC (D.int 2))) (wVar 1)))
         (wSeq (wPut (wVar 0) (wC (D.int 2)) (wOp rFdiv (wIx (wVar 0) (wC (D.int 2))) (wVar 1)))
          (wRet (wVar 2))) ρ1 M1 (retE k x), rt := (retE k x).rt, bk := (retE k x).bk, ct := (retE k x).ct, xc := (retE k x).xc } := by
  intro sd M' o1 hO hM'
  have body : ∀ (E : EndsD), E.rt = (retE k x).rt → (wSeq
        (wSet 4
         (wOp rMod
          (wOp DL.rAdd
           (wOp DL.rAdd (wOp rMul (wVar 3) (wC (D.int 48271)))
            (wOp rMul (wIx (wVar 0) (wC (D.int 1))) (wC (D.int 40692))))
           (wIx (wVar 0) (wC (D.int 3))))
          (wC (D.int 2147483647))))
        (wSeq
         (wSet 5
          (wOp rMod (wOp DL.rAdd (wOp rMul (wVar 4) (wVar 4)) (wIx (wVar 0) (wC (D.int 1))))
           (wC (D.int 998244353))))
         (wRet
          (wOp rMod
           (wOp rFdiv
            (wOp rMod (wOp DL.rAdd (wOp rMul (wVar 5) (wC (D.int 69621))) (wVar 4)) (wC (D.int 2147483629)))
            (wC (D.int 7)))
           (wVar 1))))) [some (.ref a), some (.int n), o1, some (.int sd), none, none] M' E := by
   intro E hE
   walk_at "go"
   walk_at "/"
   have f1 := fmod_lo (a := sd * 48271 + (i + 1) * 40692 + m) (b := 2147483647) (by decide)
   have f2 := fmod_hi (a := sd * 48271 + (i + 1) * 40692 + m) (b := 2147483647) (by decide)
   generalize (sd * 48271 + (i + 1) * 40692 + m).fmod 2147483647 = fo at f1 f2
   walk_at "go"
   walk_at "/"
   walk_at "go"
   walk_at "/"
   refine ⟨⟨by decide, by decide⟩, ?_⟩
   walk_at "go"
   walk_at "/"
   show E.rt _ _
   rw [hE]
   exact Lt.now (hk _ _ (fmod_lo hn) (fmod_hi hn) ⟨cs, i + 1, s, m, hM', hc, by omega⟩ hO)
  walk_at "go"
  cases h1 : decide ((List.map D.int cs).length < i + 1)
  ·walk_at "go"
   walk_at "/"
   cases h2 : decide (sd < 10 ^ (18 : Int).toNat)
   ·walk_at "w"
    refine ⟨_, _, _, _, rfl, rfl, hM', rfl, ?_⟩
    exact hfin _ _ _ _ _ _ _ (by omega) (hO.upd2 _) mupd_same
   ·exact body _ rfl
  ·exact body _ rfl
 cases h1 : decide (i + 1 ≤ (List.map D.int cs).length)
 ·exact hmid _ _ _ (DL.Off.upd _ _ _) mupd_same
 ·walk_at "go"
  obtain ⟨c, h3⟩ := atI_map (f := D.int) (xs := cs) (i := i + 1 - 1) (by omega) (by have := of_decide_eq_true h1; rw [List.length_map] at this; omega)
  refine onO_mk h3 ?_
  exact hmid _ _ _ (DL.Off.upd _ _ _) mupd_same
def N__any : List Str := ["_law_box", "_law_row"]
def w__any : WS := (wRet (wIx (wVar 1) (wCall sp__draw 2 (wCons (wVar 0) (wCons (wCB rLn (wCons (wVar 1) wNil)) wNil)))))
theorem log2_4096 {n : Nat} (h : n ≤ 4096) : n.log2 < 9000 := by
 by_cases h0 : n = 0
 ·subst h0; decide
 ·have : n < 2 ^ 9000 := Nat.lt_of_le_of_lt h (Nat.lt_of_lt_of_le (by decide : 4096 < 2 ^ 13) (Nat.pow_le_pow_right (by decide) (by decide)))
  exact (Nat.log2_lt h0).mpr this
theorem hw__any (ds : List D) (M : MH) (k : KD) (x : KE) (_ : ds.length = 2) (h : sp__any ds M k x) : w__any (startD N__any ds) M (retE k x) := by
 obtain ⟨a, row, its, rfl, hp, hne, hl, hB, hk⟩ := h
 have hpos : 0 < its.length := List.length_pos_iff.mpr hne
 cases row with
 | lst ds =>
  cases hp
  walk_at "w"
  refine ⟨_, _, rfl, Int.ofNat_lt.mpr hpos, log2_4096 hl, hB, fun v M' h0 h1 hB' hO => ?_⟩
  obtain ⟨c, hc, e⟩ := atI_mem h0 h1
  walk_at "w"
  rw [e]
  exact Lt.now (hk _ _ hc hB' hO)
 | tup ds =>
  cases hp
  walk_at "w"
  refine ⟨_, _, rfl, Int.ofNat_lt.mpr hpos, log2_4096 hl, hB, fun v M' h0 h1 hB' hO => ?_⟩
  obtain ⟨c, hc, e⟩ := atI_mem h0 h1
  walk_at "w"
  rw [e]
  exact Lt.now (hk _ _ hc hB' hO)
 | str z =>
  cases hp
  have hz : z.cps.toList.length = z.length := rfl
  rw [List.length_map] at hl hpos
  walk_at "w"
  refine ⟨le_line (by rw [← hz]; exact hl), ?_⟩
  walk_at "w"
  refine ⟨_, _, rfl, Int.ofNat_lt.mpr hpos, log2_4096 hl, hB, fun v M' h0 h1 hB' hO => ?_⟩
  obtain ⟨c, hc, e⟩ := atI_mem (xs := z.cps.toList) h0 h1
  walk_at "w"
  refine ⟨le_line (by rw [← hz]; exact hl), ?_⟩
  walk_at "w"
  rw [e]
  exact Lt.now (hk _ _ (List.mem_map_of_mem hc) hB' hO)
 | _ => cases hp
end DL
namespace DL
open PySem PySem.Spec PyProof.Rows L2
section
variable {X : Cx} {CX : CXT} {k : Nat} {f : Addr} {sp : Sp} {E : L2.St → XK} {x : Str} {p pos : Pos} {e : Expr} {es : List Expr} {t : TA}
theorem run_fnRS {pins : List (Addr × Obj)} {σ : L2.St} {H : Hp} {s : Shared} {Q : VK} {us : List Value} {vs : List V} (F : FnR X.prog X.w X.K X.mg X.base CX k f sp) (hr : Room k X.A) (hx : PassesAt CX X σ (E σ)) (I : Inv X pins σ H s) (r : Vals vs us) (h : sp vs H Q (E σ)) :
  wpAny (model X.prog X.w) X.A (call (.ref f) us) (EP X pins σ Q) X.xe s := by
 refine wpAny_call (codeAny_mono (F X.A X.stack s H us vs Q (E σ) hr I.env0 r h) fun r s' hq => ?_)
 cases r with
 | error e => exact hx pins H s e s' I hq
 | ok fl =>
  cases fl with
  | ret u => exact I.after hq
  | next => exact False.elim hq
  | brk => exact False.elim hq
  | cont => exact False.elim hq
theorem pe_callR (F : FnR X.prog X.w X.K X.mg X.base CX k f sp) (hr : Room k X.A) (hk : PySem.W.keepIn X.K (.ref f) = true) (hg : Gl X x) (hm : X.mg x = some (.ref f)) (hx : ∀ σ, PassesAt CX X σ (E σ)) (ha : PA X (e :: es) t) (hd : (x == ("__debug__" : Str)) = false := by decide)
  (he : starEach (e :: es) X.env = (false, eval e X.env) :: starEach es X.env := by rfl) (hpl : (backTo pos (starEach es X.env)).any (·.1) = false := by rfl) : PE X (.Call (.Name x p) (e :: es) [] pos) (tCallS sp E t) := by
 refine ⟨fun pins s σ H Q I h => ?_⟩
 refine wpAny_Call_Name_kw (ld_glob I hg hm ?_ hd)
 refine PySem.W.callWith_K (h₀ := X.base) I.ok.mod.kin hk (thn (ha.run pos pins s σ H _ I h) fun us s1 ⟨vs, H1, I1, r, q⟩ => ⟨I1.kIn, ?_⟩) he hpl
 exact run_fnRS F hr (hx σ) I1 r q
end
def spV (K : PySem.W.Frag) (m : Nat) (wf : WF) : Sp := fun vs H Q E => ∃ ws rest, vs = ws ++ rest ∧ ws.length = m ∧ rest.length ≤ sizeLine ∧ ∀ p, H p = Option.none → spD K (m + 1) wf (ws ++ [V.ref p]) (upd H p (.tup rest)) Q E
structure FnV (P : Program) (w : World) (K : PySem.W.Frag) (mg : Str → Option Value) (base : Heap) (f : Str) (k m : Nat) (wf : WF) : Prop where
 ex : ∃ a : Addr, FnR P w K mg base (L2N.CX P w) k a (spV K m wf) ∧ mg f = some (.ref a) ∧ PySem.W.keepIn K (.ref a) = true
def wCallV (wf : WF) (m : Nat) (wa : WA) : WE := fun ρ M k x => wa ρ M (fun ds M1 => gd (Nat.ble m ds.length) (gd (Nat.ble ds.length 4096) (wf (ds.take m ++ [.tup (ds.drop m)]) M1 k x))) x
theorem spV_in {K : PySem.W.Frag} {m : Nat} {wf : WF} {H F : Hp} {M : MH} {vs : List V} {ds : List D} {k : KD} {x : KE} {Q : VK} {E : XK} (S : RepS K H F M) (r : Reps K F vs ds) (w : gd (Nat.ble m ds.length) (gd (Nat.ble ds.length 4096) (wf (ds.take m ++ [.tup (ds.drop m)]) M k x)))
  (pv : PostV K H F M k Q) (px : PostX K H F M x E) : spV K m wf vs H Q E := by
 obtain ⟨h1, w⟩ := gd_of w
 obtain ⟨h2, w⟩ := gd_of w
 have h1 := Nat.le_of_ble_eq_true h1
 have h2 := Nat.le_of_ble_eq_true h2
 have hl := r.length
 have hd : (ds.drop m).length ≤ sizeLine := le_line (by rw [List.length_drop]; omega)
 refine ⟨vs.take m, vs.drop m, (List.take_append_drop m vs).symm, by rw [List.length_take, hl]; omega, by rw [List.length_drop, hl]; have := le_line h2; omega, fun p hp => ?_⟩
 obtain ⟨S2, e2⟩ := S.lay hp (.tup (vs.drop m))
 exact ⟨_, M, _, k, x, S2, ((r.take m).mono e2.sm).snoc (.tup upd_same ((r.drop m).mono e2.sm) hd), by rw [List.length_append, List.length_take, List.length_singleton]; omega, w, pv.on e2, px.on e2⟩
section
variable {X : Cx} {pos p : Pos} {f : Str} {e : Expr} {es : List Expr} {k m : Nat} {wf : WF} {wa : WA}
theorem de_callV {Tq : TkC} (F : FnV X.prog X.w X.K X.mg X.base f k m wf) (hr : Room k X.A) (ha : DA Tq X (e :: es) wa) (hg : Gl X f := by rfl) (hd : (f == ("__debug__" : Str)) = false := by decide)
  (he : starEach (e :: es) X.env = (false, eval e X.env) :: starEach es X.env := by rfl) (hpl : (backTo pos (starEach es X.env)).any (·.1) = false := by rfl) : DE Tq X (.Call (.Name f p) (e :: es) [] pos) (wCallV wf m wa) := by
 obtain ⟨a, G, hm, hk⟩ := F.ex
 refine ⟨fun W tk => pe_imp (pe_callR G hr hk hg hm (fun σ => L2N.passAt (Tq.n tk) σ) (ha.pa W tk) hd he hpl) fun σ H Q q => ?_⟩
 obtain ⟨F, M, ρ, k, x, S, R, w, pv, px⟩ := q
 exact ⟨F, M, ρ, _, x, S, R, w, fun vs ds H1 F1 M1 e1 S1 r1 w1 => spV_in S1 r1 w1 (pv.on e1) (px.on e1), px⟩
end
theorem upN {P : Program} {w : World} : StX.CXUp (L2N.CX P w) := by
 intro l s1 G1 s2 G2 E u t un old os0 h
 obtain ⟨a, B, G', c, d, h1, h2, h3, h4, h5, h6, h7, h8⟩ := h
 have free : ∀ b o, s1.heap.get? b = some o → G1 b = none → G2 b = none := fun b o z n => un.free b o z n (by simp)
 refine ⟨a, B, G', c, d, h1, h2, h3, ?_, h5, h6.trans os0, h7, h8⟩
 constructor
 ·intro b o z n m
  exact h4.keep b o (old b o z) (free b o z n) m
 ·intro b o z m
  exact h4.slot b o (old b o z) m
 ·intro b o z n
  exact h4.free b o (old b o z) (free b o z n)
 ·intro b o z m
  exact h4.there b o (old b o z) m
 ·intro b xs z
  exact h4.tups b xs (un.tups b xs z)
 ·intro b o xs z
  exact h4.frzs b o xs (un.frzs b o xs z)
 ·intro b qs z
  obtain ⟨n1, g1⟩ := un.tbls b qs z
  obtain ⟨n2, g2⟩ := h4.tbls b _ g1
  refine ⟨n1 ++ n2, ?_⟩
  rw [g2, Array.append_assoc]
section
variable {P : Program} {w : World} {K : PySem.W.Frag} {mg : Str → Option Value} {base : Heap}
theorem fn_dV {x qual : Str} {st : Stmt} {f : Addr} {fd : FuncData} {N ps : List Str} {pv : Str} {k : Nat} {wf : WF} {wb : WS} (G : Fun K x qual st f fd) (S : FnScope N (ps ++ [pv]) (defScope st))
  (hbind : ∀ (kV doc pm cdv ct : Value) (an : Option Addr) (us rest : List Value), us.length = ps.length → bindArgs (PySem.W.fnOf x qual (defArgs st) (defBody st) (defScope st) .none kV doc pm an cdv ct) ⟨us ++ rest, []⟩ = (newTuple rest >>= fun t => pure (ps.zip us ++ [(pv, t)])))
  (hb : ∀ (cdv : Value) (A : Around) (outer : List Env) (s : Shared) (H : Hp) (E : XK), Room k (A.deeper (envOfC qual (defScope st) s.heap.objs.size f cdv)) → DSs tkN (cxOf (L2N.CX P w) P w K mg base N qual (defScope st) f cdv A outer s H E) (defBody st) wb)
  (hw : ∀ ds M k x, ds.length = ps.length + 1 → wf ds M k x → wb (startD N ds) M (retE k x)) : FnR P w K mg base (L2N.CX P w) (k + 1) f (spV K ps.length wf) := by
 obtain ⟨oc, od, kV, doc, pm, an, cdv, ct, osl, rfl, lk, hcd⟩ := G.ex
 refine StX.fn_star (sp := spD K (ps.length + 1) wf) lk hcd S upN (hbind kV doc pm cdv ct an) fun A outer s H vs Q E hr h => ?_
 have d := hb cdv A outer s H E hr
 refine ⟨_, d.ps (fun cls d _ H => E cls d H) (L2N.takes_of rfl rfl rfl rfl) (passes_of rfl), ?_⟩
 obtain ⟨F, M, ds, k, x, S1, r, hl, q, pv, px⟩ := h
 exact ⟨F, M, startD N ds, retE k x, S1, RepE.start r, hw ds M k x hl q, fun σ' ρ' H' F' M' e' S' R' w' => pv.lt _ _ _ _ _ e' S' .non w', pv.lt, fun _ _ _ _ _ _ _ _ z => z.elim, fun _ _ _ _ _ _ _ _ z => z.elim, fun σ => px.lt⟩
end
theorem de_gint {Tq : TkC} {X : Cx} {x : Str} {i : Int} {pos : Pos} (hm : ∃ t, X.mg x = some (.int i t)) (hg : Gl X x := by rfl) (hd : (x == ("__debug__" : Str)) = false := by decide) : DE Tq X (.Name x pos) (wC (.int i)) := by
 obtain ⟨t, h⟩ := hm
 exact de_glob (v := V.int i) h ⟨t, rfl⟩ (fun _ => .int i) hg hd
end DL
namespace DL
open PySem PySem.Spec PyProof.Rows L2
local macro_rules | `(tactic| walk_at "w") => `(tactic| try conv => whnf)
abbrev tI (ns : List Int) : D := .tup (ns.map .int)
def fwd : List Int → Bool
 | [] => false
 | n :: r => if n = 0 then fwd r else decide (0 < n)
def Bd (b : Int) (ns : List Int) : Prop := ∀ n, n ∈ ns → -b ≤ n ∧ n ≤ b
def sp__spot : WF := fun ds M k _ => ∃ a n, ds = [.ref a, .int n] ∧ 0 ≤ n ∧ n ≤ 1000 ∧ BoxAt M a ∧ ∀ ns M', (ns.length : Int) = n → Bd (10 ^ 40) ns → BoxAt M' a → Off a M M' → k (tI ns) M'
def N_is_forward : List Str := ["vector", "one"]
def N_residue : List Str := ["place", "moduli", "one", "modulus"]
def N_origin : List Str := ["dimension"]
def N_add : List Str := ["one", "others", "result", "other", "a", "b"]
def N_scale : List Str := ["number", "place", "one"]
def N_opposite : List Str := ["place"]
def N__spot : List Str := ["_law_box", "_law_ways", "_law_k"]
def w__spot : WS := (wSeq (wIfS (wTest (wOp rEq (wCall sp__draw 2 (wCons (wVar 0) (wCons (wC (.int 3)) wNil))) (wC (.int 0)))) (wRet (wCB rTuple (wCons (wLc (wiR1 (wVar 1)) (wgN 2) wYes (wOp rSub (wCall sp__draw 2 (wCons (wVar 0) (wCons (wOp rAdd (wOp rMul (wC (.int 2)) (wOp rPow (wC (.int 10)) (wC (.int 40)))) (wC (.int 1))) wNil))) (wOp rPow (wC (.int 10)) (wC (.int 40)))) [2]) wNil))) wNext)
 (wRet (wCB rTuple (wCons (wLc (wiR1 (wVar 1)) (wgN 2) wYes (wOp rSub (wCall sp__draw 2 (wCons (wVar 0) (wCons (wC (.int 21)) wNil))) (wC (.int 10))) [2]) wNil))))
theorem ints_bd {lo hi : Int} {R : D → D → Prop} (h : ∀ d e, R d e → ∃ i, e = .int i ∧ lo ≤ i ∧ i ≤ hi) : ∀ {ds es : List D}, All2 R ds es → ∃ ns : List Int, es = ns.map .int ∧ ns.length = ds.length ∧ ∀ n, n ∈ ns → lo ≤ n ∧ n ≤ hi
 | _, _, .nil => ⟨[], rfl, rfl, fun _ h => nomatch h⟩
 | _, _, .cons r rs => by
  obtain ⟨i, rfl, hi⟩ := h _ _ r
  obtain ⟨ns, rfl, hl, hn⟩ := ints_bd h rs
  exact ⟨i :: ns, rfl, congrArg (· + 1) hl, fun n hm => by
   rcases List.mem_cons.mp hm with e | e
   ·subst e; exact hi
   ·exact hn n e⟩
theorem hw__spot (ds : List D) (M : MH) (k : KD) (x : KE) (hl : ds.length = 2) (h : sp__spot ds M k x) : w__spot (startD N__spot ds) M (retE k x) := by
 obtain ⟨a, n, rfl, h0, h1, hB, hk⟩ := h
 walk_at "w"
 refine ⟨_, _, rfl, by decide, by decide, hB, fun v M1 _ _ hB1 hO1 => ?_⟩
 walk_at "w"
 cases hv : decide (v = 0)
 ·walk_at "w"
  refine ⟨by omega, by omega, ?_⟩
  refine compD_draw (fun M' => BoxAt M' a ∧ Off a M M') (fun d e => ∃ i, e = .int i ∧ -(10 ^ 40) ≤ i ∧ i ≤ 10 ^ 40) (fun _ _ => trivial) _ ⟨hB1, hO1⟩ (fun d hd M' k' hI hk' => ?_) (fun es M' hA hI => ?_)
  ·walk_at "w"
   refine ⟨_, _, rfl, by decide, by decide, hI.1, fun v M1 v0 v1 hB1 hO1 => ?_⟩
   exact hk' _ _ ⟨_, rfl, by omega, by omega⟩ ⟨hB1, hI.2.trans hO1⟩
  ·obtain ⟨ns, rfl, hl, hb⟩ := ints_bd (fun _ _ h => h) hA
   rw [intsFrom_len] at hl
   exact Lt.now (hk ns _ (by omega) hb hI.1 hI.2)
 ·walk_at "w"
  refine ⟨by omega, by omega, ?_⟩
  refine compD_draw (fun M' => BoxAt M' a ∧ Off a M M') (fun d e => ∃ i, e = .int i ∧ -(10 ^ 40) ≤ i ∧ i ≤ 10 ^ 40) (fun _ _ => trivial) _ ⟨hB1, hO1⟩ (fun d hd M' k' hI hk' => ?_) (fun es M' hA hI => ?_)
  ·walk_at "w"
   refine ⟨⟨by decide, by decide, by decide⟩, ?_⟩
   walk_at "w"
   refine ⟨mulOk_l (by decide) (by decide), ?_⟩
   walk_at "w"
   refine ⟨_, _, rfl, by decide, by decide, hI.1, fun v M1 v0 v1 hB1 hO1 => ?_⟩
   refine ⟨⟨by decide, by decide, by decide⟩, ?_⟩
   have e40 : (10 : Int) ^ (40 : Int).toNat = 10 ^ 40 := rfl
   rw [e40] at v1
   exact hk' _ _ ⟨_, rfl, by show _ ≤ v - 10 ^ 40; omega, by show v - 10 ^ 40 ≤ _; omega⟩ ⟨hB1, hI.2.trans hO1⟩
  ·obtain ⟨ns, rfl, hl, hb⟩ := ints_bd (fun _ _ h => h) hA
   rw [intsFrom_len] at hl
   exact Lt.now (hk ns _ (by omega) hb hI.1 hI.2)
end DL
namespace DL
open PySem PySem.Spec PyProof.Rows L2
def occS (i j : Str) : Bool := !(Builtin.Str.occurrences j i 0 j.length 1).isEmpty
section
variable {X : Cx}
end
def onStr (d : D) (p : Str → Prop) : Prop := match d with
 | .str z => p z
 | _ => False
end DL
namespace DL
open PySem PySem.Spec PyProof.Rows L2
local macro_rules | `(tactic| walk_at "w") => `(tactic| try conv => whnf)
inductive Cd where
 | go (v : List Int) | put (n : Int) | ref (u : Bool) (nm : Str) | rep (t : Int) (b : List Cd)
mutual
def toD : Cd → D
 | .go v => .tup [.str "go", tI v]
 | .put n => .tup [.str "put", .int n]
 | .ref true nm => .tup [.str "undo", .str nm]
 | .ref false nm => .tup [.str "do", .str nm]
 | .rep t b => .tup [.str "repeat", .int t, .tup (toDs b)]
def toDs : List Cd → List D
 | [] => []
 | c :: r => toD c :: toDs r
end
abbrev tB (cs : List Cd) : D := .tup (toDs cs)
end DL
namespace DL
open PySem PySem.Spec PyProof.Rows L2
local macro_rules | `(tactic| walk_at "w") => `(tactic| try conv => whnf)
mutual
def dC : Cd → Nat
 | .rep _ b => dCs b + 1
 | .go _ => 0 | .put _ => 0 | .ref _ _ => 0
def dCs : List Cd → Nat
 | [] => 0
 | c :: r => max (dC c) (dCs r)
end
mutual
def sz : Cd → Nat
 | .rep _ b => szs b + 1
 | .go _ => 1 | .put _ => 1 | .ref _ _ => 1
def szs : List Cd → Nat
 | [] => 0
 | c :: r => sz c + szs r
end
def addN (f : List Str) (x : Str) : List Str := if x ∈ f then f else f ++ [x]
end DL
namespace DL
open PySem PySem.Spec PyProof.Rows L2
inductive RelB (X : Cx) (F : Hp) : List (Nat × D) → List (Str × Value) → Prop
 | nil : RelB X F [] []
 | cons {i : Nat} {d : D} {x : Str} {u : Value} {v : V} {r : List (Nat × D)} {r' : List (Str × Value)} : X.N[i]? = some x → Loc X.env.scope x → (X.fn x = true ∨ X.env.scope.names.lookup x = some .local) → RelV v u → Rep X.K F v d → RelB X F r r' → RelB X F ((i, d) :: r) ((x, u) :: r')
abbrev KP := Option (List (Nat × D)) → Prop
abbrev WP := D → MH → KP → Prop
def RelO (X : Cx) (F : Hp) : Option (List (Nat × D)) → Option (List (Str × Value)) → Prop
 | none, none => True
 | some a, some b => RelB X F a b
 | _, _ => False
structure DP (Tq : TkC) (X : Cx) (p : Pattern) (w : WP) : Prop where
 run : ∀ (pins : List (Addr × Obj)) (s : Shared) (σ : L2.St) (H : Hp) (v : V) (u : Value) (d : D) (F : Hp) (M : MH) (k : KP) (Q : Option (List (Str × Value)) → Shared → Prop), Inv X pins σ H s → RepS X.K H F M → RelV v u → Rep X.K F v d → w d M k →
  (∀ r r' s', Inv X pins σ H s' → k r → RelO X F r r' → Q r' s') → wpAny (model X.prog X.w) X.A (matchPattern p X.env u) Q X.xe s
section
variable {X : Cx} {pos p2 : Pos}
end
structure DM (Tq : TkC) (X : Cx) (cs : List MatchCase) (w : D → WS) : Prop where
 run : ∀ (W : WX), Tq.t X W → Pss X → ∀ (pins : List (Addr × Obj)) (s : Shared) (σ : L2.St) (H : Hp) (D' : Ends) (v : V) (u : Value) (d : D) (F : Hp) (M : MH) (ρ : Rh) (E : EndsD) (first : Bool), Inv X pins σ H s → RelV v u → RepS X.K H F M → RepE X.K F σ ρ → Rep X.K F v d → w d ρ M E → FinD X.K W H F M E D' →
  wpAny (model X.prog X.w) X.A (matchCases cs X.env u first) (SP X pins D') X.xe s
section
variable {X : Cx} {pos : Pos}
end
end DL
namespace DL
open PySem PySem.Spec PyProof.Rows L2
section
variable {prog : Program} {w : World} {A : Around} {E : Value → Shared → Prop} {s : Shared}
end
end DL
namespace DX
open PySem PyProof.Rows
section
variable {prog : Program} {w : World} {A : Around} {R : Result → Shared → Prop} {it0 B : Addr} {fp wr : List Addr} {n : Nat} {P : Nat → Value → Prop} {St : Nat → Heap → Prop} {dv : Value}
end
section
variable {prog : Program} {w : World} {A : Around} {E : Value → Shared → Prop} {s : Shared}
end
end DX
namespace DL
open PySem PySem.Spec PyProof.Rows L2
end DL
namespace DL
open PySem PySem.Spec PyProof.Rows L2
end DL
namespace DL
open PySem PySem.Spec PyProof.Rows L2
local macro_rules | `(tactic| walk_at "w") => `(tactic| try conv => whnf)
mutual
def rv : Cd → Cd
 | .rep t b => .rep t (rvs b)
 | .go v => .go (v.map fun x => -x)
 | .put n => .put (-n)
 | .ref u nm => .ref (!u) nm
def rvs : List Cd → List Cd
 | [] => []
 | c :: r => rvs r ++ [rv c]
end
end DL
namespace DL
open PySem PySem.Spec PyProof.Rows L2
def getL {α : Type} : List Str → List α → Str → Option α
 | k' :: ks, x :: xs, k => if k' = k then some x else getL ks xs k
 | _, _, _ => none
def putL {α : Type} : List Str → List α → Str → α → List α
 | k' :: ks, x :: xs, k, v => (if k' = k then v else x) :: putL ks xs k v
 | _, _, _, _ => []
def putKs (ks : List Str) (k : Str) : List Str := if k ∈ ks then ks else ks ++ [k]
def putXs {α : Type} (ks : List Str) (xs : List α) (k : Str) (v : α) : List α := if k ∈ ks then putL ks xs k v else xs ++ [v]
theorem kvz_cons {k : Str} {ks : List Str} {x : V} {xs : List V} : kvz (k :: ks) (x :: xs) = (Sum.inr k, x) :: kvz ks xs := rfl
theorem kvz_len : ∀ {ks : List Str} {xs : List V}, ks.length = xs.length → (kvz ks xs).length = xs.length
 | [], [], _ => rfl
 | _ :: ks, _ :: xs, h => congrArg (· + 1) (kvz_len (ks := ks) (xs := xs) (by simpa using h))
theorem key_eq {a b : Str} : ((Sum.inr a : Key) = Sum.inr b) = (a = b) := by
 apply propext
 exact ⟨fun h => by injection h, fun h => by rw [h]⟩
theorem valV_kvz : ∀ (ks : List Str) (xs : List V) (k : Str), valV (kvz ks xs) (.inr k) = getL ks xs k
 | [], _, _ => rfl
 | _ :: _, [], _ => rfl
 | k' :: ks, x :: xs, k => by
  rw [kvz_cons]
  by_cases h : k' = k
  ·rw [valV_pos (p := (Sum.inr k', x)) (by rw [h])]
   show _ = if k' = k then some x else _
   rw [if_pos h]
  ·rw [valV_neg (p := (Sum.inr k', x)) (by rw [key_eq]; exact h), valV_kvz ks xs k]
   show _ = if k' = k then some x else _
   rw [if_neg h]
theorem Reps.getL {K : PySem.W.Frag} {F : Hp} : ∀ {ks : List Str} {xs : List V} {ds : List D} {k : Str} {d : D}, Reps K F xs ds → DL.getL ks ds k = some d → ∃ v, DL.getL ks xs k = some v ∧ Rep K F v d
 | [], _, _, _, _, _, h => by simp [DL.getL] at h
 | _ :: _, _, _, _, _, .nil, h => by simp [DL.getL] at h
 | k' :: ks, _, _, k, d, .cons q r, h => by
  have h' : (if k' = k then some _ else DL.getL ks _ k) = some d := h
  by_cases e : k' = k
  ·rw [if_pos e] at h'
   cases h'
   refine ⟨_, ?_, q⟩
   show (if k' = k then some _ else _) = _
   rw [if_pos e]
  ·rw [if_neg e] at h'
   obtain ⟨v, h1, h2⟩ := Reps.getL r h'
   refine ⟨v, ?_, h2⟩
   show (if k' = k then some _ else _) = _
   rw [if_neg e]
   exact h1
theorem putL_len {α : Type} : ∀ {ks : List Str} {xs : List α} {k : Str} {v : α}, ks.length = xs.length → (putL ks xs k v).length = xs.length
 | [], [], _, _, _ => rfl
 | _ :: ks, _ :: xs, _, _, h => congrArg (· + 1) (putL_len (ks := ks) (xs := xs) (by simpa using h))
theorem Reps.putL {K : PySem.W.Frag} {F : Hp} {v : V} {d : D} (q : Rep K F v d) : ∀ {ks : List Str} {xs : List V} {ds : List D} {k : Str}, Reps K F xs ds → Reps K F (DL.putL ks xs k v) (DL.putL ks ds k d)
 | [], _, _, _, _ => .nil
 | _ :: _, _, _, _, .nil => .nil
 | k' :: ks, _, _, k, .cons h r => by
  show Reps K F ((if k' = k then v else _) :: _) ((if k' = k then d else _) :: _)
  by_cases e : k' = k
  ·rw [if_pos e, if_pos e]; exact .cons q (Reps.putL q r)
  ·rw [if_neg e, if_neg e]; exact .cons h (Reps.putL q r)
theorem putK_kvz : ∀ (ks : List Str) (xs : List V) (k : Str) (v : V), ks.length = xs.length → putK (kvz ks xs) (.inr k) v = kvz (putKs ks k) (putXs ks xs k v) := fun ks xs k v hl => by
 have hany : ∀ (ks : List Str) (xs : List V), ks.length = xs.length → ((kvz ks xs).any fun kv => decide (kv.1 = (.inr k : Key))) = decide (k ∈ ks) := fun ks => by
  induction ks with
  | nil => intro xs h; cases xs with
   | nil => simp [kvz]
   | cons _ _ => simp at h
  | cons k' ks ih =>
   intro xs h
   cases xs with
   | nil => simp at h
   | cons x xs =>
    rw [kvz_cons, List.any_cons, ih xs (by simpa using h)]
    rw [Bool.eq_iff_iff]
    simp only [Bool.or_eq_true, decide_eq_true_eq, List.mem_cons, key_eq]
    exact or_congr eq_comm Iff.rfl
 have hmap : ∀ (ks : List Str) (xs : List V), (kvz ks xs).map (fun kv => if kv.1 = (.inr k : Key) then (kv.1, v) else kv) = kvz ks (DL.putL ks xs k v) := fun ks => by
  induction ks with
  | nil => intro xs; rfl
  | cons k' ks ih =>
   intro xs
   cases xs with
   | nil => rfl
   | cons x xs =>
    rw [kvz_cons, List.map_cons, ih xs]
    show _ = kvz (k' :: ks) ((if k' = k then v else x) :: DL.putL ks xs k v)
    rw [kvz_cons]
    by_cases e : k' = k
    ·rw [if_pos (by rw [e]), if_pos e]
    ·rw [if_neg (by rw [key_eq]; exact e), if_neg e]
 have happ : ∀ (ks : List Str) (xs : List V), ks.length = xs.length → kvz ks xs ++ [(.inr k, v)] = kvz (ks ++ [k]) (xs ++ [v]) := fun ks => by
  induction ks with
  | nil => intro xs h; cases xs with
   | nil => rfl
   | cons _ _ => simp at h
  | cons k' ks ih =>
   intro xs h
   cases xs with
   | nil => simp at h
   | cons x xs => rw [kvz_cons, List.cons_append, ih xs (by simpa using h)]; rfl
 unfold putK putKs putXs
 by_cases h : k ∈ ks
 ·rw [if_pos (by rw [hany ks xs hl]; exact decide_eq_true h), if_pos h, if_pos h]
  exact hmap ks xs
 ·rw [if_neg (by rw [hany ks xs hl, decide_eq_false h]; exact Bool.false_ne_true), if_neg h, if_neg h]
  exact happ ks xs hl
section
variable {X : Cx} {o i e : Expr} {wo wi we : WE} {pos pos' : Pos}
theorem str_of {K : PySem.W.Frag} {F : Hp} {v : V} {d : D} {p : Str → Prop} (r : Rep K F v d) (h : onStr d p) : ∃ z, v = .str z ∧ p z := by
 cases d with
 | str z => cases r; exact ⟨z, rfl, h⟩
 | _ => exact h.elim
end
end DL
namespace DL
open PySem PySem.Spec PyProof.Rows L2
section
open Builtin Builtin.ObjectAttr PySem.W PySem.Calls PySem.HandSPX
structure BmOk (bm : List Value) (B nI iI : String) (bB : List Value) : Prop where
 fac : ExcBaseFacts B nI iI bB
 con : ∀ Y : String, bm.contains (.type Y) = bB.contains (.type Y)
 pas : ∀ me : Value, refuseLoop me "__setattr__" bm = pure ()
 nem : bm.isEmpty = false
 obj : bm.contains (.type "object") = true
theorem BmOk.ref {bm bB : List Value} {B nI iI : String} {c : Addr} (G : BmOk bm B nI iI bB) : BmOk (.ref c :: bm) B nI iI bB :=
 ⟨G.fac, fun Y => by rw [List.contains_cons, G.con Y]; rfl, fun me => by rw [refuseLoop_ref]; exact G.pas me, rfl, by rw [List.contains_cons, G.obj, Bool.or_true]⟩
theorem bmOk_VE : BmOk veTail "ValueError" "ValueError.__new__" "ValueError.__init__" veTail := ⟨F.excBase_ValueError, fun _ => rfl, F.store_ValueError.passes, rfl, by decide +kernel⟩
theorem bmOk_LE : BmOk leTail "LookupError" "LookupError.__new__" "LookupError.__init__" leTail := ⟨F.excBase_LookupError, fun _ => rfl, fun me => by kernel_rfl, rfl, by decide +kernel⟩
theorem bmOk_IE : BmOk ieTail "IndexError" "IndexError.__new__" "IndexError.__init__" ieTail := ⟨F.excBase_IndexError, fun _ => rfl, fun me => by kernel_rfl, rfl, by decide +kernel⟩
variable {prog : Program} {w : World} {A : Around} {E : Value → Shared → Prop} {R : Result → Shared → Prop} {hp : Heap} {g : Array GenState} {d : Drawn} {t : Nat} {os : OsState} {K : W.Frag} {nm : Str} {tk : Tok} {v : Value} {x C : Addr} {fv : Array Value} {cd : ClassData} {bm bB : List Value} {B nI iI : String}
theorem os_new (X : K.In hp) (hx : hp.get? x = some { cls := .ref C, data := .fields fv }) (hcd : W.clsIn K C = some cd) (G : BmOk cd.mro B nI iI bB) (hh : cd.hasDict = true) (ha : W.findIn K (.ref C) nm = some none)
  (hq : ∀ h2 t2 dx, (∀ b o, b ≠ x → hp.get? b = some o → h2.get? b = some o) → hp.objs.size ≤ dx → dx ≠ x → h2.get? x = some { cls := .ref C, dict := some dx, data := .fields fv } →
   h2.Ns1 dx (fun y => if y = nm then some v else none) → R (.ok (.ret .none)) ⟨h2, g, d, t2, os⟩) : codeAny (model prog w) A (.call (.builtin "object.__setattr__") ⟨[.ref x, .str nm tk, v], []⟩) R ⟨hp, g, d, t, os⟩ := by
 have I : W.InstAt hp x { cls := .ref C, data := .fields fv } C none := ⟨hx, rfl, rfl, trivial⟩
 have SF := F.store_object; have xs : x ≠ hp.objs.size := Nat.ne_of_lt (Heap.lt_size hx)
 have sub : W.Looks (model prog w) hp (isInstance (.ref x) (.type "object")) true := I.type.andThen (W.looks_mroIn X (by unfold W.mroIn; rw [hcd, Option.bind_some, if_neg (by rw [G.nem]; decide), G.obj]))
 refine codeAny_call_builtin SF.slot.plain SF.entry (@W.check_slot (model prog w) _ _ ⟨hp, g, d, t, os⟩ "object.__setattr__" "object" "__setattr__" (.ref x) [.str nm tk, v] [] _ SF.kind SF.split sub (SF.args (.ref x) (.str nm tk) v) ?_)
 have mr : W.Looks (model prog w) hp (mroOf (.ref C)) cd.mro := (W.looks_clsIn X hcd).andThen .now
 have st3 : W.Looks (model prog w) hp (storeTaker? none) none := .now
 have clz : W.Looks (model prog w) hp (classData C) cd := W.looks_clsIn X hcd
 rw [W.osa_eq, refuse_eq]; refine wpAny_bind (wpAny_bind (I.type.at (wpAny_bind (mr.at ?_))))
 rw [G.pas]; refine wpAny_pure (wpAny_bind (I.type.at (wpAny_bind ((W.looks_findIn X ha).at (wpAny_bind (st3.at ?_))))))
 show wpAny _ _ (storeInOwnDict (.ref x) (.ref C) (.str nm tk) nm v false) _ _ _
 obtain ⟨nq, bs, mro, ns, qn, hd, sn, sb, ab, col, del⟩ := cd
 dsimp only at hh; subst hh; unfold storeInOwnDict ownDictForStores
 repeat (first | with_reducible refine store_in_new ?_ ?_ | with_reducible refine wpAny_loadPart_at hx ?_ | with_reducible refine clz.at ?_ | wp_step)
 ·exact ⟨_, #[], _, (Heap.get?_update_ne _ _ _ _ xs.symm).trans (Heap.get?_push_at rfl rfl), rfl, fun e he => absurd he (by simp), fun _ => rfl⟩
 ·intro h2 t2 hn hs
  have hx1 : (hp.push { cls := .type "dict", data := .dict #[] }).get? x = some { cls := .ref C, data := .fields fv } := Heap.get?_push_of_some _ hx
  exact hq h2 t2 hp.objs.size (fun b o hb ho => (hs.2 b (Nat.ne_of_lt (Heap.lt_size ho))).trans ((Heap.get?_update_ne _ _ _ _ hb).trans (Heap.get?_push_of_some _ ho))) (Nat.le_refl _) xs.symm ((hs.2 x xs).trans (Heap.get?_update_self _ hx1 rfl)) hn
theorem os_old {dx : Addr} {m0 : Str → Option Value} {nl : List Str} (X : K.In hp) (hx : hp.get? x = some { cls := .ref C, dict := some dx, data := .fields fv }) (hns : hp.Ns1 dx m0) (hw : Within m0 nl) (hz : nl.length ≤ 1000) (hcd : W.clsIn K C = some cd) (G : BmOk cd.mro B nI iI bB) (hh : cd.hasDict = true)
  (ha : W.findIn K (.ref C) nm = some none) (hq : ∀ h2 t2, (∀ b o, b ≠ dx → hp.get? b = some o → h2.get? b = some o) → h2.Ns1 dx (fun y => if y = nm then some v else m0 y) → R (.ok (.ret .none)) ⟨h2, g, d, t2, os⟩) :
  codeAny (model prog w) A (.call (.builtin "object.__setattr__") ⟨[.ref x, .str nm tk, v], []⟩) R ⟨hp, g, d, t, os⟩ := by
 obtain ⟨oD, esD, epD, hoD, hdD, _⟩ := hns.count hw
 have I : W.InstAt hp x { cls := .ref C, dict := some dx, data := .fields fv } C (some oD) := ⟨hx, rfl, rfl, hoD⟩
 have SF := F.store_object
 have sub : W.Looks (model prog w) hp (isInstance (.ref x) (.type "object")) true := I.type.andThen (W.looks_mroIn X (by unfold W.mroIn; rw [hcd, Option.bind_some, if_neg (by rw [G.nem]; decide), G.obj]))
 refine codeAny_call_builtin SF.slot.plain SF.entry (@W.check_slot (model prog w) _ _ ⟨hp, g, d, t, os⟩ "object.__setattr__" "object" "__setattr__" (.ref x) [.str nm tk, v] [] _ SF.kind SF.split sub (SF.args (.ref x) (.str nm tk) v) ?_)
 have mr : W.Looks (model prog w) hp (mroOf (.ref C)) cd.mro := (W.looks_clsIn X hcd).andThen .now
 have st3 : W.Looks (model prog w) hp (storeTaker? none) none := .now
 have clz : W.Looks (model prog w) hp (classData C) cd := W.looks_clsIn X hcd
 rw [W.osa_eq, refuse_eq]; refine wpAny_bind (wpAny_bind (I.type.at (wpAny_bind (mr.at ?_))))
 rw [G.pas]; refine wpAny_pure (wpAny_bind (I.type.at (wpAny_bind ((W.looks_findIn X ha).at (wpAny_bind (st3.at ?_))))))
 show wpAny _ _ (storeInOwnDict (.ref x) (.ref C) (.str nm tk) nm v false) _ _ _
 obtain ⟨nq, bs, mro, ns, qn, hd, sn, sb, ab, col, del⟩ := cd
 dsimp only at hh; subst hh; unfold storeInOwnDict ownDictForStores
 repeat (first | with_reducible refine PySem.OEX.store_in_old hns hw hz ?_ | with_reducible refine wpAny_loadPart_at hx ?_ | with_reducible refine clz.at ?_ | wp_step)
 exact fun h2 t2 hn hs => hq h2 t2 (fun b o hb ho => (hs.2 b hb).trans ho) hn
end
structure OexG (K : PySem.W.Frag) (C : Addr) : Prop where
 cls : ∃ nm q N bs bm sn sub ab col dd k0 k1 k2 k3 k5 B nI iI bB, K.lookup C = some (excClassObj nm q C N bs bm true sn sub ab col dd k0 k1 k2 k3 k5 nI) ∧ BmOk bm B nI iI bB
 sa : PySem.W.findIn K (.ref C) "__setattr__" = some (some (.builtin "object.__setattr__"))
 exC : PySem.W.subIn K (.ref C) (.type "BaseException") = some true
 tyC : PySem.W.typeIn K (.ref C) = some (.type "type")
 kC : PySem.W.keepIn K (.ref C) = true
section
variable {X : Cx} {pins : List (Addr × Obj)} {σ : L2.St} {H : Hp} {s : Shared} {a C dx : Addr} {f : Str} {y : V} {u : Value} {fs : List (Str × V)} {Q : Unit → Shared → Prop} {E : Value → Shared → Prop} {A : Around}
theorem og_new (T : OexG X.K C) (I : Inv X pins σ H s) (e : H a = some (exo a C none)) (hno : PySem.W.findIn X.K (.ref C) f = some none) (ry : RelV y u)
  (h : ∀ dx s2, H dx = none → dx ≠ a → Inv X pins σ (upd (upd H dx (exd dx [(f, y)])) a (exo a C (some dx))) s2 → Q () s2) : wpAny (model X.prog X.w) A (setAttr (.ref a) f u) Q E s := by
 obtain ⟨nm, q, N, bs, bm, sn, sub, ab, col, dd, k0, k1, k2, k3, k5, B, nI, iI, bB, hC, hbm⟩ := T.cls
 have hcl : PySem.W.clsIn X.K C = some { name := nm, bases := bs, mro := .ref C :: bm, ns := N, qualname := q, hasDict := true, slotNames := sn, subclasses := sub, abstract := ab, collection := col, hasDel := false } := by
  unfold PySem.W.clsIn; rw [hC]
 obtain ⟨t1, ho⟩ := exo_at I.hok e
 obtain ⟨hp, g, d, t, os⟩ := s
 refine PySem.W.set_plain I.kIn (ox := { cls := .ref C, dict := none, data := .fields #[.ref t1, .none, .none, .none, .bool false, .none] }) (od := none) ⟨ho, rfl, rfl, trivial⟩ T.sa (os_new I.kIn ho hcl (show BmOk (.ref C :: bm) B nI iI bB from hbm.ref) rfl hno (fun h2 t2 dx k dn dne hx hn => ?_))
 have nh : H dx = none := I.hok.fresh dn
 have nd : ∀ {b : Addr} {o : Obj}, hp.get? b = some o → b ≠ dx := fun z => Nat.ne_of_lt (Nat.lt_of_lt_of_le (Heap.lt_size z) dn)
 have na : ∀ {b : Addr}, H b = none → b ≠ a := fun n z => by rw [z, e] at n; cases n
 have U1 : Un X.fs [] H (upd (upd H dx (exd dx [(f, y)])) a (exo a C (some dx))) hp h2 := {
  keep := fun b o z n _ _ => k b o (na n) z
  slot := fun b o z n _ _ => ⟨o.slots, k b o (na n) z⟩
  free := fun b o z n _ => by rw [upd_ne (na n), upd_ne (nd z), n]
  there := fun b o z _ => (Classical.em (b = a)).elim (fun w => ⟨_, w ▸ hx⟩) fun w => ⟨o, k b o w z⟩
  tups := fun b xs z => by rw [upd_ne (at_ne e z exo_tup), upd_ne (ne_of_none z nh), z]
  frzs := fun b o v z => by rw [upd_ne (at_ne e z exo_frz), upd_ne (ne_of_none z nh), z]
  tbls := fun b ps z => ⟨#[], by rw [upd_ne (at_ne e z exo_tbl), upd_ne (ne_of_none z nh), z]; simp⟩ }
 refine h dx _ nh dne (I.un (t' := t2) U1 fun b o z => ?_)
 by_cases hb : b = a
 ·subst hb; rw [upd_same] at z; cases z; exact exo_ok hx
 rw [upd_ne hb] at z
 by_cases hd : b = dx
 ·subst hd; rw [upd_same] at z; cases z; exact exd_ok hn (relO_put (fs := []) ry fun g => True.intro)
 rw [upd_ne hd] at z
 refine (I.hok b o z).stay (fun c v hc zz => k c v ?_ zz) (fun c hc => ?_) (fun c xs hc => ?_)
 ·rcases hc with hc | hc
  ·rw [hc]; exact hb
  ·exact at_ne e hc exo_own
 ·rw [upd_ne (at_ne e hc exo_own), upd_ne (ne_of_none hc nh)]; exact hc
 ·rw [upd_ne (at_ne e hc exo_tup), upd_ne (ne_of_none hc nh)]; exact hc
theorem og_old (T : OexG X.K C) (I : Inv X pins σ H s) (e : H a = some (exo a C (some dx))) (ed : H dx = some (exd dx fs)) (hl : fs.length ≤ 900) (hno : PySem.W.findIn X.K (.ref C) f = some none) (ry : RelV y u)
  (h : ∀ s2, Inv X pins σ (upd H dx (exd dx ((f, y) :: fs))) s2 → Q () s2) : wpAny (model X.prog X.w) A (setAttr (.ref a) f u) Q E s := by
 obtain ⟨nm, q, N, bs, bm, sn, sub, ab, col, dd, k0, k1, k2, k3, k5, B, nI, iI, bB, hC, hbm⟩ := T.cls
 have hcl : PySem.W.clsIn X.K C = some { name := nm, bases := bs, mro := .ref C :: bm, ns := N, qualname := q, hasDict := true, slotNames := sn, subclasses := sub, abstract := ab, collection := col, hasDel := false } := by
  unfold PySem.W.clsIn; rw [hC]
 obtain ⟨t1, ho⟩ := exo_at I.hok e
 obtain ⟨mA, hns, rel⟩ := exd_at I.hok ed
 have hw := within_of rel
 obtain ⟨hp, g, d, t, os⟩ := s
 obtain ⟨oD, _, _, hoD, _, _⟩ := hns.count hw
 refine PySem.W.set_plain I.kIn (ox := { cls := .ref C, dict := some dx, data := .fields #[.ref t1, .none, .none, .none, .bool false, .none] }) (od := some oD) ⟨ho, rfl, rfl, hoD⟩ T.sa (os_old I.kIn ho hns hw (by rw [List.length_map]; omega) hcl (show BmOk (.ref C :: bm) B nI iI bB from hbm.ref) rfl hno (fun h2 t2 k hn => ?_))
 have hd : ∃ o, h2.get? dx = some o := let ⟨o, _, _, z, _⟩ := hn; ⟨o, z⟩
 exact h _ (I.write (t' := t2) (x := dx) (e := dx) (o := exd dx ((f, y) :: fs)) (by rw [ed]; exact True.intro) (.inl rfl) k hd (exd_ok hn (relO_put ry rel)))
end
def tOg (K : PySem.W.Frag) (f : Str) (to te : TE) : TS := fun D σ H => te σ H fun y H1 => to σ H1 fun x H2 => ∃ a C : Addr, x = .ref a ∧ OexG K C ∧ PySem.W.findIn K (.ref C) f = some none ∧
 ((H2 a = some (exo a C none) ∧ ∀ dx, H2 dx = none → dx ≠ a → D.nx σ (upd (upd H2 dx (exd dx [(f, y)])) a (exo a C (some dx)))) ∨
  ∃ (dx : Addr) (fs : List (Str × V)), H2 a = some (exo a C (some dx)) ∧ H2 dx = some (exd dx fs) ∧ fs.length ≤ 900 ∧ D.nx σ (upd H2 dx (exd dx ((f, y) :: fs))))
section
variable {X : Cx} {o e : Expr} {es : List Expr} {to te : TE} {ta : TA} {f : Str} {p p' p1 p2 pos : Pos}
theorem ps_og (ho : PE X o to) (he : PE X e te) (hs : swapsWith e (some (.Attribute o f p')) pos.line X.env = pure false := by rfl) : PS X (.Assign [.Attribute o f p'] e pos) (tOg X.K f to te) :=
 ⟨fun pins s σ H D I h => plainObj_wpAny_Assign_Attribute (thn (he.run pins s σ H _ I h) fun v s1 ⟨y, H1, I1, r1, q1⟩ => thn (ho.run pins s1 σ H1 _ I1 q1) fun u s2 ⟨x, H2, I2, r2, a, C, ex, T, hno, q⟩ => by
  subst ex
  obtain rfl : u = Value.ref a := r2
  rcases q with ⟨ea, q⟩ | ⟨dx, fs, ea, ed, hl, q⟩
  ·exact og_new T I2 ea hno r1 fun dx s2 n ne J => ⟨σ, _, J, q dx n ne⟩
  ·exact og_old T I2 ea ed hl hno r1 fun s2 J => ⟨σ, _, J, q⟩) hs⟩
theorem pmk_og {CX : CXT} {x : Str} {C fI : Addr} {k : Nat} {fd : FuncData} {ps : List Str} {sp : Sp} {ds : List Value} {dvs : List V} (T : OexG X.K C) (iC : PySem.W.findIn X.K (.ref C) "__init__" = some (some (.ref fI))) (tI : PySem.W.typeIn X.K (.ref fI) = some (.type "function"))
  (F1 : FnOk X.prog X.w X.K X.mg X.base CX k fI fd ps sp) (hr : Room (k + 1) X.A) (hb : Binds X.K fd ps ds) (hd : Vals dvs ds) (hx : Passes CX X (fun _ _ _ => False)) (hg : Gl X x) (hm : X.mg x = some (.ref C)) (ha : PA X (e :: es) ta)
  (hdb : (x == ("__debug__" : Str)) = false := by decide) (hs : starEach (e :: es) X.env = (false, eval e X.env) :: starEach es X.env := by rfl) (hpl : (backTo pos (starEach es X.env)).any (·.1) = false := by rfl) :
  L2N.PMk X (.Call (.Name x p) (e :: es) [] pos) (tMkO C sp dvs ta) := fun pins s σ H Q I h => by
 obtain ⟨nm, q, N, bs, bm, sn, sub, ab, col, dd, k0, k1, k2, k3, k5, B, nI, iI, bB, hC, hbm⟩ := T.cls
 refine wpAny_Call_Name_kw (ld_glob I hg hm ?_ hdb)
 refine PySem.W.callWith_K (h₀ := X.base) I.ok.mod.kin T.kC (thn (ha.run pos pins s σ H _ I h) fun us s1 ⟨vs, H1, I1, r1, hz, q1⟩ => ⟨I1.kIn, ?_⟩) hs hpl
 show wpAny _ _ (call (.ref C) us) _ _ _
 obtain ⟨hp, g, dr, tk, os⟩ := s1
 have hsz : hp.objs.size ≤ hp.objs.size + 1 := Nat.le_succ _
 have hn : H1 (hp.objs.size + 1) = none := I1.hok.fresh hsz
 have hq := q1 (hp.objs.size + 1) hn
 generalize hg1 : (hp.push (PySem.W.kdv_tup us)).push (PySem.HandSPX.excO C hp.objs.size) = hpN
 have kk : ∀ b o, hp.get? b = some o → hpN.get? b = some o := fun b o z => by rw [← hg1]; exact Heap.get?_push_of_some _ (Heap.get?_push_of_some _ z)
 have hget : hpN.get? (hp.objs.size + 1) = some (PySem.HandSPX.excO C hp.objs.size) := by rw [← hg1]; heap_get
 have I2 : Inv X pins σ (upd H1 (hp.objs.size + 1) (exo (hp.objs.size + 1) C none)) ⟨hpN, g, dr, tk, os⟩ := I1.laid (t' := tk) (a := hp.objs.size + 1) (o := exo (hp.objs.size + 1) C none) (h' := hpN) kk hsz (exo_ok hget)
 have r2 : Vals (V.ref (hp.objs.size + 1) :: (vs ++ dvs)) (Value.ref (hp.objs.size + 1) :: (us ++ ds)) := .cons rfl (r1.append hd)
 have hl : (Value.ref (hp.objs.size + 1) :: us ++ ds).length = ps.length := ((F1.len _ _ _ _ hq).symm.trans r2.length).symm
 have hus : us.length ≤ sizeLine := by rw [← Paired.length r1, sizeLine_eq]; omega
 refine wpAny_call (PySem.HandSPX.call_own hbm.fac hbm.con (I1.kIn _ _ hC) (PySem.W.looks_findIn I1.kIn iC) (fun self => PySem.W.bind_fn I1.kIn self tI) hus ?_)
 rw [hg1]
 refine codeAny_mono (F1.run _ X.stack _ _ ⟨Value.ref (hp.objs.size + 1) :: us, []⟩ (Value.ref (hp.objs.size + 1) :: (us ++ ds)) _ _ (fun _ _ _ => False) (hr.make C us []) (I2.env0.make C us []) (hb _ (Value.ref (hp.objs.size + 1) :: us) I2.kIn hl) r2 hq) fun r s2 hq2 => ?_
 rcases r with er | (_ | _ | _ | u)
 ·exact hx pins σ _ _ er s2 I2 hq2
 iterate 3 exact False.elim hq2
 obtain ⟨v, H2, os2, bare2, un2, hok2, rv, ev, d, fs, ea, ed, hd1, q2⟩ := hq2
 subst ev
 obtain ⟨h2, g2, d2, t2, os3⟩ := s2
 obtain ⟨_, G, J, kG, ge, ho, na⟩ := mk_end0 (d2 := d2) (t2 := t2) I1 hsz kk un2 hok2 os2 bare2 ea ed hd1
 refine ⟨rv, hp.objs.size + 1, _, _, ⟨G, g2, d2, t2, os3⟩, _, .ref C, some d, rfl, J, kG, ge, ho, ⟨rfl, rfl, fun vs hv => ?_⟩, rfl, rfl, na, rfl, bare2, raises_own T.exC T.tyC, q2⟩
 cases hv
 rfl
end
def finX (C a dx : Addr) (f : Str) (v : V) (tg : Str) (H : Hp) : Hp := upd (upd (upd H dx (exd dx [(f, v)])) a (exo a C (some dx))) dx (exd dx [("tag", .str tg), (f, v)])
def spX (C : Addr) (f tg : Str) : Sp := fun vs H Q _ => ∃ a v, vs = [.ref a, v] ∧ H a = some (exo a C none) ∧ ∀ dx, H dx = none → dx ≠ a → Q .non (finX C a dx f v tg H)
structure ExD (P : Program) (w : World) (K : PySem.W.Frag) (mg : Str → Option Value) (base : Heap) (nm f tg : Str) (k : Nat) : Prop where
 cls : OexG K (He.ga K nm)
 ini : ∃ (fI : Addr) (fd : FuncData) (ps : List Str), PySem.W.findIn K (.ref (He.ga K nm)) "__init__" = some (some (.ref fI)) ∧ PySem.W.typeIn K (.ref fI) = some (.type "function") ∧ FnOk P w K mg base (L2N.CX P w) k fI fd ps (spX (He.ga K nm) f tg) ∧ Binds K fd ps []
 glo : mg nm = some (.ref (He.ga K nm))
theorem fn_X {P : Program} {w : World} {K : PySem.W.Frag} {mg : Str → Option Value} {base : Heap} {qual : Str} {st : Stmt} {fI C : Addr} {fd : FuncData} {p f tg : Str} {p1 p2 p3 p4 p5 p6 p7 p8 : Pos} {j : Nat} (G : Fun K "__init__" qual st fI fd) (S : FnScope ["self", p] ["self", p] (defScope st))
  (hb : defBody st = [.Assign [.Attribute (.Name "self" p1) f p2] (.Name p p3) p4, .Assign [.Attribute (.Name "self" p5) "tag" p6] (.Constant (.str tg) j p7) p8])
  (hps : Vis (defScope st) "self" ∧ Vis (defScope st) p) (hd : (p == ("__debug__" : Str)) = false) (hcd : (p == ("__classdict__" : Str)) = false)
  (T : OexG K C) (h1 : PySem.W.findIn K (.ref C) f = some none) (h2 : PySem.W.findIn K (.ref C) "tag" = some none) : FnOk P w K mg base (L2N.CX P w) 1 fI fd ["self", p] (spX C f tg) := by
 refine fun_okN G S (fun vs H Q E h => ?_) (fun cdv A outer s H vs Q E hr h => ?_)
 ·obtain ⟨a, v, rfl, _⟩ := h
  rfl
 ·rw [hb]
  have self : ∀ (q : Pos), PE (cxOf (L2N.CX P w) P w K mg base ["self", p] qual (defScope st) fI cdv A outer s H E) (.Name "self" q) (tVar 0) := fun q => pe_var (i := 0) rfl hps.1 (by decide) (by decide)
  have arg : PE (cxOf (L2N.CX P w) P w K mg base ["self", p] qual (defScope st) fI cdv A outer s H E) (.Name p p3) (tVar 1) := pe_var (i := 1) rfl hps.2 hd hcd
  refine ⟨_, pss_cons (ps_og (self _) arg (by rfl)) (pss_one (ps_og (self _) pe_str (by rfl))), ?_⟩
  obtain ⟨a, v, rfl, ea, q⟩ := h
  refine ⟨v, rfl, .ref a, rfl, a, C, rfl, T, h1, .inl ⟨ea, fun dx n ne => ?_⟩⟩
  refine ⟨.ref a, rfl, a, C, rfl, T, h2, .inr ⟨dx, [(f, v)], upd_same, ?_, by show 1 ≤ 900; decide, q dx n ne⟩⟩
  rw [upd_ne ne, upd_same]
def wRaise (nm f tg : Str) (we : WE) : WS := fun ρ M E => we ρ M (fun d M1 => E.xc nm [("tag", .str tg), (f, d)] M1) E.xc
section
variable {X : Cx} {e : Expr} {we : WE} {nm f tg : Str} {k : Nat} {p pos pos2 : Pos}
theorem ds_raise {Tq : TkC} (hc : X.calm = true) (G : ExD X.prog X.w X.K X.mg X.base nm f tg k) (hr : Room (k + 1) X.A) (he : DE Tq X e we) (hg : Gl X nm := by rfl) (hdb : (nm == ("__debug__" : Str)) = false := by decide)
  (hs : starEach (e :: []) X.env = (false, eval e X.env) :: starEach [] X.env := by rfl) (hpl : (backTo pos (starEach [] X.env)).any (·.1) = false := by rfl) : DS Tq X (.Raise (some (.Call (.Name nm p) [e] [] pos)) none pos2) (wRaise nm f tg we) := by
 obtain ⟨fI, fd, ps, iC, tI, F1, hb⟩ := G.ini
 refine ⟨fun W tk _ => ps_imp (L2N.ps_raise hc (Tq.n tk) (pmk_og G.cls iC tI F1 hr hb .nil passLN hg G.glo (pa_cons (he.pe W tk) pa_nil hs) hdb hs hpl)) fun D σ H q => ?_⟩
 obtain ⟨F, M, ρ, E, S, R, w, g⟩ := q
 refine ⟨F, M, ρ, _, _, S, R, w, fun v d H1 F1' M1 e1 S1 r1 w1 => ?_, g.xc σ⟩
 refine ⟨by show 1 ≤ 1000; decide, fun a ha => ?_⟩
 refine ⟨a, v, rfl, upd_same, fun dx hn ne => ⟨rfl, dx, [("tag", .str tg), (f, v)], ?_, upd_same, ?_, ?_⟩⟩
 ·show upd _ dx _ a = _
  rw [upd_ne (Ne.symm ne), upd_same]
 ·rw [upd_ne ne] at hn
  exact hn
 have hdx : H1 dx = none := by rw [upd_ne ne] at hn; exact hn
 -- the heap at the end: the object is let go, its dict stands
 have eH : ∀ b, b ≠ a → b ≠ dx → upd (L2.del (finX (He.ga X.K nm) a dx f v tg (upd H1 a (exo a (He.ga X.K nm) none))) a) dx (.xd [("tag", .str tg), (f, v)]) b = H1 b := fun b q1 q2 => by
  rw [upd_ne q2, L2.del_ne q1]
  unfold finX
  rw [upd_ne q2, upd_ne q1, upd_ne q2, upd_ne q1]
 have S2 : RepS X.K (upd (L2.del (finX (He.ga X.K nm) a dx f v tg (upd H1 a (exo a (He.ga X.K nm) none))) a) dx (.xd [("tag", .str tg), (f, v)])) F1' M1 := by
  refine ⟨fun b o q => ?_, fun b m q => ?_⟩
  ·have q1 : b ≠ a := fun z => by rw [z, S1.fno ha] at q; cases q
   have q2 : b ≠ dx := fun z => by rw [z, S1.fno hdx] at q; cases q
   rw [eH b q1 q2]
   exact S1.fz b o q
  ·have q1 : b ≠ a := fun z => by rw [z, S1.mno ha] at q; cases q
   have q2 : b ≠ dx := fun z => by rw [z, S1.mno hdx] at q; cases q
   obtain ⟨g1, o, g2, g3⟩ := S1.mu b m q
   exact ⟨g1, o, by rw [eH b q1 q2]; exact g2, g3⟩
 have e2 : Ext H1 F1' M1 (upd (L2.del (finX (He.ga X.K nm) a dx f v tg (upd H1 a (exo a (He.ga X.K nm) none))) a) dx (.xd [("tag", .str tg), (f, v)])) F1' M1 := ⟨Same.refl _, fun b o q1 qt q2 q3 => by
  have n1 : b ≠ a := fun z => by rw [z, ha] at q1; cases q1
  have n2 : b ≠ dx := fun z => by rw [z, hdx] at q1; cases q1
  exact ⟨by rw [eH b n1 n2]; exact q1, q2, q3⟩⟩
 exact (g.xc σ) nm dx _ _ _ _ _ (e1.trans e2) S2 upd_same (.cons (.str _) (.cons r1 .nil)) w1
end
end DL
namespace DL
open PySem PySem.Spec PyProof.Rows L2
section
open PySem.W
variable {M : Model} {A : Around} {E : Value → Shared → Prop} {s : Shared}
theorem forU {l : List Value} {f : Value → PUnit → Sem (ForInStep PUnit)} (hf : ∀ c ∈ l, ∀ Q, Q (.yield PUnit.unit) s → wpAny M A (f c PUnit.unit) Q E s) {Q : PUnit → Shared → Prop} (q : Q PUnit.unit s) : wpAny M A (forIn l PUnit.unit f) Q E s := by
 induction l with
 | nil => exact wpAny_pure q
 | cons c l ih =>
  rw [List.forIn_cons]
  exact wpAny_bind (hf c List.mem_cons_self _ (ih (fun c' m => hf c' (List.mem_cons_of_mem _ m))))
theorem forFind {l : List Value} {ans : Value → Bool} {f : Value → Option Bool × PUnit → Sem (ForInStep (Option Bool × PUnit))} (hf : ∀ c ∈ l, ∀ Q, Q (if ans c = true then .done (some true, PUnit.unit) else .yield (none, PUnit.unit)) s → wpAny M A (f c (none, PUnit.unit)) Q E s)
  {Q : Option Bool × PUnit → Shared → Prop} (q : Q (if l.any ans = true then some true else none, PUnit.unit) s) : wpAny M A (forIn l (none, PUnit.unit) f) Q E s := by
 induction l with
 | nil => exact wpAny_pure q
 | cons c l ih =>
  rw [List.forIn_cons]
  refine wpAny_bind (hf c List.mem_cons_self _ ?_)
  cases h : ans c with
  | true => exact wpAny_pure (by rw [List.any_cons, h, Bool.true_or] at q; exact q)
  | false => exact ih (fun c' m => hf c' (List.mem_cons_of_mem _ m)) (by rw [List.any_cons, h, Bool.false_or] at q; exact q)
def ansOf (K : Frag) (cls : Value) (c : Value) : Bool := (exmOne K cls c).getD false
theorem any_ans {K : Frag} {cls : Value} : ∀ {cs : List Value} {b : Bool}, exmAny K cls cs = some b → cs.any (ansOf K cls) = b ∧ ∀ c ∈ cs, exmOne K cls c = some (ansOf K cls c)
 | [], _, h => by cases h; exact ⟨rfl, fun _ m => nomatch m⟩
 | c :: cs, _, h => by
  obtain ⟨b1, d1, h1, h2, rfl⟩ := exmAny_cons h
  obtain ⟨q1, q2⟩ := any_ans h2
  have e1 : ansOf K cls c = b1 := by unfold ansOf; rw [h1]; rfl
  refine ⟨by rw [List.any_cons, e1, q1], fun x m => ?_⟩
  rcases List.mem_cons.mp m with rfl | m
  ·rw [e1, h1]
  ·exact q2 x m
theorem exm_any {K : Frag} {cs : List Value} {cls : Value} {tp e : Addr} {b : Bool} {h : Heap} (X : K.In h) (LT : Looks M h (typeOf (.ref e)) cls) (hp : h.get? tp = some { cls := .type "tuple", data := .seq cs.toArray }) (hx : exmAny K cls cs = some b) :
  Looks M h (excMatches (.ref e) (.ref tp)) b := by
 obtain ⟨ha, hone⟩ := any_ans hx
 intro A Q E s k q
 have LT0 : Looks M h (isInstance (.ref tp) (.type "tuple")) true := ((Looks.ld hp).andThen .now).andThen (Looks.of_pure isSubtype_tuple_tuple)
 unfold excMatches
 refine wpAny_bind ((LT0.keeps k).here ?_)
 dsimp only
 rw [if_pos rfl]
 first
  | refine wpAny_bind (wpAny_seqItems (k _ _ hp) rfl ?_)
  | refine wpAny_bind (wpAny_bind (wpAny_seqItems (k _ _ hp) rfl (wpAny_pure ?_)))
 dsimp only [Option.getD_some, Option.getD]
 first
  | refine wpAny_bind (wpAny_pure ?_)
  | skip
 refine wpAny_bind (forU (fun c m Q2 q2 => ?_) ?_)
 ·obtain ⟨e1, _⟩ := exm_cls (M := M) X (hone c m)
  refine wpAny_bind ((e1.keeps k).here ?_)
  rw [if_neg (by decide)]
  exact wpAny_pure q2
 refine wpAny_bind ((LT.keeps k).here ?_)
 refine wpAny_bind (forFind (ans := ansOf K cls) (fun c m Q2 q2 => ?_) ?_)
 ·obtain ⟨_, e2⟩ := exm_cls (M := M) X (hone c m)
  refine wpAny_bind ((e2.keeps k).here ?_)
  cases h : ansOf K cls c with
  | true => rw [if_pos rfl]; exact wpAny_pure (by rw [h, if_pos rfl] at q2; exact q2)
  | false => rw [if_neg Bool.false_ne_true]; exact wpAny_pure (by rw [h, if_neg Bool.false_ne_true] at q2; exact q2)
 rw [ha]
 cases b with
 | true => exact wpAny_pure q
 | false => exact wpAny_pure q
end
def TestOk (X : Cx) (t : Expr) (f : Value → Option Bool) : Prop :=
 ∀ (a : Addr) (oe : Obj) (pn : List (Addr × Obj)) (σ : L2.St) (H : Hp) (s : Shared) (cls : Value) (b : Bool), Inv (X.suite a ((a, oe) :: pn)) [] σ H s → s.heap.get? a = some oe → oe.cls = cls → f cls = some b →
  ∀ (Q : Bool → Shared → Prop) (E : Value → Shared → Prop), (∀ h', (∀ q o, s.heap.get? q = some o → h'.get? q = some o) → Q b { s with heap := h' }) →
   wpAny (model X.prog X.w) (X.A.mark (some (.ref a))) (eval t X.env) (fun c s1 => wpAny (model X.prog X.w) (X.A.mark (some (.ref a))) (excMatches (.ref a) c) Q E s1) E s
section
variable {X : Cx}
theorem ld_names {x : Str} {c : Value} {np : Pos} (hc : Names X x c) {a : Addr} {oe : Obj} {pn : List (Addr × Obj)} {σ : L2.St} {H : Hp} {s : Shared} (S : Inv (X.suite a ((a, oe) :: pn)) [] σ H s) {Q : Value → Shared → Prop} {E : Value → Shared → Prop} (q : Q c s) :
  wpAny (model X.prog X.w) (X.A.mark (some (.ref a))) (eval (.Name x np) X.env) Q E s := by
 obtain ⟨hg, hdbg, hm | ⟨hm, hv, hnn⟩⟩ := hc
 ·exact ld_glob (X := X.suite a ((a, oe) :: pn)) S hg hm q hdbg
 ·exact ld_blt (X := X.suite a ((a, oe) :: pn)) S hg hm hv q hnn hdbg
theorem looks_cls {prog : Program} {w : World} {h : Heap} {a : Addr} {oe : Obj} {cls : Value} (he : h.get? a = some oe) (hc : oe.cls = cls) : PySem.W.Looks (model prog w) h (typeOf (.ref a)) cls :=
 fun A Q E s k q => wpAny_typeOf_ref (k _ _ he) (by rw [hc]; exact q)
theorem test_one {x : Str} {c : Value} {np : Pos} (hc : Names X x c) : TestOk X (.Name x np) (fun cls => PySem.W.exmOne X.K cls c) := by
 intro a oe pn σ H s cls b S he hcl hb Q E q
 exact ld_names hc S ((PySem.W.exm_one (M := model X.prog X.w) S.kIn (looks_cls he hcl) hb).here (q s.heap fun _ _ z => z))
inductive NamesAll (X : Cx) : List Expr → List Value → Prop
 | nil : NamesAll X [] []
 | cons {x : Str} {c : Value} {np : Pos} {es : List Expr} {cs : List Value} : Names X x c → NamesAll X es cs → NamesAll X (.Name x np :: es) (c :: cs)
theorem NamesAll.length {es : List Expr} {cs : List Value} (h : NamesAll X es cs) : cs.length = es.length := by
 induction h with
 | nil => rfl
 | cons _ _ ih => rw [List.length_cons, List.length_cons, ih]
theorem names_items {es : List Expr} {cs : List Value} (h : NamesAll X es cs) {pos : Pos} {a : Addr} {oe : Obj} {pn : List (Addr × Obj)} {σ : L2.St} {H : Hp} {s : Shared} (S : Inv (X.suite a ((a, oe) :: pn)) [] σ H s) {E : Value → Shared → Prop} :
  ∀ {Q : List Value → Shared → Prop}, Q cs s → wpAny (model X.prog X.w) (X.A.mark (some (.ref a))) (spliced (backTo pos (starEach es X.env))) Q E s := by
 induction h with
 | nil => intro Q q; exact wpAny_items_nil q
 | cons hc _ ih => intro Q q; exact wpAny_items_cons (ld_names hc S (ih q)) (by rfl)
theorem test_tup {es : List Expr} {cs : List Value} {kk : Nat} {tpos : Pos} (h : NamesAll X es cs) (hl : Nat.ble es.length 4096 = true := by rfl) : TestOk X (.Tuple es kk tpos) (fun cls => PySem.W.exmAny X.K cls cs) := by
 intro a oe pn σ H s cls b S he hcl hb Q E q
 refine wpAny_Tuple (names_items h S ⟨?_, ?_⟩)
 ·rw [h.length]; exact le_line (Nat.le_of_ble_eq_true hl)
 have kp : ∀ q o, s.heap.get? q = some o → (s.heap.push { cls := .type "tuple", data := .seq cs.toArray }).get? q = some o := fun _ _ z => Heap.get?_push_of_some _ z
 exact (exm_any (M := model X.prog X.w) (S.kIn.keeps kp) (looks_cls (kp _ _ he) hcl) (Heap.get?_push_size s.heap rfl) hb).here (q _ kp)
theorem flyZ_keeps {B : Heap} {l : List Env} {e : Addr} {Z : Obj → Prop} {h h' : Heap} (R : HandSPX.FlyingZ B l e Z h) (k : ∀ b o, h.get? b = some o → h'.get? b = some o) : HandSPX.FlyingZ B l e Z h' := by
 obtain ⟨f1, f2, f3, oe, ws, T, oT, ts, he, hc, hd, h1, hn, hne, hT, hdT, h3⟩ := R
 exact ⟨fun b o q => k b o (f1 b o q), f2, f3.of_keeps fun b o q _ => ⟨o, k b o q, rfl⟩, oe, ws, T, oT, ts, k _ _ he, hc, hd, h1, hn, hne, k _ _ hT, hdT, h3⟩
end
def goneE (i : Nat) (D : Ends) : Ends := { nx := fun σ' H' => D.nx (σ'.set i none) H', rt := D.rt, bk := fun σ' H' => D.bk (σ'.set i none) H', ct := fun σ' H' => D.ct (σ'.set i none) H' }
abbrev Clz := (Value → Option Bool) × (Addr → Value → Option Addr → TS)
def wClz (i : Nat) (Wout : WX) (D : Ends) : List Clz → WX
 | [] => Wout
 | (f, ts) :: r => fun cls d σ H => ∃ b, f cls = some b ∧ (b = true → ∀ a, H a = none → ts a cls d (goneE i D) (σ.set i (some (.ref a))) H) ∧ (b = false → wClz i Wout D r cls d σ H)
inductive ClzOk (X : Cx) (n : Str) : List ExceptHandler → List Clz → Prop
 | nil : ClzOk X n [] []
 | cons {t : Expr} {f : Value → Option Bool} {ts : Addr → Value → Option Addr → TS} {b₀ : Stmt} {suite : List Stmt} {pos' : Pos} {hds : List ExceptHandler} {l : List Clz} (hc : TestOk X t f)
   (hsu : ∀ (a : Addr) (oe : Obj) (cls : Value) (d : Option Addr) (pn : List (Addr × Obj)), Zc cls d oe → (∃ vs, oe.data = .fields vs) → PSs (X.suite a ((a, oe) :: pn)) (b₀ :: suite) (ts a cls d)) (r : ClzOk X n hds l) :
   ClzOk X n (.ExceptHandler (some t) (some n) (b₀ :: suite) pos' :: hds) ((f, ts) :: l)
section
variable {X : Cx} {body : List Stmt} {h₀ : ExceptHandler} {hds : List ExceptHandler} {l : List Clz} {pos : Pos} {tb : WX → TS} {Wout : WX} {n : Str} {i : Nat}
theorem ps_try_clz (hs : X.stack = X.env :: X.outer) (hf : X.env.frame = some X.env.locals) (hN : X.N.Nodup) (hi : X.N[i]? = some n) (hln : X.env.kindOf n = some .local) (tk : Takes X Wout)
  (hb : ∀ (W : WX) (pn : List (Addr × Obj)) (xe : Value → Shared → Prop), Takes (X.tr pn xe) W → PassesOwn (model X.prog X.w) X.A X.env xe → PSs (X.tr pn xe) body (tb W))
  (hh : ClzOk X n (h₀ :: hds) l) : PS X (.Try body (h₀ :: hds) [] [] pos) (fun D σ H => tb (wClz i Wout D l) D σ H) := by
 refine ⟨fun pins s σ H D I h => ?_⟩
 have ok := I.ok
 have hfr : X.A.frames = some (X.env :: X.outer) := by rw [ok.frames, hs]
 have hloc : Loc X.env.scope n := .inl hln
 refine wpAny_Try_except ?_
 refine wpAny_mono ((hb (wClz i Wout D l) (X.pn ++ pins) (fun e s₁ => wpAny (model X.prog X.w) X.A (noteFrame e X.env) (fun _ s₂ => wpAny (model X.prog X.w) X.A (setFlight e none) (fun _ s₃ =>
  wpAny (model X.prog X.w) X.A (handleBy e X.env (h₀ :: hds)) (SP X pins D) X.xe s₃) X.xe s₂) X.xe s₁) (fun u s' xx => ?_) PassesOwn.looking).run [] s σ H D (I.toTry _) h) (fun f s1 hsp => ?_) (fun e s1 he => he)
 ·obtain ⟨a, B, sI, pins', σ', H', cls, d, rfl, J', nb, up, sky, na, os, ag, w⟩ := xx
  have J : Inv X pins σ' H' sI := J'.ofTry ok
  have sky' : Sky B (X.env :: X.outer) a (Zc cls d) X.env.locals s'.heap := by rw [← hs]; exact sky
  show wpAny (model X.prog X.w) X.A (noteFrame (.ref a) X.env) _ _ _
  refine Sky.land Zc.steady hfr hf sky' fun h3 fl3 up3 => ?_
  have notFr : ∀ {h : Heap} {o : Obj} {vs : Array Value}, h.FunFrames B (X.env :: X.outer) → h.get? a = some o → o.data = .fields vs → a ∉ frs (X.env :: X.outer) := fun {h o vs} ff e dd hm => by
   obtain ⟨_, o', e', hnf⟩ := ff.mem hm
   rw [e] at e'; cases e'
   exact hnf _ dd
  -- the clauses one after the other; each test may lay a tuple
  have go : ∀ {hds' : List ExceptHandler} {l' : List Clz}, ClzOk X n hds' l' → wClz i Wout D l' cls d σ' H' → ∀ h3, HandSPX.FlyingZ B (X.env :: X.outer) a (Zc cls d) h3 → s'.heap.UpToSlots h3 →
    wpAny (model X.prog X.w) X.A (handleBy (.ref a) X.env hds') (SP X pins D) X.xe { s' with heap := h3 } := by
   intro hds' l' hk
   induction hk with
   | nil =>
    intro w h3 fl3 up3
    refine wpAny_handleBy_nil ?_
    obtain ⟨k1, k2, k3, oe, vs, T, oT, ts', he, hz, hd, h1, hr⟩ := id fl3
    unfold PySem.passOn
    refine wpAny_bind (wpAny_field he hd h1 ?_)
    rw [if_neg (show ¬ ((Value.ref T == Value.none) = true) from by simp)]
    have fin : wpAny (model X.prog X.w) X.A (setFlight (.ref a) X.env.frame) (fun _ s4 => wpAny (model X.prog X.w) X.A (throw (.ref a) : Sem Flow) (SP X pins D) X.xe s4) X.xe { s' with heap := h3 } := by
     rw [hf]
     refine HandSPX.setFlight_upZ fl3 fun h4 hh4 up4 => wpAny_throw (tk _ _ ?_)
     exact ⟨a, B, sI, pins, σ', H', cls, d, rfl, J, nb, (up.trans up3).trans up4, .inr (.inr (by rw [hs]; exact hh4)), na, os, ag, w⟩
    first
     | exact wpAny_bind (wpAny_pure (wpAny_bind fin))
     | exact wpAny_bind fin
   | @cons t f ts b₀ suite pos' hds2 l2 hc hsu r ih =>
    intro w h3 fl3 up3
    obtain ⟨b, hb1, hyes, hno⟩ := w
    have J3 : Inv X pins σ' H' { s' with heap := h3 } := J.landed nb fl3.1 (up.trans up3) os ag
    obtain ⟨oe3, vs3, he3, hz3, hd3⟩ := fl3.there
    have nfr := notFr fl3.2.2.1 he3 hd3
    have nL : a ≠ X.env.locals := fun z => nfr (List.mem_filterMap.mpr ⟨X.env, List.mem_cons_self, by rw [hf, z]⟩)
    have nF : a ∉ X.fs := fun hm => by
     obtain ⟨e, he, q⟩ := List.mem_filterMap.mp hm
     exact nfr (List.mem_filterMap.mpr ⟨e, List.mem_cons_of_mem _ he, q⟩)
    have S3 := J3.suite he3 hd3 na nL nF
    refine wpAny_handleBy_cons (codeAny_handlers_test ?_) (by intro q; cases q)
    refine hc a oe3 _ _ _ _ cls b S3 he3 hz3.1 hb1 _ _ fun h4 kp => ?_
    have fl4 := flyZ_keeps fl3 kp
    have up4 := up3.trans (Heap.UpToSlots.of_keeps kp)
    cases b with
    | true =>
     refine codeAny_handlers_suite_as ?_
     refine HandSPX.lands_againZ fl4 fun h5 fl5 up5 => ?_
     have J5 : Inv X pins σ' H' { s' with heap := h5 } := J.landed nb fl5.1 ((up.trans up4).trans up5) os ag
     obtain ⟨oe5, vs5, he5, hz5, hd5⟩ := fl5.there
     have S5 := J5.suite he5 hd5 na nL nF
     refine store_ok (X := X.suite a ((a, oe5) :: (X.pn ++ pins))) (v := .ref a) S5 hN hi hloc rfl (fun s6 S6 => ?_) (.inr hln)
     refine wpAny_mono ((hsu a oe5 cls d (X.pn ++ pins) hz5 ⟨_, hd5⟩).run [] s6 _ H' _ S6 (hyes rfl a na)) (fun f s7 hsp => ?_) (fun _ _ z => False.elim z)
     have end_ : ∀ {σ6 : L2.St} {H6 : Hp} {Q : Shared → Prop}, Inv (X.suite a ((a, oe5) :: (X.pn ++ pins))) [] σ6 H6 s7 → (∀ s8, Inv X pins (σ6.set i none) H6 s8 → Q s8) →
       wpAny (model X.prog X.w) X.A (do bindName X.env n .none; unbindBehindTheSuite X.env n pos') (fun _ s8 => Q s8) X.xe s7 := fun {σ6 H6 Q} S7 hq => gone_ok (S7.unsuite ok) hN hi hln hq
     cases f with
     | next =>
      obtain ⟨σ6, H6, S7, q6⟩ := hsp
      exact end_ S7 fun s8 J8 => ⟨_, _, J8, q6⟩
     | brk =>
      obtain ⟨σ6, H6, S7, q6⟩ := hsp
      exact end_ S7 fun s8 J8 => ⟨_, _, J8, q6⟩
     | cont =>
      obtain ⟨σ6, H6, S7, q6⟩ := hsp
      exact end_ S7 fun s8 J8 => ⟨_, _, J8, q6⟩
     | ret u =>
      obtain ⟨v6, σ6, H6, S7, r6, q6⟩ := hsp
      exact end_ S7 fun s8 J8 => ⟨_, _, _, J8, r6, q6⟩
    | false => exact ih (hno rfl) h4 fl4 up4
  exact go hh w h3 fl3 up3
 ·cases f with
  | next =>
   obtain ⟨σ', H', J', q⟩ := hsp
   exact wpAny_execs_nil ⟨σ', H', J'.ofTry ok, q⟩
  | brk =>
   obtain ⟨σ', H', J', q⟩ := hsp
   exact ⟨σ', H', J'.ofTry ok, q⟩
  | cont =>
   obtain ⟨σ', H', J', q⟩ := hsp
   exact ⟨σ', H', J'.ofTry ok, q⟩
  | ret u =>
   obtain ⟨v, σ', H', J', r, q⟩ := hsp
   exact ⟨v, σ', H', J'.ofTry ok, r, q⟩
end
end DL
namespace DL
open PySem PySem.Spec PyProof.Rows L2 LamX
def newCode (H : Hp) (P : Addr) (q : Str) (ps : Array Value) (l m : Int) (c' : Addr) : Hp := upd (upd H P (.tbl (ps ++ #[rawInt l, rawInt m, .ref c']))) c' (CodeO c' q)
section
variable {X : Cx} {pins : List (Addr × Obj)} {σ : L2.St} {H : Hp} {s : Shared}
theorem lam_make3 {c P : Addr} {params : Arguments} {body : Expr} {scope : Scope} {pos : Pos} {E : Value → Shared → Prop} {Q : Value → Shared → Prop} {ps : Array Value} (I : Inv X pins σ H s) (TB : TabB X.base X.mg c P) (hcode : X.env.code = .ref c)
  (hP : H P = some (.tbl ps)) (ht : TriplesOk ps.toList) (ha : ∀ (pos : Pos) (cv : Value), codeAmong pos ps.toList = some cv → ∃ c, cv = .ref c ∧ H c = some (CodeO c (X.env.qual ++ "<lambda>"))) (hdef : defaultsOf params X.env = ([], [])) (hfree : ∀ y ∈ scope.names, y.2 = .free → ∃ c, X.env.cells.lookup y.1 = some c)
  (h : ∀ (f c' : Addr) (pm ctv : Value) (H1 : Hp) (s' : Shared), Inv X pins σ H1 s' → (H1 = H ∨ (H c' = none ∧ ∃ l m, H1 = newCode H P (X.env.qual ++ "<lambda>") ps l m c')) →
   s'.heap.get? f = some (PySem.W.kla_obj "<lambda>" (X.env.qual ++ "<lambda>") params body scope (cloFrom X.env.cells scope.names []) pm c' ctv) → H1 f = none → f ∉ frs X.stack → H1 c' = some (CodeO c' (X.env.qual ++ "<lambda>")) → Q (.ref f) s') :
  wpAny (model X.prog X.w) X.A (eval (.Lambda params body scope pos) X.env) Q E s := by
 refine PySem.W.kla_eval hdef ?_
 have bP : s.heap.BuiltinsAt X.mg P := TB.bm.keeps I.bk
 have hP' : s.heap.get? P = some { cls := .none, data := .fields ps } := I.hok P _ hP
 have away : ∀ f, s.heap.objs.size ≤ f → f ∉ frs X.stack := fun f hf z => by
  rcases List.mem_cons.mp (I.stkSub _ z) with e | e
  ·have lt := I.lt
   rw [← e] at lt
   exact Nat.lt_irrefl _ (Nat.lt_of_lt_of_le lt hf)
  ·exact I.nofs hf e
 have clo := closure_ok hfree
 have gl := I.mod.glob.keeps I.bk
 have cd := TB.code.keeps I.bk
 cases hc : codeAmong pos ps.toList with
 | some cv =>
  obtain ⟨c', e, hco⟩ := ha pos cv hc
  subst e
  refine PySem.W.kla_makeFunctionHit (mg := X.mg) (c := c) (P := P) (ps := ps) clo I.ok.glob gl hcode cd hP' ht hc bP fun ctv h' tk hx hsz => ?_
  exact h h'.objs.size c' ((X.mg "__name__").getD .none) ctv H _ (I.kept fun b o e => Heap.get?_push_of_some _ (hx b o e)) (.inl rfl) (Heap.get?_push_size _ rfl) (I.hok.fresh hsz) (away _ hsz) hco
 | none =>
  refine PySem.W.kla_makeFunction (mg := X.mg) (c := c) (P := P) (ps := ps) clo I.ok.glob gl hcode cd hP' ht hc TB.gP bP fun c' ctv h' tk hx hge hlt hrec htb => ?_
  obtain ⟨c2, oc, vs, t, e2, hoc, hd, hv⟩ := hrec
  cases e2
  have big : s.heap.objs.size ≤ h'.objs.size := Nat.le_trans hge (Nat.le_of_lt hlt)
  have J := inv_table (t' := tk) (more := #[rawInt pos.line, rawInt pos.col, .ref c']) (h' := h'.push (PySem.W.kla_obj "<lambda>" (X.env.qual ++ "<lambda>") params body scope (cloFrom X.env.cells scope.names []) ((X.mg "__name__").getD .none) c' ctv)) I hP
   (fun b o hb e => Heap.get?_push_of_some _ (hx b o hb e)) (Heap.get?_push_of_some _ htb) hge ⟨oc, vs, t, Heap.get?_push_of_some _ hoc, hd, hv⟩
  refine h h'.objs.size c' ((X.mg "__name__").getD .none) ctv _ _ J (.inr ⟨I.hok.fresh hge, _, _, rfl⟩) (Heap.get?_push_size _ rfl) ?_ (away _ big) upd_same
  have n1 : h'.objs.size ≠ c' := Nat.ne_of_gt hlt
  have n2 : h'.objs.size ≠ P := Nat.ne_of_gt (Nat.lt_of_lt_of_le (Heap.lt_size hP') big)
  rw [upd_ne n1, upd_ne n2]
  exact I.hok.fresh big
end
def tLam3 (P : Addr) (q : Str) (TT : (XK → Hp → VK → Prop) → Hp → VK → Prop) (t : XK → TE) : TE := fun σ H Q => ∃ ps : Array Value, H P = some (.tbl ps) ∧ TriplesOk ps.toList ∧ (∀ (pos : Pos) (cv : Value), codeAmong pos ps.toList = some cv → ∃ c, cv = .ref c ∧ H c = some (CodeO c q)) ∧
 TT (fun E H' Q' => t E σ H' Q') H Q ∧ ∀ (c' : Addr) (l m : Int), H c' = none → TT (fun E H' Q' => t E σ H' Q') (newCode H P q ps l m c') Q
section
variable {X : Cx}
theorem pe_lamcall3 {TT : (XK → Hp → VK → Prop) → Hp → VK → Prop} {x a : Str} {g c P : Addr} {k : Nat} {pg : Arguments} {bg : List Stmt} {sg : Scope} {dV kV doc pm cdv ct oc : Value} {an od : Option Addr} {osl : Array (Option Value)} {Ng : List Str}
  {params : Arguments} {body : Expr} {scope : Scope} {t : XK → TE} {p lpos pos : Pos} (hg : Gl X x) (hm : X.mg x = some (.ref g)) (hk : PySem.W.keepIn X.K (.ref g) = true)
  (lk : X.K.lookup g = some ⟨oc, od, .func (PySem.W.fnOf x x pg bg sg dV kV doc pm an cdv ct), osl⟩) (hcg : PySem.W.codeIn X.K cdv x = true) (hb : L2.Binds X.K (PySem.W.fnOf x x pg bg sg dV kV doc pm an cdv ct) [a] []) (Sg : FnScope Ng [a] sg) (hNg : Ng[0]? = some a) (hva : Vis sg a)
  (hG : GivesTo X Ng x sg g cdv bg a (X.env.qual ++ "<lambda>") TT)
  (TB : TabB X.base X.mg c P) (hcode : X.env.code = .ref c) (hr : Room (k + 2) X.A) (L : LamS X.env.scope scope) (hdef : defaultsOf params X.env = ([], []))
  (hbind : ∀ (q : Str) (cl : List (Str × Addr)) (pm cv ctv : Value), bindArgs (PySem.W.kla_fn "<lambda>" q params body scope cl pm cv ctv) ⟨[], []⟩ = pure [])
  (hbody : ∀ (A : Around) (outer : List Env) (s : Shared) (H : Hp) (E : XK) (f c' : Addr), Room k (A.deeper (lamEnv X scope s.heap.objs.size f c')) → PE (lamCx X A outer s H E scope f c') body (t E))
  (hdb : (x == ("__debug__" : Str)) = false := by decide) (hd : (a == ("__debug__" : Str)) = false := by decide) (hcd : (a == ("__classdict__" : Str)) = false := by decide) :
  PE X (.Call (.Name x p) [.Lambda params body scope lpos] [] pos) (tLam3 P (X.env.qual ++ "<lambda>") TT t) := by
 refine ⟨fun pins s σ H Q I h => ?_⟩
 obtain ⟨ps, hP, hT, hA, h0, h1⟩ := h
 refine wpAny_Call_Name_kw (ld_glob I hg hm ?_ hdb)
 refine PySem.W.callWith_K (h₀ := X.base) I.ok.mod.kin hk ?_ (by rfl) (by rfl)
 show wpAny _ _ (spliced ((false, eval (.Lambda params body scope lpos) X.env) :: backTo pos (starEach [] X.env))) _ _ s
 refine Calls.spliced_cons (lam_make3 I TB hcode hP hT hA hdef (L.has I.ok) fun f c' pm' ctv H1 s' I1 hH hf hfn hfr hco => ?_)
 refine Calls.spliced_nil ⟨I1.kIn, ?_⟩
 have tt : TT (fun E H' Q' => t E σ H' Q') H1 Q := by
  rcases hH with e | ⟨n, l, m, e⟩
  ·rw [e]; exact h0
  ·rw [e]; exact h1 c' l m n
 have rc : codeAny (model X.prog X.w) X.A (.call (.ref g) ⟨[.ref f], []⟩) (CR C8.CX0 X.stack X.prog X.w H1 s' Q C8.E0) s' := by
  refine run_ofS (N := Ng) (ps := [a]) (us := [.ref f]) (vs := [.ref f]) lk hcg Sg hr I1.env0 (hb s' [.ref f] I1.kIn rfl) (.cons rfl .nil) rfl fun hr' => ?_
  obtain ⟨t', ht', hq'⟩ := hG f c' s' H1 Q (fun E H' Q' => t E σ H' Q') (fun W pn xe E p1 p2 tk hW => pe_act (i := 0) I1 L hf hfn hfr (hbind _ _ _ _ _) tk hW hr' (fun A outer s H hr2 => hbody A outer s H E f c' hr2) hNg hva hd hcd) hco tt
  exact ⟨t', ht'.nox, hq'⟩
 refine wpAny_call (codeAny_mono rc fun r s2 hq => ?_)
 cases r with
 | error e => exact (show False from hq).elim
 | ok fl =>
  cases fl with
  | ret u => exact I1.after hq
  | next => exact False.elim hq
  | brk => exact False.elim hq
  | cont => exact False.elim hq
end
end DL
namespace DL
open PySem PySem.Spec PyProof.Rows L2 LamX
def XfN (K : PySem.W.Frag) (C : Addr) (n : Str) : Prop := XfC K C ∧ PySem.W.findIn K (.ref C) n = some none
def tXg (K : PySem.W.Frag) (a : Addr) (cls : Value) (d : Option Addr) (n : Str) (te : TE) : TE := fun σ H Q => ∃ C, XfN K C n ∧ tXf a cls d C n te σ H Q
section
variable {X : Cx} {a : Addr} {oe : Obj} {cls : Value} {d : Option Addr} {pn : List (Addr × Obj)} {e : Expr} {te : TE} {pos : Pos} {n : Str}
theorem pe_xg (hz : Zc cls d oe) (hf : ∃ vs, oe.data = .fields vs) (he : PE (X.suite a ((a, oe) :: pn)) e te) (hb : attributeBase e n X.env (eval e X.env) = eval e X.env := by rfl) :
  PE (X.suite a ((a, oe) :: pn)) (.Attribute e n pos) (tXg X.K a cls d n te) :=
 ⟨fun pins s σ H Q I ⟨_, ⟨T, hno⟩, h⟩ => (pe_xf T hno hz hf he hb).run pins s σ H Q I h⟩
end
def tSu (K : PySem.W.Frag) (i j : Nat) (fo : Option Str) (a : Addr) (cls : Value) (d : Option Addr) : TS := fun D σ H => σ[i]? = some (some (.ref a)) ∧ ∃ C dd fs tv fv, cls = .ref C ∧ d = some dd ∧ H dd = some (.xd fs) ∧ XfN K C ("tag" : Str) ∧ fs.lookup ("tag" : Str) = some tv ∧
 (match fo with
  | some f => XfN K C f ∧ fs.lookup f = some fv
  | none => fv = V.non) ∧ ∀ p, H p = none → D.nx (σ.set j (some (.ref p))) (upd H p (.tup [tv, fv]))
section
variable {X : Cx} {a : Addr} {oe : Obj} {cls : Value} {d : Option Addr} {pn : List (Addr × Obj)} {n y f : Str} {i j kk : Nat} {p1 p2 p3 p4 p5 p6 p7 : Pos}
theorem su_field (hN : X.N.Nodup) (hi : X.N[i]? = some n) (hj : X.N[j]? = some y) (hvi : Vis X.env.scope n) (hly : Loc X.env.scope y) (hln : X.env.scope.names.lookup y = some .local) (hz : Zc cls d oe) (hf : ∃ vs, oe.data = .fields vs)
  (hd : (n == ("__debug__" : Str)) = false := by decide) (hcd : (n == ("__classdict__" : Str)) = false := by decide)
  (hb1 : attributeBase (.Name n p2) "tag" X.env (eval (.Name n p2) X.env) = eval (.Name n p2) X.env := by rfl) (hb2 : attributeBase (.Name n p4) f X.env (eval (.Name n p4) X.env) = eval (.Name n p4) X.env := by rfl)
  (hs : swapsWith (.Tuple [.Attribute (.Name n p2) "tag" p3, .Attribute (.Name n p4) f p5] kk p6) (some (.Name y p1)) p7.line X.env = pure false := by rfl) (h1 : starEach [.Attribute (.Name n p2) "tag" p3, .Attribute (.Name n p4) f p5] X.env = (false, eval (.Attribute (.Name n p2) "tag" p3) X.env) :: starEach [.Attribute (.Name n p4) f p5] X.env := by rfl) (h2 : starEach [.Attribute (.Name n p4) f p5] X.env = (false, eval (.Attribute (.Name n p4) f p5) X.env) :: starEach [] X.env := by rfl) :
  PSs (X.suite a ((a, oe) :: pn)) [.Assign [.Name y p1] (.Tuple [.Attribute (.Name n p2) "tag" p3, .Attribute (.Name n p4) f p5] kk p6) p7] (tSu X.K i j (some f) a cls d) := by
 have nm : ∀ (p : Pos), PE (X.suite a ((a, oe) :: pn)) (.Name n p) (tVar i) := fun p => pe_var (X := X.suite a ((a, oe) :: pn)) hi hvi hd hcd
 refine pss_imp (pss_one (ps_set (X := X.suite a ((a, oe) :: pn)) hN hj hly (pe_tup (pa_cons (pe_xg hz hf (nm p2) hb1) (pa_cons (pe_xg hz hf (nm p4) hb2) pa_nil h2) h1)) hs (.inr hln))) fun D σ H q => ?_
 obtain ⟨q1, C, dd, fs, tv, fv, rfl, rfl, q2, q3, q4, ⟨q5, q6⟩, q7⟩ := q
 exact ⟨C, q3, .ref a, q1, rfl, rfl, dd, fs, tv, rfl, q2, q4, C, q5, .ref a, q1, rfl, rfl, dd, fs, fv, rfl, q2, q6, le_line (by decide : 2 ≤ 4096), q7⟩
theorem su_none {jj : Nat} {p0 : Pos} (hN : X.N.Nodup) (hi : X.N[i]? = some n) (hj : X.N[j]? = some y) (hvi : Vis X.env.scope n) (hly : Loc X.env.scope y) (hln : X.env.scope.names.lookup y = some .local) (hz : Zc cls d oe) (hf : ∃ vs, oe.data = .fields vs)
  (hd : (n == ("__debug__" : Str)) = false := by decide) (hcd : (n == ("__classdict__" : Str)) = false := by decide)
  (hb1 : attributeBase (.Name n p2) "tag" X.env (eval (.Name n p2) X.env) = eval (.Name n p2) X.env := by rfl)
  (hs : swapsWith (.Tuple [.Attribute (.Name n p2) "tag" p3, .Constant .none jj p0] kk p6) (some (.Name y p1)) p7.line X.env = pure false := by rfl) (h1 : starEach [.Attribute (.Name n p2) "tag" p3, .Constant .none jj p0] X.env = (false, eval (.Attribute (.Name n p2) "tag" p3) X.env) :: starEach [.Constant .none jj p0] X.env := by rfl) (h2 : starEach [.Constant .none jj p0] X.env = (false, eval (.Constant .none jj p0) X.env) :: starEach [] X.env := by rfl) :
  PSs (X.suite a ((a, oe) :: pn)) [.Assign [.Name y p1] (.Tuple [.Attribute (.Name n p2) "tag" p3, .Constant .none jj p0] kk p6) p7] (tSu X.K i j none a cls d) := by
 have nm : ∀ (p : Pos), PE (X.suite a ((a, oe) :: pn)) (.Name n p) (tVar i) := fun p => pe_var (X := X.suite a ((a, oe) :: pn)) hi hvi hd hcd
 refine pss_imp (pss_one (ps_set (X := X.suite a ((a, oe) :: pn)) hN hj hly (pe_tup (pa_cons (pe_xg hz hf (nm p2) hb1) (pa_cons pe_non pa_nil h2) h1)) hs (.inr hln))) fun D σ H q => ?_
 obtain ⟨q1, C, dd, fs, tv, fv, rfl, rfl, q2, q3, q4, rfl, q7⟩ := q
 exact ⟨C, q3, .ref a, q1, rfl, rfl, dd, fs, tv, rfl, q2, q4, le_line (by decide : 2 ≤ 4096), q7⟩
end
abbrev ClD := List Str × Option Str
def xfind (tb : XTab) (nm c : Str) : Option Bool := (tb.find? fun p => p.1 == nm && p.2.1 == c).map (·.2.2)
def xany (tb : XTab) (nm : Str) : List Str → Option Bool
 | [] => some false
 | c :: r => match xfind tb nm c, xany tb nm r with
  | some b, some d => some (b || d)
  | _, _ => none
def hitC (tb : XTab) (nm : Str) : List ClD → Option (Option Str)
 | [] => none
 | (cs, f) :: r => match xany tb nm cs with
  | some true => some f
  | some false => hitC tb nm r
  | none => none
def XTab.ok (K : PySem.W.Frag) (tb : XTab) : Prop := ∀ p ∈ tb, PySem.W.exmOne K (.ref (He.ga K p.1)) (.ref (He.ga K p.2.1)) = some p.2.2
def clzOf (K : PySem.W.Frag) (i j : Nat) (cl : List ClD) : List Clz := cl.map fun p => (fun cls => PySem.W.exmAny K cls (p.1.map fun c => .ref (He.ga K c)), tSu K i j p.2)
section
variable {K : PySem.W.Frag} {tb : XTab} {nm : Str}
theorem xfind_ok (h : tb.ok K) {c : Str} {b : Bool} (e : xfind tb nm c = some b) : PySem.W.exmOne K (.ref (He.ga K nm)) (.ref (He.ga K c)) = some b := by
 unfold xfind at e
 cases q : tb.find? (fun p => p.1 == nm && p.2.1 == c) with
 | none => rw [q] at e; cases e
 | some p =>
  rw [q] at e
  cases e
  have hp := List.find?_some q
  obtain ⟨h1, h2⟩ := Bool.and_eq_true_iff.mp hp
  have z := h p (List.mem_of_find?_eq_some q)
  rw [eq_of_beq h1, eq_of_beq h2] at z
  exact z
theorem xany_ok (h : tb.ok K) : ∀ {cs : List Str} {b : Bool}, xany tb nm cs = some b → PySem.W.exmAny K (.ref (He.ga K nm)) (cs.map fun c => .ref (He.ga K c)) = some b
 | [], _, e => e
 | c :: cs, b, e => by
  unfold xany at e
  split at e
  ·rename_i b1 d1 e1 e2
   cases e
   show PySem.W.exmAny K _ (.ref (He.ga K c) :: cs.map fun c => .ref (He.ga K c)) = _
   unfold PySem.W.exmAny
   rw [xfind_ok h e1, xany_ok h e2]
  ·cases e
theorem clz_hit (h : tb.ok K) {i j : Nat} {Wout : WX} {D : Ends} {d : Option Addr} {σ : L2.St} {H : Hp} {fo : Option Str} : ∀ {cl : List ClD}, hitC tb nm cl = some fo →
  (∀ a, H a = none → tSu K i j fo a (.ref (He.ga K nm)) d (goneE i D) (σ.set i (some (.ref a))) H) → wClz i Wout D (clzOf K i j cl) (.ref (He.ga K nm)) d σ H
 | [], e, _ => by cases e
 | (cs, f) :: r, e, q => by
  unfold hitC at e
  split at e
  ·rename_i e1
   cases e
   exact ⟨true, xany_ok h e1, fun _ => q, (fun z => Bool.noConfusion z)⟩
  ·rename_i e1
   exact ⟨false, xany_ok h e1, (fun z => Bool.noConfusion z), fun _ => clz_hit h e q⟩
  ·cases e
end
section
variable {X : Cx} {n : Str} {i j : Nat}
theorem clz_nil : ClzOk X n [] (clzOf X.K i j []) := .nil
theorem clz_one {c : Str} {fo : Option Str} {b₀ : Stmt} {suite : List Stmt} {np pos' : Pos} {hds : List ExceptHandler} {cl : List ClD} (hc : Names X c (.ref (He.ga X.K c)))
  (hsu : ∀ (a : Addr) (oe : Obj) (cls : Value) (d : Option Addr) (pn : List (Addr × Obj)), Zc cls d oe → (∃ vs, oe.data = .fields vs) → PSs (X.suite a ((a, oe) :: pn)) (b₀ :: suite) (tSu X.K i j fo a cls d)) (r : ClzOk X n hds (clzOf X.K i j cl)) :
  ClzOk X n (.ExceptHandler (some (.Name c np)) (some n) (b₀ :: suite) pos' :: hds) (clzOf X.K i j (([c], fo) :: cl)) := by
 refine .cons (fun a oe pn σ H s cls b S he hcl hb Q E q => ?_) hsu r
 have hb' : PySem.W.exmAny X.K cls [.ref (He.ga X.K c)] = some b := hb
 obtain ⟨b1, d1, h1, h2, rfl⟩ := PySem.W.exmAny_cons hb'
 cases h2
 rw [Bool.or_false] at q
 exact test_one hc a oe pn σ H s cls b1 S he hcl h1 Q E q
theorem clz_many {cs : List Str} {es : List Expr} {fo : Option Str} {b₀ : Stmt} {suite : List Stmt} {kk : Nat} {tp pos' : Pos} {hds : List ExceptHandler} {cl : List ClD} (hc : NamesAll X es (cs.map fun c => .ref (He.ga X.K c))) (hl : Nat.ble es.length 4096 = true)
  (hsu : ∀ (a : Addr) (oe : Obj) (cls : Value) (d : Option Addr) (pn : List (Addr × Obj)), Zc cls d oe → (∃ vs, oe.data = .fields vs) → PSs (X.suite a ((a, oe) :: pn)) (b₀ :: suite) (tSu X.K i j fo a cls d)) (r : ClzOk X n hds (clzOf X.K i j cl)) :
  ClzOk X n (.ExceptHandler (some (.Tuple es kk tp)) (some n) (b₀ :: suite) pos' :: hds) (clzOf X.K i j ((cs, fo) :: cl)) := .cons (test_tup hc hl) hsu r
end
def tellX (K : PySem.W.Frag) (tb : XTab) (cl : List ClD) (Q : VK) : XK := fun cls d H => ∃ nm fo dd fs tv fv, cls = .ref (He.ga K nm) ∧ hitC tb nm cl = some fo ∧ d = some dd ∧ H dd = some (.xd fs) ∧ XfN K (He.ga K nm) ("tag" : Str) ∧ fs.lookup ("tag" : Str) = some tv ∧
 (match fo with
  | some f => XfN K (He.ga K nm) f ∧ fs.lookup f = some fv
  | none => fv = V.non) ∧ ∀ p, H p = none → Q (.ref p) (upd H p (.tup [tv, fv]))
def TTask (K : PySem.W.Frag) (tb : XTab) (cl : List ClD) : (XK → Hp → VK → Prop) → Hp → VK → Prop := fun tl H Q => ∀ p, H p = none → tl (tellX K tb cl Q) (upd H p (.tup [.str "", .non])) fun _ H' => Q (.ref p) H'
theorem takes_len {X : Cx} {W : WX} (t : Takes X W) : Takes X (fun c d σ H => σ.length = X.N.length → W c d σ H) := fun u s' ⟨a, B, sI, pins, σ, H, cls, d, e, I, nb, up, sky, na, os, ag, w⟩ =>
 t u s' ⟨a, B, sI, pins, σ, H, cls, d, e, I, nb, up, sky, na, os, ag, w I.len⟩
section
variable {X : Cx}
theorem ask_gives {tb : XTab} {cl : List ClD} {x a y n q : Str} {sg : Scope} {g : Addr} {cdg : Value} {k1 k2 k3 : Nat} {p1 p2 p3 p4 p5 p6 p7 p8 p9 p10 p11 : Pos} {h₀ : ExceptHandler} {hds : List ExceptHandler} (hN : [a, y, n].Nodup) (hly : sg.names.lookup y = some .local) (hln : sg.names.lookup n = some .local)
  (hvy : Vis sg y) (hkn : ∀ (s : Shared), (envOfC x sg s.heap.objs.size g cdg).kindOf n = some .local) (hlo : Loc sg y) (htb : tb.ok X.K)
  (hh : ∀ (s : Shared) (H : Hp), ClzOk (cxOf C8.CX0 X.prog X.w X.K X.mg X.base [a, y, n] x sg g cdg X.A X.stack s H C8.E0).nox n (h₀ :: hds) (clzOf X.K 2 1 cl))
  (hdy : (y == ("__debug__" : Str)) = false := by decide) (hcy : (y == ("__classdict__" : Str)) = false := by decide) :
  GivesTo X [a, y, n] x sg g cdg [.Assign [.Name y p1] (.Tuple [.Constant (.str "") k1 p2, .Constant .none k2 p3] k3 p4) p5, .Try [.Expr (.Call (.Name a p6) [] [] p7) p8] (h₀ :: hds) [] [] p9, .Return (some (.Name y p10)) p11] a q (TTask X.K tb cl) := by
 intro f c' s H Q tl act hc h
 have Z : Cx := (cxOf C8.CX0 X.prog X.w X.K X.mg X.base [a, y, n] x sg g cdg X.A X.stack s H C8.E0).nox
 have st1 := ps_set (X := (cxOf C8.CX0 X.prog X.w X.K X.mg X.base [a, y, n] x sg g cdg X.A X.stack s H C8.E0).nox) (i := 1) (x := y) (pos' := p1) (pos := p5) hN rfl hlo (pe_tup (pos := p4) (x1 := k3) (pa_cons (pe_str (x := "") (j := k1) (pos := p2)) (pa_cons (pe_non (j := k2) (pos := p3)) pa_nil))) (by rfl) (.inr hly)
 have st2 := ps_try_clz (X := (cxOf C8.CX0 X.prog X.w X.K X.mg X.base [a, y, n] x sg g cdg X.A X.stack s H C8.E0).nox) (body := [.Expr (.Call (.Name a p6) [] [] p7) p8]) (pos := p9) (i := 2)
  (tb := fun W D σ H => ∃ Ech : XK, (∀ cls d σ' H', σ'.length = 3 → Ech cls d H' → W cls d σ' H') ∧ σ[0]? = some (some (.ref f)) ∧ H c' = some (CodeO c' q) ∧ tl Ech H fun _ H' => D.nx σ H')
  rfl rfl hN rfl (hkn s) L2.takes0 (fun W pn xe tk _ => ?_) (hh s H)
 ·refine ⟨_, pss_cons st1 (pss_cons st2 (pss_one (ps_ret (pe_var (i := 1) rfl hvy hdy hcy)))), ?_⟩
  refine ⟨le_line (by decide : 2 ≤ 4096), fun p hp => ?_⟩
  refine ⟨tellX X.K tb cl Q, fun cls d σ' H' hl hx => ?_, rfl, ?_, Eq.mp (congrArg (tl (tellX X.K tb cl Q) (upd H p (.tup [.str "", .non]))) (funext fun v => funext fun H' => propext ⟨fun z => ⟨_, rfl, z⟩, fun ⟨u, e, z⟩ => by cases e; exact z⟩)) (h p hp)⟩
  ·obtain ⟨nm, fo, dd, fs, tv, fv, rfl, e1, rfl, e2, e3, e4, e5, e6⟩ := hx
   refine clz_hit htb e1 fun b hb => ?_
   obtain ⟨x0, x1, x2, rfl⟩ : ∃ x0 x1 x2, σ' = [x0, x1, x2] := by
    match σ', hl with
    | [x0, x1, x2], _ => exact ⟨x0, x1, x2, rfl⟩
   exact ⟨rfl, _, dd, fs, tv, fv, rfl, rfl, e2, e3, e4, e5, fun p hp => ⟨_, rfl, e6 p hp⟩⟩
  ·show upd H p _ c' = _
   rw [upd_ne (fun z => by rw [← z, hc] at hp; cases hp)]
   exact hc
 ·refine ⟨fun pins s' σ H' D I h' => ?_⟩
  obtain ⟨Ech, hW, h1, h2, h3⟩ := h'
  have hp := act (fun c d σ H => σ.length = 3 → W c d σ H) pn xe Ech p6 p7 (takes_len tk) (fun cls d σ' H' e hl => hW cls d σ' H' hl e)
  exact (pss_one (ps_expr (pos := p8) hp (by rfl))).run pins s' σ H' D I ⟨h1, h2, h3⟩
end
end DL
namespace DL
open PySem PySem.Spec PyProof.Rows L2 LamX
theorem RepF.get {K : PySem.W.Frag} {F : Hp} {vs : List (Str × V)} {ds : List (Str × D)} (r : RepF K F vs ds) {n : Str} {d : D} (h : ds.lookup n = some d) : ∃ v, vs.lookup n = some v ∧ Rep K F v d := by
 induction r with
 | nil => cases h
 | @cons m v e vs ds h1 _ ih =>
  rw [List.lookup_cons] at h
  rw [List.lookup_cons]
  split at h
  ·rename_i q
   cases h
   exact ⟨v, rfl, h1⟩
  ·rename_i q
   obtain ⟨u, h2, h3⟩ := ih h
   exact ⟨u, h2, h3⟩
theorem among_more {l m : Int} {p' : Pos} {c cv : Value} (ps : List Value) (h : TriplesOk ps) (hc : codeAmong p' (ps ++ [rawInt l, rawInt m, c]) = some cv) : codeAmong p' ps = some cv ∨ cv = c := by
 fun_induction TriplesOk ps with
 | case1 =>
  simp only [List.nil_append, rawInt, codeAmong] at hc
  split at hc
  ·exact .inr (Option.some.inj hc).symm
  ·cases hc
 | case2 a t b u y rest ih =>
  simp only [List.cons_append, codeAmong] at hc ⊢
  split at hc
  ·rename_i z
   exact .inl (by rw [if_pos z]; exact hc)
  ·rename_i z
   rw [if_neg z]
   exact ih h hc
 | case3 ps h1 h2 => exact h.elim
theorem RepS.newCode {K : PySem.W.Frag} {H F : Hp} {M : MH} {P c' : Addr} {q : Str} {ps : Array Value} {l m : Int} (S : RepS K H F M) (hm : M P = some (.tab q)) (hP : H P = some (.tbl ps)) (ht : TriplesOk ps.toList)
  (hA : ∀ (pos : Pos) (cv : Value), codeAmong pos ps.toList = some cv → ∃ c, cv = .ref c ∧ F c = some (CodeO c q)) (hc : H c' = none) :
  RepS K (newCode H P q ps l m c') (upd F c' (CodeO c' q)) M ∧ Ext H F M (newCode H P q ps l m c') (upd F c' (CodeO c' q)) M := by
 have fP := (S.mu P _ hm).1
 have fc := S.fno hc
 have mc := S.mno hc
 have cP : c' ≠ P := fun z => by rw [z, hP] at hc; cases hc
 have sF : Same F (upd F c' (CodeO c' q)) := fun b u z => by rw [upd_ne (ne_of_none z fc)]; exact z
 have away : ∀ b, b ≠ P → b ≠ c' → DL.newCode H P q ps l m c' b = H b := fun b h1 h2 => by
  unfold DL.newCode
  rw [upd_ne h2, upd_ne h1]
 have eL : (ps ++ #[rawInt l, rawInt m, .ref c']).toList = ps.toList ++ [rawInt l, rawInt m, .ref c'] := by simp
 refine ⟨⟨fun b o z => ?_, fun b n z => ?_⟩, sF, fun b o h1 ht h2 h3 => ?_⟩
 ·by_cases hb : b = c'
  ·subst hb
   rw [upd_same] at z
   unfold DL.newCode
   rw [upd_same]
   exact z
  ·rw [upd_ne hb] at z
   rw [away b (fun e => by rw [e, fP] at z; cases z) hb]
   exact S.fz b o z
 ·have hb : b ≠ c' := fun e => by rw [e, mc] at z; cases z
  obtain ⟨g1, o, g2, g3⟩ := S.mu b n z
  refine ⟨by rw [upd_ne hb]; exact g1, ?_⟩
  by_cases hb2 : b = P
  ·subst hb2
   rw [hm] at z
   cases z
   refine ⟨.tbl (ps ++ #[rawInt l, rawInt m, .ref c']), by unfold DL.newCode; rw [upd_ne hb, upd_same], _, rfl, by rw [eL]; exact PySem.TriplesOk_snoc _ _ _ _ ht, fun pos cv hcv => ?_⟩
   rw [eL] at hcv
   rcases among_more _ ht hcv with z | z
   ·obtain ⟨c0, e1, e2⟩ := hA pos cv z
    exact ⟨c0, e1, sF _ _ e2⟩
   ·exact ⟨c', z, upd_same⟩
  ·exact ⟨o, by rw [away b hb2 hb]; exact g2, g3.mono sF⟩
 ·have n1 : b ≠ c' := fun e => by rw [e, hc] at h1; cases h1
  have n2 : b ≠ P := fun e => by rw [e, hm] at h3; cases h3
  exact ⟨by rw [away b n2 n1]; exact h1, by rw [upd_ne n1]; exact h2, h3⟩
def wAsk (P : Addr) (q : Str) (tb : XTab) (cl : List ClD) (rs : List (Str × Option Str)) (wb : WE) : WE := fun ρ M k _ => M P = some (.tab q) ∧ wb ρ M (fun _ M1 => k (.tup [.str "", .non]) M1) fun nm fs M1 =>
 ∃ fo t v, hitC tb nm cl = some fo ∧ (nm, fo) ∈ rs ∧ fs.lookup ("tag" : Str) = some t ∧ (match fo with
  | some f => fs.lookup f = some v
  | none => v = D.non) ∧ k (.tup [t, v]) M1
section
variable {X : Cx}
theorem ask_in {tb : XTab} {cl : List ClD} {rs : List (Str × Option Str)} {wb : WE} {σ : L2.St} {H F : Hp} {M : MH} {ρ : Rh} {k : KD} {Q : VK} (cf : ∀ p ∈ rs, XfN X.K (He.ga X.K p.1) ("tag" : Str) ∧ ∀ f, p.2 = some f → XfN X.K (He.ga X.K p.1) f) (S : RepS X.K H F M) (E : RepE X.K F σ ρ)
  (w : wb ρ M (fun _ M1 => k (.tup [.str "", .non]) M1) fun nm fs M1 => ∃ fo t v, hitC tb nm cl = some fo ∧ (nm, fo) ∈ rs ∧ fs.lookup ("tag" : Str) = some t ∧ (match fo with
   | some f => fs.lookup f = some v
   | none => v = D.non) ∧ k (.tup [t, v]) M1) (pv : PostV X.K H F M k Q) :
  TTask X.K tb cl (fun Ec H' Q' => tOf X.K (fun c d _ H => Ec c d H) wb σ H' Q') H Q := by
 intro p hp
 obtain ⟨S2, e2⟩ := S.lay hp (.tup [.str "", .non])
 refine ⟨_, M, ρ, _, _, S2, E.mono e2.sm, w, fun v d H3 F3 M3 e3 S3 r3 w3 => ?_, fun nm dd vfs fs H3 F3 M3 e3 S3 hdd rf xx => ?_⟩
 ·exact pv _ _ _ _ _ (e2.trans e3) S3 (.tup (e3.sm _ _ upd_same) (.cons (.str _) (.cons .non .nil)) (le_line (by decide : 2 ≤ 4096))) w3
 ·obtain ⟨fo, t, v, h1, h2, h3, h4, h5⟩ := xx
  obtain ⟨c1, c2⟩ := cf _ h2
  obtain ⟨tv, g1, g2⟩ := rf.get h3
  have fin : ∀ fv, Rep X.K F3 fv v → ∀ p', H3 p' = none → Q (.ref p') (upd H3 p' (.tup [tv, fv])) := fun fv gv p' hp' => by
   obtain ⟨S4, e4⟩ := S3.lay hp' (.tup [tv, fv])
   exact pv _ _ _ _ _ ((e2.trans e3).trans e4) S4 (.tup upd_same (.cons (g2.mono e4.sm) (.cons (gv.mono e4.sm) .nil)) (le_line (by decide : 2 ≤ 4096))) h5
  cases fo with
  | none =>
   have h4 : v = D.non := h4
   subst h4
   exact ⟨nm, none, dd, vfs, tv, .non, rfl, h1, rfl, hdd, c1, g1, rfl, fin _ .non⟩
  | some f =>
   obtain ⟨fv, g3, g4⟩ := rf.get (show fs.lookup f = some v from h4)
   exact ⟨nm, some f, dd, vfs, tv, fv, rfl, h1, rfl, hdd, c1, g1, ⟨c2 f rfl, g3⟩, fin _ g4⟩
theorem de_ask {Tq : TkC} {tb : XTab} {cl : List ClD} {rs : List (Str × Option Str)} {x a q : Str} {g c P : Addr} {k : Nat} {pg : Arguments} {bg : List Stmt} {sg : Scope} {dV kV doc pm cdv ct oc : Value} {an od : Option Addr} {osl : Array (Option Value)} {Ng : List Str}
  {params : Arguments} {body : Expr} {scope : Scope} {wb : WE} {p lpos pos : Pos} (hq : X.env.qual ++ "<lambda>" = q) (hg : Gl X x) (hm : X.mg x = some (.ref g)) (hk : PySem.W.keepIn X.K (.ref g) = true)
  (lk : X.K.lookup g = some ⟨oc, od, .func (PySem.W.fnOf x x pg bg sg dV kV doc pm an cdv ct), osl⟩) (hcg : PySem.W.codeIn X.K cdv x = true) (hb : L2.Binds X.K (PySem.W.fnOf x x pg bg sg dV kV doc pm an cdv ct) [a] []) (Sg : FnScope Ng [a] sg) (hNg : Ng[0]? = some a) (hva : Vis sg a)
  (hG : GivesTo X Ng x sg g cdv bg a q (TTask X.K tb cl)) (cf : ∀ p ∈ rs, XfN X.K (He.ga X.K p.1) ("tag" : Str) ∧ ∀ f, p.2 = some f → XfN X.K (He.ga X.K p.1) f)
  (TB : TabB X.base X.mg c P) (hcode : X.env.code = .ref c) (hr : Room (k + 2) X.A) (L : LamS X.env.scope scope) (hdef : defaultsOf params X.env = ([], []))
  (hbind : ∀ (q : Str) (cl : List (Str × Addr)) (pm cv ctv : Value), bindArgs (PySem.W.kla_fn "<lambda>" q params body scope cl pm cv ctv) ⟨[], []⟩ = pure [])
  (hbody : ∀ (A : Around) (outer : List Env) (s : Shared) (H : Hp) (E : XK) (f c' : Addr), Room k (A.deeper (lamEnv X scope s.heap.objs.size f c')) → DE tkL (lamCx X A outer s H E scope f c') body wb)
  (hdb : (x == ("__debug__" : Str)) = false := by decide) (hd : (a == ("__debug__" : Str)) = false := by decide) (hcd : (a == ("__classdict__" : Str)) = false := by decide) :
  DE Tq X (.Call (.Name x p) [.Lambda params body scope lpos] [] pos) (wAsk P q tb cl rs wb) := by
 subst hq
 refine ⟨fun W tk => pe_imp (pe_lamcall3 (t := fun E => tOf X.K (fun c d _ H => E c d H) wb) hg hm hk lk hcg hb Sg hNg hva hG TB hcode hr L hdef hbind (fun A outer s H E f c' hr => (hbody A outer s H E f c' hr).pe _ (takes_of rfl rfl rfl rfl)) hdb hd hcd) fun σ H Q qq => ?_⟩
 obtain ⟨F, M, ρ, k, x, S, E, ⟨w1, w⟩, pv, px⟩ := qq
 obtain ⟨fP, o, hP, ps, e, ht, hA⟩ := S.mu P _ w1
 subst e
 refine ⟨ps, hP, ht, fun pos cv hc => ?_, ask_in cf S E w pv, fun c' l m hc => ?_⟩
 ·obtain ⟨c0, h1, h2⟩ := hA pos cv hc
  exact ⟨c0, h1, S.fz _ _ h2⟩
 ·obtain ⟨S2, e2⟩ := S.newCode (l := l) (m := m) w1 hP ht hA hc
  exact ask_in cf S2 (E.mono e2.sm) w (pv.on e2)
end
end DL
namespace DL
open PySem PySem.Spec PyProof.Rows L2 LamX
section
variable {P : Program} {w : World} {K : PySem.W.Frag} {mg : Str → Option Value} {base : Heap}
theorem fn_dT {x qual : Str} {st : Stmt} {fd : FuncData} {N ps : List Str} {k : Nat} {wf : WF} {wb : WS} (G : Fun K x qual st (He.ga K x) fd) (S : FnScope N ps (defScope st))
  (hb : ∀ (cdv : Value), cdv = .ref (He.codeOf K (x, none)) → ∀ (A : Around) (outer : List Env) (s : Shared) (H : Hp) (E : XK), Room k (A.deeper (envOfC qual (defScope st) s.heap.objs.size (He.ga K x) cdv)) → DSs tkN (cxOf (L2N.CX P w) P w K mg base N qual (defScope st) (He.ga K x) cdv A outer s H E) (defBody st) wb)
  (hw : ∀ ds M k x, ds.length = ps.length → wf ds M k x → wb (startD N ds) M (retE k x)) : FnOk P w K mg base (L2N.CX P w) (k + 1) (He.ga K x) fd ps (spD K ps.length wf) := by
 obtain ⟨oc, od, kV, doc, pm, an, cdv, ct, osl, rfl, lk, hcd⟩ := G.ex
 obtain ⟨c, rfl⟩ := He.codeIn_ref hcd
 have ec : He.codeOf K (x, none) = c := He.codeOf_eq (p := (x, none)) lk rfl
 refine fn_of lk hcd S (fun vs H Q E h => ?_) fun A outer s H vs Q E hr h => ?_
 ·obtain ⟨F, M, ds, k, x, S, r, hl, _⟩ := h
  exact r.length.trans hl
 ·have d := hb (.ref c) (by rw [ec]) A outer s H E hr
  refine ⟨_, d.ps (fun cls d _ H => E cls d H) (L2N.takes_of rfl rfl rfl rfl) (passes_of rfl), ?_⟩
  obtain ⟨F, M, ds, k, x, S1, r, hl, q, pv, px⟩ := h
  exact ⟨F, M, startD N ds, retE k x, S1, RepE.start r, hw ds M k x hl q, fun σ' ρ' H' F' M' e' S' R' w' => pv.lt _ _ _ _ _ e' S' .non w', pv.lt, fun _ _ _ _ _ _ _ _ z => z.elim, fun _ _ _ _ _ _ _ _ z => z.elim, fun σ => px.lt⟩
end
def tabM (P : Addr) (q : Str) : MH := fun b => if b = P then some (.tab q) else none
def sp_lawT (P : Addr) (q : Str) : WF := fun ds M k _ => ∃ ns, ds = [.scr ns] ∧ ns.length ≤ 63 ∧ M = tabM P q ∧ ∀ M', k (.bl true) M'
theorem sp_lawT_in {K : PySem.W.Frag} {H : Hp} {a P : Addr} {q : Str} {ns : List Int} (hl : ns.length ≤ 63) (hP : H P = some (.tbl #[])) (hS : SqL K H a (ns.map V.int)) : spD K 1 (sp_lawT P q) [.ref a] H (fun v _ => v = .bl true) fun _ _ _ => False := by
 have nP : ∀ b o, (if b = P then none else H b) = some o → b ≠ P ∧ H b = some o := fun b o z => by
  by_cases hb : b = P
  ·rw [if_pos hb] at z; cases z
  ·rw [if_neg hb] at z; exact ⟨hb, z⟩
 refine ⟨fun b => if b = P then none else H b, tabM P q, [.scr ns], fun d _ => d = .bl true, fun _ _ _ => False, ⟨fun b o z => (nP b o z).2, fun b m z => ?_⟩, .cons (.scr ?_) .nil, rfl, ⟨ns, rfl, hl, rfl, fun _ => rfl⟩, fun v d H' F' M' _ _ r h => by subst h; cases r; rfl, fun _ _ _ _ _ _ _ _ _ _ _ z => z.elim⟩
 ·unfold tabM at z
  by_cases hb : b = P
  ·subst hb
   rw [if_pos rfl] at z
   cases z
   exact ⟨if_pos rfl, _, hP, #[], rfl, trivial, fun pos cv hc => by
    have z : codeAmong pos [] = some cv := hc
    simp [codeAmong] at z⟩
  ·rw [if_neg hb] at z; cases z
 ·have keep : ∀ o, H a = some o → (∀ q, o ≠ .tbl q) → (if a = P then none else H a) = some o := fun o h n => by
   rw [if_neg (fun z => by rw [z, hP] at h; exact n _ (Option.some.inj h).symm)]
   exact h
  rcases hS with (h | ⟨o, h⟩) | h
  ·exact .inl (.inl (keep _ h (fun q z => by cases z)))
  ·exact .inl (.inr ⟨o, keep _ h (fun q z => by cases z)⟩)
  ·exact .inr h
theorem walk_ofTT {l : PySem.W.OpenLaw} {k : Nat} {q : Program} {loose : List Str} {XP : (Str → Option Value) → Heap → Prop} {YP : World → Heap → Prop} {d : DefRec} {x : Str}
  (hn : l.most = some 63) (hdf : d.params.defaults = []) (hr : Room k callerA)
  (F : ∀ (w : World) (mg : Str → Option Value) (fa : Addr) (h : Heap), YP w h → h.Ns mainGlobals mg → mg d.name = some (.ref fa) →
   ∃ (K : PySem.W.Frag) (fd : FuncData) (c P : Addr) (nm : Str), K.In h ∧ h.get? P = some { cls := .none, data := .fields #[] } ∧ K.lookup P = none ∧ PySem.W.codeHdIn K c P = true ∧ (∀ (s : Shared) (u : Value), BindsTo s fd ⟨[u], []⟩ [(x, u)]) ∧
    ∀ base : Heap, K.In base → base.Ns mainGlobals mg → TabB base mg c P → FnOk l.prog w K mg base (L2N.CX l.prog w) k fa fd [x] (spD K 1 (sp_lawT P nm))) :
  PySem.W.WalkO q loose XP YP l.row.toRowW d [] (fun f vs => PySem.call f vs) := by
 refine walk_ofTsE (x := x) (n := 63) (CX := fun w => L2N.CX l.prog w) hn (by decide) hdf hr (fun w mg fa h Y G hm => ?_) fun w H s e s' h => ?_
 ·obtain ⟨K, fd, c, P, nm, KX, h1, h2, h3, h4, h5⟩ := F w mg fa h Y G hm
  refine ⟨K, KX, fd, [(c, P)], spD K 1 (sp_lawT P nm), fun p hp => ?_, fun p hp => ?_, fun p hp => ?_, h4, fun H a ns hl _ hP hS => sp_lawT_in hl (hP _ List.mem_cons_self) hS, fun base hb hns hT => h5 base hb hns (hT _ List.mem_cons_self)⟩
  ·obtain rfl := List.mem_singleton.mp hp
   exact h1
  ·obtain rfl := List.mem_singleton.mp hp
   exact h2
  ·obtain rfl := List.mem_singleton.mp hp
   exact PySem.W.codeHd_of_K KX h3
 ·obtain ⟨_, _, _, _, _, _, _, _, _, _, _, _, z⟩ := h
  exact z.elim
end DL
namespace DL
open PySem PySem.Spec PyProof.Rows L2 LamX
theorem refsT_split (t : List Value) (a : Value) (r : List Value) (h : refsT t (a :: r) = true) : (∃ c, a = .ref c ∧ refsT t r = true) ∨ a :: r = t := by
 cases a
 case ref c => exact .inl ⟨c, rfl, h⟩
 all_goals exact .inr (beq_iff_eq.mp h)
theorem refsT_ok {t : List Value} {B nI iI : String} (G : BmOk t B nI iI t) : ∀ l : List Value, refsT t l = true → BmOk l B nI iI t
 | [], h => by
  have e : ([] : List Value) = t := beq_iff_eq.mp h
  rw [e]; exact G
 | a :: r, h => by
  rcases refsT_split t a r h with ⟨c, rfl, h2⟩ | e
  ·exact (refsT_ok G r h2).ref
  ·rw [e]; exact G
theorem bmB_ok {n : String} {bm : List Value} (h : bmB n bm = true) : ∃ B iI bB, BmOk bm B n iI bB := by
 unfold bmB at h
 simp only [Bool.or_eq_true, Bool.and_eq_true, beq_iff_eq] at h
 rcases h with ⟨rfl, h⟩ | ⟨rfl, h⟩ | ⟨rfl, h⟩
 ·exact ⟨_, _, _, refsT_ok bmOk_VE _ h⟩
 ·exact ⟨_, _, _, refsT_ok bmOk_LE _ h⟩
 ·exact ⟨_, _, _, refsT_ok bmOk_IE _ h⟩
theorem oexB_ok {K : PySem.W.Frag} {C : Addr} (h : oexB K C = true) : OexG K C := by
 obtain ⟨h1, h⟩ := Bool.and_eq_true_iff.mp h
 obtain ⟨h2, h⟩ := Bool.and_eq_true_iff.mp h
 obtain ⟨h3, h⟩ := Bool.and_eq_true_iff.mp h
 obtain ⟨h4, h5⟩ := Bool.and_eq_true_iff.mp h
 refine ⟨?_, of_decide_eq_true h2, of_decide_eq_true h3, of_decide_eq_true h4, h5⟩
 unfold oexC0 at h1
 split at h1
 ·rename_i dd cd sl ho
  split at h1
  ·rename_i C' bm k0 k1 k2 k3 n k5 hm hs
   simp only [Bool.and_eq_true, beq_iff_eq, Bool.not_eq_true'] at h1
   obtain ⟨rfl, hdel, hdic, hb⟩ := h1
   obtain ⟨B, iI, bB, hb⟩ := bmB_ok hb
   obtain ⟨nm, bs, mro, ns, qn, hd, sn, sub, ab, col, del⟩ := cd
   dsimp only at hm hdel hdic
   subst hm hdel hdic
   have hsl : sl = #[k0, k1, k2, k3, some (.builtin n), k5] := by
    obtain ⟨l⟩ := sl
    simp only at hs
    rw [hs]
   subst hsl
   exact ⟨nm, qn, ns, bs, bm, sn, sub, ab, col, dd, k0, k1, k2, k3, k5, B, n, iI, bB, ho, hb⟩
  ·cases h1
 ·cases h1
theorem xfnB_ok {K : PySem.W.Frag} {C : Addr} {n : Str} (h : xfnB K C n = true) : XfN K C n := by
 obtain ⟨h1, h2⟩ := Bool.and_eq_true_iff.mp h
 exact ⟨xfB_ok h1, of_decide_eq_true h2⟩
section
variable {K : PySem.W.Frag} {rs : List (Str × Option Str)} {tb : XTab}
theorem excsB_tab (h : excsB rs tb K = true) : tb.ok K := fun p hp => of_decide_eq_true (List.all_eq_true.mp (Bool.and_eq_true_iff.mp h).2 p hp)
theorem excsB_one (h : excsB rs tb K = true) {p : Str × Option Str} (hp : p ∈ rs) : OexG K (He.ga K p.1) ∧ XfN K (He.ga K p.1) ("tag" : Str) ∧ ∀ f, p.2 = some f → XfN K (He.ga K p.1) f := by
 have q := List.all_eq_true.mp (Bool.and_eq_true_iff.mp h).1 p hp
 obtain ⟨q1, q⟩ := Bool.and_eq_true_iff.mp q
 obtain ⟨q2, q3⟩ := Bool.and_eq_true_iff.mp q
 refine ⟨oexB_ok q1, xfnB_ok q2, fun f e => ?_⟩
 rw [e] at q3
 exact xfnB_ok q3
end
end DL
namespace DL
open PySem PySem.Spec PyProof.Rows L2 LamX
structure AskF (K : PySem.W.Frag) (mg : Str → Option Value) (x a : Str) (st : Stmt) (Ng : List Str) (tb : XTab) (cl : List ClD) (rs : List (Str × Option Str)) : Prop where
 fn : ∃ g fd, Fun K x x st g fd ∧ mg x = some (.ref g)
 sc : FnScope Ng [a] (defScope st)
 nm : Ng[0]? = some a ∧ Vis (defScope st) a
 bi : ∀ (kV doc pm : Value) (an : Option Addr) (cdv ct : Value) (us : List Value), us.length = 1 → bindArgs (PySem.W.fnOf x x (defArgs st) (defBody st) (defScope st) .none kV doc pm an cdv ct) ⟨us, []⟩ = pure ([a].zip us)
 gives : ∀ (X : Cx) (g : Addr) (cdv : Value) (q : Str), X.K = K → X.mg = mg → GivesTo X Ng x (defScope st) g cdv (defBody st) a q (TTask X.K tb cl)
 tells : ∀ p ∈ rs, XfN K (He.ga K p.1) ("tag" : Str) ∧ ∀ f, p.2 = some f → XfN K (He.ga K p.1) f
section
variable {X : Cx}
theorem de_askF {Tq : TkC} {tb : XTab} {cl : List ClD} {rs : List (Str × Option Str)} {x a q : Str} {c P : Addr} {k : Nat} {st : Stmt} {Ng : List Str} {params : Arguments} {body : Expr} {scope : Scope} {wb : WE} {p lpos pos : Pos} (F : AskF X.K X.mg x a st Ng tb cl rs) (TB : TabB X.base X.mg c P) (hcode : X.env.code = .ref c) (hr : Room (k + 2) X.A)
  (hbody : ∀ (A : Around) (outer : List Env) (s : Shared) (H : Hp) (E : XK) (f c' : Addr), Room k (A.deeper (lamEnv X scope s.heap.objs.size f c')) → DE tkL (lamCx X A outer s H E scope f c') body wb)
  (hq : X.env.qual ++ "<lambda>" = q := by rfl) (L : LamS X.env.scope scope := by exact lamS_by (by decide +kernel)) (hdef : defaultsOf params X.env = ([], []) := by rfl)
  (hbind : ∀ (q : Str) (cl : List (Str × Addr)) (pm cv ctv : Value), bindArgs (PySem.W.kla_fn "<lambda>" q params body scope cl pm cv ctv) ⟨[], []⟩ = pure [] := by intro _ _ _ _ _; rfl) (hg : Gl X x := by rfl)
  (hdb : (x == ("__debug__" : Str)) = false := by decide) (hd : (a == ("__debug__" : Str)) = false := by decide) (hcd : (a == ("__classdict__" : Str)) = false := by decide) :
  DE Tq X (.Call (.Name x p) [.Lambda params body scope lpos] [] pos) (wAsk P q tb cl rs wb) := by
 obtain ⟨g, fd, G, hm⟩ := F.fn
 have hb := G.binds (ps := [a]) F.bi
 obtain ⟨oc, od, kV, doc, pm, an, cdv, ct, osl, rfl, lk, hcg⟩ := G.ex
 exact de_ask hq hg hm G.kp lk hcg hb F.sc F.nm.1 F.nm.2 (F.gives X g cdv q rfl rfl) F.tells TB hcode hr L hdef hbind hbody hdb hd hcd
end
end DL
namespace DL
open PySem PySem.Spec PyProof.Rows L2
local macro_rules | `(tactic| walk_at "w") => `(tactic| try conv => whnf)
def nameD (z : Str) : Bool := decide (1 ≤ z.length) && decide (z.length ≤ 8) && z.cps.toList.all fun c => occS ⟨#[c]⟩ "abcdefghijklmnopqrstuvwxyz"
end DL
namespace DL
open PySem PySem.Spec PyProof.Rows L2
def signs (z : Str) : List D := z.cps.toList.map fun c => D.str ⟨#[c]⟩
end DL
namespace DL
open PySem PySem.Spec PyProof.Rows L2
local macro_rules | `(tactic| walk_at "w") => `(tactic| try conv => whnf)
theorem units65 {k : Nat} {A : Around} (hr : Room k A) : A.units + 65 < cLine := by have := hr.un; omega
section
variable {X : Cx}
end
end DL
namespace DM
open PySem PySem.Spec PyProof.Rows L2 DL
inductive Rs (α : Type) where
 | ok (a : α) | exc (nm : Str) (fs : List (Str × D)) | bad
inductive Vl where
 | v (d : D) | o (m : MO)
abbrev Rm := List (Option Vl)
structure M0T where
 m : MH
 a : Option Addr
def RelV (M0 : M0T) (M : MH) : Vl → D → Prop
 | .v d, e => e = d
 | .o m, e => ∃ a, e = .ref a ∧ M a = some m ∧ M0.m a = none
inductive RelVs (M0 : M0T) (M : MH) : List Vl → List D → Prop
 | nil : RelVs M0 M [] []
 | cons {u : Vl} {d : D} {us : List Vl} {ds : List D} : RelV M0 M u d → RelVs M0 M us ds → RelVs M0 M (u :: us) (d :: ds)
structure Own (M0 : M0T) (M : MH) (r : Rm) (ρ : Rh) : Prop where
 len : ρ.length = r.length
 sub : Sub M0.m M
 slf : ∀ (a : Addr) (m : MO), M0.a = some a → r[0]? = some (some (.o m)) → ρ[0]? = some (some (.ref a))
 at_ : ∀ (i : Nat) (u : Vl), r[i]? = some (some u) → ∃ d, ρ[i]? = some (some d) ∧ RelV M0 M u d
 inj : ∀ (i j : Nat) (m m' : MO) (a : Addr), r[i]? = some (some (.o m)) → r[j]? = some (some (.o m')) → ρ[i]? = some (some (.ref a)) → ρ[j]? = some (some (.ref a)) → i = j
section
variable {M0 : M0T} {M : MH} {r : Rm} {ρ : Rh}
theorem Own.lt (h : Own M0 M r ρ) {i : Nat} {u : Option Vl} (e : r[i]? = some u) : i < ρ.length := by
 rw [h.len]
 exact (List.getElem?_eq_some_iff.mp e).1
theorem look_set {α : Type} {l : List α} {i j : Nat} {a b : α} (h : (l.set i a)[j]? = some b) : (j = i ∧ b = a) ∨ (j ≠ i ∧ l[j]? = some b) := by
 by_cases e : i = j
 ·subst e
  have hl : i < l.length := by
   have := (List.getElem?_eq_some_iff.mp h).1
   rwa [List.length_set] at this
  rw [List.getElem?_set_self hl] at h
  cases h
  exact .inl ⟨rfl, rfl⟩
 ·rw [List.getElem?_set_ne e] at h
  exact .inr ⟨fun q => e q.symm, h⟩
theorem Own.set (h : Own M0 M r ρ) (i : Nat) (d : D) : Own M0 M (r.set i (some (.v d))) (ρ.set i (some d)) where
 len := by rw [List.length_set, List.length_set]; exact h.len
 sub := h.sub
 slf := fun a m e1 e2 => by
  rcases look_set e2 with ⟨_, e⟩ | ⟨hj, e⟩
  ·cases e
  ·rw [List.getElem?_set_ne (fun q => hj q.symm)]; exact h.slf a m e1 e
 at_ := fun j u e => by
  have hl : j < ρ.length := by
   have := (List.getElem?_eq_some_iff.mp e).1
   rw [List.length_set] at this
   rw [h.len]; exact this
  rcases look_set e with ⟨hj, e'⟩ | ⟨hj, e'⟩
  ·cases e'
   rw [hj] at hl ⊢
   exact ⟨d, List.getElem?_set_self hl, rfl⟩
  ·rw [List.getElem?_set_ne (fun q => hj q.symm)]
   exact h.at_ j u e'
 inj := fun j k m m' a e1 e2 f1 f2 => by
  rcases look_set e1 with ⟨_, e1⟩ | ⟨hj, e1⟩
  ·cases e1
  rcases look_set e2 with ⟨_, e2⟩ | ⟨hk, e2⟩
  ·cases e2
  rw [List.getElem?_set_ne (fun q => hj q.symm)] at f1
  rw [List.getElem?_set_ne (fun q => hk q.symm)] at f2
  exact h.inj j k m m' a e1 e2 f1 f2
theorem Own.wipe1 (h : Own M0 M r ρ) (i : Nat) : Own M0 M (r.set i none) ρ where
 len := by rw [List.length_set]; exact h.len
 sub := h.sub
 slf := fun a m e1 e2 => by
  rcases look_set e2 with ⟨_, e⟩ | ⟨hj, e⟩
  ·cases e
  ·exact h.slf a m e1 e
 at_ := fun j u e => by
  rcases look_set e with ⟨_, e⟩ | ⟨_, e⟩
  ·cases e
  ·exact h.at_ j u e
 inj := fun j k m m' a e1 e2 f1 f2 => by
  rcases look_set e1 with ⟨_, e1⟩ | ⟨hj, e1⟩
  ·cases e1
  rcases look_set e2 with ⟨_, e2⟩ | ⟨hk, e2⟩
  ·cases e2
  exact h.inj j k m m' a e1 e2 f1 f2
theorem Own.wipe2 (h : Own M0 M r ρ) (i : Nat) (x : Option D) : Own M0 M (r.set i none) (ρ.set i x) where
 len := by rw [List.length_set, List.length_set]; exact h.len
 sub := h.sub
 slf := fun a m e1 e2 => by
  rcases look_set e2 with ⟨_, e⟩ | ⟨hj, e⟩
  ·cases e
  ·rw [List.getElem?_set_ne (fun q => hj q.symm)]; exact h.slf a m e1 e
 at_ := fun j u e => by
  rcases look_set e with ⟨_, e⟩ | ⟨hj, e⟩
  ·cases e
  ·rw [List.getElem?_set_ne (fun q => hj q.symm)]; exact h.at_ j u e
 inj := fun j k m m' a e1 e2 f1 f2 => by
  rcases look_set e1 with ⟨_, e1⟩ | ⟨hj, e1⟩
  ·cases e1
  rcases look_set e2 with ⟨_, e2⟩ | ⟨hk, e2⟩
  ·cases e2
  rw [List.getElem?_set_ne (fun q => hj q.symm)] at f1
  rw [List.getElem?_set_ne (fun q => hk q.symm)] at f2
  exact h.inj j k m m' a e1 e2 f1 f2
def wipeM (r : Rm) : List Nat → Rm
 | [] => r
 | v :: vs => (wipeM r vs).set v none
theorem Own.wipe (h : Own M0 M r ρ) : ∀ is : List Nat, Own M0 M (wipeM r is) ρ
 | [] => h
 | i :: is => (h.wipe is).wipe1 i
theorem Own.wipeD (h : Own M0 M r ρ) : ∀ is : List Nat, Own M0 M (wipeM r is) (wipeD ρ is)
 | [] => h
 | i :: is => (h.wipeD is).wipe2 i none
theorem Own.new (h : Own M0 M r ρ) (i : Nat) {a : Addr} (ha : M a = none) (m : MO) (hi : i ≠ 0) : Own M0 (mupd M a m) (r.set i (some (.o m))) (ρ.set i (some (.ref a))) := by
 have h0 : M0.m a = none := by
  cases e : M0.m a with
  | none => rfl
  | some z => rw [h.sub a z e] at ha; cases ha
 have old : ∀ j u, r[j]? = some (some u) → ∃ d, ρ[j]? = some (some d) ∧ RelV M0 (mupd M a m) u d ∧ (∀ n, u = .o n → d ≠ .ref a) := fun j u e => by
  obtain ⟨d, e1, e2⟩ := h.at_ j u e
  refine ⟨d, e1, ?_, ?_⟩
  ·cases u with
   | v z => exact e2
   | o n =>
    obtain ⟨b, rfl, hb, hb0⟩ := e2
    exact ⟨b, rfl, by rw [mupd_ne (fun z => by rw [z, ha] at hb; cases hb)]; exact hb, hb0⟩
  ·rintro n rfl rfl
   obtain ⟨b, hb, hb1, _⟩ := e2
   cases hb
   rw [ha] at hb1
   cases hb1
 exact {
  len := by rw [List.length_set, List.length_set]; exact h.len
  slf := fun b n e1 e2 => by
   rcases look_set e2 with ⟨hj, _⟩ | ⟨hj, e⟩
   ·exact absurd hj.symm hi
   ·rw [List.getElem?_set_ne (fun q => hj q.symm)]; exact h.slf b n e1 e
  sub := fun b z hb => by
   rw [mupd_ne (fun q => by rw [q, h0] at hb; cases hb)]
   exact h.sub b z hb
  at_ := fun j u e => by
   have hl : j < ρ.length := by
    have := (List.getElem?_eq_some_iff.mp e).1
    rw [List.length_set] at this
    rw [h.len]; exact this
   rcases look_set e with ⟨hj, e'⟩ | ⟨hj, e'⟩
   ·cases e'
    rw [hj] at hl ⊢
    exact ⟨.ref a, List.getElem?_set_self hl, a, rfl, mupd_same, h0⟩
   ·rw [List.getElem?_set_ne (fun q => hj q.symm)]
    obtain ⟨d, e1, e2, _⟩ := old j u e'
    exact ⟨d, e1, e2⟩
  inj := fun j k n n' b e1 e2 f1 f2 => by
   have hl1 : j < ρ.length := by
    have := (List.getElem?_eq_some_iff.mp f1).1
    rwa [List.length_set] at this
   have hl2 : k < ρ.length := by
    have := (List.getElem?_eq_some_iff.mp f2).1
    rwa [List.length_set] at this
   rcases look_set e1 with ⟨hj, e1'⟩ | ⟨hj, e1'⟩
   ·rcases look_set e2 with ⟨hk, e2'⟩ | ⟨hk, e2'⟩
    ·rw [hj, hk]
    ·rw [hj] at f1 hl1
     rw [List.getElem?_set_self hl1] at f1
     cases f1
     rw [List.getElem?_set_ne (fun q => hk q.symm)] at f2
     obtain ⟨d, g1, _, g3⟩ := old k _ e2'
     rw [f2] at g1
     cases g1
     exact absurd rfl (g3 _ rfl)
   ·rcases look_set e2 with ⟨hk, e2'⟩ | ⟨hk, e2'⟩
    ·rw [hk] at f2 hl2
     rw [List.getElem?_set_self hl2] at f2
     cases f2
     rw [List.getElem?_set_ne (fun q => hj q.symm)] at f1
     obtain ⟨d, g1, _, g3⟩ := old j _ e1'
     rw [f1] at g1
     cases g1
     exact absurd rfl (g3 _ rfl)
    ·rw [List.getElem?_set_ne (fun q => hj q.symm)] at f1
     rw [List.getElem?_set_ne (fun q => hk q.symm)] at f2
     exact h.inj j k n n' b e1' e2' f1 f2 }
theorem Own.upd (h : Own M0 M r ρ) {i : Nat} {m0 : MO} (hi : r[i]? = some (some (.o m0))) {a : Addr} (hr : ρ[i]? = some (some (.ref a))) (m : MO) : Own M0 (mupd M a m) (r.set i (some (.o m))) ρ := by
 have h0 : M a = some m0 ∧ M0.m a = none := by
  obtain ⟨d, e1, e2⟩ := h.at_ i _ hi
  rw [hr] at e1
  cases e1
  obtain ⟨b, hb, h1, h2⟩ := e2
  cases hb
  exact ⟨h1, h2⟩
 have old : ∀ j u, j ≠ i → r[j]? = some (some u) → ∃ d, ρ[j]? = some (some d) ∧ RelV M0 (mupd M a m) u d := fun j u hj e => by
  obtain ⟨d, e1, e2⟩ := h.at_ j u e
  refine ⟨d, e1, ?_⟩
  cases u with
  | v z => exact e2
  | o n =>
   obtain ⟨b, rfl, hb, hb0⟩ := e2
   refine ⟨b, rfl, ?_, hb0⟩
   rw [mupd_ne (fun z => hj (h.inj j i n m0 a e hi (by rw [e1, z]) hr))]
   exact hb
 exact {
  len := by rw [List.length_set]; exact h.len
  slf := fun b n e1 e2 => by
   rcases look_set e2 with ⟨hj, _⟩ | ⟨hj, e⟩
   ·subst hj; exact h.slf b m0 e1 hi
   ·exact h.slf b n e1 e
  sub := fun b z hb => by
   rw [mupd_ne (fun q => by rw [q, h0.2] at hb; cases hb)]
   exact h.sub b z hb
  at_ := fun j u e => by
   rcases look_set e with ⟨hj, e'⟩ | ⟨hj, e'⟩
   ·cases e'
    rw [hj]
    exact ⟨.ref a, hr, a, rfl, mupd_same, h0.2⟩
   ·exact old j u hj e'
  inj := fun j k n n' b e1 e2 f1 f2 => by
   have pre : ∀ {j : Nat} {n : MO}, (r.set i (some (.o m)))[j]? = some (some (.o n)) → ∃ n0, r[j]? = some (some (.o n0)) := fun e => by
    rcases look_set e with ⟨hj, _⟩ | ⟨_, e'⟩
    ·rw [hj]; exact ⟨m0, hi⟩
    ·exact ⟨_, e'⟩
   obtain ⟨n1, q1⟩ := pre e1
   obtain ⟨n2, q2⟩ := pre e2
   exact h.inj j k n1 n2 b q1 q2 f1 f2 }
end
def startM (N : List Str) (ds : List D) : Rm := ds.map (fun d => some (.v d)) ++ List.replicate (N.length - ds.length) none
theorem Own.start (M : MH) (N : List Str) (ds : List D) : Own ⟨M, none⟩ M (startM N ds) (startD N ds) where
 len := by unfold startM startD; simp
 slf := fun a m e => by cases e
 sub := Sub.refl M
 at_ := fun i u e => by
  unfold startM at e
  unfold startD
  by_cases hi : i < ds.length
  ·rw [List.getElem?_append_left (by rw [List.length_map]; exact hi)] at e
   rw [List.getElem?_append_left (by rw [List.length_map]; exact hi)]
   rw [List.getElem?_map] at e ⊢
   rw [List.getElem?_eq_getElem hi] at e ⊢
   cases e
   exact ⟨_, rfl, rfl⟩
  ·rw [List.getElem?_append_right (by rw [List.length_map]; omega)] at e
   obtain ⟨_, e2⟩ := List.getElem?_eq_some_iff.mp e
   rw [List.getElem_replicate] at e2
   cases e2
 inj := fun i j m m' a e1 => by
  unfold startM at e1
  by_cases hi : i < ds.length
  ·rw [List.getElem?_append_left (by rw [List.length_map]; exact hi), List.getElem?_map, List.getElem?_eq_getElem hi] at e1
   cases e1
  ·rw [List.getElem?_append_right (by rw [List.length_map]; omega)] at e1
   obtain ⟨_, e2⟩ := List.getElem?_eq_some_iff.mp e1
   rw [List.getElem_replicate] at e2
   cases e2
abbrev Ans := Rs D
abbrev KV := Vl → Ans
abbrev XV := Str → List (Str × D) → Ans
abbrev WM := Rm → KV → XV → Ans
abbrev WMT := Rm → (Bool → Ans) → XV → Ans
abbrev WMA := Rm → (List Vl → Ans) → XV → Ans
structure Lk (G : Ans → Prop) (M : MH) (X : XV) (x : KE) : Prop where
 nb : ¬ G .bad
 xc : ∀ n fs, G (X n fs) → x n fs M
def wE (m : WM) : WE := fun ρ M k x => ∃ M0 r K X G, Own M0 M r ρ ∧ Lk G M X x ∧ (∀ u d, RelV M0 M u d → G (K u) → k d M) ∧ G (m r K X)
def wT (m : WMT) : WT := fun ρ M k x => ∃ M0 r K X G, Own M0 M r ρ ∧ Lk G M X x ∧ (∀ b, G (K b) → k b M) ∧ G (m r K X)
def wA (m : WMA) : WA := fun ρ M k x => ∃ M0 r K X G, Own M0 M r ρ ∧ Lk G M X x ∧ (∀ us ds, RelVs M0 M us ds → G (K us) → k ds M) ∧ G (m r K X)
abbrev ME (Tq : TkC) (X : Cx) (e : Expr) (m : WM) : Prop := DE Tq X e (wE m)
abbrev MT (Tq : TkC) (X : Cx) (e : Expr) (m : WMT) : Prop := DT Tq X e (wT m)
abbrev MA (Tq : TkC) (X : Cx) (es : List Expr) (m : WMA) : Prop := DA Tq X es (wA m)
section
variable {X : Cx}
theorem de_weak {Tq : TkC} {e : Expr} {w w' : WE} (h : DE Tq X e w) (i : ∀ ρ M k x, w' ρ M k x → w ρ M k x) : DE Tq X e w' := ⟨fun W tk => pe_imp (h.pe W tk) fun σ H Q q => by
 obtain ⟨F, M, ρ, k, x, S, E, w, r⟩ := q
 exact ⟨F, M, ρ, k, x, S, E, i _ _ _ _ w, r⟩⟩
theorem dt_weak {Tq : TkC} {e : Expr} {w w' : WT} (h : DT Tq X e w) (i : ∀ ρ M k x, w' ρ M k x → w ρ M k x) : DT Tq X e w' := ⟨fun W tk => pt_imp (h.pt W tk) fun σ H Q q => by
 obtain ⟨F, M, ρ, k, x, S, E, w, r⟩ := q
 exact ⟨F, M, ρ, k, x, S, E, i _ _ _ _ w, r⟩⟩
theorem da_weak {Tq : TkC} {es : List Expr} {w w' : WA} (h : DA Tq X es w) (i : ∀ ρ M k x, w' ρ M k x → w ρ M k x) : DA Tq X es w' := ⟨fun W tk => pa_imp (h.pa W tk) fun σ H Q q => by
 obtain ⟨F, M, ρ, k, x, S, E, w, r⟩ := q
 exact ⟨F, M, ρ, k, x, S, E, i _ _ _ _ w, r⟩⟩
theorem ds_weak {Tq : TkC} {st : Stmt} {w w' : WS} (h : DS Tq X st w) (i : ∀ ρ M E, w' ρ M E → w ρ M E) : DS Tq X st w' := ⟨fun W tk hp => ps_imp (h.ps W tk hp) fun D σ H q => by
 obtain ⟨F, M, ρ, E, S, R, w, r⟩ := q
 exact ⟨F, M, ρ, E, S, R, i _ _ _ w, r⟩⟩
theorem dss_weak {Tq : TkC} {st : List Stmt} {w w' : WS} (h : DSs Tq X st w) (i : ∀ ρ M E, w' ρ M E → w ρ M E) : DSs Tq X st w' := ⟨fun W tk hp => pss_imp (h.ps W tk hp) fun D σ H q => by
 obtain ⟨F, M, ρ, E, S, R, w, r⟩ := q
 exact ⟨F, M, ρ, E, S, R, i _ _ _ w, r⟩⟩
end
def vK (o : Option D) (K : KV) : Ans := match o with
 | some z => K (.v z)
 | none => .bad
def kO (o : Option D) (k : KD) (M : MH) : Prop := match o with
 | some d => k d M
 | none => False
theorem kO_of {M0 : M0T} {M : MH} {G : Ans → Prop} {X : XV} {x : KE} {K : KV} {k : KD} {o : Option D} (L : Lk G M X x) (hk : ∀ u d, RelV M0 M u d → G (K u) → k d M) (g : G (vK o K)) : kO o k M := by
 cases o with
 | some d => exact hk (.v _) d rfl g
 | none => exact L.nb g
def mVar (i : Nat) : WM := fun r K _ => match r[i]? with
 | some (some u) => K u
 | _ => .bad
def mC (d : D) : WM := fun _ K _ => K (.v d)
def mOp (f : Vl → Vl → Option D) (ma mb : WM) : WM := fun r K X => ma r (fun u => mb r (fun v => vK (f u v) K) X) X
def mUn (f : Vl → Option D) (ma : WM) : WM := fun r K X => ma r (fun u => vK (f u) K) X
def OpM (rd : RD) (f : Vl → Vl → Option D) : Prop := ∀ M0 M u v d e k, RelV M0 M u d → RelV M0 M v e → kO (f u v) k M → rd d e M k
def UnM (rd : D → MH → KD → Prop) (f : Vl → Option D) : Prop := ∀ M0 M u d k, RelV M0 M u d → kO (f u) k M → rd d M k
section
variable {X : Cx} {pos : Pos} {a b : Expr} {ma mb : WM}
theorem me_of {Tq : TkC} {e : Expr} {d : D} (h : DE Tq X e (wC d)) : ME Tq X e (mC d) := de_weak h fun ρ M k x ⟨M0, r, K, XX, G, O, L, hk, g⟩ => hk (.v _) d rfl g
theorem mv {Tq : TkC} (i : Nat) {x : Str} (hN : X.N[i]? = some x := by rfl) (hv : Vis X.env.scope x := by first | exact Or.inl rfl | exact Or.inr (Or.inl rfl) | exact Or.inr (Or.inr rfl)) (hd : (x == ("__debug__" : Str)) = false := by decide)
  (hcd : (x == ("__classdict__" : Str)) = false := by decide) : ME Tq X (.Name x pos) (mVar i) := de_weak (dv i hN hv hd hcd) fun ρ M k x ⟨M0, r, K, XX, G, O, L, hk, g⟩ => by
 unfold mVar at g
 unfold wVar
 split at g
 ·rename_i u e
  obtain ⟨d, e1, e2⟩ := O.at_ i u e
  rw [e1]
  exact hk u d e2 g
 ·exact (L.nb g).elim
theorem me_int {Tq : TkC} {i : Int} {j} : ME Tq X (.Constant (.int i) j pos) (mC (.int i)) := me_of de_int
theorem me_bl {Tq : TkC} {b : Bool} {j} : ME Tq X (.Constant (.bool b) j pos) (mC (.bl b)) := me_of de_bl
theorem me_gint {Tq : TkC} {x : Str} {i : Int} (hm : ∃ t, X.mg x = some (.int i t)) (hg : Gl X x := by rfl) (hd : (x == ("__debug__" : Str)) = false := by decide) : ME Tq X (.Name x pos) (mC (.int i)) := me_of (de_gint hm hg hd)
theorem me_op {Tq : TkC} {op : Operator} {rd : RD} {f : Vl → Vl → Option D} (ho : OpD X (binaryOp op) rd) (hf : OpM rd f) (ha : ME Tq X a ma) (hb : ME Tq X b mb) : ME Tq X (.BinOp a op b pos) (mOp f ma mb) :=
 de_weak (de_op ho ha hb) fun ρ M k x ⟨M0, r, K, XX, G, O, L, hk, g⟩ => ⟨M0, r, _, XX, G, O, L, fun u d hu g => ⟨M0, r, _, XX, G, O, L, fun v e hv g => hf M0 M u v d e k hu hv (kO_of L hk g), g⟩, g⟩
theorem me_un {Tq : TkC} {op : UnaryOp} {rd : D → MH → KD → Prop} {f : Vl → Option D} (ho : UnD X (unaryOp op) rd) (hf : UnM rd f) (ha : ME Tq X a ma) : ME Tq X (.UnaryOp op a pos) (mUn f ma) :=
 de_weak (de_un ho ha) fun ρ M k x ⟨M0, r, K, XX, G, O, L, hk, g⟩ => ⟨M0, r, _, XX, G, O, L, fun u d hu g => hf M0 M u d k hu (kO_of L hk g), g⟩
theorem me_cmp {Tq : TkC} {op : CmpOp} {rd : RD} {f : Vl → Vl → Option D} (ho : OpD X (compareOp op) rd) (hf : OpM rd f) (ha : ME Tq X a ma) (hb : ME Tq X b mb) (hm : behindInMarks op b = false := by first | exact nomark _ | rfl) : ME Tq X (.Compare a [op] [b] pos) (mOp f ma mb) :=
 de_weak (de_cmp ho ha hb hm) fun ρ M k x ⟨M0, r, K, XX, G, O, L, hk, g⟩ => ⟨M0, r, _, XX, G, O, L, fun u d hu g => ⟨M0, r, _, XX, G, O, L, fun v e hv g => hf M0 M u v d e k hu hv (kO_of L hk g), g⟩, g⟩
def onB (u : Vl) (f : Bool → Ans) : Ans := match u with
 | .v (.bl b) => f b
 | _ => .bad
theorem onB_in {M0 : M0T} {M : MH} {G : Ans → Prop} {XX : XV} {x : KE} {u : Vl} {d : D} {f : Bool → Ans} {p : Bool → Prop} (L : Lk G M XX x) (hu : RelV M0 M u d) (g : G (onB u f)) (h : ∀ b, G (f b) → p b) : onBl d p := by
 cases u with
 | o n => exact (L.nb g).elim
 | v z =>
  cases hu
  cases d with
  | bl b => exact h b g
  | _ => exact (L.nb g).elim
def mTest (m : WM) : WMT := fun r K X => m r (fun u => onB u K) X
theorem test_in {m : WM} {ρ : Rh} {M : MH} {k : Bool → MH → Prop} {x : KE} (h : wT (mTest m) ρ M k x) : wTest (wE m) ρ M k x := by
 obtain ⟨M0, r, K, XX, G, O, L, hk, g⟩ := h
 exact ⟨M0, r, _, XX, G, O, L, fun u d hu g => onB_in L hu g hk, g⟩
theorem mt_val {Tq : TkC} {e : Expr} {m : WM} (h : ME Tq X e m) (he : ∀ whole, isTrue e X.env whole = (do let v ← whole; standAt e.pos; holding [v] (truthy v)) := by intro _; rfl) : MT Tq X e (mTest m) := dt_weak (dt_val h he) fun ρ M k x q => test_in q
theorem wTest_imp {w w' : WE} {ρ : Rh} {M : MH} {k : Bool → MH → Prop} {x : KE} (i : ∀ k, w' ρ M k x → w ρ M k x) (h : wTest w' ρ M k x) : wTest w ρ M k x := i _ h
theorem mt_cmp {Tq : TkC} {op : CmpOp} {rd : RD} {f : Vl → Vl → Option D} (ho : OpD X (compareOp op) rd) (hf : OpM rd f) (ha : ME Tq X a ma) (hb : ME Tq X b mb) (hm : behindInMarks op b = false := by first | exact nomark _ | rfl) : MT Tq X (.Compare a [op] [b] pos) (mTest (mOp f ma mb)) :=
 dt_weak (dt_cmp ho ha hb hm) fun ρ M k x q => wTest_imp (w' := wE (mOp f ma mb)) (fun k ⟨M0, r, K, XX, G, O, L, hk, g⟩ => ⟨M0, r, _, XX, G, O, L, fun u d hu g => ⟨M0, r, _, XX, G, O, L, fun v e hv g => hf M0 M u v d e k hu hv (kO_of L hk g), g⟩, g⟩) (test_in q)
variable {rest : List Expr} {mt mu : WMT}
end
def mNil : WMA := fun _ K _ => K []
def mCons (ma : WM) (mr : WMA) : WMA := fun r K X => ma r (fun u => mr r (fun us => K (u :: us)) X) X
def vsOf : List Vl → Option (List D)
 | [] => some []
 | .v d :: r => (vsOf r).map (d :: ·)
 | _ => none
theorem vsOf_rel {M0 : M0T} {M : MH} : ∀ {us : List Vl} {ds es : List D}, vsOf us = some ds → RelVs M0 M us es → es = ds
 | [], _, _, e, .nil => by cases e; rfl
 | .v d :: r, _, _, e, .cons h t => by
  cases h
  unfold vsOf at e
  cases e1 : vsOf r with
  | none => rw [e1] at e; cases e
  | some y =>
   rw [e1] at e
   cases e
   rw [vsOf_rel e1 t]
 | .o m :: r, _, _, e, _ => by cases e
def onVs (us : List Vl) (f : List D → Ans) : Ans := match vsOf us with
 | some ds => f ds
 | none => .bad
theorem onVs_in {M0 : M0T} {M : MH} {us : List Vl} {ds : List D} {f : List D → Ans} {G : Ans → Prop} (nb : ¬ G .bad) (hu : RelVs M0 M us ds) (g : G (onVs us f)) : G (f ds) := by
 unfold onVs at g
 cases e : vsOf us with
 | none => rw [e] at g; exact (nb g).elim
 | some es => rw [e] at g; rw [vsOf_rel e hu]; exact g
def gdR (b : Bool) (r : Ans) : Ans := match b with
 | true => r
 | false => .bad
theorem gdR_in {G : Ans → Prop} {b : Bool} {r : Ans} {p : Prop} (nb : ¬ G .bad) (g : G (gdR b r)) (h : G r → p) : gd b p := by
 cases b with
 | true => exact h g
 | false => exact nb g
def mTup (m : WMA) : WM := fun r K X => m r (fun us => onVs us fun ds => gdR (Nat.ble ds.length 4096) (K (.v (.tup ds)))) X
def mLst (m : WMA) : WM := fun r K X => m r (fun us => onVs us fun ds => gdR (Nat.ble ds.length 4096) (K (.v (.lst ds)))) X
def seqOf : Vl → Option (List D)
 | .v (.tup ds) => some ds
 | .v (.lst ds) => some ds
 | _ => none
section
variable {X : Cx} {e : Expr} {es : List Expr} {me : WM} {ma : WMA} {pos : Pos}
theorem ma_nil {Tq : TkC} : MA Tq X [] mNil := da_weak da_nil fun ρ M k x ⟨M0, r, K, XX, G, O, L, hk, g⟩ => hk [] [] .nil g
theorem ma_cons {Tq : TkC} (he : ME Tq X e me) (hr : MA Tq X es ma) (hs : starEach (e :: es) X.env = (false, eval e X.env) :: starEach es X.env := by rfl) : MA Tq X (e :: es) (mCons me ma) := da_weak (da_cons he hr hs) fun ρ M k x ⟨M0, r, K, XX, G, O, L, hk, g⟩ =>
 ⟨M0, r, _, XX, G, O, L, fun u d hu g => ⟨M0, r, _, XX, G, O, L, fun us ds hus g => hk _ _ (.cons hu hus) g, g⟩, g⟩
theorem me_tup {Tq : TkC} {x1} (h : MA Tq X es ma) : ME Tq X (.Tuple es x1 pos) (mTup ma) := de_weak (de_tup h) fun ρ M k x ⟨M0, r, K, XX, G, O, L, hk, g⟩ =>
 ⟨M0, r, _, XX, G, O, L, fun us ds hu g => gdR_in L.nb (onVs_in L.nb hu g) fun g => hk (.v _) _ rfl g, g⟩
theorem me_lst {Tq : TkC} (h : MA Tq X es ma) : ME Tq X (.List es pos) (mLst ma) := de_weak (de_lst h) fun ρ M k x ⟨M0, r, K, XX, G, O, L, hk, g⟩ =>
 ⟨M0, r, _, XX, G, O, L, fun us ds hu g => gdR_in L.nb (onVs_in L.nb hu g) fun g => hk (.v _) _ rfl g, g⟩
end
def wfOf (m : List D → Ans) : WF := fun ds M k x => match m ds with
 | .ok d => k d M
 | .exc n fs => x n fs M
 | .bad => False
def onR (a : Ans) (K : KV) (X : XV) : Ans := match a with
 | .ok d => K (.v d)
 | .exc n fs => X n fs
 | .bad => .bad
theorem wf_in {M0 : M0T} {M : MH} {m : List D → Ans} {ds : List D} {k : KD} {x : KE} {G : Ans → Prop} {K : KV} {XX : XV} (L : Lk G M XX x) (hk : ∀ u d, RelV M0 M u d → G (K u) → k d M) (g : G (onR (m ds) K XX)) : wfOf m ds M k x := by
 unfold wfOf
 revert g
 cases m ds with
 | ok d => exact fun g => hk (.v _) d rfl g
 | exc n fs => exact fun g => L.xc n fs g
 | bad => exact fun g => L.nb g
def mCall (m : List D → Ans) (n : Nat) (ma : WMA) : WM := fun r K X => ma r (fun us => onVs us fun ds => gdR (Nat.beq ds.length n) (onR (m ds) K X)) X
def mCallV (m : List D → Ans) (n : Nat) (ma : WMA) : WM := fun r K X => ma r (fun us => onVs us fun ds => gdR (Nat.ble n ds.length) (gdR (Nat.ble ds.length 4096) (onR (m (ds.take n ++ [.tup (ds.drop n)])) K X))) X
def CallM (rb : RB) (f : List Vl → Option D) : Prop := ∀ M0 M us ds k, RelVs M0 M us ds → kO (f us) k M → rb ds M k
def mCB (f : List Vl → Option D) (ma : WMA) : WM := fun r K X => ma r (fun us => vK (f us) K) X
section
variable {X : Cx} {pos p : Pos} {f x : Str} {e : Expr} {es : List Expr} {k n : Nat} {m : List D → Ans} {ma : WMA}
theorem me_call {Tq : TkC} (F : FnD X.prog X.w X.K X.mg X.base f k n (wfOf m)) (hr : Room k X.A) (ha : MA Tq X (e :: es) ma) (hg : Gl X f := by rfl) (hd : (f == ("__debug__" : Str)) = false := by decide)
  (he : starEach (e :: es) X.env = (false, eval e X.env) :: starEach es X.env := by rfl) (hpl : (backTo pos (starEach es X.env)).any (·.1) = false := by rfl) : ME Tq X (.Call (.Name f p) (e :: es) [] pos) (mCall m n ma) :=
 de_weak (de_call F hr ha hg hd he hpl) fun ρ M k x ⟨M0, r, K, XX, G, O, L, hk, g⟩ => ⟨M0, r, _, XX, G, O, L, fun us ds hu g => gdR_in L.nb (onVs_in L.nb hu g) (wf_in L hk), g⟩
theorem me_callV {Tq : TkC} (F : FnV X.prog X.w X.K X.mg X.base f k n (wfOf m)) (hr : Room k X.A) (ha : MA Tq X (e :: es) ma) (hg : Gl X f := by rfl) (hd : (f == ("__debug__" : Str)) = false := by decide)
  (he : starEach (e :: es) X.env = (false, eval e X.env) :: starEach es X.env := by rfl) (hpl : (backTo pos (starEach es X.env)).any (·.1) = false := by rfl) : ME Tq X (.Call (.Name f p) (e :: es) [] pos) (mCallV m n ma) :=
 de_weak (de_callV F hr ha hg hd he hpl) fun ρ M k x ⟨M0, r, K, XX, G, O, L, hk, g⟩ => ⟨M0, r, _, XX, G, O, L, fun us ds hu g => gdR_in L.nb (onVs_in L.nb hu g) fun g => gdR_in L.nb g (wf_in L hk), g⟩
theorem me_callB {Tq : TkC} {id : String} {rb : RB} {fm : List Vl → Option D} (hc : CallD X (.builtin id) rb) (hf : CallM rb fm) (hm : X.mg x = none) (hv : bootBuiltins x = some (.builtin id)) (ha : MA Tq X (e :: es) ma) (hg : Gl X x := by rfl) (hn : x ≠ "__name__" := by decide) (hdb : (x == ("__debug__" : Str)) = false := by decide)
  (he : starEach (e :: es) X.env = (false, eval e X.env) :: starEach es X.env := by rfl) (hpl : (backTo pos (starEach es X.env)).any (·.1) = false := by rfl) : ME Tq X (.Call (.Name x p) (e :: es) [] pos) (mCB fm ma) :=
 de_weak (de_callB hc hm hv ha hg hn hdb he hpl) fun ρ M k x ⟨M0, r, K, XX, G, O, L, hk, g⟩ => ⟨M0, r, _, XX, G, O, L, fun us ds hu g => hf M0 M us ds k hu (kO_of L hk g), g⟩
theorem me_callTy {Tq : TkC} {T : String} {rb : RB} {fm : List Vl → Option D} (hc : CallD X (.type T) rb) (hf : CallM rb fm) (hm : X.mg x = none) (hv : bootBuiltins x = some (.type T)) (ha : MA Tq X (e :: es) ma) (hg : Gl X x := by rfl) (hn : x ≠ "__name__" := by decide) (hdb : (x == ("__debug__" : Str)) = false := by decide)
  (he : starEach (e :: es) X.env = (false, eval e X.env) :: starEach es X.env := by rfl) (hpl : (backTo pos (starEach es X.env)).any (·.1) = false := by rfl) : ME Tq X (.Call (.Name x p) (e :: es) [] pos) (mCB fm ma) :=
 de_weak (de_callTy hc hm hv ha hg hn hdb he hpl) fun ρ M k x ⟨M0, r, K, XX, G, O, L, hk, g⟩ => ⟨M0, r, _, XX, G, O, L, fun us ds hu g => hf M0 M us ds k hu (kO_of L hk g), g⟩
end
end DM
namespace DM
open PySem PySem.Spec PyProof.Rows L2 DL
structure EndsK where
 nx : Rm → Ans
 rt : KV
 bk : Rm → Ans
 ct : Rm → Ans
 xc : XV
abbrev WMS := Rm → EndsK → Ans
structure LkE (G : Ans → Prop) (M0 : M0T) (EK : EndsK) (E : EndsD) : Prop where
 nb : ¬ G .bad
 nx : ∀ r ρ M, Own M0 M r ρ → G (EK.nx r) → E.nx ρ M
 rt : ∀ u d M, Sub M0.m M → RelV M0 M u d → G (EK.rt u) → E.rt d M
 bk : ∀ r ρ M, Own M0 M r ρ → G (EK.bk r) → E.bk ρ M
 ct : ∀ r ρ M, Own M0 M r ρ → G (EK.ct r) → E.ct ρ M
 xc : ∀ n fs M, Sub M0.m M → G (EK.xc n fs) → E.xc n fs M
theorem LkE.lk {G : Ans → Prop} {M0 : M0T} {M : MH} {EK : EndsK} {E : EndsD} (L : LkE G M0 EK E) (s : Sub M0.m M) : Lk G M EK.xc E.xc := ⟨L.nb, fun n fs g => L.xc n fs M s g⟩
def wS (s : WMS) : WS := fun ρ M E => ∃ M0 r EK G, Own M0 M r ρ ∧ LkE G M0 EK E ∧ G (s r EK)
abbrev MS (Tq : TkC) (X : Cx) (st : Stmt) (s : WMS) : Prop := DS Tq X st (wS s)
abbrev MSs (Tq : TkC) (X : Cx) (st : List Stmt) (s : WMS) : Prop := DSs Tq X st (wS s)
def mNext : WMS := fun r E => E.nx r
def mSeq (s t : WMS) : WMS := fun r E => s r { nx := fun r1 => t r1 E, rt := E.rt, bk := E.bk, ct := E.ct, xc := E.xc }
def mRet (m : WM) : WMS := fun r E => m r E.rt E.xc
def onVl (u : Vl) (f : D → Ans) : Ans := match u with
 | .v d => f d
 | .o _ => .bad
theorem onVl_in {M0 : M0T} {M : MH} {u : Vl} {d : D} {f : D → Ans} {G : Ans → Prop} {p : Prop} (nb : ¬ G .bad) (hu : RelV M0 M u d) (g : G (onVl u f)) (h : G (f d) → p) : p := by
 cases u with
 | o n => exact (nb g).elim
 | v z => cases hu; exact h g
def mSet (i : Nat) (m : WM) : WMS := fun r E => m r (fun u => onVl u fun d => E.nx (r.set i (some (.v d)))) E.xc
def mIfS (c : WMT) (s t : WMS) : WMS := fun r E => c r (fun b => match b with
 | true => s r E
 | false => t r E) E.xc
section
variable {X : Cx} {st : Stmt} {rest : List Stmt} {s t : WMS} {e : Expr} {me : WM} {pos : Pos}
theorem mss_nil {Tq : TkC} : MSs Tq X [] mNext := dss_weak dss_nil fun ρ M E ⟨M0, r, EK, G, O, L, g⟩ => L.nx r ρ M O g
theorem mss_cons {Tq : TkC} (h1 : MS Tq X st s) (h2 : MSs Tq X rest t) : MSs Tq X (st :: rest) (mSeq s t) := dss_weak (dss_cons h1 h2) fun ρ M E ⟨M0, r, EK, G, O, L, g⟩ =>
 ⟨M0, r, { nx := fun r1 => t r1 EK, rt := EK.rt, bk := EK.bk, ct := EK.ct, xc := EK.xc }, G, O, ⟨L.nb, fun r1 ρ1 M1 O1 g => ⟨M0, r1, EK, G, O1, L, g⟩, L.rt, L.bk, L.ct, L.xc⟩, g⟩
theorem mss_one {Tq : TkC} (h1 : MS Tq X st s) : MSs Tq X [st] s := dss_one h1
theorem ms_ret {Tq : TkC} (he : ME Tq X e me) : MS Tq X (.Return (some e) pos) (mRet me) := ds_weak (ds_ret he) fun ρ M E ⟨M0, r, EK, G, O, L, g⟩ =>
 ⟨M0, r, _, EK.xc, G, O, L.lk O.sub, fun u d hu g => L.rt u d M O.sub hu g, g⟩
theorem ms_if {Tq : TkC} {c : Expr} {a b : List Stmt} {mc : WMT} (hc : MT Tq X c mc) (ha : MSs Tq X a s) (hb : MSs Tq X b t) : MS Tq X (.If c a b pos) (mIfS mc s t) := ds_weak (ds_if hc ha hb) fun ρ M E ⟨M0, r, EK, G, O, L, g⟩ =>
 ⟨M0, r, _, EK.xc, G, O, L.lk O.sub, fun c g => by cases c <;> exact ⟨M0, r, EK, G, O, L, g⟩, g⟩
theorem ms_set {Tq : TkC} {i : Nat} {x : Str} {pos' : Pos} (hN : X.N.Nodup) (hi : X.N[i]? = some x) (hx : Loc X.env.scope x) (he : ME Tq X e me) (hs : swapsWith e (some (.Name x pos')) pos.line X.env = pure false := by rfl) (hf : X.fn x = true ∨ X.env.scope.names.lookup x = some .local := by first | exact .inl rfl | exact .inr rfl | assumption) :
  MS Tq X (.Assign [.Name x pos'] e pos) (mSet i me) := ds_weak (ds_set hN hi hx he hs hf) fun ρ M E ⟨M0, r, EK, G, O, L, g⟩ =>
 ⟨M0, r, _, EK.xc, G, O, L.lk O.sub, fun u d hu g => onVl_in L.nb hu g fun g => L.nx _ _ M (O.set i d) g, g⟩
end
def mNewL (i : Nat) (m : WMA) : WMS := fun r E => m r (fun us => onVs us fun ds => gdR (Nat.ble ds.length 4096) (E.nx (r.set i (some (.o (.lst ds)))))) E.xc
def mApp (i : Nat) (m : WM) : WMS := fun r E => match r[i]? with
 | some (some (.o (.lst ds))) => m r (fun u => onVl u fun d => gdR (Nat.blt ds.length 16777216) (E.nx (r.set i (some (.o (.lst (ds ++ [d]))))))) E.xc
 | _ => .bad
def mFrz (i : Nat) (s : WMS) : WMS := fun r E => match r[i]? with
 | some (some (.o m)) => match frzD m with
  | some d => s (r.set i (some (.v d))) E
  | none => .bad
 | _ => .bad
theorem Own.frz {M0 : M0T} {M : MH} {r : Rm} {ρ : Rh} (h : Own M0 M r ρ) {i : Nat} {m : MO} {a : Addr} (hi : r[i]? = some (some (.o m))) (hr : ρ[i]? = some (some (.ref a))) (d : D) : Own M0 (mdel M a) (r.set i (some (.v d))) (ρ.set i (some d)) := by
 have h0 : M0.m a = none := by
  obtain ⟨e, e1, e2⟩ := h.at_ i _ hi
  rw [hr] at e1
  cases e1
  obtain ⟨b, hb, _, h2⟩ := e2
  cases hb
  exact h2
 exact {
  len := by rw [List.length_set, List.length_set]; exact h.len
  slf := fun b n e1 e2 => by
   rcases look_set e2 with ⟨_, e⟩ | ⟨hj, e⟩
   ·cases e
   ·rw [List.getElem?_set_ne (fun q => hj q.symm)]; exact h.slf b n e1 e
  sub := fun b z hb => by
   rw [mdel_ne (fun q => by rw [q, h0] at hb; cases hb)]
   exact h.sub b z hb
  at_ := fun j u e => by
   rcases look_set e with ⟨hj, e'⟩ | ⟨hj, e'⟩
   ·cases e'
    rw [hj]
    exact ⟨d, List.getElem?_set_self (h.lt hi), rfl⟩
   ·rw [List.getElem?_set_ne (fun q => hj q.symm)]
    obtain ⟨y, e1, e2⟩ := h.at_ j u e'
    refine ⟨y, e1, ?_⟩
    cases u with
    | v z => exact e2
    | o n =>
     obtain ⟨b, rfl, hb, hb0⟩ := e2
     exact ⟨b, rfl, by rw [mdel_ne (fun z => hj (h.inj j i n m a e' hi (by rw [e1, z]) hr))]; exact hb, hb0⟩
  inj := fun j k n n' b e1 e2 f1 f2 => by
   rcases look_set e1 with ⟨_, e1⟩ | ⟨hj, e1⟩
   ·cases e1
   rcases look_set e2 with ⟨_, e2⟩ | ⟨hk, e2⟩
   ·cases e2
   rw [List.getElem?_set_ne (fun q => hj q.symm)] at f1
   rw [List.getElem?_set_ne (fun q => hk q.symm)] at f2
   exact h.inj j k n n' b e1 e2 f1 f2 }
section
variable {X : Cx} {st : Stmt} {rest : List Stmt} {s t : WMS} {e : Expr} {es : List Expr} {me mi : WM} {ma : WMA} {pos : Pos}
theorem ms_newL {Tq : TkC} {i : Nat} {x : Str} {pos' lp : Pos} (hN : X.N.Nodup) (hi : X.N[i]? = some x) (hx : Loc X.env.scope x) (ha : MA Tq X es ma) (hs : swapsWith (.List es lp) (some (.Name x pos')) pos.line X.env = pure false := by rfl) (hf : X.fn x = true ∨ X.env.scope.names.lookup x = some .local := by first | exact .inl rfl | exact .inr rfl | assumption) (hi0 : i ≠ 0 := by decide) :
  MS Tq X (.Assign [.Name x pos'] (.List es lp) pos) (mNewL i ma) := ds_weak (ds_set hN hi hx (de_lstM ha) hs hf) fun ρ M E ⟨M0, r, EK, G, O, L, g⟩ =>
 ⟨M0, r, _, EK.xc, G, O, L.lk O.sub, fun us ds hu g => gdR_in L.nb (onVs_in L.nb hu g) fun g a ha => L.nx _ _ _ (O.new i ha _ hi0) g, g⟩
theorem mss_frz {Tq : TkC} (i : Nat) (h : MSs Tq X rest s) : MSs Tq X rest (mFrz i s) := dss_weak (dss_frzD i h) fun ρ M E ⟨M0, r, EK, G, O, L, g⟩ => by
 unfold mFrz at g
 split at g
 ·rename_i m e
  split at g
  ·rename_i d e1
   obtain ⟨z, e2, a, rfl, e3, e4⟩ := O.at_ i _ e
   exact ⟨a, m, d, e2, e3, e1, M0, _, EK, G, O.frz e e2 d, L, g⟩
  ·exact (L.nb g).elim
 ·exact (L.nb g).elim
theorem ms_app {Tq : TkC} {i : Nat} {x : Str} {p1 p2 p3 : Pos} (h : DE Tq X (.Call (.Attribute (.Name x p1) "append" p2) [e] [] p3) (wApp (wVar i) (wE me)))
  (hs : swapsWith (.Call (.Attribute (.Name x p1) "append" p2) [e] [] p3) none pos.line X.env = pure false := by rfl) : MS Tq X (.Expr (.Call (.Attribute (.Name x p1) "append" p2) [e] [] p3) pos) (mApp i me) := ds_weak (ds_expr h hs) fun ρ M E ⟨M0, r, EK, G, O, L, g⟩ => by
 unfold mApp at g
 split at g
 ·rename_i ds e1
  obtain ⟨z, e2, a, rfl, e3, e4⟩ := O.at_ i _ e1
  unfold wDrop wApp wVar
  rw [e2]
  refine ⟨a, ds, rfl, e3, M0, r, _, EK.xc, G, O, L.lk O.sub, fun u d hu g => onVl_in L.nb hu g fun g => ?_, g⟩
  obtain ⟨hb, g⟩ := gd_of (gdR_in L.nb g fun g => g)
  have hl : ds.length < 16777216 := Nat.le_of_ble_eq_true hb
  exact ⟨ds, e3, by rw [sizeLine_eq]; omega, L.nx _ _ _ (O.upd e1 e2 _) g⟩
 ·exact (L.nb g).elim
end
abbrev WMG := D → Rm → Option Rm
def wG (g : WMG) : WG := fun d ρ M k => ∃ M0 r, Own M0 M r ρ ∧ match g d r with
 | some r1 => ∀ ρ1, Own M0 M r1 ρ1 → k ρ1 M
 | none => False
abbrev WMGs := List D → Rm → Option Rm
def wGs (g : WMGs) : WGs := fun ds ρ M k => ∃ M0 r, Own M0 M r ρ ∧ match g ds r with
 | some r1 => ∀ ρ1, Own M0 M r1 ρ1 → k ρ1 M
 | none => False
def mgN (i : Nat) : WMG := fun d r => some (r.set i (some (.v d)))
def mgNil : WMGs := fun ds r => match ds with
 | [] => some r
 | _ => none
def mgCons (g : WMG) (gs : WMGs) : WMGs := fun ds r => match ds with
 | d :: t => (g d r).bind fun r1 => gs t r1
 | [] => none
def mgTup (n : Nat) (gs : WMGs) : WMG := fun d r => match seqOf (.v d) with
 | some ds => match Nat.beq ds.length n with
  | true => gs ds r
  | false => none
 | none => none
abbrev MG (X : Cx) (tg : Expr) (is : List Nat) (g : WMG) : Prop := DG X tg is (wG g)
abbrev MGs (X : Cx) (ts : List Expr) (is : List Nat) (g : WMGs) : Prop := DGs X ts is (wGs g)
section
variable {X : Cx} {pos : Pos}
theorem dg_weak {tg : Expr} {is : List Nat} {w w' : WG} (h : DG X tg is w) (i : ∀ d ρ M k, w' d ρ M k → w d ρ M k) : DG X tg is w' := ⟨pg_imp h.pg fun v σ H Q q => by
 obtain ⟨d, F, M, ρ, k, S, R, r, w, f⟩ := q
 exact ⟨d, F, M, ρ, k, S, R, r, i _ _ _ _ w, f⟩⟩
theorem dgs_weak {tg : List Expr} {is : List Nat} {w w' : WGs} (h : DGs X tg is w) (i : ∀ d ρ M k, w' d ρ M k → w d ρ M k) : DGs X tg is w' := ⟨pgs_imp h.pg fun v σ H Q q => by
 obtain ⟨d, F, M, ρ, k, S, R, r, w, f⟩ := q
 exact ⟨d, F, M, ρ, k, S, R, r, i _ _ _ _ w, f⟩⟩
theorem mg_name {i : Nat} {x : Str} (hN : X.N.Nodup) (hi : X.N[i]? = some x) (hx : Loc X.env.scope x) (hf : X.fn x = true ∨ X.env.scope.names.lookup x = some .local := by first | exact .inl rfl | exact .inr rfl | assumption) : MG X (.Name x pos) [i] (mgN i) :=
 dg_weak (dg_name hN hi hx hf) fun d ρ M k ⟨M0, r, O, q⟩ => q _ (O.set i d)
theorem mgs_nil : MGs X [] [] mgNil := dgs_weak dgs_nil fun ds ρ M k ⟨M0, r, O, q⟩ => by
 cases ds with
 | nil => exact q ρ O
 | cons d ds => exact q
theorem mgs_cons {e : Expr} {es : List Expr} {is js : List Nat} {g : WMG} {gs : WMGs} (h1 : MG X e is g) (h2 : MGs X es js gs)
  (hs : (assignEach (e :: es) X.env).map (·.2) = assign e X.env :: (assignEach es X.env).map (·.2) := by rfl) : MGs X (e :: es) (is ++ js) (mgCons g gs) := dgs_weak (dgs_cons h1 h2 hs) fun ds ρ M k ⟨M0, r, O, q⟩ => by
 cases ds with
 | nil => exact q
 | cons d ds =>
  refine ⟨M0, r, O, ?_⟩
  have q : match (g d r).bind fun r1 => gs ds r1 with
   | some r1 => ∀ ρ1, Own M0 M r1 ρ1 → k ρ1 M
   | none => False := q
  cases e1 : g d r with
  | none => rw [e1] at q; exact q
  | some r1 => rw [e1] at q; exact fun ρ1 O1 => ⟨M0, r1, O1, q⟩
theorem mg_tup {es : List Expr} {k : Nat} {is : List Nat} {gs : WMGs} {n : Nat} (hc : X.calm = true) (h : MGs X es is gs)
  (hn : (assignEach es X.env).length = n := by rfl) (hst : (assignEach es X.env).findIdx? (·.1) = none := by rfl) : MG X (.Tuple es k pos) is (mgTup n gs) := dg_weak (dg_tup hc h hn hst) fun d ρ M k ⟨M0, r, O, q⟩ => by
 unfold mgTup at q
 have key : ∀ ds : List D, (match (match Nat.beq ds.length n with | true => gs ds r | false => none) with
  | some r1 => ∀ ρ1, Own M0 M r1 ρ1 → k ρ1 M
  | none => False) → gd (Nat.beq ds.length n) (wGs gs ds ρ M k) := fun ds q => by
  cases hb : Nat.beq ds.length n with
  | false => rw [hb] at q; exact q
  | true => rw [hb] at q; exact ⟨M0, r, O, q⟩
 cases d with
 | tup ds => exact key ds q
 | lst ds => exact key ds q
 | _ => exact q
def mAsg (me : WM) (g : WMG) : WMS := fun r E => me r (fun u => onVl u fun d => match g d r with
 | some r1 => E.nx r1
 | none => .bad) E.xc
theorem ms_asg {Tq : TkC} {tg e : Expr} {me : WM} {is : List Nat} {g : WMG} (he : ME Tq X e me) (hg : MG X tg is g) (hs : swapsWithSole [tg] e pos.line X.env = pure false := by rfl) (hw : swappedStores [tg] e X.env = pure none := by rfl)
  (h1 : (assignEach [tg] X.env).map (·.2) = [assign tg X.env] := by rfl) : MS Tq X (.Assign [tg] e pos) (mAsg me g) := ds_weak (ds_asg he hg hs hw h1) fun ρ M E ⟨M0, r, EK, G, O, L, q⟩ =>
 ⟨M0, r, _, EK.xc, G, O, L.lk O.sub, fun u d hu q => onVl_in L.nb hu q fun q => ⟨M0, r, O, by
  cases e1 : g d r with
  | none => rw [e1] at q; exact (L.nb q).elim
  | some r1 => rw [e1] at q; exact fun ρ1 O1 => L.nx r1 ρ1 M O1 q⟩, q⟩
end
abbrev WMI := Rm → (List D → Ans) → XV → Ans
def wI (m : WMI) : WI := fun ρ M k x => ∃ M0 r K X G, Own M0 M r ρ ∧ Lk G M X x ∧ (∀ ds, G (K ds) → k ds (fun _ => True) M) ∧ G (m r K X)
abbrev MI (Tq : TkC) (X : Cx) (tg iter : Expr) (m : WMI) : Prop := DI Tq X tg iter (wI m)
def oK {α : Type} (o : Option α) (K : α → Ans) : Ans := match o with
 | some a => K a
 | none => .bad
def miSeq (m : WM) : WMI := fun r K X => m r (fun u => oK (seqOf u) K) X
def zipV : Vl → Vl → Option (List D)
 | .v (.tup xs), .v (.tup ys) => some (zipD xs ys)
 | .v (.lst xs), .v (.lst ys) => some (zipD xs ys)
 | _, _ => none
def miZip (ma mb : WM) : WMI := fun r K X => ma r (fun u => mb r (fun v => oK (zipV u v) K) X) X
section
variable {X : Cx} {tg : Expr}
theorem di_weak {Tq : TkC} {e : Expr} {w w' : WI} (h : DI Tq X tg e w) (i : ∀ ρ M k x, w' ρ M k x → w ρ M k x) : DI Tq X tg e w' := ⟨fun W tk => pi_imp (h.pi W tk) fun σ H R q => by
 obtain ⟨F, M, ρ, k, x, S, E, w, r⟩ := q
 exact ⟨F, M, ρ, k, x, S, E, i _ _ _ _ w, r⟩⟩
theorem mi_seq {Tq : TkC} {e : Expr} {m : WM} (h : ME Tq X e m) : MI Tq X tg e (miSeq m) := di_weak (di_seq h) fun ρ M k x ⟨M0, r, K, XX, G, O, L, hk, g⟩ => by
 refine ⟨M0, r, _, XX, G, O, L, fun u d hu g => ?_, g⟩
 cases u with
 | o n => exact (L.nb g).elim
 | v z =>
  cases hu
  cases d with
  | tup ds => exact hk _ g
  | lst ds => exact hk _ g
  | _ => exact (L.nb g).elim
theorem mi_zip {Tq : TkC} {it : Expr} {ma mb : WM} (hd : DI Tq X tg it (wiZip (wE ma) (wE mb))) : MI Tq X tg it (miZip ma mb) := di_weak hd fun ρ M k x ⟨M0, r, K, XX, G, O, L, hk, g⟩ => by
 refine ⟨M0, r, _, XX, G, O, L, fun u d hu g => ⟨M0, r, _, XX, G, O, L, fun v e hv g => ?_, g⟩, g⟩
 cases u with
 | o n => cases v <;> exact (L.nb g).elim
 | v z =>
  cases v with
  | o n => cases z <;> exact (L.nb g).elim
  | v y =>
   cases hu
   cases hv
   cases d with
   | tup xs => cases e with
    | tup ys => exact hk _ g
    | _ => exact (L.nb g).elim
   | lst xs => cases e with
    | lst ys => exact hk _ g
    | _ => exact (L.nb g).elim
   | _ => cases e <;> exact (L.nb g).elim
end
def loop0 (is : List Nat) (g : WMG) (s : WMS) : List D → Rm → EndsK → Ans
 | [], r, E => E.nx (wipeM r is)
 | d :: t, r, E => oK (g d (wipeM r is)) fun r1 => s r1 { nx := fun r2 => loop0 is g s t r2 E, rt := E.rt, bk := E.nx, ct := fun r2 => loop0 is g s t r2 E, xc := E.xc }
@[irreducible] def loopM (is : List Nat) (g : WMG) (s : WMS) (ds : List D) (r : Rm) (E : EndsK) : Ans := loop0 is g s ds r E
def mFor (is : List Nat) (mi : WMI) (g : WMG) (s : WMS) : WMS := fun r E => mi r (fun ds => loopM is g s ds r E) E.xc
theorem loopM_nil {is : List Nat} {g : WMG} {s : WMS} {r : Rm} {E : EndsK} : loopM is g s [] r E = E.nx (wipeM r is) := by unfold loopM; rfl
theorem loopM_cons {is : List Nat} {g : WMG} {s : WMS} {d : D} {t : List D} {r : Rm} {E : EndsK} : loopM is g s (d :: t) r E = oK (g d (wipeM r is)) fun r1 => s r1 { nx := fun r2 => loopM is g s t r2 E, rt := E.rt, bk := E.nx, ct := fun r2 => loopM is g s t r2 E, xc := E.xc } := by unfold loopM; rfl
theorem loop_for {is : List Nat} {g : WMG} {s : WMS} {M0 : M0T} {G : Ans → Prop} {EK : EndsK} {E : EndsD} (L : LkE G M0 EK E) : ∀ (ds : List D) {r : Rm} {ρ : Rh} {M : MH}, Own M0 M r ρ → G (loop0 is g s ds r EK) → forD0 (wG g) (wS s) (fun _ => True) E ds ρ M
 | [], r, ρ, M, O, q => ⟨trivial, L.nx _ ρ M (O.wipe is) q⟩
 | d :: t, r, ρ, M, O, q => by
  refine ⟨trivial, M0, wipeM r is, O.wipe is, ?_⟩
  unfold loop0 at q
  cases e1 : g d (wipeM r is) with
  | none => rw [e1] at q; exact (L.nb q).elim
  | some r1 =>
   rw [e1] at q
   exact fun ρ1 O1 => ⟨M0, r1, { nx := fun r2 => loop0 is g s t r2 EK, rt := EK.rt, bk := EK.nx, ct := fun r2 => loop0 is g s t r2 EK, xc := EK.xc }, G, O1, ⟨L.nb, fun r2 ρ2 M2 O2 q => loop_for L t O2 q, L.rt, L.nx, fun r2 ρ2 M2 O2 q => loop_for L t O2 q, L.xc⟩, q⟩
section
variable {X : Cx} {pos : Pos}
theorem ms_for {Tq : TkC} {tg iter : Expr} {body : List Stmt} {mi : WMI} {js : List Nat} {g : WMG} {s : WMS} (is : List Nat) (hc : X.calm = true) (hi : MI Tq X tg iter mi) (hg : MG X tg js g) (hb : MSs Tq X body s)
  (hs : ∀ x, foldedSetIterable iter X.env x = pure x := by intro _; rfl) : MS Tq X (.For tg iter body [] pos) (mFor is mi g s) := ds_weak (ds_for hc hi hg hb hs) fun ρ M E ⟨M0, r, EK, G, O, L, q⟩ => by
 refine ⟨M0, r, _, EK.xc, G, O, L.lk O.sub, fun ds q => ?_, q⟩
 show forD _ _ _ _ _ _ _
 rw [forD_eq]
 unfold loopM at q
 exact loop_for L ds O q
def while0 (is : List Nat) (mt : WMT) (s : WMS) : Nat → Rm → EndsK → Ans
 | 0, _, _ => .bad
 | n + 1, r, E => mt (wipeM r is) (fun b => match b with
  | true => s (wipeM r is) { nx := fun r2 => while0 is mt s n r2 E, rt := E.rt, bk := E.nx, ct := fun r2 => while0 is mt s n r2 E, xc := E.xc }
  | false => E.nx (wipeM r is)) E.xc
@[irreducible] def whileM (is : List Nat) (mt : WMT) (s : WMS) (n : Nat) (r : Rm) (E : EndsK) : Ans := while0 is mt s n r E
theorem whileM_s {is : List Nat} {mt : WMT} {s : WMS} {n : Nat} {r : Rm} {E : EndsK} : whileM is mt s (n + 1) r E = mt (wipeM r is) (fun b => match b with
  | true => s (wipeM r is) { nx := fun r2 => whileM is mt s n r2 E, rt := E.rt, bk := E.nx, ct := fun r2 => whileM is mt s n r2 E, xc := E.xc }
  | false => E.nx (wipeM r is)) E.xc := by unfold whileM; rfl
def mWhile (is : List Nat) (mt : WMT) (s : WMS) : WMS := fun r E => whileM is mt s 1000000 r E
theorem while_wh {is : List Nat} {mt : WMT} {s : WMS} {M0 : M0T} {G : Ans → Prop} {EK : EndsK} {E : EndsD} (L : LkE G M0 EK E) : ∀ (n : Nat) {r : Rm} {ρ : Rh} {M : MH}, Own M0 M r ρ → G (while0 is mt s n r EK) → whD (wT mt) (wS s) E n ρ M
 | 0, r, ρ, M, O, q => L.nb q
 | n + 1, r, ρ, M, O, q => ⟨M0, _, _, EK.xc, G, O.wipe is, L.lk O.sub, fun b q => by
   cases b with
   | true => exact ⟨M0, _, { nx := fun r2 => while0 is mt s n r2 EK, rt := EK.rt, bk := EK.nx, ct := fun r2 => while0 is mt s n r2 EK, xc := EK.xc }, G, O.wipe is, ⟨L.nb, fun r2 ρ2 M2 O2 q => while_wh L n O2 q, L.rt, L.nx, fun r2 ρ2 M2 O2 q => while_wh L n O2 q, L.xc⟩, q⟩
   | false => exact L.nx _ _ _ (O.wipe is) q, q⟩
theorem ms_while {Tq : TkC} {c : Expr} {body : List Stmt} {mt : WMT} {s : WMS} (is : List Nat) (hc : MT Tq X c mt) (hb : MSs Tq X body s) : MS Tq X (.While c body [] pos) (mWhile is mt s) := ds_weak (ds_while hc hb) fun ρ M E ⟨M0, r, EK, G, O, L, q⟩ => by
 unfold mWhile whileM at q
 exact ⟨_, while_wh L _ O q⟩
end
def comp0 (g : WMG) (mt : WMT) (me : WM) (r : Rm) : List D → (List D → Ans) → Ans
 | [], K => K []
 | d :: t, K => oK (g d r) fun r1 => mt r1 (fun b => match b with
  | true => me r1 (fun u => onVl u fun e => comp0 g mt me r t fun es => K (e :: es)) fun _ _ => .bad
  | false => comp0 g mt me r t K) fun _ _ => .bad
@[irreducible] def compM (g : WMG) (mt : WMT) (me : WM) (r : Rm) (ds : List D) (K : List D → Ans) : Ans := comp0 g mt me r ds K
def mYes : WMT := fun _ K _ => K true
def mLc (mi : WMI) (g : WMG) (mt : WMT) (me : WM) (own : List Nat) : WM := fun r K X => mi r (fun ds => compM g mt me (wipeM r own) ds fun es => K (.v (.lst es))) X
theorem comp_D {g : WMG} {mt : WMT} {me : WM} {M0 : M0T} {M : MH} {r : Rm} {ρ : Rh} {G : Ans → Prop} (nb : ¬ G .bad) (O : Own M0 M r ρ) : ∀ (ds : List D) {K : List D → Ans} {k : List D → MH → Prop}, (∀ es, G (K es) → k es M) → G (comp0 g mt me r ds K) → compD (wG g) (wT mt) (wE me) (fun _ => True) ρ ds M k
 | [], K, k, hk, q => ⟨trivial, hk _ q⟩
 | d :: t, K, k, hk, q => by
  refine ⟨trivial, M0, r, O, ?_⟩
  unfold comp0 at q
  cases e1 : g d r with
  | none => rw [e1] at q; exact (nb q).elim
  | some r1 =>
   rw [e1] at q
   refine fun ρ1 O1 => ⟨M0, r1, _, _, G, O1, ⟨nb, fun n fs q => nb q⟩, fun b q => ?_, q⟩
   cases b with
   | false => exact comp_D nb O t hk q
   | true => exact ⟨M0, r1, _, _, G, O1, ⟨nb, fun n fs q => nb q⟩, fun u e hu q => onVl_in nb hu q fun q => comp_D nb O t (fun es q => hk _ q) q, q⟩
section
variable {X : Cx} {pos : Pos} {elt tg iter : Expr} {ifs : List Expr} {scope : Scope} {own : List (Str × Nat)} {mi : WMI} {is : List Nat} {g : WMG} {mt : WMT} {me : WM}
abbrev MTs (Tq : TkC) (X : Cx) (ifs : List Expr) (m : WMT) : Prop := DTs Tq X ifs (wT m)
theorem mts_nil {Tq : TkC} : MTs Tq X [] mYes := ⟨fun W tk => ⟨fun pins s σ H Q I q => by
 obtain ⟨F, M, ρ, k, x, S, E, ⟨M0, r, K, XX, G, O, L, hk, w⟩, pv, px⟩ := q
 exact (dts_nil.pt W tk).run pins s σ H Q I ⟨F, M, ρ, k, x, S, E, hk _ w, pv, px⟩⟩⟩
theorem mts_one {Tq : TkC} {c : Expr} (h : MT Tq X c mt) : MTs Tq X [c] mt := dts_one h
theorem lc_in {M0 : M0T} {M : MH} {r : Rm} {ρ : Rh} {k : List D → MH → Prop} {x : KE} {XX : XV} {ow : List Nat} {G : Ans → Prop} {K : List D → Ans} (O : Own M0 M r ρ) (L : Lk G M XX x) (hk : ∀ es, G (K es) → k es M) (q : G (mi r (fun ds => compM g mt me (wipeM r ow) ds K) XX)) :
  wI mi ρ M (fun ds g0 M1 => compD (wG g) (wT mt) (wE me) g0 (wipeD ρ ow) ds M1 k) x :=
 ⟨M0, r, _, XX, G, O, L, fun ds q => by unfold compM at q; exact comp_D L.nb (O.wipeD ow) ds hk q, q⟩
theorem me_lc {Tq : TkC} (hc : X.calm = true) (hN : X.N.Nodup) (hi : MI Tq X tg iter mi) (ok : BlkOk X.N X.env.scope scope own) (hsub : ∀ i ∈ is, i ∈ own.map (·.2))
  (hg : ∀ (s : Shared) (H : Hp) (C : Addr) (cl : List (Str × Addr)) (fp : List Addr), MG (X.blk s H scope (compEnvC scope cl C X.env) fp) tg is g) (ht : ∀ (s : Shared) (H : Hp) (C : Addr) (cl : List (Str × Addr)) (fp : List Addr), MTs Tq (X.blk s H scope (compEnvC scope cl C X.env) fp) ifs mt)
  (he : ∀ (s : Shared) (H : Hp) (C : Addr) (cl : List (Str × Addr)) (fp : List Addr), ME Tq (X.blk s H scope (compEnvC scope cl C X.env) fp) elt me) (hs : ∀ x, foldedSetIterable iter X.env x = pure x := by intro _; rfl) :
  ME Tq X (.ListComp elt [⟨tg, iter, ifs, 0⟩] scope pos) (mLc mi g mt me (own.map (·.2))) := de_weak (de_lc hc hN hi ok hsub hg ht he hs) fun ρ M k x ⟨M0, r, K, XX, G, O, L, hk, q⟩ => lc_in O L (fun es q => hk (.v _) _ rfl q) q
end
def vD : Vl → Ans
 | .v d => .ok d
 | .o m => match frzD m with
  | some d => .ok d
  | none => .bad
def endK : EndsK := { nx := fun _ => .ok .non, rt := vD, bk := fun _ => .bad, ct := fun _ => .bad, xc := .exc }
def callM (s : WMS) (N : List Str) (ds : List D) : Ans := s (startM N ds) endK
theorem hw_m {s : WMS} {N : List Str} (ds : List D) (M : MH) (k : KD) (x : KE) (h : wfOf (callM s N) ds M k x) : wS s (startD N ds) M (retE k x) := by
 refine ⟨⟨M, none⟩, startM N ds, endK, fun a => match a with
  | .ok d => k d M
  | .exc n fs => x n fs M
  | .bad => False, Own.start M N ds, ⟨fun q => q, fun r ρ M1 O q => Lt.drop O.sub q, fun u d M1 hs hu q => ?_, fun r ρ M1 O q => q.elim, fun r ρ M1 O q => q.elim, fun n fs M1 hs q => ⟨M, hs, q⟩⟩, h⟩
 cases u with
 | v z => cases hu; exact Lt.drop hs q
 | o m =>
  obtain ⟨a, rfl, h1, h2⟩ := hu
  dsimp only [endK, vD] at q
  cases e1 : frzD m with
  | none => rw [e1] at q; exact q.elim
  | some z => rw [e1] at q; exact Lt.frzM hs h1 e1 h2 q
end DM
namespace DM
open PySem PySem.Spec PyProof.Rows L2 DL
def onV2 (f : D → D → Option D) : Vl → Vl → Option D
 | .v d, .v e => f d e
 | _, _ => none
def onV1 (f : D → Option D) : Vl → Option D
 | .v d => f d
 | _ => none
theorem opM {rd : RD} {f : D → D → Option D} (h : ∀ M d e k, kO (f d e) k M → rd d e M k) : OpM rd (onV2 f) := fun M0 M u v d e k hu hv q => by
 cases u with
 | o n => cases v <;> exact q.elim
 | v x =>
  cases v with
  | o n => exact q.elim
  | v y => cases hu; cases hv; exact h M _ _ k q
theorem unM {rd : D → MH → KD → Prop} {f : D → Option D} (h : ∀ M d k, kO (f d) k M → rd d M k) : UnM rd (onV1 f) := fun M0 M u d k hu q => by
 cases u with
 | o n => exact q.elim
 | v x => cases hu; exact h M _ k q
theorem kO_if {b : Bool} {d : D} {k : KD} {M : MH} (q : kO (match b with | true => some d | false => none) k M) : b = true ∧ k d M := by
 cases b with
 | true => exact ⟨rfl, q⟩
 | false => exact q.elim
def fAdd0 : D → D → Option D
 | .int i, .int j => some (.int (i + j))
 | .str a, .str b => match Nat.ble (a.length + b.length) 16777216 with
  | true => some (.str (a ++ b))
  | false => none
 | .tup a, .tup b => match Nat.ble (a.length + b.length) 16777216 with
  | true => some (.tup (a ++ b))
  | false => none
 | .lst a, .lst b => match Nat.ble (a.length + b.length) 16777216 with
  | true => some (.lst (a ++ b))
  | false => none
 | _, _ => none
def fAdd := onV2 fAdd0
theorem ble_line {n : Nat} (h : Nat.ble n 16777216 = true) : n ≤ sizeLine := by rw [sizeLine_eq]; have := Nat.le_of_ble_eq_true h; omega
theorem om_add : OpM rAdd fAdd := opM fun M d e k q => by
 cases d with
 | int i => cases e with
  | int j => exact q
  | _ => exact q.elim
 | str a => cases e with
  | str b => obtain ⟨h1, h2⟩ := kO_if q; exact ⟨ble_line h1, h2⟩
  | _ => exact q.elim
 | tup a => cases e with
  | tup b => obtain ⟨h1, h2⟩ := kO_if q; exact ⟨ble_line h1, h2⟩
  | _ => exact q.elim
 | lst a => cases e with
  | lst b => obtain ⟨h1, h2⟩ := kO_if q; exact ⟨ble_line h1, h2⟩
  | _ => exact q.elim
 | _ => exact q.elim
def fII0 (c : Int → Int → Bool) (g : Int → Int → D) : D → D → Option D
 | .int i, .int j => match c i j with
  | true => some (g i j)
  | false => none
 | _, _ => none
def fI0 (g : Int → Int → D) : D → D → Option D
 | .int i, .int j => some (g i j)
 | _, _ => none
theorem om_int0 {g : Int → Int → D} : OpM (rInt0 g) (onV2 (fI0 g)) := opM fun M d e k q => by
 cases d with
 | int i => cases e with
  | int j => exact q
  | _ => exact q.elim
 | _ => exact q.elim
theorem om_int {C : Int → Int → Prop} {c : Int → Int → Bool} {g : Int → Int → D} (h : ∀ i j, c i j = true → C i j) : OpM (rInt C g) (onV2 (fII0 c g)) := opM fun M d e k q => by
 cases d with
 | int i => cases e with
  | int j => obtain ⟨h1, h2⟩ := kO_if q; exact ⟨h i j h1, h2⟩
  | _ => exact q.elim
 | _ => exact q.elim
def fSub := onV2 (fI0 fun i j => .int (i - j))
theorem om_sub : OpM rSub fSub := om_int0
def nzB (_ j : Int) : Bool := decide (j ≠ 0)
def fMod := onV2 (fII0 nzB fun i j => .int (i.fmod j))
theorem om_mod : OpM rMod fMod := om_int fun i j h => of_decide_eq_true h
def mulB (i j : Int) : Bool := decide (i.natAbs.log2 + j.natAbs.log2 ≤ 900000)
theorem mulB_ok {i j : Int} (h : mulB i j = true) : IntMulOk i j := by
 have h := of_decide_eq_true h
 exact mulOk_w (a := i.natAbs.log2 + 1) (b := j.natAbs.log2 + 1) Nat.lt_log2_self Nat.lt_log2_self (Nat.succ_pos _) (Nat.succ_pos _) (by omega)
theorem mulB_of {i j : Int} {a b : Nat} (h1 : i.natAbs < 2 ^ a) (h2 : j.natAbs < 2 ^ b) (h : a + b ≤ 900000) : mulB i j = true := by
 have q : ∀ {n c : Nat}, n < 2 ^ c → n.log2 ≤ c := fun {n c} h => by
  by_cases h0 : n = 0
  ·subst h0; exact Nat.zero_le _
  ·exact Nat.le_of_lt ((Nat.log2_lt h0).mpr h)
 exact decide_eq_true (by have := q h1; have := q h2; omega)
def repB (n : Int) (l : Nat) : Bool := decide (n ≤ 1000) && (decide (-1000000 ≤ n) && Nat.ble l 1000)
theorem repB_ok {n : Int} {l : Nat} (h : repB n l = true) : n ≤ 1000 ∧ -1000000 ≤ n ∧ l ≤ 1000 := by
 have h1 := Bool.and_eq_true_iff.mp h
 have h2 := Bool.and_eq_true_iff.mp h1.2
 exact ⟨of_decide_eq_true h1.1, of_decide_eq_true h2.1, Nat.le_of_ble_eq_true h2.2⟩
def fMul0 : D → D → Option D
 | .int i, .int j => match mulB i j with
  | true => some (.int (i * j))
  | false => none
 | .tup a, .int n => match repB n a.length with
  | true => some (.tup (List.replicate n.toNat a).flatten)
  | false => none
 | .str z, .int n => match repB n z.length with
  | true => some (.str (strRep z n))
  | false => none
 | .lst a, .int n => match repB n a.length with
  | true => some (.lst (List.replicate n.toNat a).flatten)
  | false => none
 | .lst a, .bl b => some (.lst (if b then a else []))
 | _, _ => none
def fMul := onV2 fMul0
theorem om_mul : OpM rMul fMul := opM fun M d e k q => by
 cases d with
 | int i => cases e with
  | int j => obtain ⟨h1, h2⟩ := kO_if q; exact ⟨mulB_ok h1, h2⟩
  | _ => exact q.elim
 | str a => cases e with
  | int n => obtain ⟨h1, h2⟩ := kO_if q; have := repB_ok h1; exact ⟨⟨this.2.1, this.1, this.2.2⟩, h2⟩
  | _ => exact q.elim
 | tup a => cases e with
  | int n => obtain ⟨h1, h2⟩ := kO_if q; exact ⟨repB_ok h1, h2⟩
  | _ => exact q.elim
 | lst a => cases e with
  | int n => obtain ⟨h1, h2⟩ := kO_if q; exact ⟨repB_ok h1, h2⟩
  | bl b => exact q
  | _ => exact q.elim
 | _ => exact q.elim
def fLt0 : D → D → Option D
 | .int i, .int j => some (.bl (decide (i < j)))
 | .str i, .str j => some (.bl (decide (i.cps.toList < j.cps.toList)))
 | _, _ => none
def fLt := onV2 fLt0
theorem om_lt : OpM rLt fLt := opM fun M d e k q => by
 cases d with
 | int i => cases e with
  | int j => exact q
  | _ => exact q.elim
 | str i => cases e with
  | str j => exact q
  | _ => exact q.elim
 | _ => exact q.elim
def fGt := onV2 (fI0 fun i j => .bl (decide (j < i)))
theorem om_gt : OpM rGt fGt := om_int0
def fNeg := onV1 fun d => match d with
 | .int i => some (.int (-i))
 | _ => none
theorem um_neg : UnM rNeg fNeg := unM fun M d k q => by
 cases d with
 | int i => exact q
 | _ => exact q.elim
@[irreducible] def eqG (d e : D) : Option Bool := if lays d = true ∧ lays e = true ∧ dep d ≤ 64 ∧ dep e ≤ 64 then some (eqD d e) else none
theorem eqG_of {d e : D} (h1 : lays d = true) (h2 : lays e = true) (h3 : dep d ≤ 64) (h4 : dep e ≤ 64) : eqG d e = some (eqD d e) := by unfold eqG; rw [if_pos ⟨h1, h2, h3, h4⟩]
theorem eqG_in {d e : D} {b : Bool} (h : eqG d e = some b) : lays d = true ∧ lays e = true ∧ dep d ≤ 64 ∧ dep e ≤ 64 ∧ b = eqD d e := by
 unfold eqG at h
 split at h
 ·rename_i q; cases h; exact ⟨q.1, q.2.1, q.2.2.1, q.2.2.2, rfl⟩
 ·cases h
def eq0 (d e : D) : Option Bool := match scalD d e with
 | some b => some b
 | none => eqG d e
def fEq (g : Bool → Bool) : Vl → Vl → Option D
 | .v d, .v e => match eq0 d e with
  | some b => some (.bl (g b))
  | none => none
 | .o (.lst ds), .v e => match eqG (.lst ds) e with
  | some b => some (.bl (g b))
  | none => none
 | _, _ => none
theorem om_eq : OpM rEq (fEq fun b => b) := fun M0 M u v d e k hu hv q => by
 cases v with
 | o n =>
  cases u with
  | v x => exact q.elim
  | o m => cases m <;> exact q.elim
 | v y =>
  cases hv
  cases u with
  | v x =>
   cases hu
   dsimp only [fEq, eq0] at q
   have key : (match scalD d e with
    | some b => k (.bl b) M
    | none => rEqP d e M k) := by
    cases hs : scalD d e with
    | some b => rw [hs] at q; exact q
    | none =>
     rw [hs] at q
     cases h : eqG d e with
     | none => simp only [h] at q; exact q.elim
     | some b =>
      simp only [h] at q
      obtain ⟨h1, h2, h3, h4, rfl⟩ := eqG_in h
      exact rEqP_lays h1 h2 q h3 h4
   cases d with
   | ref a =>
    exfalso
    have hs : scalD (.ref a) e = none := by cases e <;> rfl
    rw [hs] at q
    cases h : eqG (.ref a) e with
    | none => simp only [h] at q; exact q.elim
    | some b => obtain ⟨h1, _⟩ := eqG_in h; cases h1
   | _ => exact key
  | o m =>
   cases m with
   | lst ds =>
    obtain ⟨a, rfl, h1, _⟩ := hu
    dsimp only [fEq] at q
    cases h : eqG (.lst ds) e with
    | none => simp only [h] at q; exact q.elim
    | some b =>
     simp only [h] at q
     obtain ⟨h5, h2, h3, h4, rfl⟩ := eqG_in h
     exact ⟨ds, h1, rEqP_lays h5 h2 q h3 h4⟩
   | _ => exact q.elim
theorem om_ne : OpM rNe (fEq fun b => !b) := fun M0 M u v d e k hu hv q => by
 cases v with
 | o n =>
  cases u with
  | v x => exact q.elim
  | o m => cases m <;> exact q.elim
 | v y =>
  cases hv
  cases u with
  | v x =>
   cases hu
   dsimp only [fEq, eq0] at q
   have key : (match scalD d e with
    | some b => k (.bl (!b)) M
    | none => rNeP d e M k) := by
    cases hs : scalD d e with
    | some b => rw [hs] at q; exact q
    | none =>
     rw [hs] at q
     cases h : eqG d e with
     | none => simp only [h] at q; exact q.elim
     | some b =>
      simp only [h] at q
      obtain ⟨h1, h2, h3, h4, rfl⟩ := eqG_in h
      exact rNeP_lays h1 h2 q h3 h4
   cases d with
   | ref a =>
    exfalso
    have hs : scalD (.ref a) e = none := by cases e <;> rfl
    rw [hs] at q
    cases h : eqG (.ref a) e with
    | none => simp only [h] at q; exact q.elim
    | some b => obtain ⟨h1, _⟩ := eqG_in h; cases h1
   | _ => exact key
  | o m =>
   cases m with
   | lst ds =>
    obtain ⟨a, rfl, h1, _⟩ := hu
    dsimp only [fEq] at q
    cases h : eqG (.lst ds) e with
    | none => simp only [h] at q; exact q.elim
    | some b =>
     simp only [h] at q
     obtain ⟨h5, h2, h3, h4, rfl⟩ := eqG_in h
     exact ⟨ds, h1, rNeP_lays h5 h2 q h3 h4⟩
   | _ => exact q.elim
end DM
namespace DM
open PySem PySem.Spec PyProof.Rows L2 DL
inductive Ct where
 | sq (ds : List D) | dc (ks : List Str) (xs : List D) | dt (ks : List (List Int)) (xs : List D) | tx (z : Str)
def ctO : MO → Option Ct
 | .lst ds => some (.sq ds) | .dct ks xs => some (.dc ks xs) | .dcT ks xs => some (.dt ks xs)
 | _ => none
def ctD (d : D) (M : MH) : Option Ct := match d with
 | .tup ds => some (.sq ds) | .lst ds => some (.sq ds) | .dct ks xs => some (.dc ks xs) | .dcl ks xs => some (.dc ks xs) | .dcT ks xs => some (.dt ks xs) | .dlT ks xs => some (.dt ks xs) | .str z => some (.tx z)
 | .ref a => match M a with
  | some m => ctO m
  | none => none
 | _ => none
def ctV : Vl → Option Ct
 | .v (.tup ds) => some (.sq ds) | .v (.lst ds) => some (.sq ds) | .v (.dct ks xs) => some (.dc ks xs) | .v (.dcl ks xs) => some (.dc ks xs) | .v (.dcT ks xs) => some (.dt ks xs) | .v (.dlT ks xs) => some (.dt ks xs) | .v (.str z) => some (.tx z)
 | .v _ => none
 | .o m => ctO m
theorem ctV_D {M0 : M0T} {M : MH} {u : Vl} {d : D} {c : Ct} (h : RelV M0 M u d) (e : ctV u = some c) : ctD d M = some c := by
 cases u with
 | v x => cases h; cases d <;> first | exact e | cases e
 | o m =>
  obtain ⟨a, rfl, h1, _⟩ := h
  show (match M a with | some m => ctO m | none => none) = _
  rw [h1]
  exact e
section
variable {K : PySem.W.Frag} {H F : Hp} {M : MH} {v : V} {d : D}
theorem ct_sq {ds : List D} (S : RepS K H F M) (r : Rep K F v d) (h : ctD d M = some (.sq ds)) : ∃ p xs, v = .ref p ∧ (SqL K H p xs ∨ SqT K H p xs) ∧ Reps K F xs ds ∧ ds.length ≤ sizeLine := by
 cases d with
 | tup es => cases h; cases r with | tup a b c => exact ⟨_, _, rfl, .inr (seqU S.fz a), b, c⟩
 | lst es => cases h; cases r with | lst a b c => exact ⟨_, _, rfl, .inl (SqL.of (S.fz _ _ a)), b, c⟩
 | ref a =>
  have h : (match M a with | some m => ctO m | none => none) = some (.sq ds) := h
  cases hm : M a with
  | none => rw [hm] at h; cases h
  | some m =>
   rw [hm] at h
   cases m with
   | lst es =>
    cases h
    obtain ⟨_, hl, xs, hx, hr⟩ := S.mlst hm
    cases r
    exact ⟨_, _, rfl, .inl (SqL.of hx), hr, hl⟩
   | _ => cases h
 | _ => cases h
theorem ct_dc {ks : List Str} {ds : List D} (S : RepS K H F M) (r : Rep K F v d) (h : ctD d M = some (.dc ks ds)) : ∃ p xs, v = .ref p ∧ Rd H p (.dK (kvz ks xs)) ∧ Reps K F xs ds ∧ ks.length = ds.length ∧ ds.length ≤ sizeLine := by
 cases d with
 | dct es ys => cases h; cases r with | dct a b c e => exact ⟨_, _, rfl, .inl (S.fz _ _ a), b, c, e⟩
 | dcl es ys => cases h; cases r with | dcl a b c e => exact ⟨_, _, rfl, .inr ⟨_, S.fz _ _ a⟩, b, c, e⟩
 | ref a =>
  have h : (match M a with | some m => ctO m | none => none) = some (.dc ks ds) := h
  cases hm : M a with
  | none => rw [hm] at h; cases h
  | some m =>
   rw [hm] at h
   cases m with
   | dct es ys =>
    cases h
    obtain ⟨_, o, ho, xs, rfl, hr, hl, hz⟩ := S.mu _ _ hm
    cases r
    exact ⟨_, _, rfl, .inl ho, hr, hl, hz⟩
   | _ => cases h
 | _ => cases h
theorem ct_dt {ks : List (List Int)} {ds : List D} (S : RepS K H F M) (r : Rep K F v d) (h : ctD d M = some (.dt ks ds)) : ∃ p xs, v = .ref p ∧ Rd H p (.dT (kvt ks xs)) ∧ Reps K F xs ds ∧ ks.length = ds.length ∧ ds.length ≤ sizeLine := by
 cases d with
 | dcT es ys => cases h; cases r with | dcT a b c e => exact ⟨_, _, rfl, .inl (S.fz _ _ a), b, c, e⟩
 | dlT es ys => cases h; cases r with | dlT a b c e => exact ⟨_, _, rfl, .inr ⟨_, S.fz _ _ a⟩, b, c, e⟩
 | ref a =>
  have h : (match M a with | some m => ctO m | none => none) = some (.dt ks ds) := h
  cases hm : M a with
  | none => rw [hm] at h; cases h
  | some m =>
   rw [hm] at h
   cases m with
   | dcT es ys =>
    cases h
    obtain ⟨_, o, ho, xs, rfl, hr, hl, hz⟩ := S.mu _ _ hm
    cases r
    exact ⟨_, _, rfl, .inl ho, hr, hl, hz⟩
   | _ => cases h
 | _ => cases h
theorem ct_tx {z : Str} (r : Rep K F v d) (h : ctD d M = some (.tx z)) : v = .str z := by
 cases d with
 | str y => cases h; cases r; rfl
 | ref a =>
  have h : (match M a with | some m => ctO m | none => none) = some (.tx z) := h
  cases hm : M a with
  | none => rw [hm] at h; cases h
  | some m => rw [hm] at h; cases m <;> cases h
 | _ => cases h
end
section
variable {X : Cx}
end
def wIxX (wa wb : WE) : WE := fun ρ M k x => wa ρ M (fun d M1 => wb ρ M1 (fun e M2 => match ctD d M2 with
 | some (.sq ds) => onInt e fun i => onO (atI ds i) fun y => k y M2
 | some (.tx z) => onInt e fun i => z.length ≤ sizeLine ∧ onO (atI z.cps.toList i) fun c => k (.str ⟨#[c]⟩) M2
 | some (.dc ks xs) => onStr e fun z => onO (getL ks xs z) fun y => k y M2
 | _ => False) x) x
section
variable {X : Cx} {a b : Expr} {wa wb : WE} {ma mb : WM} {pos : Pos}
theorem ix_K (hu : X.A.units + 1 < cLine) : IxR X (fun x y H Q => ∃ p v, x = .ref p ∧ DGet H p y (some v) ∧ Q v H) := by
 intro value slice pins s σ H x y v u Q I rx ry h hs
 obtain ⟨p, z, rfl, g, q⟩ := h
 cases (show v = Value.ref p from rx)
 exact tail_any (dict_typeIs I g) PySem.F.slot_dict_getitem.lookup (d_getItem hu I g ry fun w' s' I' rw' => ⟨z, H, I', rw', q⟩) hs
theorem de_ixX {Tq : TkC} (hu : X.A.units + 65 < cLine) (ha : DE Tq X a wa) (hb : DE Tq X b wb) (hs : PlainIx b := by intro _ _; rfl) : DE Tq X (.Subscript a b pos) (wIxX wa wb) := by
 refine ⟨fun W tk => pe_imp (pe_ix (ix_seq.or (ix_K (by omega))) (ha.pe W tk) (hb.pe W tk) hs) fun σ H Q q => ?_⟩
 obtain ⟨F, M, ρ, k, x, S, E, w, pv, px⟩ := q
 refine two S E w px fun v u d e H2 F2 M2 e2 S2 r1 r2 w2 => ?_
 have pv2 := pv.on e2
 cases hc : ctD d M2 with
 | none => rw [hc] at w2; exact w2.elim
 | some c =>
  rw [hc] at w2
  cases c with
  | sq ds =>
   obtain ⟨i, rfl, w3⟩ := int_of r2 w2
   obtain ⟨y, h1, h2⟩ := onO_of w3
   obtain ⟨p, xs, rfl, hp, hr, hl⟩ := ct_sq S2 r1 hc
   obtain ⟨z, h3, h4⟩ := hr.atI h1
   rcases hp with hp | hp
   ·exact .inl (.inl ⟨_, xs, _, z, rfl, rfl, hp, h3, pv2.at S2 h4 h2⟩)
   ·exact .inl (.inr (.inl ⟨_, xs, _, z, rfl, rfl, hp, h3, pv2.at S2 h4 h2⟩))
  | tx z =>
   obtain ⟨i, rfl, hz, w3⟩ := int_of r2 w2
   obtain ⟨y, h1, h2⟩ := onO_of w3
   rw [ct_tx r1 hc]
   exact .inl (.inr (.inr ⟨_, _, y, rfl, rfl, hz, h1, pv2.at S2 (.str _) h2⟩))
  | dc ks xs =>
   obtain ⟨z, rfl, w3⟩ := str_of r2 w2
   obtain ⟨p, ys, rfl, hp, hr, hl, hz⟩ := ct_dc S2 r1 hc
   obtain ⟨y, h1, h2⟩ := onO_of w3
   obtain ⟨v, h3, h4⟩ := hr.getL h1
   exact .inr ⟨p, v, rfl, by rw [← h3, ← valV_kvz]; exact .inl ⟨_, .inr z, hp, rfl, rfl⟩, pv2.at S2 h4 h2⟩
  | dt ks xs => exact w2.elim
def fIx : Vl → Vl → Option D := fun u v => match ctV u, v with
 | some (.sq ds), .v (.int i) => atI ds i
 | some (.tx z), .v (.int i) => match Nat.ble z.length 16777216 with
  | true => match atI z.cps.toList i with
   | some c => some (.str ⟨#[c]⟩)
   | none => none
  | false => none
 | some (.dc ks xs), .v (.str z) => getL ks xs z
 | _, _ => none
theorem om_ix {M0 : M0T} {M : MH} {u v : Vl} {d e : D} {k : KD} (hu : RelV M0 M u d) (hv : RelV M0 M v e) (q : kO (fIx u v) k M) : (match ctD d M with
  | some (.sq ds) => onInt e fun i => onO (atI ds i) fun y => k y M
  | some (.tx z) => onInt e fun i => z.length ≤ sizeLine ∧ onO (atI z.cps.toList i) fun c => k (.str ⟨#[c]⟩) M
  | some (.dc ks xs) => onStr e fun z => onO (getL ks xs z) fun y => k y M
  | _ => False) := by
 unfold fIx at q
 cases hc : ctV u with
 | none => rw [hc] at q; exact q.elim
 | some c =>
  rw [hc] at q
  rw [ctV_D hu hc]
  cases v with
  | o n => cases c <;> exact q.elim
  | v y =>
   cases hv
   cases c with
   | sq ds =>
    cases e with
    | int i =>
     dsimp only at q ⊢
     cases h : atI ds i with
     | none => rw [h] at q; exact q.elim
     | some y => rw [h] at q; show onO (atI ds i) _; rw [h]; exact q
    | _ => exact q.elim
   | tx z =>
    cases e with
    | int i =>
     dsimp only at q ⊢
     cases hb : Nat.ble z.length 16777216 with
     | false => rw [hb] at q; exact q.elim
     | true =>
      rw [hb] at q
      refine ⟨ble_line hb, ?_⟩
      dsimp only at q ⊢
      cases h : atI z.cps.toList i with
      | none => rw [h] at q; exact q.elim
      | some y => rw [h] at q; exact q
    | _ => exact q.elim
   | dc ks xs =>
    cases e with
    | str z =>
     dsimp only at q ⊢
     cases h : getL ks xs z with
     | none => rw [h] at q; exact q.elim
     | some y => rw [h] at q; show onO (getL ks xs z) _; rw [h]; exact q
    | _ => exact q.elim
   | dt ks xs => cases e <;> exact q.elim
theorem me_ix {Tq : TkC} (hu : X.A.units + 65 < cLine) (ha : ME Tq X a ma) (hb : ME Tq X b mb) (hs : PlainIx b := by intro _ _; rfl) : ME Tq X (.Subscript a b pos) (mOp fIx ma mb) :=
 de_weak (de_ixX hu ha hb hs) fun ρ M k x ⟨M0, r, K, XX, G, O, L, hk, g⟩ => ⟨M0, r, _, XX, G, O, L, fun u d hu g => ⟨M0, r, _, XX, G, O, L, fun v e hv g => om_ix hu hv (kO_of L hk g), g⟩, g⟩
end
end DM
namespace DM
open PySem PySem.Spec PyProof.Rows L2 DL
section
variable {X : Cx} {a : Expr} {ma : WM} {pos : Pos}
end
def on1V (f : Vl → Option D) : List Vl → Option D
 | [u] => f u
 | _ => none
def on2V (f : Vl → Vl → Option D) : List Vl → Option D
 | [u, v] => f u v
 | _ => none
theorem cm1 {p : D → MH → KD → Prop} {f : Vl → Option D} (h : UnM p f) : CallM (fun ds M k => on1 ds fun d => p d M k) (on1V f) := fun M0 M us ds k hu q => by
 cases hu with
 | nil => exact q.elim
 | cons h1 h2 =>
  cases h2 with
  | nil => exact h M0 M _ _ k h1 q
  | cons _ _ => exact q.elim
def rLnX : RB := fun ds M k => on1 ds fun d => match ctD d M with
 | some (.sq es) => k (.int es.length) M
 | some (.dc ks _) => k (.int ks.length) M
 | some (.dt ks _) => k (.int ks.length) M
 | some (.tx z) => z.length ≤ sizeLine ∧ k (.int z.length) M
 | none => False
theorem call_lenRd {X : Cx} : CallR X (.builtin "len") (fun xs H Q => ∃ a kvs, xs = [V.ref a] ∧ Rd H a (.dK kvs) ∧ Q (.int kvs.length) H) := fun pins s σ H xs us Q I r ⟨a, kvs, e, ha, q⟩ => by
 subst e
 obtain ⟨u, rfl, ru⟩ := vals1 r
 cases ru
 exact d_len I ha fun t s' I' => ⟨.int kvs.length, H, I', ⟨t, rfl⟩, q⟩
theorem call_lenTRd {X : Cx} : CallR X (.builtin "len") (fun xs H Q => ∃ (p : Addr) (kvs : List (List Key × V)), xs = [V.ref p] ∧ Rd H p (.dT kvs) ∧ Q (.int ((kvs.length : Nat) : Int)) H) := by
 intro pins s σ H xs us Q I r h
 obtain ⟨p, kvs, rfl, hp, q⟩ := h
 obtain ⟨u, rfl, rx⟩ := vals1 r
 obtain rfl : u = .ref p := rx
 obtain ⟨z, hd, ys, rel, dd⟩ := dt_rd I.hok hp
 have hl : kvs.length = ys.length := Paired.length rel
 refine call_len_dictH hd dd (by rw [← hl]; rw [sizeLine_eq] at z; omega) ?_
 rw [← hl]
 exact ⟨.int ((kvs.length : Nat) : Int), H, I.tok _, ⟨_, rfl⟩, q⟩
theorem cd_lenX {X : Cx} : CallD X (.builtin "len") rLnX := by
 obtain ⟨r2, h, s⟩ := cd_len (X := X)
 refine ⟨_, h.or (call_lenRd.or call_lenTRd), fun ds vs H F M k Q S r w pv => ?_⟩
 obtain ⟨d, e0, w2⟩ := on1_of w
 clear w
 subst e0
 obtain ⟨v, rfl, r1⟩ := reps1 r
 have w := w2
 clear w2
 cases hc : ctD d M with
 | none => rw [hc] at w; exact w.elim
 | some c =>
  rw [hc] at w
  cases c with
  | dc ks es =>
   obtain ⟨p, xs, rfl, hp, hr, hl, hz⟩ := ct_dc S r1 hc
   refine .inr (.inl ⟨p, _, rfl, hp, pv.at S (.int _) ?_⟩)
   rw [kvz_len (by rw [hr.length]; exact hl), hr.length, ← hl]
   exact w
  | dt ks es =>
   obtain ⟨p, xs, rfl, hp, hr, hl, hz⟩ := ct_dt S r1 hc
   refine .inr (.inr ⟨p, _, rfl, hp, pv.at S (.int _) ?_⟩)
   have e : (kvt ks xs).length = ks.length := by unfold kvt; rw [List.length_map, List.length_zip, hr.length, hl, Nat.min_self]
   rw [e]
   exact w
  | sq es =>
   refine .inl (s [d] [v] H F M k Q S r ?_ pv)
   cases d with
   | tup _ => cases hc; exact w
   | lst _ => cases hc; exact w
   | ref a =>
    have hc : (match M a with | some m => ctO m | none => none) = some (.sq es) := hc
    cases hm : M a with
    | none => rw [hm] at hc; cases hc
    | some m => rw [hm] at hc; cases m <;> cases hc; exact ⟨es, hm, w⟩
   | _ => cases hc
  | tx z =>
   refine .inl (s [d] [v] H F M k Q S r ?_ pv)
   cases d with
   | str _ => cases hc; exact w
   | ref a =>
    have hc : (match M a with | some m => ctO m | none => none) = some (.tx z) := hc
    cases hm : M a with
    | none => rw [hm] at hc; cases hc
    | some m => rw [hm] at hc; cases m <;> cases hc
   | _ => cases hc
def fLen := on1V fun u => match ctV u with
 | some (.sq es) => some (.int es.length)
 | some (.dc ks _) => some (.int ks.length)
 | some (.dt ks _) => some (.int ks.length)
 | some (.tx z) => match Nat.ble z.length 16777216 with
  | true => some (.int z.length)
  | false => none
 | none => none
theorem cm_len : CallM rLnX fLen := cm1 fun M0 M u d k hu q => by
 cases hc : ctV u with
 | none => rw [hc] at q; exact q.elim
 | some c =>
  rw [hc] at q
  rw [ctV_D hu hc]
  cases c with
  | tx z => obtain ⟨h1, h2⟩ := kO_if q; exact ⟨ble_line h1, h2⟩
  | _ => exact q
def itemsV : Vl → Option (List D)
 | .v (.tup ds) => some ds | .v (.lst ds) => some ds | .o (.lst ds) => some ds
 | _ => none
theorem itemsV_ok {M0 : M0T} {M : MH} {u : Vl} {d : D} {es : List D} {k : List D → Prop} (h : RelV M0 M u d) (e : itemsV u = some es) (q : k es) : itemsD d M k := by
 cases u with
 | v x => cases h; cases d <;> cases e <;> exact q
 | o m =>
  obtain ⟨a, rfl, h1, _⟩ := h
  cases m <;> cases e
  exact ⟨es, h1, q⟩
def fTuple := on1V fun u => match itemsV u with
 | some es => some (.tup es)
 | none => none
theorem cm_tuple : CallM rTuple fTuple := cm1 fun M0 M u d k hu q => by
 cases hc : itemsV u with
 | none => rw [hc] at q; exact q.elim
 | some es => rw [hc] at q; exact itemsV_ok hu hc q
def fMax2 := on2V (onV2 (fI0 fun i j => .int (if j > i then j else i)))
section
variable {X : Cx} {pos : Pos}
def mAug (i : Nat) (f : Vl → Vl → Option D) (me : WM) : WMS := fun r E => match r[i]? with
 | some (some (.v d)) => me r (fun u => oK (f (.v d) u) fun z => E.nx (r.set i (some (.v z)))) E.xc
 | _ => .bad
theorem ms_aug {Tq : TkC} {i : Nat} {me : WM} {st : Stmt} {rd : RD} {f : Vl → Vl → Option D} (hf : OpM rd f) (h : DS Tq X st (wAug i rd (wE me))) : MS Tq X st (mAug i f me) := ds_weak h fun ρ M E ⟨M0, r, EK, G, O, L, g⟩ => by
 unfold mAug at g
 split at g
 ·rename_i d e1
  obtain ⟨z, e2, hz⟩ := O.at_ i _ e1
  refine ⟨z, e2, M0, r, _, EK.xc, G, O, L.lk O.sub, fun u e hu g => hf M0 M _ _ _ _ _ hz hu ?_, g⟩
  cases h : f (.v d) u with
  | none => rw [h] at g; exact L.nb g
  | some y => rw [h] at g; exact L.nx _ _ M (O.set i y) g
 ·exact (L.nb g).elim
def mRaise (nm f tg : Str) (me : WM) : WMS := fun r E => me r (fun u => onVl u fun d => E.xc nm [("tag", .str tg), (f, d)]) E.xc
theorem ms_raise {Tq : TkC} {st : Stmt} {nm f tg : Str} {me : WM} (h : DS Tq X st (wRaise nm f tg (wE me))) : MS Tq X st (mRaise nm f tg me) := ds_weak h fun ρ M E ⟨M0, r, EK, G, O, L, g⟩ =>
 ⟨M0, r, _, EK.xc, G, O, L.lk O.sub, fun u d hu g => onVl_in L.nb hu g fun g => L.xc _ _ M O.sub g, g⟩
end
end DM
namespace DM
open PySem PySem.Spec PyProof.Rows L2 DL
section
variable {X : Cx} {st : Stmt} {e : Expr} {me mi : WM} {pos : Pos}
end
section
variable {α : Type}
def ins (le : α → α → Bool) (x : α) : List α → List α
 | [] => [x]
 | y :: r => match le x y with
  | true => x :: y :: r
  | false => y :: ins le x r
def isort (le : α → α → Bool) : List α → List α
 | [] => []
 | x :: r => ins le x (isort le r)
theorem ins_perm (le : α → α → Bool) (x : α) : ∀ l : List α, (ins le x l).Perm (x :: l)
 | [] => List.Perm.refl _
 | y :: r => by
  unfold ins
  cases le x y with
  | true => exact List.Perm.refl _
  | false => exact ((ins_perm le x r).cons y).trans (List.Perm.swap x y r)
theorem isort_perm (le : α → α → Bool) : ∀ l : List α, (isort le l).Perm l
 | [] => List.Perm.refl _
 | x :: r => (ins_perm le x _).trans ((isort_perm le r).cons x)
theorem ins_sorted {le : α → α → Bool} (tot : ∀ a b, le a b = false → le b a = true) (tr : ∀ a b c, le a b = true → le b c = true → le a c = true) (x : α) : ∀ {l : List α}, l.Pairwise (fun a b => le a b = true) → (ins le x l).Pairwise (fun a b => le a b = true)
 | [], _ => List.pairwise_singleton _ _
 | y :: r, h => by
  obtain ⟨h1, h2⟩ := List.pairwise_cons.mp h
  unfold ins
  cases e : le x y with
  | true => exact List.pairwise_cons.mpr ⟨fun z hz => by
    rcases List.mem_cons.mp hz with rfl | hz
    ·exact e
    ·exact tr _ _ _ e (h1 z hz), h⟩
  | false => exact List.pairwise_cons.mpr ⟨fun z hz => by
    rcases List.mem_cons.mp ((ins_perm le x r).mem_iff.mp hz) with rfl | hz
    ·exact tot _ _ e
    ·exact h1 z hz, ins_sorted tot tr x h2⟩
theorem isort_sorted {le : α → α → Bool} (tot : ∀ a b, le a b = false → le b a = true) (tr : ∀ a b c, le a b = true → le b c = true → le a c = true) : ∀ l : List α, (isort le l).Pairwise (fun a b => le a b = true)
 | [] => .nil
 | x :: r => ins_sorted tot tr x (isort_sorted tot tr r)
end
end DM
namespace DM
open PySem PySem.Spec PyProof.Rows L2 DL
theorem hw_mE {m : List D → Ans} {s : WMS} {N : List Str} (e : ∀ ds, m ds = callM s N ds) {n : Nat} (ds : List D) (M : MH) (k : KD) (x : KE) (_ : ds.length = n) (h : wfOf m ds M k x) : wS s (startD N ds) M (retE k x) := by
 refine hw_m ds M k x ?_
 unfold wfOf at h ⊢
 rw [← e ds]
 exact h
theorem comp_nil {g : WMG} {mt : WMT} {me : WM} {r : Rm} {K : List D → Ans} : compM g mt me r [] K = K [] := by unfold compM; rfl
theorem comp_cons {g : WMG} {mt : WMT} {me : WM} {r : Rm} {d : D} {t : List D} {K : List D → Ans} : compM g mt me r (d :: t) K = oK (g d r) fun r1 => mt r1 (fun b => match b with
  | true => me r1 (fun u => onVl u fun e => compM g mt me r t fun es => K (e :: es)) fun _ _ => .bad
  | false => compM g mt me r t K) fun _ _ => .bad := by unfold compM; rfl
theorem comp_map {α : Type} {g : WMG} {me : WM} {r : Rm} (t f : α → D) : ∀ (xs : List α) {K : List D → Ans}, (∀ a, a ∈ xs → ∀ (K' : KV) X', oK (g (t a) r) (fun r1 => me r1 K' X') = K' (.v (f a))) → compM g mYes me r (xs.map t) K = K (xs.map f)
 | [], K, h => comp_nil
 | a :: xs, K, h => by
  rw [List.map_cons, comp_cons]
  show oK (g (t a) r) (fun r1 => me r1 (fun u => onVl u fun e => compM g mYes me r (xs.map t) fun es => K (e :: es)) fun _ _ => .bad) = _
  rw [h a List.mem_cons_self]
  show compM g mYes me r (xs.map t) (fun es => K (f a :: es)) = _
  rw [comp_map t f xs fun b hb => h b (List.mem_cons_of_mem _ hb)]
  rfl
theorem comp_filter {α : Type} {g : WMG} {mt : WMT} {me : WM} {r : Rm} (t f : α → D) (p : α → Bool) : ∀ (xs : List α) {K : List D → Ans}, (∀ a, a ∈ xs → ∃ r1, g (t a) r = some r1 ∧ (∀ (K' : Bool → Ans) X', mt r1 K' X' = K' (p a)) ∧ (p a = true → ∀ (K' : KV) X', me r1 K' X' = K' (.v (f a)))) → compM g mt me r (xs.map t) K = K ((xs.filter p).map f)
 | [], K, h => comp_nil
 | a :: xs, K, h => by
  obtain ⟨r1, h1, h2, h3⟩ := h a List.mem_cons_self
  rw [List.map_cons, comp_cons, h1]
  show mt r1 _ _ = _
  rw [h2]
  cases e : p a with
  | true =>
   show me r1 _ _ = _
   rw [h3 e, List.filter_cons_of_pos e]
   show compM g mt me r (xs.map t) (fun es => K (f a :: es)) = _
   rw [comp_filter t f p xs fun b hb => h b (List.mem_cons_of_mem _ hb)]
   rfl
  | false =>
   rw [List.filter_cons_of_neg (by rw [e]; decide)]
   exact comp_filter t f p xs fun b hb => h b (List.mem_cons_of_mem _ hb)
theorem eq0_lays {d e : D} (h1 : lays d = true) (h2 : lays e = true) (h3 : dep d ≤ 64) (h4 : dep e ≤ 64) : eq0 d e = some (eqD d e) := by
 unfold eq0
 cases h : scalD d e with
 | some b => rw [scal_eqv h]
 | none => exact eqG_of h1 h2 h3 h4
theorem fEq_lays {g : Bool → Bool} {d e : D} (h1 : lays d = true) (h2 : lays e = true) (h3 : dep d ≤ 64) (h4 : dep e ≤ 64) : fEq g (.v d) (.v e) = some (.bl (g (eqD d e))) := by
 show (match eq0 d e with | some b => some (D.bl (g b)) | none => none) = _
 rw [eq0_lays h1 h2 h3 h4]
end DM
namespace EnT
open PySem
open Sem (wp)
section
variable {prog : Program} {w : World} {A : Around} {E : Value → Shared → Prop} {s : Shared}
end
open PySem.Spec PyProof.Rows L2
end EnT
namespace DL
open PySem PySem.Spec PyProof.Rows L2
end DL
namespace DM
open PySem PySem.Spec PyProof.Rows L2 DL
end DM
namespace DL
open PySem PySem.Spec PyProof.Rows L2 _root_.DM
section
variable {K : PySem.W.Frag} {H F : Hp} {M : MH} {A : List Addr}
def lent (H F : Hp) (A : List Addr) : Hp := fun b => if b ∈ A then H b else F b
def back (F : Hp) (A : List Addr) : Hp := fun b => if b ∈ A then none else F b
variable {H' F' : Hp}
end
section
variable {X : Cx} {pos p : Pos} {f : Str} {e : Expr} {es : List Expr} {k n : Nat} {m : List D → Ans} {wa : WA}
end
end DL
namespace DM
open PySem PySem.Spec PyProof.Rows L2 DL
end DM
namespace DL
open PySem PySem.Spec PyProof.Rows L2
end DL
namespace DL
open PySem PySem.Spec PyProof.Rows L2
theorem ex_of {P : Program} {w : World} {K : PySem.W.Frag} {mg : Str → Option Value} {base : Heap} {nm qual p f tg : Str} {st : Stmt} {fI : Addr} {fd : FuncData} {p1 p2 p3 p4 p5 p6 p7 p8 : Pos} {j : Nat} {rs : List (Str × Option Str)} {tb : XTab} (hx : excsB rs tb K = true) (hm : (nm, some f) ∈ rs)
  (hI : L2.Meth K (He.ga K nm) "__init__" fI) (G : Fun K "__init__" qual st fI fd) (S : FnScope ["self", p] ["self", p] (defScope st))
  (hb : defBody st = [.Assign [.Attribute (.Name "self" p1) f p2] (.Name p p3) p4, .Assign [.Attribute (.Name "self" p5) "tag" p6] (.Constant (.str tg) j p7) p8])
  (hps : Vis (defScope st) "self" ∧ Vis (defScope st) p) (hd : (p == ("__debug__" : Str)) = false) (hcd : (p == ("__classdict__" : Str)) = false) (hg : mg nm = some (.ref (He.ga K nm)))
  (bi : ∀ (kV doc pm : Value) (an : Option Addr) (cdv ct : Value) (us : List Value), us.length = 2 → bindArgs (PySem.W.fnOf "__init__" qual (defArgs st) (defBody st) (defScope st) .none kV doc pm an cdv ct) ⟨us, []⟩ = pure (([("self" : Str), p] : List Str).zip us)) :
  ExD P w K mg base nm f tg 1 := by
 obtain ⟨h1, h2, h3⟩ := excsB_one hx hm
 exact ⟨h1, ⟨fI, fd, ["self", p], hI.at_, by have := hI.fn; unfold PySem.W.isFn at this; exact eq_of_beq this, fn_X G S hb hps hd hcd h1 (h3 f rfl).2 h2.2, G.binds bi⟩, hg⟩
end DL
namespace DL
open PySem PySem.Spec PyProof.Rows L2
structure AtF (K : PySem.W.Frag) (C f : Str) : Prop where
 cls : Cls K (He.ga K C)
 no : NoAttr K (He.ga K C) f
def fldD (C f : Str) (d : D) (M : MH) : Option D := match d with
 | .obj C' ks xs => if C' = C then getL ks xs f else none
 | .ref a => match M a with
  | some (.ins C' ks xs) => if C' = C then getL ks xs f else none
  | _ => none
 | _ => none
def wFld (C f : Str) (wa : WE) : WE := fun ρ M k x => wa ρ M (fun d M1 => onO (fldD C f d M1) fun y => k y M1) x
theorem lookup_zip {α : Type} : ∀ {ks : List Str} {xs : List α} {f : Str} {y : α}, getL ks xs f = some y → (ks.zip xs).lookup f = some y
 | [], _, _, _, h => by cases h
 | _ :: _, [], _, _, h => by cases h
 | k :: ks, x :: xs, f, y, h => by
  have h : (if k = f then some x else getL ks xs f) = some y := h
  show List.lookup f ((k, x) :: ks.zip xs) = some y
  rw [List.lookup_cons]
  by_cases e : k = f
  ·subst e
   rw [if_pos rfl] at h
   rw [beq_self_eq_true]
   exact h
  ·rw [if_neg e] at h
   rw [show (f == k) = false from beq_eq_false_iff_ne.mpr fun z => e z.symm]
   exact lookup_zip h
section
variable {X : Cx} {e : Expr} {pos : Pos} {wa : WE}
theorem de_fld {Tq : TkC} {C f : Str} (A : AtF X.K C f) (ha : DE Tq X e wa) (hb : attributeBase e f X.env (eval e X.env) = eval e X.env := by rfl) : DE Tq X (.Attribute e f pos) (wFld C f wa) := by
 refine ⟨fun W tk => pe_imp (pe_fld (ha.pe W tk) hb) fun σ H Q q => ?_⟩
 obtain ⟨F, M, ρ, k, x, S, E, w, pv, px⟩ := q
 refine ⟨F, M, ρ, _, x, S, E, w, fun v d H1 F1 M1 e1 S1 r1 w1 => ?_, px⟩
 have pv1 := pv.on e1
 obtain ⟨y, h1, h2⟩ := onO_of w1
 cases d with
 | obj C' ks ds =>
  have h1 : (if C' = C then getL ks ds f else none) = some y := h1
  by_cases hC : C' = C
  ·subst hC
   rw [if_pos rfl] at h1
   cases r1 with
   | obj hx hr hl =>
    obtain ⟨z, h3, h4⟩ := hr.getL h1
    exact ⟨_, _, _, _, z, rfl, S1.fz _ _ hx, A.cls, A.no, lookup_zip h3, pv1.at S1 h4 h2⟩
  ·rw [if_neg hC] at h1; cases h1
 | ref a =>
  cases r1
  have h1 : (match M1 a with
   | some (.ins C' ks xs) => if C' = C then getL ks xs f else none
   | _ => none) = some y := h1
  cases hm : M1 a with
  | none => rw [hm] at h1; cases h1
  | some m =>
   rw [hm] at h1
   cases m with
   | ins C' ks ds =>
    have h1 : (if C' = C then getL ks ds f else none) = some y := h1
    by_cases hC : C' = C
    ·subst hC
     rw [if_pos rfl] at h1
     obtain ⟨_, o, ho, dx, xs, rfl, hr, hl⟩ := S1.mu a _ hm
     obtain ⟨z, h3, h4⟩ := hr.getL h1
     exact ⟨_, _, _, _, z, rfl, ho, A.cls, A.no, lookup_zip h3, pv1.at S1 h4 h2⟩
    ·rw [if_neg hC] at h1; cases h1
   | lst _ => cases h1
   | dct _ _ => cases h1
   | dcT _ _ => cases h1
   | tab _ => cases h1
 | _ => cases h1
end
def setX {α : Type} : List Str → List α → Str → α → List α
 | [], _, _, v => [v]
 | k :: ks, x :: xs, f, v => if k = f then v :: xs else x :: setX ks xs f v
 | _ :: _, [], _, _ => []
def setK : List Str → Str → List Str
 | [], f => [f]
 | k :: ks, f => if k = f then k :: ks else k :: setK ks f
theorem putF_zip {f : Str} {v : V} : ∀ {ks : List Str} {xs : List V}, ks.length = xs.length → putF f v (ks.zip xs) = (setK ks f).zip (setX ks xs f v)
 | [], [], _ => rfl
 | k :: ks, x :: xs, h => by
  show (if k = f then (k, v) :: ks.zip xs else (k, x) :: putF f v (ks.zip xs)) = (if k = f then k :: ks else k :: setK ks f).zip (if k = f then v :: xs else x :: setX ks xs f v)
  by_cases e : k = f
  ·rw [if_pos e, if_pos e, if_pos e]; rfl
  ·rw [if_neg e, if_neg e, if_neg e, putF_zip (Nat.succ.inj h)]; rfl
 | [], _ :: _, h => by cases h
 | _ :: _, [], h => by cases h
theorem Reps.setX {K : PySem.W.Frag} {F : Hp} {f : Str} {v : V} {d : D} (hv : Rep K F v d) : ∀ {ks : List Str} {xs : List V} {ds : List D}, Reps K F xs ds → ks.length = ds.length → Reps K F (DL.setX ks xs f v) (DL.setX ks ds f d)
 | [], _, _, .nil, _ => .cons hv .nil
 | k :: ks, _, _, .cons h r, e => by
  show Reps K F (if k = f then _ else _) (if k = f then _ else _)
  by_cases z : k = f
  ·rw [if_pos z, if_pos z]; exact .cons hv r
  ·rw [if_neg z, if_neg z]; exact .cons h (Reps.setX hv r (Nat.succ.inj e))
 | [], _, _, .cons _ _, e => by cases e
 | _ :: _, _, _, .nil, e => by cases e
theorem setX_len {α : Type} {f : Str} {v : α} : ∀ {ks : List Str} {xs : List α}, ks.length = xs.length → (setK ks f).length = (setX ks xs f v).length
 | [], [], _ => rfl
 | k :: ks, x :: xs, h => by
  show (if k = f then k :: ks else k :: setK ks f).length = (if k = f then v :: xs else x :: setX ks xs f v).length
  by_cases z : k = f
  ·rw [if_pos z, if_pos z]; exact h
  ·rw [if_neg z, if_neg z, List.length_cons, List.length_cons, setX_len (Nat.succ.inj h)]
 | [], _ :: _, h => by cases h
 | _ :: _, [], h => by cases h
def wSetA (C f : Str) (wo we : WE) : WS := fun ρ M E => we ρ M (fun d M1 => wo ρ M1 (fun o M2 => ∃ a ks ds, o = .ref a ∧ M2 a = some (.ins C ks ds) ∧ ks.length < 1000 ∧ E.nx ρ (mupd M2 a (.ins C (setK ks f) (setX ks ds f d)))) E.xc) E.xc
section
variable {X : Cx} {o e : Expr} {pos pt : Pos} {wo we : WE}
theorem ds_setA {Tq : TkC} {C f : Str} (A : AtF X.K C f) (ho : DE Tq X o wo) (he : DE Tq X e we) (hs : swapsWith e (some (.Attribute o f pt)) pos.line X.env = pure false := by rfl) : DS Tq X (.Assign [.Attribute o f pt] e pos) (wSetA C f wo we) := by
 refine ⟨fun W tk _ => ps_imp (ps_fld (ho.pe W tk) (he.pe W tk) hs) fun D σ H q => ?_⟩
 obtain ⟨F, M, ρ, E, S, R, w, fi⟩ := q
 refine ⟨F, M, ρ, _, _, S, R, w, fun v d H1 F1 M1 e1 S1 r1 w1 => ?_, fi.xc σ⟩
 refine ⟨F1, M1, ρ, _, _, S1, R.mono e1.sm, w1, fun vo od H2 F2 M2 e2 S2 r2 w2 => ?_, (fi.xc σ).on e1⟩
 have e12 := e1.trans e2
 obtain ⟨a, ks, ds, rfl, hm, hl, w3⟩ := w2
 cases r2
 obtain ⟨_, u, hx, dx, xs, rfl, hr, hk⟩ := S2.mu a _ hm
 have hz : ks.length = xs.length := hk.trans hr.length.symm
 obtain ⟨S3, e3⟩ := S2.write hm (o := .ins (He.ga X.K C) dx (putF f v (ks.zip xs))) (m := .ins C (setK ks f) (setX ks ds f d)) ⟨dx, setX ks xs f v, by rw [putF_zip hz], hr.setX (r1.mono e2.sm) hk, setX_len hk⟩
 have e := e12.trans e3
 refine ⟨a, _, dx, _, rfl, hx, A.cls, A.no, ?_, fi.nx _ _ _ _ _ e S3 (R.mono e.sm) w3⟩
 rw [List.length_zip]
 omega
end
end DL
namespace DL
open PySem PySem.Spec PyProof.Rows L2
section
variable {X : Cx} {CX : CXT} {k : Nat} {f C : Addr} {fd : FuncData} {ps : List Str} {sp : Sp} {E : L2.St → XK} {x m : Str} {p pos apos : Pos} {e o : Expr} {es : List Expr} {ta : TE} {t : TA}
def tMethS (C : Addr) (m : Str) (sp : Sp) (E : L2.St → XK) (ta : TE) (t : TA) : TE := fun σ H Q => ta σ H fun x H1 => ∃ a dx fs, x = .ref a ∧ H1 a = some (.ins C dx fs) ∧ fs.lookup m = none ∧
 t σ H1 fun vs H2 => sp (x :: vs) H2 Q (E σ)
theorem pe_methAt0 {pl : Sem Bool} (he : PE X o ta) (c : Cls X.K C) (hm : Meth X.K C m f) (F : FnOk X.prog X.w X.K X.mg X.base CX k f fd ps sp) (hr : Room k X.A) (hb : Binds X.K fd ps []) (hx : ∀ σ, PassesAt CX X σ (E σ))
  (ht : eval (.Call (.Attribute o m apos) [] [] pos) X.env = (do
   let ov ← eval o X.env
   standAt apos.atName
   let (f, first) ← holding [ov] (getMethod ov m pl)
   callWith pos f first (backTo pos (starEach [] X.env)) (backToKw pos (keywordEach [] X.env))) := by rfl) :
  PE X (.Call (.Attribute o m apos) [] [] pos) (tMethS C m sp E ta tNil) := by
 refine ⟨fun pins s σ H Q I h => ?_⟩
 refine PySem.W.methodCall_KW (pl := pl) (thn (he.run pins s σ H _ I h) fun u s1 ⟨x, H1, I1, rx, a, dx, fs, ex, ea, l, q⟩ => ?_) ht
 subst ex
 obtain rfl : u = Value.ref a := rx
 refine getmeth_ok I1 ea c hm l ?_
 exact PySem.W.callWith_K0 (first := [.ref a]) I1.kIn hm.kp (run_fnS (us := [.ref a]) (vs := [.ref a]) F hr hb (hx σ) I1 (.cons rfl .nil) q)
end
end DL
namespace DL
open PySem PySem.Spec PyProof.Rows L2 _root_.DM
def insB (C m : Str) (d : D) (M : MH) : Bool := match d with
 | .obj C' ks _ => decide (C' = C) && decide (m ∉ ks)
 | .ref a => match M a with
  | some (.ins C' ks _) => decide (C' = C) && decide (m ∉ ks)
  | _ => false
 | _ => false
theorem lookup_none {α : Type} {m : Str} : ∀ {ks : List Str} {xs : List α}, m ∉ ks → (ks.zip xs).lookup m = none
 | [], _, _ => rfl
 | _ :: _, [], _ => rfl
 | k :: ks, x :: xs, h => by
  show List.lookup m ((k, x) :: ks.zip xs) = none
  rw [List.lookup_cons, show (m == k) = false from beq_eq_false_iff_ne.mpr fun z => h (by rw [z]; exact List.mem_cons_self)]
  exact lookup_none fun z => h (List.mem_cons_of_mem _ z)
theorem ins_of {K : PySem.W.Frag} {H F : Hp} {M : MH} {C m : Str} {d : D} {v : V} (S : RepS K H F M) (r : Rep K F v d) (h : insB C m d M = true) : ∃ a dx fs, v = .ref a ∧ H a = some (.ins (He.ga K C) dx fs) ∧ fs.lookup m = none := by
 cases d with
 | obj C' ks xs =>
  obtain ⟨h1, h2⟩ := Bool.and_eq_true_iff.mp (show (decide (C' = C) && decide (m ∉ ks)) = true from h)
  obtain rfl := of_decide_eq_true h1
  cases r with
  | obj hx hr hl => exact ⟨_, _, _, rfl, S.fz _ _ hx, lookup_none (of_decide_eq_true h2)⟩
 | ref a =>
  cases r
  have h : (match M a with
   | some (.ins C' ks _) => decide (C' = C) && decide (m ∉ ks)
   | _ => false) = true := h
  cases hm : M a with
  | none => rw [hm] at h; cases h
  | some o =>
   rw [hm] at h
   cases o with
   | ins C' ks ds =>
    obtain ⟨h1, h2⟩ := Bool.and_eq_true_iff.mp (show (decide (C' = C) && decide (m ∉ ks)) = true from h)
    obtain rfl := of_decide_eq_true h1
    obtain ⟨_, o, ho, dx, xs, rfl, hr, hl⟩ := S.mu a _ hm
    exact ⟨_, _, _, rfl, ho, lookup_none (of_decide_eq_true h2)⟩
   | _ => cases h
 | _ => cases h
structure MethD (P : Program) (w : World) (K : PySem.W.Frag) (base : Heap) (mg : Str → Option Value) (C m : Str) (k n : Nat) (wf : WF) : Prop where
 cls : Cls K (He.ga K C)
 ex : ∃ (a : Addr) (fd : FuncData) (ps : List Str), ps.length = n ∧ FnOk P w K mg base (L2N.CX P w) k a fd ps (spD K n wf) ∧ L2.Meth K (He.ga K C) m a ∧ Binds K fd ps []
def wMeth (C m : Str) (wf : WF) (n : Nat) (wo : WE) (wa : WA) : WE := fun ρ M k x => wo ρ M (fun d M1 => gd (insB C m d M1) (wa ρ M1 (fun ds M2 => gd (Nat.beq (ds.length + 1) n) (wf (d :: ds) M2 k x)) x)) x
section
variable {X : Cx} {pos apos p : Pos} {C m : Str} {o e : Expr} {es : List Expr} {k n : Nat} {wf : WF} {wo : WE} {wa : WA}
theorem de_meth0 {Tq : TkC} {pl : Sem Bool} (F : MethD X.prog X.w X.K X.base X.mg C m k n wf) (hr : Room k X.A) (ho : DE Tq X o wo)
  (ht : eval (.Call (.Attribute o m apos) [] [] pos) X.env = (do
   let ov ← eval o X.env
   standAt apos.atName
   let (f, first) ← holding [ov] (getMethod ov m pl)
   callWith pos f first (backTo pos (starEach [] X.env)) (backToKw pos (keywordEach [] X.env))) := by rfl) :
  DE Tq X (.Call (.Attribute o m apos) [] [] pos) (wMeth C m wf n wo wNil) := by
 obtain ⟨a, fd, ps, hn, G, hm, hb⟩ := F.ex
 refine ⟨fun W tk => pe_imp (pe_methAt0 (ho.pe W tk) F.cls hm G hr hb (fun σ => L2N.passAt (Tq.n tk) σ) ht) fun σ H Q q => ?_⟩
 obtain ⟨F1, M, ρ, k, x, S, R, w, pv, px⟩ := q
 refine ⟨F1, M, ρ, _, x, S, R, w, fun v d H1 F1 M1 e1 S1 r1 w1 => ?_, px⟩
 obtain ⟨hi, w1⟩ := gd_of w1
 obtain ⟨a, dx, fs, rfl, h1, h2⟩ := ins_of S1 r1 hi
 refine ⟨a, dx, fs, rfl, h1, h2, ?_⟩
 obtain ⟨hl, w2⟩ := gd_of w1
 exact ⟨F1, M1, [d], k, x, S1, .cons r1 .nil, Nat.eq_of_beq_eq_true hl, w2, pv.on e1, px.on e1⟩
end
def mkWf (C : Str) (m : List D → Ans) : WF := fun ds M k x => match ds with
 | .ref a :: args => M a = some (.ins C [] []) ∧ match m args with
  | .ok d => ∀ ks xs, d = .obj C ks xs → k .non (mupd M a (.ins C ks xs))
  | .exc nm fs => x nm fs (mdel M a)
  | .bad => False
 | _ => False
structure MakeD (P : Program) (w : World) (K : PySem.W.Frag) (mg : Str → Option Value) (base : Heap) (C : Str) (k n : Nat) (m : List D → Ans) : Prop where
 ex : ∃ (f : Addr) (fd : FuncData) (ps : List Str), ps.length = n + 1 ∧ FnOk P w K mg base (L2N.CX P w) k f fd ps (spD K (n + 1) (mkWf C m)) ∧ Mk K (He.ga K C) f ∧ mg C = some (.ref (He.ga K C)) ∧ Binds K fd ps []
section
variable {X : Cx} {k : Nat} {f C : Addr} {fd : FuncData} {ps : List Str} {sp : Sp} {E : L2.St → XK}
theorem run_makeS {pins : List (Addr × Obj)} {σ : L2.St} {H : Hp} {s : Shared} {Q : VK} {us : List Value} {vs : List V} {CX : CXT} (M : Mk X.K C f) (F : FnOk X.prog X.w X.K X.mg X.base CX k f fd ps sp) (hr : Room (k + 1) X.A) (hb : Binds X.K fd ps [])
  (hx : PassesAt CX X σ (E σ)) (I : Inv X pins σ H s) (r : Vals vs us)
  (h : ∀ x dx, H x = none → H dx = none → dx ≠ x → sp (.ref x :: vs) (upd (upd H dx (.own x)) x (.ins C dx [])) (fun v H2 => v = .non ∧ Q (.ref x) H2) (E σ)) :
  wpAny (model X.prog X.w) X.A (call (.ref C) us) (EP X pins σ Q) X.xe s := by
 have hq := h (s.heap.objs.size + 1) s.heap.objs.size (I.hok.fresh (Nat.le_succ _)) (I.hok.fresh (Nat.le_refl _)) (Nat.ne_of_lt (Nat.lt_succ_self _))
 have I2 := Inv.made (C := C) I
 have r2 : Vals (V.ref (s.heap.objs.size + 1) :: vs) (Value.ref (s.heap.objs.size + 1) :: us) := .cons rfl r
 have hl : (Value.ref (s.heap.objs.size + 1) :: us).length = ps.length := by
  have e := r2.length
  rw [F.len _ _ _ _ hq] at e
  exact e.symm
 have b := hb _ (Value.ref (s.heap.objs.size + 1) :: us) I2.kIn (by rw [List.append_nil]; exact hl)
 rw [List.append_nil] at b
 refine wpAny_call (make_map (f := f) I.kIn M.makes M.init (beq_iff_eq.mp M.fn) (codeAny_mono (F.run _ X.stack _ _ ⟨Value.ref (s.heap.objs.size + 1) :: us, []⟩ (Value.ref (s.heap.objs.size + 1) :: us) _ _ (E σ) (hr.make C us [])
  (I2.env0.make C us []) b r2 hq) fun r s' hq' => ?_))
 cases r with
 | error e => exact hx pins _ _ e s' I2 hq'
 | ok fl =>
  cases fl with
  | ret u =>
   obtain ⟨v, H', I3, rv, ev, q3⟩ := I2.after hq'
   subst ev
   exact ⟨rv, ⟨V.ref (s.heap.objs.size + 1), H', I3, rfl, q3⟩⟩
  | next => exact False.elim hq'
  | brk => exact False.elim hq'
  | cont => exact False.elim hq'
end
theorem mdel_upd {M : MH} {a : Addr} {o : MO} (h : M a = none) : mdel (mupd M a o) a = M := by
 funext b
 unfold mdel mupd
 by_cases e : b = a
 ·rw [if_pos e, e, h]
 ·rw [if_neg e, if_neg e]
section
variable {X : Cx} {pos p : Pos} {C : Str} {e : Expr} {es : List Expr} {k n : Nat} {m : List D → Ans} {wa : WA}
theorem make_in {Tq : TkC} {W : WX} (tk : Tq.t X W) {σ : L2.St} {H F : Hp} {M : MH} {K : KD} {x : KE} {Q : VK} {ds : List D} {vs : List V} (S : RepS X.K H F M) (r : Reps X.K F vs ds) (hl : ds.length = n) (w : wfOf m ds M K x) (pv : PostV X.K H F M K Q) (px : PostX X.K H F M x (fun c d => W c d σ)) :
  ∀ a dx, H a = none → H dx = none → dx ≠ a → spD X.K (n + 1) (mkWf C m) (.ref a :: vs) (upd (upd H dx (.own a)) a (.ins (He.ga X.K C) dx [])) (fun v H2 => v = .non ∧ Q (.ref a) H2) (fun c d => W c d σ) := by
 intro a dx ha hdx hne
 obtain ⟨S1, e1⟩ := S.lay hdx (.own a)
 have ha1 : upd H dx (.own a) a = none := by rw [upd_ne (fun z => hne z.symm)]; exact ha
 obtain ⟨S2, e2⟩ := S1.layM ha1 (o := .ins (He.ga X.K C) dx []) (m := .ins C [] []) ⟨dx, [], rfl, .nil, rfl⟩
 have e := e1.trans e2
 have hM : M a = none := S.mno ha
 refine ⟨_, _, .ref a :: ds, fun d M' => d = .non ∧ ∃ ks xs, M' = mupd (mupd M a (.ins C [] [])) a (.ins C ks xs) ∧ K (.obj C ks xs) M, fun nm fs M' => M' = M ∧ x nm fs M, S2, .cons (.ref a) (r.mono e.sm), by rw [List.length_cons, hl], ?_, ?_, ?_⟩
 ·refine ⟨mupd_same, ?_⟩
  unfold wfOf at w
  revert w
  cases hmd : m ds with
  | ok d => exact fun w ks xs z => ⟨rfl, ks, xs, rfl, z ▸ w⟩
  | exc nm fs => exact fun w => ⟨mdel_upd hM, w⟩
  | bad => exact fun w => w
 ·rintro v d H3 F3 M3 e3 S3 r3 ⟨rfl, ks, xs, hM3, w3⟩
  cases r3
  refine ⟨rfl, ?_⟩
  have h3 : M3 a = some (.ins C ks xs) := by rw [hM3, mupd_same]
  obtain ⟨hf3, o, ho, hr⟩ := S3.mu a _ h3
  obtain ⟨S4, e4⟩ := S3.freeze h3 ho
  have sF : Same F3 (upd F3 a o) := e4.sm
  have hd : mdel M3 a = M := by
   rw [hM3]
   funext b
   unfold mdel mupd
   by_cases z : b = a
   ·rw [if_pos z, z, hM]
   ·rw [if_neg z, if_neg z, if_neg z]
  rw [hd] at S4 e4
  exact pv (.ref a) _ H3 _ M (e.trans (e3.trans e4)) S4 (hr.frz rfl sF upd_same) w3
 ·rintro nm dd vfs fs H3 F3 M3 e3 S3 hd r3 ⟨rfl, w3⟩
  exact px nm dd vfs fs H3 F3 M3 (e.trans e3) S3 hd r3 w3
def tMakeS (C : Addr) (sp : Sp) (E : L2.St → XK) (t : TA) : TE := fun σ H Q => t σ H fun vs H1 => ∀ x dx, H1 x = none → H1 dx = none → dx ≠ x → sp (.ref x :: vs) (upd (upd H1 dx (.own x)) x (.ins C dx [])) (fun v H2 => v = .non ∧ Q (.ref x) H2) (E σ)
theorem pe_makeS {CX : CXT} {f Ca : Addr} {fd : FuncData} {ps : List Str} {sp : Sp} {E : L2.St → XK} {t : TA} (M : Mk X.K Ca f) (F : FnOk X.prog X.w X.K X.mg X.base CX k f fd ps sp) (hr : Room (k + 1) X.A) (hg : Gl X C) (hm : X.mg C = some (.ref Ca)) (hb : Binds X.K fd ps []) (hx : ∀ σ, PassesAt CX X σ (E σ))
  (ha : PA X (e :: es) t) (hdb : (C == ("__debug__" : Str)) = false := by decide) (he : starEach (e :: es) X.env = (false, eval e X.env) :: starEach es X.env := by rfl) (hpl : (backTo pos (starEach es X.env)).any (·.1) = false := by rfl) :
  PE X (.Call (.Name C p) (e :: es) [] pos) (tMakeS Ca sp E t) := by
 refine ⟨fun pins s σ H Q I h => ?_⟩
 refine wpAny_Call_Name_kw (ld_glob I hg hm ?_ hdb)
 refine PySem.W.callWith_K (h₀ := X.base) I.ok.mod.kin M.kp (thn (ha.run pos pins s σ H _ I h) fun us s1 ⟨vs, H1, I1, r, q⟩ => ⟨I1.kIn, ?_⟩) he hpl
 exact run_makeS M F hr hb (hx σ) I1 r q
theorem de_make {Tq : TkC} (F : MakeD X.prog X.w X.K X.mg X.base C k n m) (hr : Room (k + 1) X.A) (ha : DA Tq X (e :: es) wa) (hg : Gl X C := by rfl) (hd : (C == ("__debug__" : Str)) = false := by decide)
  (he : starEach (e :: es) X.env = (false, eval e X.env) :: starEach es X.env := by rfl) (hpl : (backTo pos (starEach es X.env)).any (·.1) = false := by rfl) : DE Tq X (.Call (.Name C p) (e :: es) [] pos) (wCall (wfOf m) n wa) := by
 obtain ⟨f, fd, ps, hn, G, hM, hm, hb⟩ := F.ex
 refine ⟨fun W tk => pe_imp (pe_makeS hM G hr hg hm hb (fun σ => L2N.passAt (Tq.n tk) σ) (ha.pa W tk) hd he hpl) fun σ H Q q => ?_⟩
 obtain ⟨F1, M, ρ, K, x, S, R, w, pv, px⟩ := q
 refine ⟨F1, M, ρ, _, x, S, R, w, fun vs ds H1 F1 M1 e1 S1 r1 w1 => ?_, px⟩
 obtain ⟨hl, w1⟩ := gd_of w1
 exact make_in tk S1 r1 (Nat.eq_of_beq_eq_true hl) w1 (pv.on e1) (px.on e1)
structure PropD (P : Program) (w : World) (K : PySem.W.Frag) (base : Heap) (mg : Str → Option Value) (C f : Str) (k : Nat) (m : List D → Ans) : Prop where
 cls : Cls K (He.ga K C)
 ex : ∃ (p a : Addr) (fd : FuncData), FnOk P w K mg base (L2N.CX P w) k a fd ["self"] (spD K 1 (wfOf m)) ∧ PropOf K (He.ga K C) f p a ∧ Binds K fd ["self"] []
def insC (C : Str) (d : D) (M : MH) : Bool := match d with
 | .obj C' _ _ => decide (C' = C)
 | .ref a => match M a with
  | some (.ins C' _ _) => decide (C' = C)
  | _ => false
 | _ => false
theorem insC_of {K : PySem.W.Frag} {H F : Hp} {M : MH} {C : Str} {d : D} {v : V} (S : RepS K H F M) (r : Rep K F v d) (h : insC C d M = true) : ∃ a dx fs, v = .ref a ∧ H a = some (.ins (He.ga K C) dx fs) := by
 cases d with
 | obj C' ks xs =>
  obtain rfl := of_decide_eq_true (show decide (C' = C) = true from h)
  cases r with
  | obj hx hr hl => exact ⟨_, _, _, rfl, S.fz _ _ hx⟩
 | ref a =>
  cases r
  have h : (match M a with
   | some (.ins C' _ _) => decide (C' = C)
   | _ => false) = true := h
  cases hm : M a with
  | none => rw [hm] at h; cases h
  | some o =>
   rw [hm] at h
   cases o with
   | ins C' ks ds =>
    obtain rfl := of_decide_eq_true (show decide (C' = C) = true from h)
    obtain ⟨_, o, ho, dx, xs, rfl, hr, hl⟩ := S.mu a _ hm
    exact ⟨_, _, _, rfl, ho⟩
   | _ => cases h
 | _ => cases h
def okD (a : Ans) (k : D → Prop) : Prop := match a with
 | .ok d => k d
 | _ => False
def wProp (C : Str) (m : List D → Ans) (wo : WE) : WE := fun ρ M k x => wo ρ M (fun d M1 => gd (insC C d M1) (okD (m [d]) fun z => k z M1)) x
theorem de_prop {Tq : TkC} {f : Str} {o : Expr} {wo : WE} (F : PropD X.prog X.w X.K X.base X.mg C f k m) (hr : Room (k + 1) X.A) (ho : DE Tq X o wo) (hb : attributeBase o f X.env (eval o X.env) = eval o X.env := by rfl) : DE Tq X (.Attribute o f pos) (wProp C m wo) := by
 obtain ⟨p, a, fd, G, hp, hbi⟩ := F.ex
 refine ⟨fun W tk => pe_imp (pe_prop (E := fun _ _ _ => False) (dvs := []) (ds := []) (ho.pe W tk) F.cls hp G hr hbi .nil (fun pins σ H s e s' I c => ?_) hb) fun σ H Q q => ?_⟩
 ·obtain ⟨_, _, _, _, _, _, _, _, _, _, _, _, z⟩ := c
  exact z.elim
 ·obtain ⟨F1, M, ρ, K, x, S, R, w, pv, px⟩ := q
  refine ⟨F1, M, ρ, _, x, S, R, w, fun v d H1 F1 M1 e1 S1 r1 w1 => ?_, px⟩
  obtain ⟨hi, w1⟩ := gd_of w1
  obtain ⟨a, dx, fs, rfl, h1⟩ := insC_of S1 r1 hi
  refine ⟨a, dx, fs, rfl, h1, F1, M1, [d], K, fun _ _ _ => False, S1, .cons r1 .nil, rfl, ?_, pv.on e1, fun _ _ _ _ _ _ _ _ _ _ _ z => z.elim⟩
  unfold wfOf
  revert w1
  cases m [d] with
  | ok z => exact fun w => w
  | _ => exact fun w => w
end
end DL
namespace DM
open PySem PySem.Spec PyProof.Rows L2 DL
def fFld (C f : Str) (u : Vl) : Option D := match u with
 | .v (.obj C' ks xs) => match decide (C' = C) with
  | true => getL ks xs f
  | false => none
 | .o (.ins C' ks xs) => match decide (C' = C) with
  | true => getL ks xs f
  | false => none
 | _ => none
def mFld (C f : Str) (mo : WM) : WM := fun r K X => mo r (fun u => vK (fFld C f u) K) X
theorem fFld_ok {C f : Str} {M0 : M0T} {M : MH} {u : Vl} {d y : D} (h : RelV M0 M u d) (e : fFld C f u = some y) : fldD C f d M = some y := by
 cases u with
 | v z =>
  cases h
  cases d with
  | obj C' ks xs =>
   have e : (match decide (C' = C) with | true => getL ks xs f | false => none) = some y := e
   show (if C' = C then getL ks xs f else none) = some y
   by_cases hC : C' = C
   ·rw [if_pos hC]; rw [decide_eq_true hC] at e; exact e
   ·rw [decide_eq_false hC] at e; cases e
  | _ => cases e
 | o m =>
  obtain ⟨a, rfl, hM, _⟩ := h
  cases m with
  | ins C' ks xs =>
   have e : (match decide (C' = C) with | true => getL ks xs f | false => none) = some y := e
   show (match M a with | some (.ins C' ks xs) => if C' = C then getL ks xs f else none | _ => none) = some y
   rw [hM]
   show (if C' = C then getL ks xs f else none) = some y
   by_cases hC : C' = C
   ·rw [if_pos hC]; rw [decide_eq_true hC] at e; exact e
   ·rw [decide_eq_false hC] at e; cases e
  | _ => cases e
def mSetA (C f : Str) (i : Nat) (me : WM) : WMS := fun r E => me r (fun u => onVl u fun d => match r[i]? with
 | some (some (.o (.ins C' ks ds))) => gdR (decide (C' = C) && Nat.blt ks.length 1000) (E.nx (r.set i (some (.o (.ins C (setK ks f) (setX ks ds f d))))))
 | _ => .bad) E.xc
section
variable {X : Cx} {pos apos p pt : Pos} {C f nm : Str} {o e : Expr} {es : List Expr} {k n : Nat} {m : List D → Ans} {mo me : WM} {ma : WMA}
theorem me_fld {Tq : TkC} (A : AtF X.K C f) (ho : ME Tq X o mo) (hb : attributeBase o f X.env (eval o X.env) = eval o X.env := by rfl) : ME Tq X (.Attribute o f pos) (mFld C f mo) :=
 de_weak (de_fld A ho hb) fun ρ M k x ⟨M0, r, K, XX, G, O, L, hk, g⟩ => ⟨M0, r, _, XX, G, O, L, fun u d hu g => by
  cases e1 : fFld C f u with
  | none => rw [e1] at g; exact (L.nb g).elim
  | some y =>
   rw [e1] at g
   rw [fFld_ok hu e1]
   exact hk (.v _) _ rfl g, g⟩
theorem ms_setA {Tq : TkC} {i : Nat} {x : Str} {p1 : Pos} (A : AtF X.K C f) (he : ME Tq X e me) (hN : X.N[i]? = some x := by rfl) (hv : Vis X.env.scope x := by first | exact Or.inl rfl | exact Or.inr (Or.inl rfl) | exact Or.inr (Or.inr rfl)) (hd : (x == ("__debug__" : Str)) = false := by decide)
  (hcd : (x == ("__classdict__" : Str)) = false := by decide) (hs : swapsWith e (some (.Attribute (.Name x p1) f pt)) pos.line X.env = pure false := by rfl) : MS Tq X (.Assign [.Attribute (.Name x p1) f pt] e pos) (mSetA C f i me) :=
 ds_weak (ds_setA A (dv i hN hv hd hcd) he hs) fun ρ M E ⟨M0, r, EK, G, O, L, g⟩ =>
 ⟨M0, r, _, EK.xc, G, O, L.lk O.sub, fun u d hu g => onVl_in L.nb hu g fun g => by
  split at g
  ·rename_i C' ks ds e1
   obtain ⟨hb, g⟩ := gd_of (gdR_in L.nb g fun g => g)
   obtain ⟨hC, hl⟩ := Bool.and_eq_true_iff.mp hb
   obtain rfl := of_decide_eq_true hC
   obtain ⟨z, e2, a, rfl, e3, e4⟩ := O.at_ i _ e1
   unfold wVar
   rw [e2]
   exact ⟨a, ks, ds, rfl, e3, Nat.le_of_ble_eq_true hl, L.nx _ _ _ (O.upd e1 e2 _) g⟩
  ·exact (L.nb g).elim, g⟩
theorem me_make {Tq : TkC} (F : MakeD X.prog X.w X.K X.mg X.base C k n m) (hr : Room (k + 1) X.A) (ha : MA Tq X (e :: es) ma) (hg : Gl X C := by rfl) (hd : (C == ("__debug__" : Str)) = false := by decide)
  (he : starEach (e :: es) X.env = (false, eval e X.env) :: starEach es X.env := by rfl) (hpl : (backTo pos (starEach es X.env)).any (·.1) = false := by rfl) : ME Tq X (.Call (.Name C p) (e :: es) [] pos) (mCall m n ma) :=
 de_weak (de_make F hr ha hg hd he hpl) fun ρ M k x ⟨M0, r, K, XX, G, O, L, hk, g⟩ => ⟨M0, r, _, XX, G, O, L, fun us ds hu g => gdR_in L.nb (onVs_in L.nb hu g) (wf_in L hk), g⟩
end
def endN (C : Str) (r : Rm) : Ans := match (r[0]? : Option (Option Vl)) with
 | some (some (.o (.ins C' ks xs))) => match decide (C' = C) with
  | true => .ok (.obj C ks xs)
  | false => .bad
 | _ => .bad
def endI (C : Str) : EndsK := { nx := endN C, rt := fun _ => .bad, bk := fun _ => .bad, ct := fun _ => .bad, xc := .exc }
def initM (C : Str) (s : WMS) (N : List Str) (ds : List D) : Ans := s (some (.o (.ins C [] [])) :: (ds.map (fun d => some (.v d)) ++ List.replicate (N.length - (ds.length + 1)) none)) (endI C)
theorem Own.startI {M : MH} {a : Addr} {C : Str} (ha : M a = some (.ins C [] [])) (N : List Str) (ds : List D) : Own ⟨mdel M a, some a⟩ M (some (.o (.ins C [] [])) :: (ds.map (fun d => some (.v d)) ++ List.replicate (N.length - (ds.length + 1)) none)) (startD N (.ref a :: ds)) where
 len := by unfold startD; simp
 sub := fun b o h => by
  by_cases e : b = a
  ·have h : mdel M a b = some o := h
   rw [e, mdel_same] at h; cases h
  ·have h : mdel M a b = some o := h
   rw [mdel_ne e] at h; exact h
 slf := fun b m e1 e2 => by
  have e1 : some a = some b := e1
  cases e1
  rfl
 at_ := fun i u e => by
  have O := Own.start M N ds
  cases i with
  | zero => cases e; exact ⟨.ref a, rfl, a, rfl, ha, mdel_same⟩
  | succ i =>
   have e : (ds.map (fun d => some (Vl.v d)) ++ List.replicate (N.length - (ds.length + 1)) none)[i]? = some (some u) := e
   show ∃ d, (ds.map some ++ List.replicate (N.length - (ds.length + 1)) none)[i]? = some (some d) ∧ _
   by_cases hi : i < ds.length
   ·rw [List.getElem?_append_left (by rw [List.length_map]; exact hi), List.getElem?_map, List.getElem?_eq_getElem hi] at e
    rw [List.getElem?_append_left (by rw [List.length_map]; exact hi), List.getElem?_map, List.getElem?_eq_getElem hi]
    cases e
    exact ⟨_, rfl, rfl⟩
   ·rw [List.getElem?_append_right (by rw [List.length_map]; omega)] at e
    obtain ⟨_, e2⟩ := List.getElem?_eq_some_iff.mp e
    rw [List.getElem_replicate] at e2
    cases e2
 inj := fun i j m m' b e1 e2 _ _ => by
  have key : ∀ (i : Nat) (m : MO), (some (Vl.o (.ins C [] [])) :: (ds.map (fun d => some (Vl.v d)) ++ List.replicate (N.length - (ds.length + 1)) none))[i]? = some (some (.o m)) → i = 0 := fun i m e => by
   cases i with
   | zero => rfl
   | succ i =>
    have e : (ds.map (fun d => some (Vl.v d)) ++ List.replicate (N.length - (ds.length + 1)) none)[i]? = some (some (.o m)) := e
    by_cases hi : i < ds.length
    ·rw [List.getElem?_append_left (by rw [List.length_map]; exact hi), List.getElem?_map, List.getElem?_eq_getElem hi] at e
     cases e
    ·rw [List.getElem?_append_right (by rw [List.length_map]; omega)] at e
     obtain ⟨_, e2⟩ := List.getElem?_eq_some_iff.mp e
     rw [List.getElem_replicate] at e2
     cases e2
  rw [key i m e1, key j m' e2]
def mkG (C : Str) (a : Addr) (M : MH) (k : KD) (x : KE) (z : Ans) : Prop := match z with
 | .ok d => ∀ ks xs, d = .obj C ks xs → k .non (mupd M a (.ins C ks xs))
 | .exc n fs => x n fs (mdel M a)
 | .bad => False
theorem hw_mI {C : Str} {s : WMS} {N : List Str} {m : List D → Ans} (hm : ∀ ds, m ds = initM C s N ds) (ds : List D) (M : MH) (k : KD) (x : KE) (h : mkWf C m ds M k x) : wS s (startD N ds) M (retE k x) := by
 unfold mkWf at h
 split at h
 ·rename_i a args
  obtain ⟨ha, h⟩ := h
  refine ⟨⟨mdel M a, some a⟩, _, endI C, mkG C a M k x, Own.startI ha N args, ⟨fun q => q, fun r ρ M1 O q => ?_, fun u d M1 hs hu q => False.elim q, fun r ρ M1 O q => False.elim q, fun r ρ M1 O q => False.elim q, fun n fs M1 hs q => ⟨mdel M a, hs, q⟩⟩, ?_⟩
  ·have q : mkG C a M k x (endN C r) := q
   unfold endN at q
   split at q
   ·rename_i C' ks xs e0
    by_cases hC : C' = C
    ·subst hC
     rw [decide_eq_true rfl] at q
     have hr := O.slf a _ rfl e0
     obtain ⟨d, e1, b, rfl, h1, h2⟩ := O.at_ 0 _ e0
     rw [hr] at e1
     cases e1
     refine Lt.drop (M' := mupd M a (.ins C' ks xs)) (fun b o z => ?_) (q ks xs rfl)
     by_cases hb : b = a
     ·rw [hb, mupd_same] at z; cases z; rw [hb]; exact h1
     ·rw [mupd_ne hb] at z
      exact O.sub b o (by show mdel M a b = some o; rw [mdel_ne hb]; exact z)
    ·rw [decide_eq_false hC] at q; exact False.elim q
   ·exact False.elim q
  ·show mkG C a M k x (initM C s N args)
   rw [← hm]
   exact h
 ·exact h.elim
end DM
namespace DL
open PySem PySem.Spec PyProof.Rows L2 _root_.DM
def tLockNew (t : TE) : TE := fun σ H Q => t σ H fun v H' => ∃ d u, v = .ref d ∧ H' d = some u ∧ Mut (some u) ∧ ∀ od, Q v (upd H' d (.frz od u))
theorem pe_lockNew {X : Cx} {e : Expr} {t : TE} (h : PE X e t) : PE X e (tLockNew t) := ⟨fun pins s σ H Q I hw => by
 refine thn (h.run pins s σ H _ I hw) fun u s1 ⟨v, H1, I1, r, d, o, ev, hd, mu, q⟩ => ?_
 obtain ⟨od, I2⟩ := I1.lock hd mu
 exact ⟨v, _, I2, r, q od⟩⟩
def tLockS (d : Addr) (u : HO) (t : TS) : TS := fun D σ H => H d = some u ∧ Mut (some u) ∧ ∀ od, t D σ (upd H d (.frz od u))
def wLck (w : WE) : WE := fun ρ M k x => w ρ M (fun d M1 => ∃ a ks xs, d = .ref a ∧ M1 a = some (.dct ks xs) ∧ k (.dcl ks xs) (mdel M1 a)) x
theorem RepS.lock {K : PySem.W.Frag} {H F : Hp} {M : MH} {a : Addr} {ks : List Str} {xs : List V} {ds : List D} (S : RepS K H F M) (hm : M a = some (.dct ks ds)) (od : Obj) :
  RepS K (upd H a (.frz od (.dK (kvz ks xs)))) (upd F a (.frz od (.dK (kvz ks xs)))) (mdel M a) ∧ Ext H F M (upd H a (.frz od (.dK (kvz ks xs)))) (upd F a (.frz od (.dK (kvz ks xs)))) (mdel M a) := by
 obtain ⟨hf, _⟩ := S.mu a _ hm
 have sF : Same F (upd F a (.frz od (.dK (kvz ks xs)))) := fun b u q => by rw [upd_ne (ne_of_none q hf)]; exact q
 refine ⟨⟨fun b u q => ?_, fun b n q => ?_⟩, sF, fun b u q1 qt q2 q3 => ?_⟩
 ·by_cases hb : b = a
  ·subst hb; rw [upd_same] at q ⊢; exact q
  ·rw [upd_ne hb] at q ⊢; exact S.fz b u q
 ·have hb : b ≠ a := fun z => by rw [z, mdel_same] at q; cases q
  rw [mdel_ne hb] at q
  obtain ⟨q1, u, q2, q3⟩ := S.mu b n q
  exact ⟨by rw [upd_ne hb]; exact q1, u, by rw [upd_ne hb]; exact q2, q3.mono sF⟩
 ·have hb : b ≠ a := fun z => by rw [z, hm] at q3; cases q3
  exact ⟨by rw [upd_ne hb]; exact q1, by rw [upd_ne hb]; exact q2, by rw [mdel_ne hb]; exact q3⟩
theorem de_lck {Tq : TkC} {X : Cx} {e : Expr} {w : WE} (h : DE Tq X e w) : DE Tq X e (wLck w) := ⟨fun W tk => pe_imp (pe_lockNew (h.pe W tk)) fun σ H Q q => by
 obtain ⟨F, M, ρ, k, x, S, E, w, pv, px⟩ := q
 refine ⟨F, M, ρ, _, x, S, E, w, fun v d H1 F1 M1 e1 S1 r1 w1 => ?_, px⟩
 obtain ⟨a, ks, ds, rfl, hm, w2⟩ := w1
 cases r1
 obtain ⟨hf, o, ho, xs, rfl, hr, hl, hz⟩ := S1.mu a _ hm
 refine ⟨a, _, rfl, ho, trivial, fun od => ?_⟩
 obtain ⟨S2, e2⟩ := S1.lock (xs := xs) hm od
 exact pv _ _ _ _ _ (e1.trans e2) S2 (.dcl upd_same (hr.mono e2.sm) hl hz) w2⟩
theorem pss_lockS {X : Cx} {st : List Stmt} {t : TS} (h : PSs X st t) : PSs X st (fun D σ H => ∃ d u, tLockS d u t D σ H) := ⟨fun pins s σ H D I hw => by
 obtain ⟨d, u, hd, mu, q⟩ := hw
 obtain ⟨od, I2⟩ := I.lock hd mu
 exact h.run pins s σ _ D I2 (q od)⟩
theorem call_list_dKR {X : Cx} (hc : X.calm = true) : CallR X (.type "list") (fun xs H Q => ∃ p kvs, xs = [.ref p] ∧ Rd H p (.dK kvs) ∧ ∀ q, H q = none → Q (.ref q) (upd H q (.lst (kvs.map fun kv => kV kv.1)))) := fun pins s σ H xs us Q I r ⟨p, kvs, e, hk, q⟩ => by
 subst e
 obtain ⟨u, eu, rx⟩ := vals1 r
 subst eu
 obtain rfl : u = Value.ref p := rx
 obtain ⟨z, lo, vs, rk, hd⟩ := (show ObjOk X.prog X.w H s.heap p (.dK kvs) from hk.ok I.hok)
 obtain ⟨ep, hat⟩ := hd.dictAt
 have hl := Paired.length rk
 refine PySem.W.kdl_call (PySem.W.kdl_dict (knd := mixKind X.prog X.w) (kvs := vs) (ep := ep) lo) (I.ok.hd hc) hat (by rw [← hl]; exact z) fun h' tk acc n hkeep hS hacc => ?_
 have ea : acc.toList.length = acc.size := by simp
 have rel : Vals (kvs.map fun kv => kV kv.1) acc.toList := vals_of_at (by rw [List.length_map, ea, hacc.1, hl]) fun j x w h1 h2 => by
  obtain ⟨k, y, hky, hi⟩ := hacc.2 j w (by rw [← Array.getElem?_toList]; exact h2)
  have e1 : (kvs.map fun kv => kv.1)[j]? = some k := by rw [show (kvs.map fun kv => kv.1) = kvs.map (·.1) from rfl, KV.keys rk, List.getElem?_map, hky]; rfl
  rw [List.getElem?_map] at h1 e1
  cases hj : kvs[j]? with
  | none => rw [hj] at h1; cases h1
  | some p =>
   rw [hj] at h1 e1
   have e1 : some p.1 = some k := e1
   cases e1
   cases h1
   exact keyIs_rel hi
 have new : ObjOk X.prog X.w (upd H s.heap.objs.size (.lst (kvs.map fun kv => kV kv.1))) h' s.heap.objs.size (.lst (kvs.map fun kv => kV kv.1)) := ⟨by rw [List.length_map]; exact z, acc.toList, n, rel, by rw [Array.toArray_toList]; exact hS⟩
 exact ⟨.ref s.heap.objs.size, _, I.laid hkeep (Nat.le_refl _) new, rfl, q _ (I.hok.fresh (Nat.le_refl _))⟩
theorem kvz_keysV : ∀ {ks : List Str} {xs : List V}, ks.length = xs.length → ((kvz ks xs).map fun kv => kV kv.1) = ks.map V.str
 | [], [], _ => rfl
 | k :: ks, x :: xs, h => by rw [kvz_cons, List.map_cons, List.map_cons, kvz_keysV (Nat.succ.inj h)]; rfl
 | [], _ :: _, h => by cases h
 | _ :: _, [], h => by cases h
def rListX : RB := fun ds M k => on1 ds fun d => match ctD d M with
 | some (.dc ks _) => k (.lst (ks.map .str)) M
 | _ => itemsD d M fun xs => k (.lst xs) M
theorem cd_listX {X : Cx} (hc : X.calm = true) : CallD X (.type "list") rListX := by
 obtain ⟨r2, h2, s2⟩ := cd_list (X := X)
 refine ⟨_, h2.or (call_list_dKR hc), fun ds vs H F M k Q S r0 h0 pv => ?_⟩
 obtain ⟨d, rfl, h⟩ := on1_of h0
 obtain ⟨v, rfl, r⟩ := reps1 r0
 have other : itemsD d M (fun xs => k (.lst xs) M) → r2 [v] H Q := fun h => s2 [d] [v] H F M k Q S r0 h pv
 cases hcc : ctD d M with
 | none => rw [hcc] at h; exact .inl (other h)
 | some c =>
  rw [hcc] at h
  cases c with
  | dc ks xs =>
   obtain ⟨p, ys, rfl, hp, hr, hl, hz⟩ := ct_dc S r hcc
   refine .inr ⟨p, _, rfl, hp, fun l hn => ?_⟩
   obtain ⟨S2, e2⟩ := S.lay hn (.lst (ks.map V.str))
   rw [kvz_keysV (hl.trans hr.length.symm)]
   exact pv _ _ _ _ _ e2 S2 (.lst upd_same (Reps.of_strs _) (by rw [List.length_map, hl]; exact hz)) h
  | _ => exact .inl (other h)
section
variable {X : Cx} {o e : Expr} {wo we : WE} {apos cpos : Pos}
end
def compDD (gt : WG) (wt : WT) (wk wv : WE) (g : MH → Prop) (ρ : Rh) : List D → MH → List Str → List D → (List Str → List D → MH → Prop) → Prop
 | [], M, ks, xs, k => g M ∧ k ks xs M
 | d :: r, M, ks, xs, k => g M ∧ gt d ρ M fun ρ1 M1 => wt ρ1 M1 (fun b M2 => match b with
  | true => wk ρ1 M2 (fun y M3 => wv ρ1 M3 (fun z M4 => onStr y fun s => compDD gt wt wk wv g ρ r M4 (putKs ks s) (putXs ks xs s z) k) noX) noX
  | false => compDD gt wt wk wv g ρ r M2 ks xs k) noX
def wDcM (wi : WI) (gt : WG) (wt : WT) (wk wv : WE) (own : List Nat) : WE := fun ρ M k x => wi ρ M (fun ds g M1 => compDD gt wt wk wv g (wipeD ρ own) ds M1 [] [] fun ks xs M2 => ∀ a, M2 a = none → k (.ref a) (mupd M2 a (.dct ks xs))) x
theorem putX_len {α : Type} {ks : List Str} {xs : List α} {z : Str} {v : α} (h : ks.length = xs.length) : (putKs ks z).length = (putXs ks xs z v).length ∧ (putXs ks xs z v).length ≤ xs.length + 1 := by
 unfold putKs putXs
 by_cases e : z ∈ ks
 ·rw [if_pos e, if_pos e, putL_len h]; exact ⟨h, Nat.le_succ _⟩
 ·rw [if_neg e, if_neg e, List.length_append, List.length_append, h]; exact ⟨rfl, Nat.le_refl _⟩
theorem Reps.putX {K : PySem.W.Frag} {F : Hp} {v : V} {d : D} {ks : List Str} {xs : List V} {ds : List D} {z : Str} (r : Reps K F xs ds) (q : Rep K F v d) : Reps K F (putXs ks xs z v) (putXs ks ds z d) := by
 unfold putXs
 by_cases e : z ∈ ks
 ·rw [if_pos e, if_pos e]; exact Reps.putL q r
 ·rw [if_neg e, if_neg e]; exact r.snoc q
theorem dc_in {K : PySem.W.Frag} {wi : WI} {is : List Nat} {gt : WG} {wt : WT} {wk wv : WE} {own : List Nat} (hsub : ∀ i ∈ is, i ∈ own) {W : WX} {σ : L2.St} {H : Hp} {Q : VK} {F : Hp} {M : MH} {ρ : Rh} {x : KE} {k : List Str → List D → MH → Prop}
  (S : RepS K H F M) (R : RepE K F σ ρ) (w : wi ρ M (fun ds g M1 => compDD gt wt wk wv g (wipeD ρ own) ds M1 [] [] k) x) (px : PostX K H F M x (fun c d => W c d σ))
  (fin : ∀ (H1 F1 : Hp) (M1 : MH) (D : Addr) ks vs es H' F' M', Ext H F M H1 F1 M1 → H1 D = none → Ext H1 F1 M1 H' F' M' → RepS K H' F' M' → H' D = some (.dK (kvz ks vs)) → F' D = none → M' D = none → Reps K F' vs es → ks.length = es.length → es.length ≤ sizeLine → k ks es M' → Q (.ref D) H') :
  tDc (iOf K W wi) (gOf K is gt) (tOfT K noW wt) (tOf K noW wk) (tOf K noW wv) own σ H Q := by
 refine ⟨F, M, ρ, _, x, S, R, w, fun J ds g H1 F1 M1 e1 S1 wk1 w1 => ?_, px⟩
 intro D hD
 have R1 : RepE K F1 (L2.wipe σ own) (wipeD ρ own) := (R.mono e1.sm).wipe own
 refine ⟨fun i m H' => m = ds.length - i ∧ i ≤ ds.length ∧ ∃ F' M' ks vs acc, Ext H1 F1 M1 H' F' M' ∧ RepS K H' F' M' ∧ H' D = some (.dK (kvz ks vs)) ∧ F' D = none ∧ M' D = none ∧ Reps K F' vs acc ∧ ks.length = acc.length ∧ acc.length ≤ i ∧
   compDD gt wt wk wv g (wipeD ρ own) (ds.drop i) M' ks acc k,
  ⟨_, rfl, Nat.zero_le _, F1, M1, [], [], [], (Ext.refl _ _ _).at_new hD _, S1.untold (S1.fno hD) (S1.mno hD) _, upd_same, S1.fno hD, S1.mno hD, .nil, rfl, Nat.le_refl _, w1⟩, ?_⟩
 rintro i m H' ⟨rfl, hi, F', M', ks, vs, acc, e', S', hD', fD, mD, ra, lk, la, w'⟩
 by_cases hlt : i < ds.length
 ·obtain ⟨d, hd⟩ : ∃ d, ds[i]? = some d := ⟨ds[i], by simp [hlt]⟩
  rw [drop_cons hd] at w'
  obtain ⟨gm, w'⟩ := w'
  refine .inr ⟨wk1.go i H' F' M' hlt e'.sm S' gm, fun H2 => ∃ F2 M2 ks vs acc, Ext H1 F1 M1 H2 F2 M2 ∧ RepS K H2 F2 M2 ∧ H2 D = some (.dK (kvz ks vs)) ∧ F2 D = none ∧ M2 D = none ∧ Reps K F2 vs acc ∧ ks.length = acc.length ∧ acc.length ≤ i + 1 ∧
   compDD gt wt wk wv g (wipeD ρ own) (ds.drop (i + 1)) M2 ks acc k, fun H2 n2 => ⟨_, by omega, rfl, hlt, n2⟩, fun v H3 y => ?_⟩
  obtain ⟨F3, d', e3, S3, hd', r3⟩ := wk1.yld i H' v H3 F' M' hlt e'.sm S' gm y
  rw [hd] at hd'
  cases hd'
  obtain ⟨hD3, fD3, mD3⟩ := e3.fr D _ hD' True.intro fD mD
  refine ⟨d, F3, M', _, _, S3, R1.mono (e'.trans e3).sm, r3, w', fun σ4 ρ4 H4 F4 M4 e4 S4 R4 c4 w4 => ⟨c4.wipe hsub |>.trans ?_, ?_⟩⟩
  ·exact wipe_wipe σ own
  obtain ⟨hD4, fD4, mD4⟩ := e4.fr D _ hD3 True.intro fD3 mD3
  refine ⟨F4, M4, ρ4, _, noX, S4, R4, w4, fun b H5 F5 M5 e5 S5 w5 => ?_, noX_post⟩
  obtain ⟨hD5, fD5, mD5⟩ := e5.fr D _ hD4 True.intro fD4 mD4
  have e05 := ((e'.trans e3).trans e4).trans e5
  have e35 := (e3.trans e4).trans e5
  cases b with
  | true =>
   refine iteT ?_
   refine ⟨F5, M5, ρ4, _, noX, S5, R4.mono e5.sm, w5, fun u e H6 F6 M6 e6 S6 r6 w6 => ?_, noX_post⟩
   obtain ⟨hD6, fD6, mD6⟩ := e6.fr D _ hD5 True.intro fD5 mD5
   refine ⟨F6, M6, ρ4, _, noX, S6, R4.mono (e5.trans e6).sm, w6, fun u2 z H7 F7 M7 e7 S7 r7 w7 => ?_, noX_post⟩
   obtain ⟨hD7, fD7, mD7⟩ := e7.fr D _ hD6 True.intro fD6 mD6
   obtain ⟨s, rfl, w7⟩ := str_of (r6.mono e7.sm) w7
   have e67 := e6.trans e7
   have rv := ra.mono (e35.trans e67).sm
   have lv : ks.length = vs.length := lk.trans rv.length.symm
   obtain ⟨l1, l2⟩ := putX_len (z := s) (v := z) lk
   refine ⟨_, .inr s, rfl, hD7, by rw [kvz_len lv, rv.length]; have := wk1.sz; omega, F7, M7, putKs ks s, putXs ks vs s u2, putXs ks acc s z, (e05.trans e67).at_new hD _, S7.untold fD7 mD7 _, ?_, fD7, mD7, rv.putX r7, l1, by omega, w7⟩
   rw [upd_same, putK_kvz _ _ _ _ lv]
  | false =>
   refine iteF ?_
   exact ⟨F5, M5, ks, vs, acc, e05, S5, hD5, fD5, mD5, ra.mono e35.sm, lk, Nat.le_succ_of_le la, w5⟩
 ·have e : i = ds.length := by omega
  subst e
  rw [List.drop_length] at w'
  exact .inl ⟨wk1.stop H' F' M' e'.sm S' w'.1, fin H1 F1 M1 D ks vs acc H' F' M' e1 hD e' S' hD' fD mD ra lk (Nat.le_trans la wk1.sz) w'.2⟩
theorem fin_mutD {K : PySem.W.Frag} {H F : Hp} {M : MH} {k : KD} {Q : VK} (pv : PostV K H F M k Q) (H1 F1 : Hp) (M1 : MH) (L : Addr) (ks : List Str) (vs : List V) (es : List D) (H' F' : Hp) (M' : MH) (e1 : Ext H F M H1 F1 M1) (hD : H1 L = none) (e' : Ext H1 F1 M1 H' F' M')
  (S' : RepS K H' F' M') (hD' : H' L = some (.dK (kvz ks vs))) (fD : F' L = none) (mD : M' L = none) (r : Reps K F' vs es) (lk : ks.length = es.length) (hl : es.length ≤ sizeLine) (w : ∀ a, M' a = none → k (.ref a) (mupd M' a (.dct ks es))) : Q (.ref L) H' := by
 have S2 : RepS K H' F' (mupd M' L (.dct ks es)) := ⟨S'.fz, fun b m q => by
  by_cases hb : b = L
  ·subst hb; rw [mupd_same] at q; cases q; exact ⟨fD, _, hD', vs, rfl, r, lk, hl⟩
  ·rw [mupd_ne hb] at q; exact S'.mu b m q⟩
 have e2 : Ext H1 F1 M1 H' F' (mupd M' L (.dct ks es)) := ⟨e'.sm, fun b u q1 qt q2 q3 => by
  have hb : b ≠ L := fun z => by rw [z, hD] at q1; cases q1
  rw [mupd_ne hb]
  exact e'.fr b u q1 qt q2 q3⟩
 exact pv _ _ _ _ _ (e1.trans e2) S2 (.ref L) (w L mD)
section
variable {X : Cx} {kx vx tg iter : Expr} {ifs : List Expr} {scope : Scope} {own : List (Str × Nat)} {pos : Pos} {wi : WI} {is : List Nat} {gt : WG} {wt : WT} {wk wv : WE}
theorem de_dcM {Tq : TkC} (hc : X.calm = true) (hN : X.N.Nodup) (hi : DI Tq X tg iter wi) (ok : BlkOk X.N X.env.scope scope own) (hsub : ∀ i ∈ is, i ∈ own.map (·.2))
  (hg : ∀ (s : Shared) (H : Hp) (C : Addr) (cl : List (Str × Addr)) (fp : List Addr), DG (X.blk s H scope (compEnvC scope cl C X.env) fp) tg is gt) (ht : ∀ (s : Shared) (H : Hp) (C : Addr) (cl : List (Str × Addr)) (fp : List Addr), DTs Tq (X.blk s H scope (compEnvC scope cl C X.env) fp) ifs wt)
  (hk : ∀ (s : Shared) (H : Hp) (C : Addr) (cl : List (Str × Addr)) (fp : List Addr), DE Tq (X.blk s H scope (compEnvC scope cl C X.env) fp) kx wk)
  (hv : ∀ (s : Shared) (H : Hp) (C : Addr) (cl : List (Str × Addr)) (fp : List Addr), DE Tq (X.blk s H scope (compEnvC scope cl C X.env) fp) vx wv) (hs : ∀ x, foldedSetIterable iter X.env x = pure x := by intro _; rfl) :
  DE Tq X (.DictComp kx vx [⟨tg, iter, ifs, 0⟩] scope pos) (wDcM wi gt wt wk wv (own.map (·.2))) := by
 refine ⟨fun W tk => pe_imp (pe_dc (tk := tOf X.K noW wk) (tv := tOf X.K noW wv) (tt := tOfT X.K noW wt) (g := gOf X.K is gt) hc hN (hi.pi W tk) ok (fun s H C cl fp => (hg s H C cl fp).pg) (fun s H C cl fp => (ht s H C cl fp).pt noW Tq.zero) (fun s H C cl fp => (hk s H C cl fp).pe noW Tq.zero) (fun s H C cl fp => (hv s H C cl fp).pe noW Tq.zero) hs) fun σ H Q q => ?_⟩
 obtain ⟨F, M, ρ, k, x, S, R, w, pv, px⟩ := q
 exact dc_in hsub S R w px (fin_mutD pv)
end
end DL
namespace DL
open PySem PySem.Spec PyProof.Rows L2 _root_.DM
section
variable {X : Cx} {pos apos p : Pos} {C nm : Str} {o e : Expr} {es : List Expr} {k n : Nat} {m : List D → Ans} {wo : WE} {wa : WA}
end
end DL
namespace DM
open PySem PySem.Spec PyProof.Rows L2 DL
def fListX := on1V fun u => match ctV u with
 | some (.dc ks _) => some (.lst (ks.map .str))
 | _ => match itemsV u with
  | some xs => some (.lst xs)
  | none => none
theorem cm_listX : CallM rListX fListX := cm1 fun M0 M u d k hu q => by
 have other : itemsV u = none ∨ (∃ xs, itemsV u = some xs ∧ k (.lst xs) M) → itemsV u = none ∨ itemsD d M fun xs => k (.lst xs) M := fun h => by
  rcases h with h | ⟨xs, h, w⟩
  ·exact .inl h
  ·exact .inr (itemsV_ok hu h w)
 cases hc : ctV u with
 | some c =>
  rw [hc] at q
  rw [ctV_D hu hc]
  cases c with
  | dc ks xs => exact q
  | _ =>
   dsimp only at q ⊢
   cases hi : itemsV u with
   | none => rw [hi] at q; exact q.elim
   | some xs => rw [hi] at q; exact itemsV_ok hu hi q
 | none =>
  rw [hc] at q
  dsimp only at q
  cases hi : itemsV u with
  | none => rw [hi] at q; exact q.elim
  | some xs =>
   rw [hi] at q
   have w := itemsV_ok (k := fun xs => k (.lst xs) M) hu hi q
   cases hcd : ctD d M with
   | none => exact w
   | some c =>
    cases c with
    | dc ks ys =>
     cases u with
     | v z => cases hu; cases d <;> first | (cases hcd; done) | (cases hi; done) | cases hc
     | o m =>
      obtain ⟨a, rfl, h1, _⟩ := hu
      have hcd : (match M a with | some m => ctO m | none => none) = some (Ct.dc ks ys) := hcd
      rw [h1] at hcd
      have hc : ctO m = none := hc
      dsimp only at hcd
      rw [hc] at hcd
      cases hcd
    | _ => exact w
section
variable {X : Cx} {pos apos cpos p p1 p2 p3 : Pos} {e o : Expr} {es : List Expr} {me mo : WM} {ma : WMA} {k n : Nat} {m : List D → Ans} {tg : Expr}
end
end DM
namespace DL
open PySem PySem.Spec PyProof.Rows L2 _root_.DM
theorem propB_ok {K : PySem.W.Frag} {C f : Str} (h : propB K C f = true) : PropOf K (He.ga K C) f (He.ma K (He.ga K C) f) (wfP K C f) := by
 obtain ⟨h1, h⟩ := Bool.and_eq_true_iff.mp h
 obtain ⟨h2, h⟩ := Bool.and_eq_true_iff.mp h
 obtain ⟨h3, h4⟩ := Bool.and_eq_true_iff.mp h
 refine ⟨of_decide_eq_true h1, of_decide_eq_true h2, of_decide_eq_true h3, ?_⟩
 unfold wfP He5.wf
 split at h4
 ·rename_i g r e
  exact ⟨r, by rw [e]⟩
 ·cases h4
theorem propsB_one {ps : List (Str × Str)} {K : PySem.W.Frag} (h : propsB ps K = true) {C f : Str} (hp : (C, f) ∈ ps) : PropOf K (He.ga K C) f (He.ma K (He.ga K C) f) (wfP K C f) := propB_ok (List.all_eq_true.mp h (C, f) hp)
end DL
namespace DM
open PySem PySem.Spec PyProof.Rows L2 DL
end DM
namespace DM
open PySem PySem.Spec PyProof.Rows L2 DL
end DM
namespace DL
open PySem PySem.Spec PyProof.Rows L2
end DL
namespace DL
open PySem PySem.Spec PyProof.Rows L2 _root_.DM
section
variable {X : Cx} {tg : Expr}
end
end DL
namespace DM
open PySem PySem.Spec PyProof.Rows L2 DL
section
variable {X : Cx} {tg : Expr}
end
end DM
namespace DL
open PySem PySem.Spec PyProof.Rows L2 _root_.DM
section
variable {X : Cx} {o e f : Expr} {wo wi we : WE} {apos cpos : Pos}
end
end DL
namespace DL
open PySem PySem.Spec PyProof.Rows L2 _root_.DM
section
variable {X : Cx} {C : Str} {pos p : Pos} {e : Expr} {es : List Expr} {k n : Nat} {m : List D → Ans} {wa : WA}
end
end DL
namespace DP
open PySem PySem.Spec PyProof.Rows L2 DL DM
end DP
namespace DP
open PySem PySem.Spec PyProof.Rows L2 DL DM
local macro_rules | `(tactic| walk_at "r") => `(tactic| conv => lhs; whnf)
end DP
namespace DP
open PySem PySem.Spec PyProof.Rows L2 DL DM
local macro_rules | `(tactic| walk_at "r") => `(tactic| conv => lhs; whnf)
end DP
namespace DP
open PySem PySem.Spec PyProof.Rows L2 DL DM
local macro_rules | `(tactic| walk_at "r") => `(tactic| conv => lhs; whnf)
def bdB (b n : Int) : Bool := decide (-b ≤ n) && decide (n ≤ b)
mutual
def okC (w : Int) : Cd → Bool
 | .go v => decide ((v.length : Int) = w) && v.all (bdB 1000000000000)
 | .put n => bdB 1000000000000 n
 | .ref _ nm => nameD nm && Nat.ble nm.length 4096 && PyData.strOk nm
 | .rep t b => bdB 1000000000000000000000000000000 t && okCs w b
def okCs (w : Int) : List Cd → Bool
 | [] => true
 | c :: r => okC w c && okCs w r
end
theorem lays_ints : ∀ v : List Int, layss (v.map .int) = true
 | [] => rfl
 | _ :: r => lays_ints r
theorem deps_ints : ∀ v : List Int, deps (v.map .int) = 0
 | [] => rfl
 | _ :: r => by show max 0 (deps (r.map .int)) = 0; rw [deps_ints r]; rfl
end DP
namespace DP
open PySem PySem.Spec PyProof.Rows L2 DL DM
local macro_rules | `(tactic| walk_at "r") => `(tactic| conv => lhs; whnf)
structure M4 where
 deep : Int
 puts : Int
 many : Int
 beats : Int
def mx (i j : Int) : Int := if j > i then j else i
def ab (i : Int) : Int := if i < 0 then -i else i
def M4.add (a b : M4) : M4 := ⟨mx a.deep b.deep, a.puts + b.puts, a.many + b.many, a.beats + b.beats⟩
end DP
namespace DP
open PySem PySem.Spec PyProof.Rows L2 DL DM
end DP
namespace DP
open PySem PySem.Spec PyProof.Rows L2 DL DM
local macro_rules | `(tactic| walk_at "r") => `(tactic| conv => lhs; whnf)
def addN (acc ns : List Str) : List Str := ns.foldl (fun a n => if n ∈ a then a else a ++ [n]) acc
mutual
def nmC : Cd → List Str
 | .go _ => []
 | .put _ => []
 | .ref _ nm => [nm]
 | .rep _ b => nmF [] b
def nmF (acc : List Str) : List Cd → List Str
 | [] => acc
 | c :: r => nmF (addN acc (nmC c)) r
end
abbrev namesB (cs : List Cd) : List Str := nmF [] cs
abbrev M2 := Int × Int
def d2 (m : M2) : D := .tup [.int m.1, .int m.2]
mutual
def me2 (kn : Str → M2) : Cd → M2
 | .go _ => (0, 0)
 | .put _ => (0, 1)
 | .ref _ nm => kn nm
 | .rep _ b => ((me2F kn (0, 0) b).1 + 1, (me2F kn (0, 0) b).2)
def me2F (kn : Str → M2) (m : M2) : List Cd → M2
 | [] => m
 | c :: r => me2F kn (mx m.1 (me2 kn c).1, m.2 + (me2 kn c).2) r
end
abbrev me2B (kn : Str → M2) (cs : List Cd) : M2 := me2F kn (0, 0) cs
end DP
namespace DP
open PySem PySem.Spec PyProof.Rows L2 DL DM
local macro_rules | `(tactic| walk_at "r") => `(tactic| conv => lhs; whnf)
structure Blks (dc : D) (S : List Str) (b : Str → List Cd) : Prop where
 ix : ∀ z, z ∈ S → fIx (.v dc) (.v (.str z)) = some (tB (b z))
 ok : ∀ z, z ∈ S → PyData.strOk z = true
 dep : ∀ z, z ∈ S → dCs (b z) ≤ 20
 siz : ∀ z, z ∈ S → szs (b z) ≤ 60
 clo : ∀ z, z ∈ S → ∀ y, y ∈ namesB (b z) → y ∈ S
end DP
namespace DP
open PySem PySem.Spec PyProof.Rows L2 DL DM
local macro_rules | `(tactic| walk_at "r") => `(tactic| conv => lhs; whnf)
structure Rank (S : List Str) (b : Str → List Cd) (rk : Str → Nat) : Prop where
 lt : ∀ z, z ∈ S → ∀ y, y ∈ namesB (b z) → rk y < rk z
section
variable {dc : D} {S : List Str} {b : Str → List Cd} {kn : Str → M2}
end
section
variable {w : Int} {S : List Str} {b : Str → List Cd} {a1 a2 : Option Vl} {E : EndsK}
end
end DP
namespace DP
open PySem PySem.Spec PyProof.Rows L2 DL DM
local macro_rules | `(tactic| walk_at "r") => `(tactic| conv => lhs; whnf)
section
variable {w : Int} {S : List Str} {b : Str → List Cd} {kk : List Str} {kn : Str → M2} {cs : List Cd}
end
end DP
namespace DP
open PySem PySem.Spec PyProof.Rows L2 DL DM
local macro_rules | `(tactic| walk_at "r") => `(tactic| conv => lhs; whnf)
end DP
namespace DP
open PySem PySem.Spec PyProof.Rows L2 DL DM
local macro_rules | `(tactic| walk_at "r") => `(tactic| conv => lhs; whnf)
section
variable {dc : D} {S : List Str} {b : Str → List Cd}
end
end DP
namespace DP
open PySem PySem.Spec PyProof.Rows L2 DL DM
local macro_rules | `(tactic| walk_at "r") => `(tactic| conv => lhs; whnf)
mutual
def tmC (T : Nat) : Cd → Bool
 | .rep t b => decide (t.natAbs < 2 ^ T) && tmCs T b
 | _ => true
def tmCs (T : Nat) : List Cd → Bool
 | [] => true
 | c :: r => tmC T c && tmCs T r
end
end DP
namespace DP
open PySem PySem.Spec PyProof.Rows L2 DL DM
local macro_rules | `(tactic| walk_at "r") => `(tactic| conv => lhs; whnf)
section
variable {dc : D} {S : List Str} {b : Str → List Cd} {kn : Str → M4} {Bb T : Nat}
end
end DP
namespace DP
open PySem PySem.Spec PyProof.Rows L2 DL DM
end DP
namespace DP
open PySem PySem.Spec PyProof.Rows L2 DL DM
local macro_rules | `(tactic| walk_at "r") => `(tactic| conv => lhs; whnf)
def Tame (most : Int) (m : M4) : Prop := m.deep ≤ 6 ∧ m.puts ≤ 60 ∧ m.many ≤ 60 ∧ m.beats ≤ most
instance {most : Int} {m : M4} : Decidable (Tame most m) := by unfold Tame; infer_instance
section
variable {dc : D} {kn : Str → M4} {cs : List Cd} {most : Int} {E : EndsK}
end
end DP
namespace DP
open PySem PySem.Spec PyProof.Rows L2 DL DM
local macro_rules | `(tactic| walk_at "r") => `(tactic| conv => lhs; whnf)
section
variable {W L d : Nat} {most : Int} {S : List Str} {b : Str → List Cd} {kn : Str → M4}
end
end DP
namespace DP
open PySem PySem.Spec PyProof.Rows L2 DL DM
local macro_rules | `(tactic| walk_at "r") => `(tactic| conv => lhs; whnf)
section
variable {dc : D} {S : List Str} {b : Str → List Cd}
end
end DP
namespace DP
open PySem PySem.Spec PyProof.Rows L2 DL DM
local macro_rules | `(tactic| walk_at "r") => `(tactic| conv => lhs; whnf)
structure XE where
 nm : Str
 fl : Str
 d : D
def xA (e : XE) : Ans := .exc e.nm [("tag", .str e.nm), (e.fl, e.d)]
def xE (E : EndsK) (e : XE) : Ans := E.xc e.nm [("tag", .str e.nm), (e.fl, e.d)]
section
variable {w : Int} {db : D} {S : List Str} {b : Str → List Cd} {v : Str → D} {a1 a2 : Option Vl} {E : EndsK} {nb : Str → Bool} {c1 : Str → Option XE}
def f1 (nb : Str → Bool) (c1 : Str → Option XE) (z : Str) : Option XE := if nb z then c1 z else some ⟨"InvalidName", "name", .str z⟩
end
end DP
namespace DP
open PySem PySem.Spec PyProof.Rows L2 DL DM
local macro_rules | `(tactic| walk_at "r") => `(tactic| conv => lhs; whnf)
section
variable {w : Int} {S : List Str} {b : Str → List Cd} {a1 a2 : Option Vl} {E : EndsK}
end
end DP
namespace DP
open PySem PySem.Spec PyProof.Rows L2 DL DM
local macro_rules | `(tactic| walk_at "r") => `(tactic| conv => lhs; whnf)
section
variable {w : Int} {S : List Str} {db : D} {v : Str → D} {nb : Str → Bool} {c1 : Str → Option XE} {b : Str → List Cd} {kn : Str → M2}
end
end DP
namespace DP
open PySem PySem.Spec PyProof.Rows L2 DL DM
end DP
namespace DP
open PySem PySem.Spec PyProof.Rows L2 DL DM
local macro_rules | `(tactic| walk_at "r") => `(tactic| conv => lhs; whnf)
def tX (e : XE) : D := .tup [.str e.nm, e.d]
section
variable {w : Int} {K0 kb : List Str} {v : Str → D} {pth : Str → D} {ln : Str → Int} {b : Str → List Cd} {kn : Str → M4} {S : List Str} {a0 a3 : Option Vl} {E : EndsK}
end
end DP
namespace DP
open PySem PySem.Spec PyProof.Rows L2 DL DM
local macro_rules | `(tactic| walk_at "r") => `(tactic| conv => lhs; whnf)
def dueD (o : Option XE) : D := match o with
 | some e => tX e
 | none => .tup [.str "", .non]
section
variable {w : Int} {K0 kb : List Str} {v : Str → D} {pth : Str → D} {ln : Str → Int} {b : Str → List Cd} {kn : Str → M4}
end
end DP
namespace DP
open PySem PySem.Spec PyProof.Rows L2 DL DM
local macro_rules | `(tactic| walk_at "r") => `(tactic| conv => lhs; whnf)
inductive St8 where
 | ok (c : Cd) | b0 | b1 | b2
end DP
namespace DP
open PySem PySem.Spec PyProof.Rows L2 DL DM
end DP
namespace DP
open PySem PySem.Spec PyProof.Rows L2 DL DM
section
variable {S : List Str} {b : Str → List Cd} {kn : Str → M4} {rk : Str → Nat}
end
end DP
namespace DP
open PySem PySem.Spec PyProof.Rows L2 DL DM
section
variable {W w : Int} {K0 : List Str} {bl : Str → List St8} {kb : List Str} {pth : Str → D}
end
end DP
namespace DP
open PySem PySem.Spec PyProof.Rows L2 DL DM
end DP
namespace DP
open PySem PySem.Spec PyProof.Rows L2 DL DM
section
variable {L L' : Nat} {W : Int} {K0 : List Str} {bl : Str → List St8} {kb kb' : List Str} {pth pth' : Str → D}
end
end DP
namespace DP
open PySem PySem.Spec PyProof.Rows L2 DL DM
end DP
namespace DP
open PySem PySem.Spec PyProof.Rows L2 DL DM
end DP
namespace DP
open PySem PySem.Spec PyProof.Rows L2 DL DM
end DP
namespace DP
open PySem PySem.Spec PyProof.Rows L2 DL DM
section
variable {L L' : Nat} {W : Int} {K0 : List Str} {bl : Str → List St8} {kb : List Str} {pth : Str → D} {z : Str}
end
end DP
namespace DP
open PySem PySem.Spec PyProof.Rows L2 DL DM
mutual
theorem eqD_refl : ∀ {d : D}, lays d = true → eqD d d = true
 | .non, _ => by simp [eqD, pyOf, PyData.eqv]
 | .bl _, _ => by simp [eqD, pyOf, PyData.eqv]
 | .int _, _ => by simp [eqD, pyOf, PyData.eqv]
 | .str _, _ => by simp [eqD, pyOf, PyData.eqv]
 | .tup ds, h => by
  have := eqDs_refl (ds := ds) h
  simpa [eqD, pyOf, PyData.eqv] using this
 | .lst ds, h => by
  have := eqDs_refl (ds := ds) h
  simpa [eqD, pyOf, PyData.eqv] using this
theorem eqDs_refl : ∀ {ds : List D}, layss ds = true → PyData.eqvAll (pyOfs ds) (pyOfs ds) = true
 | [], _ => by simp [pyOfs, PyData.eqvAll]
 | d :: r, h => by
  obtain ⟨h1, h2⟩ := Bool.and_eq_true_iff.mp (show (lays d && layss r) = true from h)
  have a := eqD_refl h1
  have b := eqDs_refl h2
  unfold eqD at a
  simp [pyOfs, PyData.eqvAll, a, b]
end
end DP
namespace DP
open PySem PySem.Spec PyProof.Rows L2 DL DM
local macro_rules | `(tactic| walk_at "w") => `(tactic| conv => whnf)
end DP
namespace PySem.W
open PySem PySem.Calls PyProof.Rows
section
variable {prog : Program} {w : World} {A : Around} {E : Value → Shared → Prop} {s : Shared} {K : Frag} {x y C f : Addr} {ox oy : Obj} {od oe : Option Obj}
end
end PySem.W
namespace DL
open PySem PySem.Spec PyProof.Rows L2 _root_.DM
section
variable {X : Cx} {CX : CXT} {k n : Nat} {f Ca : Addr} {fd : FuncData} {ps : List Str} {sp : Sp} {E : L2.St → XK} {pos : Pos} {a b : Expr} {ta tb : TE} {op : Operator} {C m : Str} {wf : WF} {wa wb : WE}
end
end DL
namespace DM
open PySem PySem.Spec PyProof.Rows L2 DL
section
variable {X : Cx} {k : Nat} {pos : Pos} {a b : Expr} {ma mb : WM} {op : Operator} {C : Str} {m : List D → Ans}
end
end DM
namespace DL
open PySem PySem.Spec PyProof.Rows L2 _root_.DM
structure StatF (K : PySem.W.Frag) (C : Addr) (m : Str) (p f : Addr) : Prop where
 rd : ClX.CRead K C (.type "type")
 at_ : PySem.W.findCls K (.ref C) (.type "type") m = some (.get (.builtin "staticmethod.__get__") (.ref p) .none (.ref C))
 rc : ∃ rest, PySem.W.recIn K p "staticmethod" = some (.ref f :: rest)
 kp : PySem.W.keepIn K (.ref f) = true
structure StatD (P : Program) (w : World) (K : PySem.W.Frag) (base : Heap) (mg : Str → Option Value) (C m : Str) (k n : Nat) (wf : WF) : Prop where
 gl : mg C = some (.ref (He.ga K C))
 ex : ∃ (p a : Addr) (fd : FuncData) (ps : List Str), ps.length = n ∧ FnOk P w K mg base (L2N.CX P w) k a fd ps (spD K n wf) ∧ StatF K (He.ga K C) m p a ∧ Binds K fd ps []
section
variable {X : Cx} {CX : CXT} {k n : Nat} {f Ca p : Addr} {fd : FuncData} {ps : List Str} {sp : Sp} {E : L2.St → XK} {pos apos np : Pos} {e : Expr} {es : List Expr} {t : TA} {C m : Str} {wf : WF} {wa : WA}
def tStatS (sp : Sp) (E : L2.St → XK) (t : TA) : TE := fun σ H Q => t σ H fun vs H2 => sp vs H2 Q (E σ)
theorem pe_statAt {pl : Sem Bool} (hg : Gl X C) (hm : X.mg C = some (.ref Ca)) (S : StatF X.K Ca m p f) (F : FnOk X.prog X.w X.K X.mg X.base CX k f fd ps sp) (hr : Room k X.A) (hb : Binds X.K fd ps []) (hx : ∀ σ, PassesAt CX X σ (E σ)) (ha : PA X (e :: es) t)
  (hd : (C == ("__debug__" : Str)) = false := by decide)
  (hst : starEach (e :: es) X.env = (false, eval e X.env) :: starEach es X.env := by rfl) (hpl : (backTo pos (starEach es X.env)).any (·.1) = false := by rfl)
  (ht : eval (.Call (.Attribute (.Name C np) m apos) (e :: es) [] pos) X.env = (do
   let ov ← eval (.Name C np) X.env
   standAt apos.atName
   let (f, first) ← holding [ov] (getMethod ov m pl)
   callWith pos f first (backTo pos (starEach (e :: es) X.env)) (backToKw pos (keywordEach [] X.env))) := by rfl) :
  PE X (.Call (.Attribute (.Name C np) m apos) (e :: es) [] pos) (tStatS sp E t) := by
 refine ⟨fun pins s σ H Q I h => ?_⟩
 have he : PE X (.Name C np) (tC (.ref Ca)) := pe_glob hg hm rfl hd
 refine PySem.W.methodCall_KW (pl := pl) (thn (he.run pins s σ H (fun x H1 => x = .ref Ca ∧ t σ H1 fun vs H2 => sp vs H2 Q (E σ)) I ⟨rfl, h⟩) fun u s1 ⟨x, H1, I1, rx, ex, q⟩ => ?_) ht
 subst ex
 obtain rfl : u = Value.ref Ca := rx
 obtain ⟨rest, hp⟩ := S.rc
 refine PySem.W.method_cls I1.kIn S.rd.ga (PySem.W.cls_bind I1.kIn S.rd.rd S.at_ (wpAny_call (PySem.W.sm_get (s := { s1 with toks := s1.toks + 1 }) I1.kIn hp (PySem.W.handed_on rfl ?_))))
 refine PySem.W.callWith_K (first := []) (h₀ := X.base) I1.ok.mod.kin S.kp (thn (ha.run pos pins _ σ H1 _ (I1.tok _) q) fun us s2 ⟨vs, H2, I2, r, q2⟩ => ⟨I2.kIn, ?_⟩) hst hpl
 exact run_fnS (us := us) (vs := vs) F hr hb (hx σ) I2 r q2
theorem de_stat {Tq : TkC} {pl : Sem Bool} (F : StatD X.prog X.w X.K X.base X.mg C m k n wf) (hr : Room k X.A) (ha : DA Tq X (e :: es) wa) (hg : Gl X C := by rfl)
  (hd : (C == ("__debug__" : Str)) = false := by decide)
  (hst : starEach (e :: es) X.env = (false, eval e X.env) :: starEach es X.env := by rfl) (hpl : (backTo pos (starEach es X.env)).any (·.1) = false := by rfl)
  (ht : eval (.Call (.Attribute (.Name C np) m apos) (e :: es) [] pos) X.env = (do
   let ov ← eval (.Name C np) X.env
   standAt apos.atName
   let (f, first) ← holding [ov] (getMethod ov m pl)
   callWith pos f first (backTo pos (starEach (e :: es) X.env)) (backToKw pos (keywordEach [] X.env))) := by rfl) :
  DE Tq X (.Call (.Attribute (.Name C np) m apos) (e :: es) [] pos) (wCall wf n wa) := by
 obtain ⟨p, a, fd, ps, hn, G, hS, hb⟩ := F.ex
 refine ⟨fun W tk => pe_imp (pe_statAt hg F.gl hS G hr hb (fun σ => L2N.passAt (Tq.n tk) σ) (ha.pa W tk) hd hst hpl ht) fun σ H Q q => ?_⟩
 obtain ⟨F1, M, ρ, k, x, S, R, w, pv, px⟩ := q
 refine ⟨F1, M, ρ, _, x, S, R, w, fun vs ds H2 F2 M2 e2 S2 r2 w2 => ?_, px⟩
 obtain ⟨hl, w2⟩ := gd_of w2
 exact ⟨F2, M2, ds, k, x, S2, r2, Nat.eq_of_beq_eq_true hl, w2, pv.on e2, px.on e2⟩
end
theorem statB_ok {K : PySem.W.Frag} {C m : Str} (h : statB K C m = true) : StatF K (He.ga K C) m (He.ma K (He.ga K C) m) (wfS K C m) := by
 obtain ⟨h1, h⟩ := Bool.and_eq_true_iff.mp h
 obtain ⟨h2, h⟩ := Bool.and_eq_true_iff.mp h
 obtain ⟨h3, h4⟩ := Bool.and_eq_true_iff.mp h
 obtain ⟨g1, g2⟩ := He5.wrapB_ok h1
 exact ⟨⟨h2, of_decide_eq_true h3⟩, g1, g2, h4⟩
theorem statsB_one {ps : List (Str × Str)} {K : PySem.W.Frag} (h : statsB ps K = true) {C f : Str} (hp : (C, f) ∈ ps) : StatF K (He.ga K C) f (He.ma K (He.ga K C) f) (wfS K C f) := statB_ok (List.all_eq_true.mp h (C, f) hp)
end DL
namespace DM
open PySem PySem.Spec PyProof.Rows L2 DL
section
variable {X : Cx} {k n : Nat} {pos apos np : Pos} {e : Expr} {es : List Expr} {C m : Str} {mf : List D → Ans} {ma : WMA}
end
end DM
namespace DL
open PySem PySem.Spec PyProof.Rows L2 _root_.DM
end DL
namespace DM
open PySem PySem.Spec PyProof.Rows L2 DL
section
variable {X : Cx} {pos : Pos}
end
end DM
namespace DL
open PySem PySem.Spec PyProof.Rows L2 _root_.DM
section
variable {X : Cx} {e : Expr} {te : TE} {p apos cpos pos : Pos}
end
end DL
namespace DL
open PySem PySem.Spec PyProof.Rows L2 _root_.DM
theorem keyT_eq {a b : List Int} : ((a.map Sum.inl : List Key) = b.map Sum.inl) = (a = b) := by
 apply propext
 refine ⟨fun h => ?_, fun h => by rw [h]⟩
 induction a generalizing b with
 | nil => cases b with
  | nil => rfl
  | cons y r => cases h
 | cons x r ih => cases b with
  | nil => cases h
  | cons y q =>
   rw [List.map_cons, List.map_cons] at h
   injection h with h1 h2
   injection h1 with h1
   rw [h1, ih h2]
def getT {α : Type} : List (List Int) → List α → List Int → Option α
 | k' :: ks, x :: xs, k => if k' = k then some x else getT ks xs k
 | _, _, _ => none
def putT {α : Type} : List (List Int) → List α → List Int → α → List α
 | k' :: ks, x :: xs, k, v => (if k' = k then v else x) :: putT ks xs k v
 | _, _, _, _ => []
def putKsT (ks : List (List Int)) (k : List Int) : List (List Int) := if k ∈ ks then ks else ks ++ [k]
def putXsT {α : Type} (ks : List (List Int)) (xs : List α) (k : List Int) (v : α) : List α := if k ∈ ks then putT ks xs k v else xs ++ [v]
theorem kvt_cons {k : List Int} {ks : List (List Int)} {x : V} {xs : List V} : kvt (k :: ks) (x :: xs) = (k.map Sum.inl, x) :: kvt ks xs := rfl
theorem kvt_len : ∀ {ks : List (List Int)} {xs : List V}, ks.length = xs.length → (kvt ks xs).length = xs.length
 | [], [], _ => rfl
 | _ :: ks, _ :: xs, h => congrArg (· + 1) (kvt_len (ks := ks) (xs := xs) (by simpa using h))
theorem valV_kvt : ∀ (ks : List (List Int)) (xs : List V) (k : List Int), valV (kvt ks xs) (k.map Sum.inl) = getT ks xs k
 | [], _, _ => rfl
 | _ :: _, [], _ => rfl
 | k' :: ks, x :: xs, k => by
  rw [kvt_cons]
  by_cases h : k' = k
  ·rw [valV_pos (p := (k'.map Sum.inl, x)) (by rw [h])]
   show _ = if k' = k then some x else _
   rw [if_pos h]
  ·rw [valV_neg (p := (k'.map Sum.inl, x)) (by rw [keyT_eq]; exact h), valV_kvt ks xs k]
   show _ = if k' = k then some x else _
   rw [if_neg h]
theorem Reps.getT {K : PySem.W.Frag} {F : Hp} : ∀ {ks : List (List Int)} {xs : List V} {ds : List D} {k : List Int} {d : D}, Reps K F xs ds → DL.getT ks ds k = some d → ∃ v, DL.getT ks xs k = some v ∧ Rep K F v d
 | [], _, _, _, _, _, h => by simp [DL.getT] at h
 | _ :: _, _, _, _, _, .nil, h => by simp [DL.getT] at h
 | k' :: ks, _, _, k, d, .cons q r, h => by
  have h' : (if k' = k then some _ else DL.getT ks _ k) = some d := h
  by_cases e : k' = k
  ·rw [if_pos e] at h'
   cases h'
   refine ⟨_, ?_, q⟩
   show (if k' = k then some _ else _) = _
   rw [if_pos e]
  ·rw [if_neg e] at h'
   obtain ⟨v, h1, h2⟩ := Reps.getT r h'
   refine ⟨v, ?_, h2⟩
   show (if k' = k then some _ else _) = _
   rw [if_neg e]
   exact h1
theorem getT_some {α : Type} : ∀ {ks : List (List Int)} {xs : List α} {k : List Int}, ks.length = xs.length → (getT ks xs k).isSome = decide (k ∈ ks)
 | [], [], k, _ => by simp [getT]
 | k' :: ks, x :: xs, k, h => by
  have ih := getT_some (ks := ks) (xs := xs) (k := k) (by simpa using h)
  show (if k' = k then some x else getT ks xs k).isSome = _
  by_cases e : k' = k
  ·rw [if_pos e]; subst e; simp
  ·rw [if_neg e, ih, Bool.eq_iff_iff]
   simp [Ne.symm e, eq_comm]
theorem putT_len {α : Type} : ∀ {ks : List (List Int)} {xs : List α} {k : List Int} {v : α}, ks.length = xs.length → (putT ks xs k v).length = xs.length
 | [], [], _, _, _ => rfl
 | _ :: ks, _ :: xs, _, _, h => congrArg (· + 1) (putT_len (ks := ks) (xs := xs) (by simpa using h))
theorem Reps.putT {K : PySem.W.Frag} {F : Hp} {v : V} {d : D} (q : Rep K F v d) : ∀ {ks : List (List Int)} {xs : List V} {ds : List D} {k : List Int}, Reps K F xs ds → Reps K F (DL.putT ks xs k v) (DL.putT ks ds k d)
 | [], _, _, _, _ => .nil
 | _ :: _, _, _, _, .nil => .nil
 | k' :: ks, _, _, k, .cons h r => by
  show Reps K F ((if k' = k then v else _) :: _) ((if k' = k then d else _) :: _)
  by_cases e : k' = k
  ·rw [if_pos e, if_pos e]; exact .cons q (Reps.putT q r)
  ·rw [if_neg e, if_neg e]; exact .cons h (Reps.putT q r)
theorem putK_kvt : ∀ (ks : List (List Int)) (xs : List V) (k : List Int) (v : V), ks.length = xs.length → putK (kvt ks xs) (k.map Sum.inl) v = kvt (putKsT ks k) (putXsT ks xs k v) := fun ks xs k v hl => by
 have hany : ∀ (ks : List (List Int)) (xs : List V), ks.length = xs.length → ((kvt ks xs).any fun kv => decide (kv.1 = (k.map Sum.inl : List Key))) = decide (k ∈ ks) := fun ks => by
  induction ks with
  | nil => intro xs h; cases xs with
   | nil => simp [kvt]
   | cons _ _ => simp at h
  | cons k' ks ih =>
   intro xs h
   cases xs with
   | nil => simp at h
   | cons x xs =>
    rw [kvt_cons, List.any_cons, ih xs (by simpa using h)]
    rw [Bool.eq_iff_iff]
    simp only [Bool.or_eq_true, decide_eq_true_eq, List.mem_cons, keyT_eq]
    exact or_congr eq_comm Iff.rfl
 have hmap : ∀ (ks : List (List Int)) (xs : List V), (kvt ks xs).map (fun kv => if kv.1 = (k.map Sum.inl : List Key) then (kv.1, v) else kv) = kvt ks (DL.putT ks xs k v) := fun ks => by
  induction ks with
  | nil => intro xs; rfl
  | cons k' ks ih =>
   intro xs
   cases xs with
   | nil => rfl
   | cons x xs =>
    rw [kvt_cons, List.map_cons, ih xs]
    show _ = kvt (k' :: ks) ((if k' = k then v else x) :: DL.putT ks xs k v)
    rw [kvt_cons]
    by_cases e : k' = k
    ·rw [if_pos (by rw [e]), if_pos e]
    ·rw [if_neg (by rw [keyT_eq]; exact e), if_neg e]
 have happ : ∀ (ks : List (List Int)) (xs : List V), ks.length = xs.length → kvt ks xs ++ [(k.map Sum.inl, v)] = kvt (ks ++ [k]) (xs ++ [v]) := fun ks => by
  induction ks with
  | nil => intro xs h; cases xs with
   | nil => rfl
   | cons _ _ => simp at h
  | cons k' ks ih =>
   intro xs h
   cases xs with
   | nil => simp at h
   | cons x xs => rw [kvt_cons, List.cons_append, ih xs (by simpa using h)]; rfl
 unfold putK putKsT putXsT
 by_cases h : k ∈ ks
 ·rw [if_pos (by rw [hany ks xs hl]; exact decide_eq_true h), if_pos h, if_pos h]
  exact hmap ks xs
 ·rw [if_neg (by rw [hany ks xs hl, decide_eq_false h]; exact Bool.false_ne_true), if_neg h, if_neg h]
  exact happ ks xs hl
def intsD : List D → Option (List Int)
 | [] => some []
 | .int i :: r => (intsD r).map (i :: ·)
 | _ => none
def keyD : D → Option (List Int)
 | .tup ds => intsD ds
 | _ => none
def keysD : List D → Option (List (List Int))
 | [] => some []
 | d :: r => (keyD d).bind fun k => (keysD r).map (k :: ·)
theorem intsD_eq : ∀ {ds : List D} {z : List Int}, intsD ds = some z → ds = z.map .int
 | [], z, h => by cases h; rfl
 | .int i :: r, z, h => by
  obtain ⟨q, h1, rfl⟩ := Option.map_eq_some_iff.mp (show (intsD r).map (i :: ·) = some z from h)
  rw [intsD_eq h1]; rfl
 | .non :: _, _, h | .bl _ :: _, _, h | .str _ :: _, _, h | .ref _ :: _, _, h | .ty _ :: _, _, h | .tup _ :: _, _, h | .lst _ :: _, _, h | .scr _ :: _, _, h | .dct _ _ :: _, _, h | .dcT _ _ :: _, _, h | .obj _ _ _ :: _, _, h | .dcl _ _ :: _, _, h | .dlT _ _ :: _, _, h => by cases h
theorem intsD_map (z : List Int) : intsD (z.map .int) = some z := by
 induction z with
 | nil => rfl
 | cons i r ih =>
  show (intsD (r.map .int)).map (i :: ·) = _
  rw [ih]; rfl
theorem keyD_eq {d : D} {z : List Int} (h : keyD d = some z) : d = .tup (z.map .int) := by
 cases d with
 | tup ds => rw [intsD_eq h]
 | _ => cases h
theorem keyD_tI (z : List Int) : keyD (.tup (z.map .int)) = some z := intsD_map z
theorem reps_ints {K : PySem.W.Frag} {F : Hp} : ∀ {z : List Int} {xs : List V}, Reps K F xs (z.map .int) → xs = z.map V.int
 | [], _, .nil => rfl
 | i :: r, _, .cons h t => by cases h; rw [reps_ints t]; rfl
theorem key_rep {K : PySem.W.Frag} {H F : Hp} {M : MH} {v : V} {d : D} {z : List Int} (S : RepS K H F M) (r : Rep K F v d) (h : keyD d = some z) : ∃ b, v = .ref b ∧ H b = some (.tup ((z.map Sum.inl : List Key).map kV)) := by
 have e := keyD_eq h
 subst e
 cases r with
 | @tup a xs _ hq hr hl =>
  refine ⟨a, rfl, ?_⟩
  rw [reps_ints hr] at hq
  rw [List.map_map]
  exact S.fz _ _ hq
def onKey (d : D) (p : List Int → Prop) : Prop := match keyD d with
 | some z => p z
 | none => False
theorem onKey_of {d : D} {p : List Int → Prop} (h : onKey d p) : ∃ z, keyD d = some z ∧ p z := by
 unfold onKey at h
 cases e : keyD d with
 | some z => rw [e] at h; exact ⟨z, rfl, h⟩
 | none => rw [e] at h; exact h.elim
def wDnewT : WE := fun _ M k _ => ∀ a, M a = none → k (.ref a) (mupd M a (.dcT [] []))
def wDputT (wo wi we : WE) : WS := fun ρ M E => we ρ M (fun d M1 => wo ρ M1 (fun o M2 => wi ρ M2 (fun i M3 => onKey i fun z => ∃ a ks ds, o = .ref a ∧ M3 a = some (.dcT ks ds) ∧ ds.length < 10000000 ∧ E.nx ρ (mupd M3 a (.dcT (putKsT ks z) (putXsT ks ds z d)))) E.xc) E.xc) E.xc
def wDGet2T (wo wi we : WE) : WE := fun ρ M k x => wo ρ M (fun o M1 => ∃ a ks0 ds0, o = .ref a ∧ M1 a = some (.dcT ks0 ds0) ∧ wi ρ M1 (fun i M2 => we ρ M2 (fun e M3 => onKey i fun z => ∃ ks ds, M3 a = some (.dcT ks ds) ∧ k ((getT ks ds z).getD e) M3) x) x) x
section
variable {X : Cx} {o i e f : Expr} {wo wi we : WE} {pos pos' apos cpos p : Pos}
theorem de_dnewT {Tq : TkC} : DE Tq X (.Dict [] [] pos) wDnewT := by
 refine ⟨fun W tk => pe_imp pe_dnewT fun σ H Q q => ?_⟩
 obtain ⟨F, M, ρ, k, x, S, R, w, pv, px⟩ := q
 intro p hp
 obtain ⟨S2, e2⟩ := S.layM hp (o := .dT []) (m := .dcT [] []) ⟨[], rfl, .nil, rfl, Nat.zero_le _⟩
 exact pv _ _ _ _ _ e2 S2 (.ref p) (w p (S.mno hp))
theorem de_dget2T {Tq : TkC} (hu : X.A.units + 64 < cLine) (ho : DE Tq X o wo) (he : DE Tq X e wi) (hf : DE Tq X f we) (m : M2 X o "get" apos e f cpos := by exact ⟨by rfl, by rfl, by rfl, by rfl⟩) : DE Tq X (.Call (.Attribute o "get" apos) [e, f] [] cpos) (wDGet2T wo wi we) := by
 refine ⟨fun W tk => pe_imp (pe_dget2 (by omega) (ho.pe W tk) (he.pe W tk) (hf.pe W tk) m) fun σ H Q q => ?_⟩
 obtain ⟨F, M, ρ, k, x, S, R, w, pv, px⟩ := q
 refine ⟨F, M, ρ, _, x, S, R, w, fun v d H1 F1 M1 e1 S1 r1 w1 => ?_, px⟩
 obtain ⟨a, ks0, ds0, rfl, hm, w2⟩ := w1
 cases r1
 obtain ⟨_, ob, hob, xs, rfl, _, _, _⟩ := S1.mu a _ hm
 refine ⟨a, rfl, .inr ⟨_, .inl hob⟩, F1, M1, ρ, _, x, S1, R.mono e1.sm, w2, fun v2 i H2 F2 M2' e2 S2 r2 w3 => ?_, px.on e1⟩
 refine ⟨F2, M2', ρ, _, x, S2, R.mono (e1.trans e2).sm, w3, fun v3 y H3 F3 M3 e3 S3 r3 w4 => ?_, px.on (e1.trans e2)⟩
 obtain ⟨z, hz, ks, ds, hm3, w5⟩ := onKey_of w4
 obtain ⟨b, rfl, hb⟩ := key_rep S3 (r2.mono e3.sm) hz
 obtain ⟨_, ob3, hob3, xs3, rfl, hr, hl, hz3⟩ := S3.mu a _ hm3
 refine ⟨_, DGet.t (k := z.map Sum.inl) hob3 hb, ?_⟩
 rw [valV_kvt]
 refine pv _ _ _ _ _ ((e1.trans e2).trans e3) S3 ?_ w5
 cases hg : DL.getT ks ds z with
 | some d =>
  obtain ⟨v, h2, h3⟩ := hr.getT hg
  rw [h2]
  exact h3
 | none =>
  have h1 := getT_some (k := z) hl
  rw [hg] at h1
  have h2 := getT_some (k := z) (hl.trans hr.length.symm)
  rw [← h1] at h2
  cases hx : DL.getT ks xs3 z with
  | some v => rw [hx] at h2; cases h2
  | none => exact r3
theorem ds_dputT {Tq : TkC} (hu : X.A.units + 64 < cLine) (ho : DE Tq X o wo) (hi : DE Tq X i wi) (he : DE Tq X e we) (hs : swapsWith e (some (.Subscript o i pos')) pos.line X.env = pure false := by rfl) : DS Tq X (.Assign [.Subscript o i pos'] e pos) (wDputT wo wi we) := by
 refine ⟨fun W tk _ => ps_imp (ps_dput (by omega) (ho.pe W tk) (hi.pe W tk) (he.pe W tk) hs) fun D σ H q => ?_⟩
 obtain ⟨F, M, ρ, E, S, R, w, f⟩ := q
 refine ⟨F, M, ρ, _, _, S, R, w, fun v d H1 F1 M1 e1 S1 r1 w1 => ?_, f.xc σ⟩
 refine ⟨F1, M1, ρ, _, _, S1, R.mono e1.sm, w1, fun vo o H2 F2 M2 e2 S2 r2 w2 => ?_, (f.xc σ).on e1⟩
 have e12 := e1.trans e2
 refine ⟨F2, M2, ρ, _, _, S2, R.mono e12.sm, w2, fun vi i H3 F3 M3 e3 S3 r3 w3 => ?_, (f.xc σ).on e12⟩
 obtain ⟨z, hz, a, ks, ds, rfl, hm, hl4, w4⟩ := onKey_of w3
 obtain ⟨b, rfl, hb⟩ := key_rep S3 r3 hz
 cases r2
 obtain ⟨_, ob, hob, xs, rfl, hr, hl, hz⟩ := S3.mu a _ hm
 have hlx : ks.length = xs.length := hl.trans hr.length.symm
 have rd := r1.mono (e2.trans e3).sm
 obtain ⟨S4, e4⟩ := S3.write hm (o := .dT (kvt (putKsT ks z) (putXsT ks xs z v))) (m := .dcT (putKsT ks z) (putXsT ks ds z d)) (by
  refine ⟨_, rfl, ?_, ?_, ?_⟩
  ·unfold putXsT
   by_cases h : z ∈ ks
   ·rw [if_pos h, if_pos h]; exact hr.putT rd
   ·rw [if_neg h, if_neg h]; exact hr.snoc rd
  ·unfold putKsT putXsT
   by_cases h : z ∈ ks
   ·rw [if_pos h, if_pos h, putT_len hl]; exact hl
   ·rw [if_neg h, if_neg h, List.length_append, List.length_append, hl]; rfl
  ·unfold putXsT
   rw [sizeLine_eq]
   by_cases h : z ∈ ks
   ·rw [if_pos h, putT_len hl]; omega
   ·rw [if_neg h, List.length_append, List.length_singleton]; omega)
 refine ⟨a, _, rfl, DPut.t (k := z.map Sum.inl) hob hb (by rw [kvt_len hlx, hr.length, sizeLine_eq]; omega), ?_⟩
 rw [putK_kvt _ _ _ _ hlx]
 have e := (e12.trans e3).trans e4
 exact f.nx _ _ _ _ _ e S4 (R.mono e.sm) w4
end
theorem eqv_ints : ∀ a b : List Int, PyData.eqvAll (a.map .int) (b.map .int) = decide (a = b)
 | [], [] => rfl
 | [], _ :: _ => rfl
 | _ :: _, [] => rfl
 | x :: a, y :: b => by
  show (PyData.eqv (.int x) (.int y) && PyData.eqvAll (a.map .int) (b.map .int)) = _
  rw [eqv_ints a b]
  have e : PyData.eqv (.int x) (.int y) = (x == y) := by simp [PyData.eqv]
  rw [e, Bool.eq_iff_iff]
  simp
end DL
namespace DM
open PySem PySem.Spec PyProof.Rows L2 DL
def onK (d : D) (f : List Int → Ans) : Ans := match keyD d with
 | some z => f z
 | none => .bad
def mDputT (i : Nat) (mi me : WM) : WMS := fun r E => me r (fun u => onVl u fun d => match r[i]? with
 | some (some (.o (.dcT ks ds))) => mi r (fun v => onVl v fun z => onK z fun y => gdR (Nat.blt ds.length 10000000) (E.nx (r.set i (some (.o (.dcT (putKsT ks y) (putXsT ks ds y d))))))) E.xc
 | _ => .bad) E.xc
def mGet2T (j : Nat) (mi me : WM) : WM := fun r K X => match r[j]? with
 | some (some (.o (.dcT ks ds))) => mi r (fun u => onVl u fun i => me r (fun v => onVl v fun e => onK i fun z => K (.v ((getT ks ds z).getD e))) X) X
 | _ => .bad
def mCountT (mo me : WM) : WM := fun r K X => mo r (fun u => onVl u fun o => match o with
 | .lst ds => me r (fun v => onVl v fun e => oK (keysD ds) fun zs => onK e fun z => K (.v (.int (zs.count z)))) X
 | _ => .bad) X
section
variable {X : Cx} {st : Stmt} {e : Expr} {me mi mo : WM} {pos : Pos}
end
end DM
namespace DP
open PySem PySem.Spec PyProof.Rows L2 DL DM
def N_add : List Str := ["one", "others", "result", "other", "a", "b"]
def M_add : WMS := (mSeq (mSet 2 (mVar 0))
 (mSeq (mFor [3] (miSeq (mVar 1)) (mgN 3) (mSet 2 (mCB fTuple (mCons (mLc (miZip (mVar 2) (mVar 3)) (mgTup 2 (mgCons (mgN 4) (mgCons (mgN 5) mgNil))) mYes (mOp fAdd (mVar 4) (mVar 5)) [4, 5]) mNil))))
 (mRet (mVar 2))))
@[irreducible] def m_add (ds : List D) : Rs D := callM M_add N_add ds
theorem m_add_eq (ds : List D) : m_add ds = callM M_add N_add ds := by unfold m_add; rfl
def N_scale : List Str := ["number", "place", "one"]
def M_scale : WMS := (mRet (mCB fTuple (mCons (mLc (miSeq (mVar 1)) (mgN 2) mYes (mOp fMul (mVar 0) (mVar 2)) [2]) mNil)))
@[irreducible] def m_scale (ds : List D) : Rs D := callM M_scale N_scale ds
theorem m_scale_eq (ds : List D) : m_scale ds = callM M_scale N_scale ds := by unfold m_scale; rfl
def N_opposite : List Str := ["place"]
def M_opposite : WMS := (mRet (mCall m_scale 2 (mCons (mUn fNeg (mC (.int 1))) (mCons (mVar 0) mNil))))
@[irreducible] def m_opposite (ds : List D) : Rs D := callM M_opposite N_opposite ds
theorem m_opposite_eq (ds : List D) : m_opposite ds = callM M_opposite N_opposite ds := by unfold m_opposite; rfl
def N_origin : List Str := ["dimension"]
def M_origin : WMS := (mRet (mOp fMul (mTup (mCons (mC (.int 0)) mNil)) (mVar 0)))
@[irreducible] def m_origin (ds : List D) : Rs D := callM M_origin N_origin ds
theorem m_origin_eq (ds : List D) : m_origin ds = callM M_origin N_origin ds := by unfold m_origin; rfl
def N_Trail___init__ : List Str := ["self", "dimension", "beats", "shift", "strewings"]
def M_Trail___init__ : WMS := (mSeq (mSetA "Trail" "ground" 0 (mVar 1))
 (mSeq (mSetA "Trail" "length" 0 (mVar 2))
 (mSeq (mSetA "Trail" "way" 0 (mVar 3))
 (mSetA "Trail" "rows" 0 (mVar 4)))))
@[irreducible] def m_Trail___init__ (ds : List D) : Rs D := initM "Trail" M_Trail___init__ N_Trail___init__ ds
theorem m_Trail___init___eq (ds : List D) : m_Trail___init__ ds = initM "Trail" M_Trail___init__ N_Trail___init__ ds := by unfold m_Trail___init__; rfl
def N_Trail_go : List Str := ["vector"]
def M_Trail_go : WMS := (mRet (mCall m_Trail___init__ 4 (mCons (mCB fLen (mCons (mVar 0) mNil)) (mCons (mC (.int 1)) (mCons (mVar 0) (mCons (mLst mNil) mNil))))))
@[irreducible] def m_Trail_go (ds : List D) : Rs D := callM M_Trail_go N_Trail_go ds
theorem m_Trail_go_eq (ds : List D) : m_Trail_go ds = callM M_Trail_go N_Trail_go ds := by unfold m_Trail_go; rfl
end DP
namespace DP
open PySem PySem.Spec PyProof.Rows L2 DL DM
local macro_rules | `(tactic| walk_at "r") => `(tactic| conv => lhs; whnf)
def vadd (a b : List Int) : List Int := List.zipWith (· + ·) a b
def vscale (k : Int) (a : List Int) : List Int := a.map (k * ·)
def vzero (W : Nat) : List Int := List.replicate W 0
theorem mulB_le {i j : Int} {a b : Nat} (h1 : i.natAbs ≤ 2 ^ a) (h2 : j.natAbs ≤ 2 ^ b) (h : a + b ≤ 800000) : mulB i j = true :=
 mulB_of (a := a + 1) (b := b + 1) (Nat.lt_of_le_of_lt h1 (Nat.pow_lt_pow_right (by decide) (Nat.lt_succ_self a))) (Nat.lt_of_le_of_lt h2 (Nat.pow_lt_pow_right (by decide) (Nat.lt_succ_self b))) (by omega)
theorem zipD_ints : ∀ a b : List Int, zipD (a.map .int) (b.map .int) = (a.zip b).map fun p => D.tup [.int p.1, .int p.2]
 | [], [] => rfl
 | [], _ :: _ => rfl
 | _ :: _, [] => rfl
 | x :: a, y :: b => by
  show D.tup [.int x, .int y] :: zipD (a.map .int) (b.map .int) = _
  rw [zipD_ints a b]
  rfl
theorem vadd_zip : ∀ a b : List Int, ((a.zip b).map fun p => D.int (p.1 + p.2)) = (vadd a b).map .int
 | [], [] => rfl
 | [], _ :: _ => rfl
 | _ :: _, [] => rfl
 | x :: a, y :: b => by
  show D.int (x + y) :: ((a.zip b).map fun p => D.int (p.1 + p.2)) = _
  rw [vadd_zip a b]
  rfl
theorem scale_d {k : Int} {v : List Int} (h : ∀ x, x ∈ v → mulB k x = true) : m_scale [.int k, tI v] = .ok (tI (vscale k v)) := by
 rw [m_scale_eq]
 walk_at "r"
 rw [comp_map D.int (fun x => .int (k * x)) v fun x hx K X => by
  show vK (fMul (.v (.int k)) (.v (.int x))) K = _
  show vK (match mulB k x with
   | true => some (D.int (k * x))
   | false => none) K = _
  rw [h x hx]
  rfl]
 walk_at "r"
 show Rs.ok (D.tup (v.map fun x => .int (k * x))) = _
 unfold vscale tI
 rw [List.map_map]
 rfl
theorem rep_zero (W : Nat) : (List.replicate W [D.int 0]).flatten = (vzero W).map .int := by
 induction W with
 | zero => rfl
 | succ n ih => rw [List.replicate_succ, List.flatten_cons, ih]; rfl
theorem zero_mul {W : Nat} (h : W ≤ 1000) : fMul (.v (.tup [.int 0])) (.v (.int W)) = some (tI (vzero W)) := by
 show (match repB W 1 with
  | true => some (D.tup (List.replicate (W : Int).toNat [D.int 0]).flatten)
  | false => none) = _
 have e : repB W 1 = true := by
  unfold repB
  rw [decide_eq_true (by omega), decide_eq_true (by omega)]
  rfl
 rw [e]
 show some (D.tup _) = _
 rw [Int.toNat_natCast, rep_zero]
theorem origin_d {W : Nat} (h : W ≤ 1000) : m_origin [.int W] = .ok (tI (vzero W)) := by
 rw [m_origin_eq]
 walk_at "r"
 rw [show fMul (.v (.tup ((fun x => D.int 0 :: x) []))) (.v (.int W)) = some (tI (vzero W)) from zero_mul h]
 rfl
def addS : WMS := (mSet 2 (mCB fTuple (mCons (mLc (miZip (mVar 2) (mVar 3)) (mgTup 2 (mgCons (mgN 4) (mgCons (mgN 5) mgNil))) mYes (mOp fAdd (mVar 4) (mVar 5)) [4, 5]) mNil)))
theorem vsum_loop {s0 s1 s3 : Option Vl} {E : EndsK} : ∀ (vs : List (List Int)) (a : List Int), loopM [3] (mgN 3) addS (vs.map tI) [s0, s1, some (.v (tI a)), s3, none, none] E = E.nx [s0, s1, some (.v (tI (vs.foldl vadd a))), none, none, none]
 | [], a => by rw [List.map_nil, loopM_nil]; rfl
 | v :: vs, a => by
  rw [List.map_cons, loopM_cons]
  walk_at "r"
  rw [zipD_ints, comp_map (fun p : Int × Int => D.tup [.int p.1, .int p.2]) (fun p => .int (p.1 + p.2)) (a.zip v) fun x hx K X => rfl]
  walk_at "r"
  rw [vadd_zip]
  exact vsum_loop vs (vadd a v)
theorem add_d {a : List Int} {vs : List (List Int)} : m_add [tI a, .tup (vs.map tI)] = .ok (tI (vs.foldl vadd a)) := by
 rw [m_add_eq]
 walk_at "r"
 refine (vsum_loop vs a).trans ?_
 rfl
end DP
namespace DP
open PySem PySem.Spec PyProof.Rows L2 DL DM
local macro_rules | `(tactic| walk_at "r") => `(tactic| conv => lhs; whnf)
local macro_rules | `(tactic| walk_at "n") => `(tactic| try dsimp only [List.set_cons_zero, List.set_cons_succ, wipeM])
structure Lp where
 s : List Int
 t : Int
 l : Int
structure Row where
 n : Int
 p : List Int
 b : Int
 ls : List Lp
structure Tr where
 b : Int
 s : List Int
 r : List Row
def lpD (q : Lp) : D := .tup [tI q.s, .int q.t, .int q.l]
def lpsD (ls : List Lp) : D := .tup (ls.map lpD)
def rowD (q : Row) : D := .tup [.int q.n, tI q.p, .int q.b, lpsD q.ls]
def rowsD (rs : List Row) : D := .lst (rs.map rowD)
def trD (W : Nat) (a : Tr) : D := .obj "Trail" ["ground", "length", "way", "rows"] [.int W, .int a.b, tI a.s, rowsD a.r]
def tjoin (a c : Tr) : Tr := ⟨a.b + c.b, vadd a.s c.s, a.r ++ c.r.map fun q => ⟨q.n, vadd q.p a.s, q.b + a.b, q.ls⟩⟩
def lways (ls : List Lp) : List (List Int) := ls.map fun q => vscale (q.t - 1) q.s
def lwaits (ls : List Lp) : List Int := ls.map fun q => (q.t - 1) * q.l
def lturn (q : Lp) : Lp := ⟨vscale (-1) q.s, q.t, q.l⟩
def rneg (s : List Int) (b : Int) (q : Row) : Row := ⟨-q.n, (vscale (-1) s :: lways q.ls).foldl vadd q.p, b - 1 - q.b - (lwaits q.ls).sum, q.ls.map lturn⟩
def tneg (a : Tr) : Tr := ⟨a.b, vscale (-1) a.s, a.r.reverse.map (rneg a.s a.b)⟩
def rloop (a : Tr) (t : Int) (q : Row) : Row := ⟨q.n, q.p, q.b, ⟨a.s, t, a.b⟩ :: q.ls⟩
def trep0 (t : Int) (a : Tr) : Tr := if t = 1 then a else ⟨t * a.b, vscale t a.s, if t = 0 then [] else a.r.map (rloop a t)⟩
def trep (t : Int) (a : Tr) : Tr := if t < 0 then trep0 (-t) (tneg a) else trep0 t a
def vmax (v : List Int) : Nat := (v.map Int.natAbs).foldr max 0
structure LOk (W X : Nat) (q : Lp) : Prop where
 s : q.s.length = W
 sm : ∀ x, x ∈ q.s → x.natAbs ≤ X
 t : 1 ≤ q.t
 tm : q.t.natAbs ≤ X
 l : q.l.natAbs ≤ X
structure ROk (W X L : Nat) (q : Row) : Prop where
 n : q.n.natAbs ≤ X
 p : q.p.length = W
 pm : ∀ x, x ∈ q.p → x.natAbs ≤ X
 b : q.b.natAbs ≤ X
 l : q.ls.length ≤ L
 ls : ∀ l, l ∈ q.ls → LOk W X l
 sp : (q.ls.map fun l => l.t.natAbs * vmax l.s).sum ≤ X
 sl : (q.ls.map fun l => l.t.natAbs * l.l.natAbs).sum ≤ X
structure TOk (W X R L : Nat) (a : Tr) : Prop where
 b : a.b.natAbs ≤ X
 s : a.s.length = W
 sm : ∀ x, x ∈ a.s → x.natAbs ≤ X
 len : a.r.length ≤ R
 row : ∀ q, q ∈ a.r → ROk W X L q
section
variable {W X R L : Nat} {a c : Tr} {q : Row}
theorem trinit_d {g l w r : D} : m_Trail___init__ [g, l, w, r] = .ok (.obj "Trail" ["ground", "length", "way", "rows"] [g, l, w, r]) := by
 rw [m_Trail___init___eq]
 kernel_rfl
theorem go_d {v : List Int} (h : v.length = W) : m_Trail_go [tI v] = .ok (trD W ⟨1, v, []⟩) := by
 rw [m_Trail_go_eq]
 walk_at "r"
 rw [trinit_d]
 show Rs.ok (D.obj _ _ [.int ((v.map D.int).length : Nat), _, _, _]) = _
 rw [List.length_map, h]
 rfl
theorem add1 {p s : List Int} : m_add (List.take 1 ((fun x => tI p :: x) ((fun x => tI s :: x) [])) ++ [D.tup (List.drop 1 ((fun x => tI p :: x) ((fun x => tI s :: x) [])))]) = .ok (tI (vadd p s)) := add_d (vs := [s])
theorem list_add {xs ys : List D} (h : xs.length + ys.length ≤ 16777216) : fAdd (.v (.lst xs)) (.v (.lst ys)) = some (.lst (xs ++ ys)) := by
 show (match Nat.ble (xs.length + ys.length) 16777216 with
  | true => some (D.lst (xs ++ ys))
  | false => none) = _
 rw [Nat.ble_eq_true_of_le h]
def Bd (X : Nat) : Prop := X ≤ 2 ^ 300000
theorem mul_bd {i j : Int} {X : Nat} (h : Bd X) (h1 : i.natAbs ≤ X + 1) (h2 : j.natAbs ≤ X + 1) : mulB i j = true := by
 unfold Bd at h
 have e : (2 : Nat) ^ 300001 = 2 ^ 300000 * 2 := by rw [← Nat.pow_succ]
 have p : 1 ≤ (2 : Nat) ^ 300000 := Nat.one_le_two_pow
 generalize (2 : Nat) ^ 300000 = z at *
 exact mulB_le (a := 300001) (b := 300001) (by rw [e]; omega) (by rw [e]; omega) (by decide)
theorem mulB_neg {x : Int} {X : Nat} (h : Bd X) (h2 : x.natAbs ≤ X) : mulB (-1) x = true := mul_bd h (by show 1 ≤ X + 1; omega) (by omega)
theorem opp_d {v : List Int} {X : Nat} (h : Bd X) (hv : ∀ x, x ∈ v → x.natAbs ≤ X) : m_opposite [tI v] = .ok (tI (vscale (-1) v)) := by
 rw [m_opposite_eq]
 walk_at "r"
 rw [show m_scale ((fun x => D.int (-1) :: x) ((fun x => tI v :: x) [])) = .ok (tI (vscale (-1) v)) from scale_d fun x hx => mulB_neg h (hv x hx)]
 rfl
theorem mul_int {i j : Int} (h : mulB i j = true) : fMul (.v (.int i)) (.v (.int j)) = some (.int (i * j)) := by
 show (match mulB i j with
  | true => some (D.int (i * j))
  | false => none) = _
 rw [h]
end
end DP
namespace DP
open PySem PySem.Spec PyProof.Rows L2 DL DM
local macro_rules | `(tactic| walk_at "r") => `(tactic| conv => lhs; whnf)
local macro_rules | `(tactic| walk_at "n") => `(tactic| try dsimp only [List.set_cons_zero, List.set_cons_succ, wipeM])
section
variable {W X R L : Nat} {a c : Tr} {q : Row}
end
end DP
namespace DP
open PySem PySem.Spec PyProof.Rows L2 DL DM
theorem vadd_len {a b : List Int} (h : a.length = b.length) : (vadd a b).length = a.length := by
 unfold vadd
 rw [List.length_zipWith, h, Nat.min_self]
theorem vscale_len {k : Int} {a : List Int} : (vscale k a).length = a.length := List.length_map _
section
variable {W X Y R S L M : Nat} {a c : Tr} {q : Row}
end
end DP
namespace DP
open PySem PySem.Spec PyProof.Rows L2 DL DM
local macro_rules | `(tactic| walk_at "r") => `(tactic| conv => lhs; whnf)
local macro_rules | `(tactic| walk_at "n") => `(tactic| try dsimp only [List.set_cons_zero, List.set_cons_succ, wipeM])
abbrev t0 (W : Nat) : Tr := ⟨0, vzero W, []⟩
mutual
def cT (W : Nat) (tr : Str → Tr) : Cd → Tr
 | .go v => ⟨1, v, []⟩
 | .put i => ⟨1, vzero W, [⟨i, vzero W, 0, []⟩]⟩
 | .ref u nm => if u then tneg (tr nm) else tr nm
 | .rep t b => trep t (cF W tr (t0 W) b)
def cF (W : Nat) (tr : Str → Tr) (acc : Tr) : List Cd → Tr
 | [] => acc
 | c :: r => cF W tr (tjoin acc (cT W tr c)) r
end
abbrev cB (W : Nat) (tr : Str → Tr) (cs : List Cd) : Tr := cF W tr (t0 W) cs
section
variable {W nb : Nat} {tr : Str → Tr} {kn : Str → M2}
end
end DP
namespace DL
open PySem PySem.Spec PyProof.Rows L2 _root_.DM
section
variable {K : PySem.W.Frag} {H F F' H' : Hp} {M M' : MH} {A : List Addr}
end
section
variable {X : Cx} {pos p : Pos} {f : Str} {e : Expr} {es : List Expr} {k n : Nat} {m : List D → Ans} {wa : WA}
end
end DL
namespace DM
open PySem PySem.Spec PyProof.Rows L2 DL
end DM
namespace DP
open PySem PySem.Spec PyProof.Rows L2 DL DM
local macro_rules | `(tactic| walk_at "r") => `(tactic| conv => lhs; whnf)
local macro_rules | `(tactic| walk_at "n") => `(tactic| try dsimp only [List.set_cons_zero, List.set_cons_succ, wipeM])
section
variable {W nb : Nat} {tr : Str → Tr} {kn : Str → M2}
theorem pow_bd {N : Nat} (h : N ≤ 300000) : Bd (2 ^ N) := Nat.pow_le_pow_right (by decide) h
end
end DP
namespace DP
open PySem PySem.Spec PyProof.Rows L2 DL DM
end DP
namespace DP
open PySem PySem.Spec PyProof.Rows L2 DL DM
local macro_rules | `(tactic| walk_at "r") => `(tactic| conv => lhs; whnf)
local macro_rules | `(tactic| walk_at "n") => `(tactic| try dsimp only [List.set_cons_zero, List.set_cons_succ, wipeM])
section
variable {W : Nat} {tr tr' : Str → Tr}
end
def trF (W : Nat) (b : Str → List Cd) : Nat → Str → Tr
 | 0, _ => t0 W
 | n + 1, z => cB W (trF W b n) (b z)
section
variable {W : Nat} {S : List Str} {b : Str → List Cd} {rk : Str → Nat} {kn : Str → M2}
structure Cmp (W : Nat) (dc : D) (S : List Str) (b : Str → List Cd) (rk : Str → Nat) (kn : Str → M2) (tr : Str → Tr) : Prop where
 B : Blks dc S b
 nd : S.Nodup
 len : S.length ≤ 12
 R : Rank S b rk
 rkN : ∀ z, z ∈ S → rk z < 13
 W1 : W ≤ 1000
 ok : ∀ z, z ∈ S → okCs W (b z) = true
 knE : ∀ z, z ∈ S → kn z = me2B kn (b z)
 d6 : ∀ z, z ∈ S → (kn z).1 ≤ 6
 p60 : ∀ z, z ∈ S → (kn z).2 ≤ 60
 trE : ∀ z, z ∈ S → tr z = cB W tr (b z)
variable {dc : D} {tr : Str → Tr}
end
end DP
namespace DP
open PySem PySem.Spec PyProof.Rows L2 DL DM
local macro_rules | `(tactic| walk_at "r") => `(tactic| conv => lhs; whnf)
local macro_rules | `(tactic| walk_at "n") => `(tactic| try dsimp only [List.set_cons_zero, List.set_cons_succ, wipeM])
structure Tm where
 n : Int
 p : List Int
 ls : List (List Int × Int)
def fwd (v : List Int) : Bool := match v.filter (fun i => !decide (i = 0)) with
 | [] => false
 | x :: _ => decide (0 < x)
def ltD (l : List Int × Int) : D := .tup [tI l.1, .int l.2]
def tmD (q : Tm) : D := .tup [.int q.n, tI q.p, .tup (q.ls.map ltD)]
def tmStep (W : Nat) (q : Tm) (l : List Int × Int) : Tm :=
 if l.1 = vzero W then ⟨q.n * l.2, q.p, q.ls⟩
 else if fwd l.1 then ⟨q.n, q.p, q.ls ++ [l]⟩
 else ⟨q.n, vadd q.p (vscale (l.2 - 1) l.1), q.ls ++ [(vscale (-1) l.1, l.2)]⟩
def tmOf (W : Nat) (n : Int) (p : List Int) (ls : List (List Int × Int)) : Tm := ls.foldl (tmStep W) ⟨n, p, []⟩
theorem dep_tI (u : List Int) : dep (tI u) ≤ 64 := by show deps (u.map .int) + 1 ≤ 64; rw [deps_ints]; decide
theorem dep_lI (u : List Int) : dep (.lst (u.map .int)) ≤ 64 := by show deps (u.map .int) + 1 ≤ 64; rw [deps_ints]; decide
theorem eqv_ints : ∀ u v : List Int, PyData.eqvAll (pyOfs (u.map .int)) (pyOfs (v.map .int)) = decide (u = v)
 | [], [] => by simp [pyOfs, PyData.eqvAll]
 | [], _ :: _ => by simp [pyOfs, PyData.eqvAll]
 | _ :: _, [] => by simp [pyOfs, PyData.eqvAll]
 | a :: u, b :: v => by
  have := eqv_ints u v
  simp [pyOfs, pyOf, PyData.eqvAll, PyData.eqv, this]
  rfl
theorem tI_eq {g : Bool → Bool} {u v : List Int} : fEq g (.v (tI u)) (.v (tI v)) = some (.bl (g (decide (u = v)))) := by
 rw [fEq_lays (show lays (tI u) = true from lays_ints u) (show lays (tI v) = true from lays_ints v) (dep_tI u) (dep_tI v)]
 have e : eqD (tI u) (tI v) = decide (u = v) := by
  have := eqv_ints u v
  simpa [eqD, pyOf, PyData.eqv] using this
 rw [e]
end DP
namespace DP
open PySem PySem.Spec PyProof.Rows L2 DL DM
local macro_rules | `(tactic| walk_at "r") => `(tactic| conv => lhs; whnf)
local macro_rules | `(tactic| walk_at "n") => `(tactic| try dsimp only [List.set_cons_zero, List.set_cons_succ, wipeM])
theorem intsD_ints : ∀ z : List Int, intsD (z.map .int) = some z
 | [] => rfl
 | i :: r => by
  show (intsD (r.map .int)).map (i :: ·) = _
  rw [intsD_ints r]; rfl
theorem keyD_tI (z : List Int) : keyD (tI z) = some z := intsD_ints z
theorem putT_int {z : List Int} {m : Int} : ∀ (ks : List (List Int)) (vs : List Int), putT ks (vs.map D.int) z (.int m) = (putT ks vs z m).map .int
 | [], vs => by cases vs <;> rfl
 | _ :: _, [] => rfl
 | k :: ks, v :: vs => by
  show (if k = z then D.int m else D.int v) :: putT ks (vs.map D.int) z (.int m) = ((if k = z then m else v) :: putT ks vs z m).map .int
  rw [putT_int ks vs, List.map_cons]
  by_cases h : k = z
  ·rw [if_pos h, if_pos h]
  ·rw [if_neg h, if_neg h]
theorem putXsT_int {z : List Int} {m : Int} {ks : List (List Int)} {vs : List Int} : putXsT ks (vs.map D.int) z (.int m) = (putXsT ks vs z m).map .int := by
 unfold putXsT
 by_cases h : z ∈ ks
 ·rw [if_pos h, if_pos h]; exact putT_int ks vs
 ·rw [if_neg h, if_neg h, List.map_append]; rfl
theorem putT_len {α : Type} {z : List Int} {m : α} : ∀ (ks : List (List Int)) (vs : List α), (putT ks vs z m).length ≤ vs.length
 | [], vs => by cases vs <;> simp [putT]
 | _ :: _, [] => Nat.le_refl _
 | k :: ks, v :: vs => Nat.succ_le_succ (putT_len ks vs)
def wS : WMS := (mSeq (mSet 5 (mLc (miSeq (mVar 4)) (mgTup 2 (mgCons (mgN 6) (mgCons (mgN 7) mgNil))) mYes (mVar 6) [6, 7]))
 (mFor [] (miSeq (mVar 5)) (mgN 6) (mDputT 1 (mVar 6) (mCB fMax2 (mCons (mGet2T 1 (mVar 6) (mC (.int 0))) (mCons (mCountT (mVar 5) (mVar 6)) mNil))))))
end DP
namespace DL
open PySem PySem.Spec PyProof.Rows L2 _root_.DM
section
variable {X : Cx} {pos p : Pos} {f : Str} {e : Expr} {es : List Expr} {k n : Nat} {m : List D → Ans} {wa : WA}
end
end DL
namespace DP
open PySem PySem.Spec PyProof.Rows L2 DL DM
local macro_rules | `(tactic| walk_at "w") => `(tactic| conv => whnf)
section
variable {W : Nat} {dP dc : D} {S : List Str} {b : Str → List Cd} {rk : Str → Nat} {kn : Str → M2} {tr : Str → Tr}
end
end DP
namespace DP
open PySem PySem.Spec PyProof.Rows L2 DL DM
local macro_rules | `(tactic| walk_at "w") => `(tactic| conv => whnf)
structure Far (W : Nat) (N : List Str) (d : Nat) (c : Cd) : Prop where
 ok : okC W c = true
 nm : ∀ z, z ∈ nmC c → z ∈ N
 dep : dC c ≤ d
 tm : tmC 100 c = true
 siz : sz c ≤ 4 ^ d
end DP
namespace DP
open PySem PySem.Spec PyProof.Rows L2 DL DM
local macro_rules | `(tactic| walk_at "r") => `(tactic| conv => lhs; whnf)
def knS (kn : Str → M4) : Str → M2 := fun z => ((kn z).deep, (kn z).puts)
section
variable {W L d : Nat} {most : Int} {S : List Str} {b : Str → List Cd} {kn : Str → M4}
end
end DP
namespace DP
open PySem PySem.Spec PyProof.Rows L2 DL DM
local macro_rules | `(tactic| walk_at "w") => `(tactic| conv => whnf)
end DP
namespace DP
open PySem PySem.Spec PyProof.Rows L2 DL DM
local macro_rules | `(tactic| walk_at "r") => `(tactic| conv => lhs; whnf)
end DP
namespace DP
open PySem PySem.Spec PyProof.Rows L2 DL DM
local macro_rules | `(tactic| walk_at "w") => `(tactic| conv => whnf)
end DP
namespace DP
open PySem PySem.Spec PyProof.Rows L2 DL DM
def N_is_forward : List Str := ["vector", "one"]
def M_is_forward : WMS := (mSeq (mFor [1] (miSeq (mVar 0)) (mgN 1) (mIfS (mTest (mOp (fEq fun b => !b) (mVar 1) (mC (.int 0)))) (mRet (mOp fGt (mVar 1) (mC (.int 0)))) mNext))
 (mRet (mC (.bl false))))
@[irreducible] def m_is_forward (ds : List D) : Rs D := callM M_is_forward N_is_forward ds
theorem m_is_forward_eq (ds : List D) : m_is_forward ds = callM M_is_forward N_is_forward ds := by unfold m_is_forward; rfl
def N_forward_loop : List Str := ["place", "stride", "times"]
def M_forward_loop : WMS := (mSeq (mIfS (mTest (mCall m_is_forward 1 (mCons (mVar 1) mNil))) (mRet (mTup (mCons (mVar 0) (mCons (mTup (mCons (mVar 1) (mCons (mVar 2) mNil))) mNil)))) mNext)
 (mRet (mTup (mCons (mCallV m_add 1 (mCons (mVar 0) (mCons (mCall m_scale 2 (mCons (mOp fSub (mVar 2) (mC (.int 1))) (mCons (mVar 1) mNil))) mNil))) (mCons (mTup (mCons (mCall m_opposite 1 (mCons (mVar 1) mNil)) (mCons (mVar 2) mNil))) mNil)))))
@[irreducible] def m_forward_loop (ds : List D) : Rs D := callM M_forward_loop N_forward_loop ds
theorem m_forward_loop_eq (ds : List D) : m_forward_loop ds = callM M_forward_loop N_forward_loop ds := by unfold m_forward_loop; rfl
def N_term_of : List Str := ["number", "place", "loops", "kept", "stride", "times", "loop"]
def M_term_of : WMS := (mSeq (mSet 3 (mLst mNil))
 (mSeq (mFor [4, 5, 6] (miSeq (mVar 2)) (mgTup 2 (mgCons (mgN 4) (mgCons (mgN 5) mgNil))) (mIfS (mTest (mOp (fEq fun b => b) (mVar 4) (mCall m_origin 1 (mCons (mCB fLen (mCons (mVar 1) mNil)) mNil)))) (mSet 0 (mOp fMul (mVar 0) (mVar 5))) (mSeq (mAsg (mCall m_forward_loop 3 (mCons (mVar 1) (mCons (mVar 4) (mCons (mVar 5) mNil)))) (mgTup 2 (mgCons (mgN 1) (mgCons (mgN 6) mgNil))))
 (mSet 3 (mOp fAdd (mVar 3) (mLst (mCons (mVar 6) mNil)))))))
 (mRet (mTup (mCons (mVar 0) (mCons (mVar 1) (mCons (mCB fTuple (mCons (mVar 3) mNil)) mNil)))))))
@[irreducible] def m_term_of (ds : List D) : Rs D := callM M_term_of N_term_of ds
theorem m_term_of_eq (ds : List D) : m_term_of ds = callM M_term_of N_term_of ds := by unfold m_term_of; rfl
def N_Effect___init__ : List Str := ["self", "dimension", "shift", "terms", "term"]
def M_Effect___init__ : WMS := (mSeq (mSetA "Effect" "ground" 0 (mVar 1))
 (mSeq (mSetA "Effect" "way" 0 (mVar 2))
 (mSetA "Effect" "rows" 0 (mLc (miSeq (mVar 3)) (mgN 4) (mTest (mOp (fEq fun b => !b) (mOp fIx (mVar 4) (mC (.int 0))) (mC (.int 0)))) (mVar 4) [4]))))
@[irreducible] def m_Effect___init__ (ds : List D) : Rs D := initM "Effect" M_Effect___init__ N_Effect___init__ ds
theorem m_Effect___init___eq (ds : List D) : m_Effect___init__ ds = initM "Effect" M_Effect___init__ N_Effect___init__ ds := by unfold m_Effect___init__; rfl
def N_Effect_dimension : List Str := ["self"]
def M_Effect_dimension : WMS := (mRet (mFld "Effect" "ground" (mVar 0)))
@[irreducible] def m_Effect_dimension (ds : List D) : Rs D := callM M_Effect_dimension N_Effect_dimension ds
theorem m_Effect_dimension_eq (ds : List D) : m_Effect_dimension ds = callM M_Effect_dimension N_Effect_dimension ds := by unfold m_Effect_dimension; rfl
def N_Effect_shift : List Str := ["self"]
def M_Effect_shift : WMS := (mRet (mFld "Effect" "way" (mVar 0)))
@[irreducible] def m_Effect_shift (ds : List D) : Rs D := callM M_Effect_shift N_Effect_shift ds
theorem m_Effect_shift_eq (ds : List D) : m_Effect_shift ds = callM M_Effect_shift N_Effect_shift ds := by unfold m_Effect_shift; rfl
def N_Trail_effect : List Str := ["self", "terms", "number", "place", "beat", "loops", "stride", "times", "length"]
def M_Trail_effect : WMS := (mSeq (mNewL 1 mNil)
 (mSeq (mFor [2, 3, 4, 5] (miSeq (mFld "Trail" "rows" (mVar 0))) (mgTup 4 (mgCons (mgN 2) (mgCons (mgN 3) (mgCons (mgN 4) (mgCons (mgN 5) mgNil))))) (mApp 1 (mCall m_term_of 3 (mCons (mVar 2) (mCons (mVar 3) (mCons (mLc (miSeq (mVar 5)) (mgTup 3 (mgCons (mgN 6) (mgCons (mgN 7) (mgCons (mgN 8) mgNil)))) mYes (mTup (mCons (mVar 6) (mCons (mVar 7) mNil))) [6, 7, 8]) mNil))))))
 (mFrz 1 (mRet (mCall m_Effect___init__ 3 (mCons (mFld "Trail" "ground" (mVar 0)) (mCons (mFld "Trail" "way" (mVar 0)) (mCons (mVar 1) mNil))))))))
@[irreducible] def m_Trail_effect (ds : List D) : Rs D := callM M_Trail_effect N_Trail_effect ds
theorem m_Trail_effect_eq (ds : List D) : m_Trail_effect ds = callM M_Trail_effect N_Trail_effect ds := by unfold m_Trail_effect; rfl
end DP
namespace DP
open PySem PySem.Spec PyProof.Rows L2 DL DM
local macro_rules | `(tactic| walk_at "r") => `(tactic| conv => lhs; whnf)
local macro_rules | `(tactic| walk_at "n") => `(tactic| try dsimp only [List.set_cons_zero, List.set_cons_succ, wipeM])
def effD (W : Nat) (s : List Int) (ts : List Tm) : D := .obj "Effect" ["ground", "way", "rows"] [.int W, tI s, .lst (ts.map tmD)]
theorem fwd_cons {x : Int} {r : List Int} : fwd (x :: r) = if x = 0 then fwd r else decide (0 < x) := by
 unfold fwd
 rw [List.filter_cons]
 by_cases h : x = 0
 ·rw [if_pos h, decide_eq_true h]; rfl
 ·rw [if_neg h, decide_eq_false h]; rfl
theorem fw_loop {s0 : Option Vl} : ∀ (v : List Int) (x1 : Option Vl), loopM [1] (mgN 1) (mIfS (mTest (mOp (fEq fun b => !b) (mVar 1) (mC (.int 0)))) (mRet (mOp fGt (mVar 1) (mC (.int 0)))) mNext) (v.map .int) [s0, x1] { endK with nx := fun r1 => mRet (mC (.bl false)) r1 endK } = .ok (.bl (fwd v))
 | [], _ => by rw [List.map_nil, loopM_nil]; rfl
 | x :: r, x1 => by
  rw [List.map_cons, loopM_cons, fwd_cons]
  walk_at "r"
  by_cases h : x = 0
  ·rw [if_pos h, decide_eq_true h]
   exact fw_loop r _
  ·rw [if_neg h, decide_eq_false h]
   rfl
theorem is_forward_d (v : List Int) : m_is_forward [tI v] = .ok (.bl (fwd v)) := by
 rw [m_is_forward_eq]
 walk_at "r"
 exact fw_loop v none
theorem forward_loop_d {e : Nat} (he : e ≤ 200000) {p s : List Int} {t : Int} (hs : ∀ x, x ∈ s → x.natAbs < 2 ^ e) (ht : t.natAbs < 2 ^ e) : m_forward_loop [tI p, tI s, .int t] = .ok (if fwd s then .tup [tI p, ltD (s, t)] else .tup [tI (vadd p (vscale (t - 1) s)), ltD (vscale (-1) s, t)]) := by
 rw [m_forward_loop_eq]
 walk_at "r"
 rw [is_forward_d]
 walk_at "r"
 cases fwd s
 ·walk_at "r"
  rw [show m_scale [.int (t - 1), tI s] = _ from scale_d fun x hx => mulB_of (a := e + 1) (b := e) (by rw [Nat.pow_succ]; omega) (hs x hx) (by omega)]
  walk_at "r"
  rw [add1]
  walk_at "r"
  rw [show m_opposite [tI s] = .ok (tI (vscale (-1) s)) from opp_d (pow_bd (N := e) (by omega)) fun x hx => Nat.le_of_lt (hs x hx)]
  rfl
 ·rfl
theorem termof_loop {W e : Nat} {s0 : Option Vl} {E : EndsK} (hW : W ≤ 1000) (he : e ≤ 200000) : ∀ (ls : List (List Int × Int)) (q : Tm) (c : Nat) (x4 x5 x6 : Option Vl), (∀ l, l ∈ ls → l.1.length = W ∧ (∀ x, x ∈ l.1 → x.natAbs < 2 ^ e) ∧ l.2.natAbs < 2 ^ e) → q.n.natAbs < 2 ^ c → q.p.length = W → c + ls.length * e ≤ 600000 → q.ls.length + ls.length ≤ 1000 →
  loopM [4, 5, 6] (mgTup 2 (mgCons (mgN 4) (mgCons (mgN 5) mgNil))) (mIfS (mTest (mOp (fEq fun b => b) (mVar 4) (mCall m_origin 1 (mCons (mCB fLen (mCons (mVar 1) mNil)) mNil)))) (mSet 0 (mOp fMul (mVar 0) (mVar 5))) (mSeq (mAsg (mCall m_forward_loop 3 (mCons (mVar 1) (mCons (mVar 4) (mCons (mVar 5) mNil)))) (mgTup 2 (mgCons (mgN 1) (mgCons (mgN 6) mgNil))))
 (mSet 3 (mOp fAdd (mVar 3) (mLst (mCons (mVar 6) mNil)))))) (ls.map ltD) [some (.v (.int q.n)), some (.v (tI q.p)), s0, some (.v (.lst (q.ls.map ltD))), x4, x5, x6] E =
   E.nx [some (.v (.int (ls.foldl (tmStep W) q).n)), some (.v (tI (ls.foldl (tmStep W) q).p)), s0, some (.v (.lst ((ls.foldl (tmStep W) q).ls.map ltD))), none, none, none]
 | [], q, c, x4, x5, x6, _, _, _, _, _ => loopM_nil
 | l :: r, q, c, x4, x5, x6, h, h1, h2, h3, h4 => by
  obtain ⟨l1, l2, l3⟩ := h l List.mem_cons_self
  have hr := fun y hy => h y (List.mem_cons_of_mem _ hy)
  rw [List.length_cons] at h3 h4
  rw [Nat.add_mul, Nat.one_mul] at h3
  rw [List.map_cons, loopM_cons]
  walk_at "r"
  rw [List.length_map, h2, origin_d hW]
  walk_at "r"
  rw [tI_eq]
  by_cases hz : l.1 = vzero W
  ·rw [decide_eq_true hz]
   walk_at "r"
   rw [mul_int (mulB_of h1 l3 (by omega))]
   have e1 : tmStep W q l = ⟨q.n * l.2, q.p, q.ls⟩ := by unfold tmStep; rw [if_pos hz]
   rw [List.foldl_cons, e1]
   refine termof_loop hW he r ⟨q.n * l.2, q.p, q.ls⟩ (c + e) _ _ _ hr ?_ h2 (by omega) (by show q.ls.length + _ ≤ _; omega)
   show (q.n * l.2).natAbs < 2 ^ (c + e)
   rw [Int.natAbs_mul, Nat.pow_add]
   exact Nat.mul_lt_mul'' h1 l3
  ·rw [decide_eq_false hz]
   walk_at "r"
   rw [forward_loop_d he l2 l3]
   cases hf : fwd l.1
   ·walk_at "r"
    rw [list_add (by rw [List.length_map]; show _ + 1 ≤ _; omega)]
    walk_at "r"
    rw [show q.ls.map ltD ++ [ltD (vscale (-1) l.1, l.2)] = (q.ls ++ [(vscale (-1) l.1, l.2)]).map ltD from by rw [List.map_append]; rfl]
    have e1 : tmStep W q l = ⟨q.n, vadd q.p (vscale (l.2 - 1) l.1), q.ls ++ [(vscale (-1) l.1, l.2)]⟩ := by unfold tmStep; rw [if_neg hz, if_neg (by rw [hf]; exact Bool.false_ne_true)]
    rw [List.foldl_cons, e1]
    refine termof_loop hW he r ⟨q.n, vadd q.p (vscale (l.2 - 1) l.1), q.ls ++ [(vscale (-1) l.1, l.2)]⟩ c _ _ _ hr h1 ?_ (by omega) (by show (q.ls ++ [_]).length + _ ≤ _; rw [List.length_append, List.length_singleton]; omega)
    show (vadd q.p (vscale (l.2 - 1) l.1)).length = W
    rw [vadd_len (by rw [vscale_len]; omega), h2]
   ·walk_at "r"
    rw [list_add (by rw [List.length_map]; show _ + 1 ≤ _; omega)]
    walk_at "r"
    rw [show q.ls.map ltD ++ [ltD (l.1, l.2)] = (q.ls ++ [l]).map ltD from by rw [List.map_append]; rfl]
    have e1 : tmStep W q l = ⟨q.n, q.p, q.ls ++ [l]⟩ := by unfold tmStep; rw [if_neg hz, if_pos hf]
    rw [List.foldl_cons, e1]
    exact termof_loop hW he r ⟨q.n, q.p, q.ls ++ [l]⟩ c _ _ _ hr h1 h2 (by omega) (by show (q.ls ++ [_]).length + _ ≤ _; rw [List.length_append, List.length_singleton]; omega)
theorem term_of_d {W e : Nat} (hW : W ≤ 1000) (he : e ≤ 200000) {n : Int} {p : List Int} {ls : List (List Int × Int)} (h : ∀ l, l ∈ ls → l.1.length = W ∧ (∀ x, x ∈ l.1 → x.natAbs < 2 ^ e) ∧ l.2.natAbs < 2 ^ e) (h1 : n.natAbs < 2 ^ e) (h2 : p.length = W) (h3 : e + ls.length * e ≤ 600000) (h4 : ls.length ≤ 1000) :
  m_term_of [.int n, tI p, .lst (ls.map ltD)] = .ok (tmD (tmOf W n p ls)) := by
 rw [m_term_of_eq]
 walk_at "r"
 refine (termof_loop hW he ls ⟨n, p, []⟩ e none none none h h1 h2 h3 (by show 0 + _ ≤ _; omega)).trans ?_
 rfl
end DP
namespace DP
open PySem PySem.Spec PyProof.Rows L2 DL DM
local macro_rules | `(tactic| walk_at "r") => `(tactic| conv => lhs; whnf)
local macro_rules | `(tactic| walk_at "n") => `(tactic| try dsimp only [List.set_cons_zero, List.set_cons_succ, wipeM])
def tmR (W : Nat) (q : Row) : Tm := tmOf W q.n q.p (q.ls.map fun l => (l.s, l.t))
theorem ef_loop {W c L : Nat} {s0 : Option Vl} {E : EndsK} (hW : W ≤ 1000) (hc : c ≤ 85000) (hL : L ≤ 6) : ∀ (rs : List Row) (ts : List Tm) (x2 x3 x4 x5 : Option Vl), (∀ q, q ∈ rs → ROk W (2 ^ c) L q) → ts.length + rs.length ≤ 1000000 →
  loopM [2, 3, 4, 5] (mgTup 4 (mgCons (mgN 2) (mgCons (mgN 3) (mgCons (mgN 4) (mgCons (mgN 5) mgNil))))) (mApp 1 (mCall m_term_of 3 (mCons (mVar 2) (mCons (mVar 3) (mCons (mLc (miSeq (mVar 5)) (mgTup 3 (mgCons (mgN 6) (mgCons (mgN 7) (mgCons (mgN 8) mgNil)))) mYes (mTup (mCons (mVar 6) (mCons (mVar 7) mNil))) [6, 7, 8]) mNil))))) (rs.map rowD) [s0, some (.o (.lst (ts.map tmD))), x2, x3, x4, x5, none, none, none] E =
   E.nx [s0, some (.o (.lst ((ts ++ rs.map (tmR W)).map tmD))), none, none, none, none, none, none, none]
 | [], ts, x2, x3, x4, x5, _, _ => by rw [show ts ++ ([] : List Row).map (tmR W) = ts from List.append_nil _]; exact loopM_nil
 | q :: r, ts, x2, x3, x4, x5, h, hl => by
  have hq := h q List.mem_cons_self
  have hr := fun y hy => h y (List.mem_cons_of_mem _ hy)
  rw [List.length_cons] at hl
  have e : ∀ {n : Nat}, n ≤ 2 ^ c → n < 2 ^ (c + 1) := fun h => Nat.lt_of_le_of_lt h (Nat.pow_lt_pow_right (by decide) (Nat.lt_succ_self c))
  rw [List.map_cons, loopM_cons]
  walk_at "r"
  rw [comp_map lpD (fun l => ltD (l.s, l.t)) q.ls fun l hl K X => rfl]
  walk_at "r"
  rw [show q.ls.map (fun l => ltD (l.s, l.t)) = (q.ls.map fun l => (l.s, l.t)).map ltD from by rw [List.map_map]; rfl]
  have hql := hq.l
  rw [show m_term_of [.int q.n, tI q.p, .lst ((q.ls.map fun l => (l.s, l.t)).map ltD)] = .ok (tmD (tmR W q)) from term_of_d (e := c + 1) hW (by omega) (fun l hl => by
   obtain ⟨l', hl', rfl⟩ := List.mem_map.mp hl
   have := hq.ls l' hl'
   exact ⟨this.s, fun x hx => e (this.sm x hx), e this.tm⟩) (e hq.n) hq.p (by
   rw [List.length_map]
   have : q.ls.length * (c + 1) ≤ 6 * (c + 1) := Nat.mul_le_mul_right _ (by omega)
   omega) (by rw [List.length_map]; omega)]
  walk_at "r"
  rw [show Nat.blt (ts.map tmD).length 16777216 = true from Nat.ble_eq_true_of_le (by rw [List.length_map]; omega)]
  walk_at "r"
  rw [show ts.map tmD ++ [tmD (tmR W q)] = (ts ++ [tmR W q]).map tmD from by rw [List.map_append]; rfl]
  rw [show ts ++ (q :: r).map (tmR W) = (ts ++ [tmR W q]) ++ r.map (tmR W) from by simp]
  exact ef_loop hW hc hL r _ _ _ _ _ hr (by rw [List.length_append, List.length_singleton]; omega)
theorem einit_d {W : Nat} {s : List Int} (ts : List Tm) : m_Effect___init__ [.int W, tI s, .lst (ts.map tmD)] = .ok (effD W s (ts.filter fun q => !decide (q.n = 0))) := by
 rw [m_Effect___init___eq]
 walk_at "r"
 rw [comp_filter tmD tmD (fun q => !decide (q.n = 0)) ts fun q hq => ⟨_, rfl, fun K X => rfl, fun _ K X => rfl⟩]
 walk_at "r"
 rfl
theorem effect_d {W c R L : Nat} {a : Tr} (hW : W ≤ 1000) (hc : c ≤ 85000) (hL : L ≤ 6) (hR : R ≤ 100000) (h : TOk W (2 ^ c) R L a) : m_Trail_effect [trD W a] = .ok (effD W a.s ((a.r.map (tmR W)).filter fun q => !decide (q.n = 0))) := by
 rw [m_Trail_effect_eq]
 walk_at "r"
 have := h.len
 refine (ef_loop hW hc hL a.r [] none none none none h.row (by show 0 + _ ≤ _; omega)).trans ?_
 walk_at "r"
 rw [List.nil_append]
 rw [einit_d]
 rfl
end DP
namespace DP
open PySem PySem.Spec PyProof.Rows L2 DL DM
local macro_rules | `(tactic| walk_at "r") => `(tactic| conv => lhs; whnf)
end DP
namespace DP
open PySem PySem.Spec PyProof.Rows L2 DL DM
local macro_rules | `(tactic| walk_at "w") => `(tactic| conv => whnf)
end DP
namespace DL
open PySem PySem.Spec PyProof.Rows L2 LamX
end DL
namespace DL
open PySem PySem.Spec PyProof.Rows L2 _root_.DM
end DL
namespace DL
open PySem PySem.Spec PyProof.Rows L2 _root_.DM
section
variable {X : Cx} {k n i : Nat} {x C m : Str} {p pos apos np : Pos} {e : Expr} {es : List Expr} {wa : WA} {mf : List D → Ans}
end
end DL
namespace DL
open PySem PySem.Spec PyProof.Rows L2 _root_.DM
end DL
namespace DP
open PySem PySem.Spec PyProof.Rows L2 DL DM
local macro_rules | `(tactic| walk_at "w") => `(tactic| conv => whnf)
def bE : Str → List Cd := fun _ => []
def knE : Str → M4 := fun _ => ⟨0, 0, 0, 0⟩
def trE (W : Nat) : Str → Tr := trF W bE 13
end DP
namespace DL
open PySem PySem.Spec PyProof.Rows L2 _root_.DM
section
variable {X : Cx} {pos : Pos}
end
section
variable {X : Cx} {CX : CXT} {k : Nat} {f C : Addr} {sp : Sp} {E : L2.St → XK} {x m : Str} {p pos apos : Pos} {e o : Expr} {es : List Expr} {ta : TE} {t : TA}
end
section
variable {X : Cx} {pos apos p : Pos} {C m : Str} {o e : Expr} {es : List Expr} {k j : Nat} {wf : WF} {wo : WE} {wa : WA}
end
end DL
namespace DM
open PySem PySem.Spec PyProof.Rows L2 DL
section
variable {X : Cx} {e : Expr} {m : WM} {pos : Pos}
end
end DM
namespace DL
open PySem PySem.Spec PyProof.Rows L2 _root_.DM
theorem blsOf_mapG {α : Type} (p : α → Bool) : ∀ rs : List α, blsOf (rs.map fun r => D.bl (p r)) = some (rs.map p)
 | [] => rfl
 | r :: rs => by
  rw [List.map_cons, List.map_cons, blsOf, blsOf_mapG p rs]
  rfl
end DL
namespace DM
open PySem PySem.Spec PyProof.Rows L2 DL
section
variable {X : Cx} {a b : Expr} {ma mb : WM} {pos : Pos}
end
end DM
namespace SrtT
open PySem PyProof.Rows Srt SrtO
section
variable {prog : Program} {w : World} {A : Around} {E : Value → Shared → Prop} {s : Shared}
end
end SrtT
namespace DL
open PySem PySem.Spec PyProof.Rows L2 _root_.DM
section
variable {K : PySem.W.Frag} {F : Hp} {f : V → Int}
end
theorem perm_sorted_on {α : Type} {le : α → α → Prop} : ∀ {l m : List α}, (∀ a ∈ l, ∀ b ∈ l, le a b → le b a → a = b) → l.Perm m → l.Pairwise le → m.Pairwise le → l = m
 | [], m, _, p, _, _ => (List.Perm.nil_eq p)
 | x :: l, m, anti, p, hl, hm => by
  cases m with
  | nil => exact absurd p.length_eq (by simp)
  | cons y m =>
   obtain ⟨l1, l2⟩ := List.pairwise_cons.mp hl
   obtain ⟨m1, m2⟩ := List.pairwise_cons.mp hm
   have e : x = y := by
    have hx : x ∈ y :: m := p.mem_iff.mp List.mem_cons_self
    have hy : y ∈ x :: l := p.mem_iff.mpr List.mem_cons_self
    rcases List.mem_cons.mp hx with e | hx'
    ·exact e
    rcases List.mem_cons.mp hy with e | hy'
    ·exact e.symm
    exact anti x List.mem_cons_self y hy (l1 y hy') (m1 x hx')
   subst e
   rw [perm_sorted_on (fun a ha b hb => anti a (List.mem_cons_of_mem _ ha) b (List.mem_cons_of_mem _ hb)) p.cons_inv l2 m2]
end DL
namespace DM
open PySem PySem.Spec PyProof.Rows L2 DL
end DM
namespace DP
open PySem PySem.Spec PyProof.Rows L2 DL DM
end DP
namespace DP
open PySem PySem.Spec PyProof.Rows L2 DL DM
theorem vadd_lenW {W : Nat} {a b : List Int} (ha : a.length = W) (hb : b.length = W) : (vadd a b).length = W := by
 unfold vadd
 rw [List.length_zipWith, ha, hb, Nat.min_self]
inductive Lf where
 | go (v : List Int) | put (n : Int)
def lfneg : Lf → Lf
 | .go v => .go (vscale (-1) v)
 | .put n => .put (-n)
def lback (l : List Lf) : List Lf := l.reverse.map lfneg
def lrep (l : List Lf) (n : Nat) : List Lf := (List.replicate n l).flatten
mutual
def lvT (kn : Str → List Lf) : Cd → List Lf
 | .go v => [.go v]
 | .put i => [.put i]
 | .ref u nm => if u then lback (kn nm) else kn nm
 | .rep t b => lrep (if t < 0 then lback (lvF kn [] b) else lvF kn [] b) t.natAbs
def lvF (kn : Str → List Lf) (acc : List Lf) : List Cd → List Lf
 | [] => acc
 | c :: r => lvF kn (acc ++ lvT kn c) r
end
abbrev lvB (kn : Str → List Lf) (cs : List Cd) : List Lf := lvF kn [] cs
structure Ev where
 b : Int
 p : List Int
 n : Int
def evs (i : Int) (p : List Int) : List Lf → List Ev
 | [] => []
 | .go v :: r => evs (i + 1) (vadd p v) r
 | .put n :: r => ⟨i, p, n⟩ :: evs (i + 1) p r
def endp (p : List Int) : List Lf → List Int
 | [] => p
 | .go v :: r => endp (vadd p v) r
 | .put _ :: r => endp p r
def lfW (W : Nat) : Lf → Prop
 | .go v => v.length = W
 | .put _ => True
abbrev Pt := Int × List Int
def cross (rs : List Pt) (q : Lp) : List Pt := rs.flatMap fun r => (List.range q.t.toNat).map fun (k : Nat) => (r.1 + (k : Int) * q.l, vadd r.2 (vscale (k : Int) q.s))
def runsF (rs : List Pt) (ls : List Lp) : List Pt := ls.foldl cross rs
def truns (q : Row) : List Ev := (runsF [(q.b, q.p)] q.ls).map fun r => ⟨r.1, r.2, q.n⟩
def aruns (a : Tr) : List Ev := a.r.flatMap truns
structure Walks (W : Nat) (a : Tr) (l : List Lf) : Prop where
 w : ∀ x, x ∈ l → lfW W x
 b : a.b = l.length
 s : a.s = endp (vzero W) l
 e : (aruns a).Perm (evs 0 (vzero W) l)
 rp : ∀ q, q ∈ a.r → q.p.length = W
 rs : ∀ q, q ∈ a.r → ∀ x, x ∈ q.ls → x.s.length = W
 rt : ∀ q, q ∈ a.r → ∀ x, x ∈ q.ls → 2 ≤ x.t
end DP
namespace DP
open PySem PySem.Spec PyProof.Rows L2 DL DM
local macro_rules | `(tactic| walk_at "r") => `(tactic| conv => lhs; whnf)
local macro_rules | `(tactic| walk_at "n") => `(tactic| try dsimp only [List.set_cons_zero, List.set_cons_succ, wipeM])
mutual
def lb (B : Nat) : Cd → Nat
 | .go _ => 1
 | .put _ => 1
 | .ref _ _ => B
 | .rep t b => max 1 t.natAbs * lbs B b
def lbs (B : Nat) : List Cd → Nat
 | [] => 0
 | c :: r => lb B c + lbs B r
end
section
variable {B : Nat} {kn : Str → List Lf}
end
end DP
namespace DP
open PySem PySem.Spec PyProof.Rows L2 DL DM
local macro_rules | `(tactic| walk_at "r") => `(tactic| conv => lhs; whnf)
local macro_rules | `(tactic| walk_at "n") => `(tactic| try dsimp only [List.set_cons_zero, List.set_cons_succ, wipeM])
section
variable {kn kn' : Str → List Lf}
end
section
variable {S : List Str} {b : Str → List Cd} {rk : Str → Nat}
end
section
variable {S : List Str} {b : Str → List Cd} {rk : Str → Nat} {dc : D} {B : Nat} {lv : Str → List Lf}
end
section
variable {q : Lp} {N : Nat}
end
end DP
namespace DP
open PySem PySem.Spec PyProof.Rows L2 DL DM
section
variable {lv : Str → List Lf} {kn : Str → M4}
end
section
variable {W : Nat} {most : Int} {S : List Str} {b : Str → List Cd} {kn : Str → M4}
end
end DP
namespace DP
open PySem PySem.Spec PyProof.Rows L2 DL DM
local macro_rules | `(tactic| walk_at "w") => `(tactic| conv => whnf)
end DP
namespace RZ
open PySem
open PySem.Sem (wp)
def ItK (c : Bool) (h : Heap) (i l : Addr) (k : Nat) : Prop := match c with
 | true => h.IsTupleIter i l k
 | false => h.IsListIter i l k
def SqK (c : Bool) (h : Heap) (l : Addr) (xs : Array Value) : Prop := match c with
 | true => h.IsTuple l xs
 | false => h.IsList l xs
theorem ItK.but {c : Bool} {h h' : Heap} {i l b : Addr} {k : Nat} (hs : Heap.SameBut b h h') (n : i ≠ b) (x : ItK c h i l k) : ItK c h' i l k := by
 cases c
 ·exact Heap.IsListIter.extBut x hs.extBut n
 ·exact Heap.IsTupleIter.extBut x hs.extBut n
theorem ItK.at {c : Bool} {h h' : Heap} {i l : Addr} {k : Nat} (x : ItK c h i l k) (e : ∀ o, h.get? i = some o → h'.get? i = some o) : ItK c h' i l k := by
 cases c
 ·exact Heap.IsListIter.at x e
 ·exact Heap.IsTupleIter.at x e
theorem ItK.obj {c : Bool} {h : Heap} {i l : Addr} {k : Nat} (x : ItK c h i l k) : ∃ o, h.get? i = some o ∧ ∀ v, o.data ≠ .cell v := by
 cases c
 ·obtain ⟨o, e, _, d⟩ := x
  exact ⟨o, e, fun v q => by rw [d] at q; cases q⟩
 ·obtain ⟨o, e, _, d⟩ := x
  exact ⟨o, e, fun v q => by rw [d] at q; cases q⟩
theorem SqK.but {c : Bool} {h h' : Heap} {l b : Addr} {xs : Array Value} (hs : Heap.SameBut b h h') (n : l ≠ b) (x : SqK c h l xs) : SqK c h' l xs := by
 cases c
 ·exact Heap.IsList.extBut x hs.extBut n
 ·exact Heap.IsTuple.extBut x hs.extBut n
theorem SqK.push {c : Bool} {h : Heap} {l : Addr} {xs : Array Value} (x : SqK c h l xs) (o : Obj) : SqK c (h.push o) l xs := by
 cases c
 ·exact Heap.IsList.push x o
 ·exact Heap.IsTuple.push x o
theorem SqK.lt {c : Bool} {h : Heap} {l : Addr} {xs : Array Value} (x : SqK c h l xs) : l < h.objs.size := by
 cases c
 ·obtain ⟨o, e, _⟩ := x; exact Heap.lt_size e
 ·obtain ⟨o, e, _⟩ := x; exact Heap.lt_size e
abbrev IsN (h : Heap) (T : Addr) (vs : Array Value) : Prop := h.get? T = some { cls := .type "tuple", data := .seq vs }
theorem IsN.but {h h' : Heap} {T b : Addr} {vs : Array Value} (hs : Heap.SameBut b h h') (n : T ≠ b) (x : IsN h T vs) : IsN h' T vs := hs.extBut _ _ n x
theorem getBut {h h' : Heap} {a b : Addr} {o : Obj} (hs : Heap.SameBut b h h') (n : a ≠ b) (x : h.get? a = some o) : h'.get? a = some o := hs.extBut _ _ n x
section
variable {prog : Program} {w : World} {A : Around} {E : Value → Shared → Prop} {s : Shared}
theorem nextOf_item {c : Bool} {it l : Addr} {i : Nat} {items : Array Value} {x : Value} {Q : Value → Shared → Prop} (hit : ItK c s.heap it l i) (hl : SqK c s.heap l items) (hx : items[i]? = some x)
  (hQ : ∀ h', ItK c h' it l (i + 1) → Heap.SameBut it s.heap h' → Q x { s with heap := h' }) : wpAny (model prog w) A (Builtin.SmallTypes.nextOf (.ref it)) Q E s := by
 cases c
 ·exact wpAny_nextOf_list_item hit hl hx hQ
 ·exact nextOf_tuple_item hit hl hx hQ
theorem nextOf_end {c : Bool} {it l : Addr} {i : Nat} {items : Array Value} {Q : Value → Shared → Prop} (hh : A.handled = none) (hit : ItK c s.heap it l i) (hl : SqK c s.heap l items) (hx : items[i]? = none)
  (hE : ∀ h' e, Heap.ExtBut it s.heap h' → (∃ o, h'.get? e = some o ∧ o.cls = .type "StopIteration") → E (.ref e) { s with heap := h' }) : wpAny (model prog w) A (Builtin.SmallTypes.nextOf (.ref it)) Q E s := by
 cases c
 ·exact wpAny_nextOf_list_end hh hit hl hx hE
 ·exact nextOf_tuple_end hh hit hl hx hE
theorem wpAny_updateSeq_N {T : Addr} {vs : Array Value} {x : Value} {k : Nat} {Q : Unit → Shared → Prop} (hT : IsN s.heap T vs) (hz8 : vs.size ≤ 8)
  (h : ∀ h', IsN h' T (vs.setIfInBounds k x) → Heap.SameBut T s.heap h' → Q () { s with heap := h' }) : wpAny (model prog w) A (updateSeq T (·.setIfInBounds k x)) Q E s := by
 have e8 : (8 : Nat) ≤ sizeLine := by rw [sizeLine_eq]; omega
 refine wpAny_updateSeq hT rfl (h _ ?_ (Heap.SameBut.update ..)) (by omega) (by rw [Array.size_setIfInBounds]; omega)
 show Heap.get? _ _ = _
 rw [Heap.get?_update_self _ hT rfl]
 simp [Obj.mapSeq]
structure Apart2 (z TI TO i1 i2 l1 l2 : Addr) : Prop where
 TIz : TI ≠ z
 TOz : TO ≠ z
 TITO : TI ≠ TO
 i1z : i1 ≠ z
 TIi1 : TI ≠ i1
 TOi1 : TO ≠ i1
 l1z : l1 ≠ z
 l1TO : l1 ≠ TO
 i2z : i2 ≠ z
 TIi2 : TI ≠ i2
 TOi2 : TO ≠ i2
 l2z : l2 ≠ z
 l2TO : l2 ≠ TO
 l1i1 : l1 ≠ i1
 i12 : i1 ≠ i2
 l1i2 : l1 ≠ i2
 l2i1 : l2 ≠ i1
 l2i2 : l2 ≠ i2
theorem apart2 (I : Nat) {l1 l2 : Nat} (h1 : l1 < I) (h2 : l2 < I) : Apart2 (I + 4) (I + 2) (I + 3) (I + 0) (I + 1) l1 l2 := by
 constructor <;> (intro e; have e2 := (show @Eq Nat _ _ from e); omega)
theorem zipM2_next_item {z TI TO i1 i2 l1 l2 : Addr} {k : Nat} {c1 c2 : Bool} {xs1 xs2 : Array Value} {x1 x2 a1 a2 : Value} {Q : Value → Shared → Prop} (D : Apart2 z TI TO i1 i2 l1 l2)
  (hz : IsZip s.heap z TI TO .none) (hTI : IsN s.heap TI #[.ref i1, .ref i2]) (hTO : IsN s.heap TO #[a1, a2]) (h1 : ItK c1 s.heap i1 l1 k) (h2 : ItK c2 s.heap i2 l2 k) (hl1 : SqK c1 s.heap l1 xs1) (hl2 : SqK c2 s.heap l2 xs2) (hx1 : xs1[k]? = some x1) (hx2 : xs2[k]? = some x2)
  (hQ : ∀ h', IsZip h' z TI TO (rawInt s.heap.objs.size) → IsN h' TO #[x1, x2] → ItK c1 h' i1 l1 (k + 1) → ItK c2 h' i2 l2 (k + 1) → IsN h' s.heap.objs.size #[x1, x2] → h'.objs.size = s.heap.objs.size + 1 → (∀ c o, c ≠ z → c ≠ TO → c ≠ i1 → c ≠ i2 → s.heap.get? c = some o → h'.get? c = some o) → Q (.ref s.heap.objs.size) { s with heap := h' }) :
  wpAny (model prog w) A (Builtin.«zip.__next__» ⟨[.ref z], []⟩) (fun fin s' => ∃ v, fin = .done (.ret v) ∧ Q v s') E s := by
 show wpAny _ _ (field (.ref z) 2 >>= _) _ _ _
 refine wpAny_bind (wpAny_field hz rfl (x := .bool false) rfl ?_)
 show wpAny _ _ (field (.ref z) 3 >>= _) _ _ _
 refine wpAny_bind (wpAny_field hz rfl (x := .ref TI) rfl ?_)
 refine wpAny_bind (wpAny_seqItems hTI rfl ?_)
 show wpAny _ _ (Builtin.SmallTypes.ownedTupleIsFree (.ref z) >>= _) _ _ _
 refine wpAny_bind ?_
 unfold Builtin.SmallTypes.ownedTupleIsFree
 refine wpAny_bind (wpAny_field hz rfl (x := .none) rfl (wpAny_pure ?_))
 simp only [if_true]
 refine wpAny_bind (wpAny_rule ?_)
 refine wpAny_bind (wpAny_field hz rfl (x := .ref TO) rfl ?_)
 refine wpAny_bind (wpAny_setField_rec hz (by simp) fun g0 hz0 hs0 => ?_)
 replace hz0 : IsZip g0 z TI TO .ellipsis := hz0
 refine wpAny_bind ?_
 simp only [List.zipIdx_cons, List.zipIdx_nil, List.forIn_cons, List.forIn_nil]
 refine wpAny_bind (wpAny_bind (wpAny_onRaise ?_))
 show wpAny _ _ (Builtin.SmallTypes.nextOf (.ref i1) >>= _) _ _ _
 refine wpAny_bind (nextOf_item (ItK.but hs0 D.i1z h1) (SqK.but hs0 D.l1z hl1) hx1 fun p1 hi1 hp1 => wpAny_pure ?_)
 have hU1 : IsN p1 TO #[a1, a2] := (IsN.but hp1 D.TOi1 (IsN.but hs0 D.TOz hTO))
 refine wpAny_bind (wpAny_seqItems hU1 rfl ?_)
 refine wpAny_bind (wpAny_updateSeq_N hU1 (Nat.le_of_ble_eq_true rfl) fun q1 hT1 hq1 => ?_)
 replace hT1 : IsN q1 TO #[x1, a2] := hT1
 refine wpAny_bind (wpAny_letGo (wpAny_pure ?_))
 refine wpAny_bind (wpAny_bind (wpAny_onRaise ?_))
 show wpAny _ _ (Builtin.SmallTypes.nextOf (.ref i2) >>= _) _ _ _
 refine wpAny_bind (nextOf_item (ItK.but hq1 D.TOi2.symm (ItK.but hp1 D.i12.symm (ItK.but hs0 D.i2z h2))) (SqK.but hq1 D.l2TO (SqK.but hp1 D.l2i1 (SqK.but hs0 D.l2z hl2))) hx2 fun p2 hi2 hp2 => wpAny_pure ?_)
 have hU2 : IsN p2 TO #[x1, a2] := (IsN.but hp2 D.TOi2 hT1)
 refine wpAny_bind (wpAny_seqItems hU2 rfl ?_)
 refine wpAny_bind (wpAny_updateSeq_N hU2 (Nat.le_of_ble_eq_true rfl) fun q2 hT2 hq2 => ?_)
 replace hT2 : IsN q2 TO #[x1, x2] := hT2
 refine wpAny_bind (wpAny_letGo (wpAny_pure (wpAny_pure ?_)))
 refine wpAny_bind (wpAny_seqItems hT2 rfl ?_)
 refine wpAny_bind (wpAny_newTuple ?_)
 have hsz : q2.objs.size = s.heap.objs.size := by rw [hq2.1, hp2.1, hq1.1, hp1.1, hs0.1]
 have hzL : IsZip q2 z TI TO .ellipsis := (getBut hq2 D.TOz.symm (getBut hp2 D.i2z.symm (getBut hq1 D.TOz.symm (getBut hp1 D.i1z.symm hz0))))
 have hk : ∀ c o, c ≠ z → c ≠ TO → c ≠ i1 → c ≠ i2 → s.heap.get? c = some o → q2.get? c = some o := fun c o c1 c2 c3 c4 e => (hq2.extBut _ _ c2 (hp2.extBut _ _ c4 (hq1.extBut _ _ c2 (hp1.extBut _ _ c3 (hs0.extBut _ _ c1 e)))))
 have hI1 : ItK c1 q2 i1 l1 (k + 1) := (ItK.but hq2 D.TOi1.symm (ItK.but hp2 D.i12 (ItK.but hq1 D.TOi1.symm hi1)))
 have hI2 : ItK c2 q2 i2 l2 (k + 1) := (ItK.but hq2 D.TOi2.symm hi2)
 have hzlt : z < q2.objs.size := Heap.lt_size hzL
 show wpAny _ _ (Builtin.SmallTypes.ownedTupleHandOut (.ref z) (.ref q2.objs.size) >>= _) _ _ _
 refine wpAny_bind ?_
 unfold Builtin.SmallTypes.ownedTupleHandOut
 have hz6 : IsZip (q2.push { cls := .type "tuple", data := .seq #[x1, x2] }) z TI TO .ellipsis := Heap.get?_push_of_some _ hzL
 refine wpAny_bind (wpAny_setField_rec hz6 (by simp) fun h7 hz7 hs7 => ?_)
 replace hz7 : IsZip h7 z TI TO (rawInt q2.objs.size) := hz7
 refine wpAny_setField_rec hz7 (by simp) fun h8 hz8 hs8 => ?_
 replace hz8 : IsZip h8 z TI TO (rawInt q2.objs.size) := hz8
 have up : ∀ c o, c ≠ z → q2.get? c = some o → h8.get? c = some o := fun c o c1 e => hs8.extBut _ _ c1 (hs7.extBut _ _ c1 (Heap.get?_push_of_some _ e))
 have hT8 : IsN h8 q2.objs.size #[x1, x2] := hs8.extBut _ _ (Nat.ne_of_gt hzlt) (hs7.extBut _ _ (Nat.ne_of_gt hzlt) (Heap.get?_push_size _ rfl))
 have hz9 : h8.objs.size = q2.objs.size + 1 := by rw [hs8.1, hs7.1, Heap.size_push]
 rw [hsz] at hz8 hT8 hz9
 refine wpAny_pure ⟨_, rfl, ?_⟩
 show Q (.ref q2.objs.size) _
 rw [hsz]
 exact hQ h8 hz8 (up _ _ D.TOz hT2) (hI1.at fun o e => up _ o D.i1z e) (hI2.at fun o e => up _ o D.i2z e) hT8 hz9 fun c o c1 c2 c3 c4 e => up c o c1 (hk c o c1 c2 c3 c4 e)
theorem zipM2_next_end {z TI TO i1 i2 l1 l2 : Addr} {k : Nat} {c1 c2 : Bool} {xs1 xs2 : Array Value} {a1 a2 : Value} {Q : Fin → Shared → Prop} (hh : A.handled = none) (D : Apart2 z TI TO i1 i2 l1 l2)
  (hz : IsZip s.heap z TI TO .none) (hTI : IsN s.heap TI #[.ref i1, .ref i2]) (hTO : IsN s.heap TO #[a1, a2]) (h1 : ItK c1 s.heap i1 l1 k) (h2 : ItK c2 s.heap i2 l2 k) (hl1 : SqK c1 s.heap l1 xs1) (hl2 : SqK c2 s.heap l2 xs2) (hend : xs1[k]? = none ∨ xs2[k]? = none)
  (hE : ∀ h' e, (∀ c o, c ≠ z → c ≠ TO → c ≠ i1 → c ≠ i2 → s.heap.get? c = some o → h'.get? c = some o) → (∃ o, h'.get? e = some o ∧ o.cls = .type "StopIteration") → E (.ref e) { s with heap := h' }) :
  wpAny (model prog w) A (Builtin.«zip.__next__» ⟨[.ref z], []⟩) Q E s := by
 show wpAny _ _ (field (.ref z) 2 >>= _) _ _ _
 refine wpAny_bind (wpAny_field hz rfl (x := .bool false) rfl ?_)
 show wpAny _ _ (field (.ref z) 3 >>= _) _ _ _
 refine wpAny_bind (wpAny_field hz rfl (x := .ref TI) rfl ?_)
 refine wpAny_bind (wpAny_seqItems hTI rfl ?_)
 show wpAny _ _ (Builtin.SmallTypes.ownedTupleIsFree (.ref z) >>= _) _ _ _
 refine wpAny_bind ?_
 unfold Builtin.SmallTypes.ownedTupleIsFree
 refine wpAny_bind (wpAny_field hz rfl (x := .none) rfl (wpAny_pure ?_))
 simp only [if_true]
 refine wpAny_bind (wpAny_rule ?_)
 refine wpAny_bind (wpAny_field hz rfl (x := .ref TO) rfl ?_)
 refine wpAny_bind (wpAny_setField_rec hz (by simp) fun g0 hz0 hs0 => ?_)
 replace hz0 : IsZip g0 z TI TO .ellipsis := hz0
 refine wpAny_bind ?_
 simp only [List.zipIdx_cons, List.zipIdx_nil, List.forIn_cons, List.forIn_nil]
 refine wpAny_bind (wpAny_bind (wpAny_onRaise ?_))
 show wpAny _ _ (Builtin.SmallTypes.nextOf (.ref i1) >>= _) _ _ _
 by_cases hn1 : xs1[k]? = none
 ·refine wpAny_bind (nextOf_end hh (ItK.but hs0 D.i1z h1) (SqK.but hs0 D.l1z hl1) hn1 fun p e hp he => ?_)
  obtain ⟨oe, hoe, hce⟩ := he
  have hz2 : IsZip p z TI TO .ellipsis := hp _ _ D.i1z.symm hz0
  have hez : e ≠ z := fun x => by subst x; rw [hz2] at hoe; cases hoe; simp at hce
  exact wpAny_setField_rec hz2 (by simp) fun h3 _ hs3 => hE h3 e (fun c o c1 c2 c3 c4 x => hs3.extBut _ _ c1 (hp _ _ c3 (hs0.extBut _ _ c1 x))) ⟨oe, hs3.extBut _ _ hez hoe, hce⟩
 obtain ⟨x1, hx1⟩ := Option.ne_none_iff_exists'.mp hn1
 refine wpAny_bind (nextOf_item (ItK.but hs0 D.i1z h1) (SqK.but hs0 D.l1z hl1) hx1 fun p1 hi1 hp1 => wpAny_pure ?_)
 have hU1 : IsN p1 TO #[a1, a2] := (IsN.but hp1 D.TOi1 (IsN.but hs0 D.TOz hTO))
 refine wpAny_bind (wpAny_seqItems hU1 rfl ?_)
 refine wpAny_bind (wpAny_updateSeq_N hU1 (Nat.le_of_ble_eq_true rfl) fun q1 hT1 hq1 => ?_)
 replace hT1 : IsN q1 TO #[x1, a2] := hT1
 refine wpAny_bind (wpAny_letGo (wpAny_pure ?_))
 refine wpAny_bind (wpAny_bind (wpAny_onRaise ?_))
 show wpAny _ _ (Builtin.SmallTypes.nextOf (.ref i2) >>= _) _ _ _
 by_cases hn2 : xs2[k]? = none
 ·refine wpAny_bind (nextOf_end hh (ItK.but hq1 D.TOi2.symm (ItK.but hp1 D.i12.symm (ItK.but hs0 D.i2z h2))) (SqK.but hq1 D.l2TO (SqK.but hp1 D.l2i1 (SqK.but hs0 D.l2z hl2))) hn2 fun p e hp he => ?_)
  obtain ⟨oe, hoe, hce⟩ := he
  have hz2 : IsZip p z TI TO .ellipsis := hp _ _ D.i2z.symm (getBut hq1 D.TOz.symm (getBut hp1 D.i1z.symm hz0))
  have hez : e ≠ z := fun x => by subst x; rw [hz2] at hoe; cases hoe; simp at hce
  exact wpAny_setField_rec hz2 (by simp) fun h3 _ hs3 => hE h3 e (fun c o c1 c2 c3 c4 x => hs3.extBut _ _ c1 (hp _ _ c4 (hq1.extBut _ _ c2 (hp1.extBut _ _ c3 (hs0.extBut _ _ c1 x))))) ⟨oe, hs3.extBut _ _ hez hoe, hce⟩
 ·exact absurd hend (by simp only [hn1, hn2, or_self, not_false_eq_true])
theorem pyNext_zipM2_item {z TI TO i1 i2 l1 l2 : Addr} {k : Nat} {c1 c2 : Bool} {xs1 xs2 : Array Value} {x1 x2 a1 a2 : Value} {Q : Option Value → Shared → Prop} (D : Apart2 z TI TO i1 i2 l1 l2)
  (hz : IsZip s.heap z TI TO .none) (hTI : IsN s.heap TI #[.ref i1, .ref i2]) (hTO : IsN s.heap TO #[a1, a2]) (h1 : ItK c1 s.heap i1 l1 k) (h2 : ItK c2 s.heap i2 l2 k) (hl1 : SqK c1 s.heap l1 xs1) (hl2 : SqK c2 s.heap l2 xs2) (hx1 : xs1[k]? = some x1) (hx2 : xs2[k]? = some x2)
  (hQ : ∀ h', IsZip h' z TI TO (rawInt s.heap.objs.size) → IsN h' TO #[x1, x2] → ItK c1 h' i1 l1 (k + 1) → ItK c2 h' i2 l2 (k + 1) → IsN h' s.heap.objs.size #[x1, x2] → h'.objs.size = s.heap.objs.size + 1 → (∀ c o, c ≠ z → c ≠ TO → c ≠ i1 → c ≠ i2 → s.heap.get? c = some o → h'.get? c = some o) → Q (some (.ref s.heap.objs.size)) { s with heap := h' }) :
  wpAny (model prog w) A (pyNext (.ref z)) Q E s := by
 have hT : s.TypeIs (.ref z) "zip" := ⟨_, hz, rfl⟩
 unfold pyNext
 exact wpAny_bind (wpAny_attempt (wpAny_callSpecial?_slot (name := Str.ofString "__next__") hT F.slot_zip_next
  (wpAny_call_entry F.slot_zip_next hT F.entry_zip_next
   (zipM2_next_item D hz hTI hTO h1 h2 hl1 hl2 hx1 hx2 fun h' b1 b2 b3 b4 b5 b6 b7 => wpAny_pure (hQ h' b1 b2 b3 b4 b5 b6 b7)) (F.args_zip_next_1 _))))
theorem pyNext_zipM2_end {z TI TO i1 i2 l1 l2 : Addr} {k : Nat} {c1 c2 : Bool} {xs1 xs2 : Array Value} {a1 a2 : Value} {Q : Option Value → Shared → Prop} (hh : A.handled = none) (D : Apart2 z TI TO i1 i2 l1 l2)
  (hz : IsZip s.heap z TI TO .none) (hTI : IsN s.heap TI #[.ref i1, .ref i2]) (hTO : IsN s.heap TO #[a1, a2]) (h1 : ItK c1 s.heap i1 l1 k) (h2 : ItK c2 s.heap i2 l2 k) (hl1 : SqK c1 s.heap l1 xs1) (hl2 : SqK c2 s.heap l2 xs2) (hend : xs1[k]? = none ∨ xs2[k]? = none)
  (hQ : ∀ h', (∀ c o, c ≠ z → c ≠ TO → c ≠ i1 → c ≠ i2 → s.heap.get? c = some o → h'.get? c = some o) → Q none { s with heap := h' }) : wpAny (model prog w) A (pyNext (.ref z)) Q E s := by
 have hT : s.TypeIs (.ref z) "zip" := ⟨_, hz, rfl⟩
 unfold pyNext
 refine wpAny_bind (wpAny_attempt (wpAny_callSpecial?_slot (name := Str.ofString "__next__") hT F.slot_zip_next
  (wpAny_call_entry F.slot_zip_next hT F.entry_zip_next (zipM2_next_end hh D hz hTI hTO h1 h2 hl1 hl2 hend fun h' e hk he => ?_) (F.args_zip_next_1 _))))
 obtain ⟨o, ho, hc⟩ := he
 refine wpAny_bind (wpAny_isInstance (T := "StopIteration") (b := true) ⟨o, ho, hc⟩ isSubtype_stop ?_)
 exact wpAny_pure (hQ _ hk)
end
end RZ
namespace RZ
open PySem PySem.Spec PyProof.Rows L2
def itCls (c : Bool) : Value := match c with
 | true => .type "tuple_iterator"
 | false => .type "list_iterator"
theorem ItK.new {c : Bool} {h : Heap} {i l : Addr} (e : h.get? i = some { cls := itCls c, data := .fields #[.ref l, .int 0 0] }) : ItK c h i l 0 := by
 cases c
 ·exact ⟨_, e, rfl, rfl⟩
 ·exact ⟨_, e, rfl, rfl⟩
theorem pyIterK {prog : Program} {w : World} {A : Around} {E : Value → Shared → Prop} {s : Shared} {c : Bool} {t : Addr} {items : Array Value} {Q : Value → Shared → Prop} (ht : SqK c s.heap t items)
  (hQ : Q (.ref s.heap.objs.size) { s with heap := s.heap.push { cls := itCls c, data := .fields #[.ref t, .int 0 0] } }) : wpAny (model prog w) A (pyIter (.ref t)) Q E s := by
 cases c
 ·exact wpAny_pyIter_list ht hQ
 ·exact wpAny_pyIter_tuple ht hQ
def SqC (K : PySem.W.Frag) (c : Bool) (H : Hp) (a : Addr) (xs : List V) : Prop := match c with
 | true => SqT K H a xs
 | false => SqL K H a xs
theorem seqC_its {X : Cx} {pins : List (Addr × Obj)} {σ : L2.St} {H : Hp} {s : Shared} {c : Bool} {a : Addr} {xs : List V} (I : Inv X pins σ H s) (h : SqC X.K c H a xs) : ∃ its : List Value, Vals xs its ∧ SqK c s.heap a its.toArray := by
 cases c
 ·obtain ⟨its, r, p, _⟩ := I.list h
  exact ⟨its, r, p.isList⟩
 ·obtain ⟨its, r, p, _⟩ := I.tuple h
  exact ⟨its, r, p⟩
theorem seqC_inj {X : Cx} {pins : List (Addr × Obj)} {σ : L2.St} {H : Hp} {s : Shared} {c : Bool} {a : Addr} {xs ys : List V} (I : Inv X pins σ H s) (h : SqC X.K c H a xs) (h' : SqC X.K c H a ys) : xs = ys := by
 cases c
 ·exact I.list_inj h h'
 ·exact I.tuple_inj h h'
abbrev Zh2_1 (h : Heap) (c1 c2 : Bool) (l1 l2 : Addr) : Heap := h.push { cls := itCls c1, data := .fields #[.ref l1, .int 0 0] }
abbrev Zh2_2 (h : Heap) (c1 c2 : Bool) (l1 l2 : Addr) : Heap := (Zh2_1 h c1 c2 l1 l2).push { cls := itCls c2, data := .fields #[.ref l2, .int 0 0] }
abbrev Zh2_3 (h : Heap) (c1 c2 : Bool) (l1 l2 : Addr) : Heap := (Zh2_2 h c1 c2 l1 l2).push { cls := .type "tuple", data := .seq #[.ref h.objs.size, .ref (Zh2_1 h c1 c2 l1 l2).objs.size] }
abbrev Zh2_4 (h : Heap) (c1 c2 : Bool) (l1 l2 : Addr) : Heap := (Zh2_3 h c1 c2 l1 l2).push { cls := .type "tuple", data := .seq #[.none, .none] }
abbrev Zh2_5 (h : Heap) (c1 c2 : Bool) (l1 l2 : Addr) : Heap := (Zh2_4 h c1 c2 l1 l2).push { cls := .type "zip", data := .fields #[.none, .bool false, .bool false, .ref (Zh2_2 h c1 c2 l1 l2).objs.size, .ref (Zh2_3 h c1 c2 l1 l2).objs.size] }
theorem meets_zipM2_new (c1 c2 : Bool) (l1 l2 : Addr) (xs1 xs2 : Array Value) :
  Meets (Builtin.«zip.__new__» ⟨[.type "zip", .ref l1, .ref l2], []⟩) (fun _ R s => SqK c1 s.heap l1 xs1 ∧ SqK c2 s.heap l2 xs2 ∧
   R (.ok (.ret (.ref (Zh2_4 s.heap c1 c2 l1 l2).objs.size))) { s with heap := (Zh2_5 s.heap c1 c2 l1 l2) }) :=
 .of_wp fun prog w A R s h => by
  obtain ⟨hp, g, d, tk, os⟩ := s; obtain ⟨hl1, hl2, h⟩ := h
  have hsub := sub_zip
  have hL1 : SqK c1 (Shared.heap ⟨hp, g, d, tk, os⟩) l1 xs1 := hl1
  have hL2 : SqK c2 (Shared.heap ⟨(Zh2_1 hp c1 c2 l1 l2), g, d, tk, os⟩) l2 xs2 := (SqK.push hl2 _)
  wp_walk using pyIterK hL1, pyIterK hL2
  exact ⟨_, rfl, h⟩
section
variable {prog : Program} {w : World} {A : Around} {E : Value → Shared → Prop} {s : Shared}
theorem call_zipM2 {c1 c2 : Bool} {l1 l2 : Addr} {xs1 xs2 : Array Value} {Q : Value → Shared → Prop} (hl1 : SqK c1 s.heap l1 xs1) (hl2 : SqK c2 s.heap l2 xs2)
  (h : ∀ h', IsZip h' (s.heap.objs.size + 4) (s.heap.objs.size + 2) (s.heap.objs.size + 3) .none → IsN h' (s.heap.objs.size + 2) #[.ref s.heap.objs.size, .ref (s.heap.objs.size + 1)] → IsN h' (s.heap.objs.size + 3) #[.none, .none] → ItK c1 h' s.heap.objs.size l1 0 → ItK c2 h' (s.heap.objs.size + 1) l2 0 →
   (∀ c o, s.heap.get? c = some o → h'.get? c = some o) → Q (.ref (s.heap.objs.size + 4)) { s with heap := h' }) :
  wpAny (model prog w) A (call (.type "zip") [.ref l1, .ref l2]) Q E s := by
 refine callType_new F.called_zip (by decide) (F.typeCall_zip_2 _ _) (F.newCall_zip_2 _ _) (fun obj => F.args_object_init_3 obj _ _) F.entry_zip_new
  (meets_zipM2_new c1 c2 l1 l2 xs1 xs2) ⟨hl1, hl2, ?_⟩
 have z1 : (Zh2_1 s.heap c1 c2 l1 l2).objs.size = s.heap.objs.size + 1 := by rw [Heap.size_push]
 have z2 : (Zh2_2 s.heap c1 c2 l1 l2).objs.size = s.heap.objs.size + 2 := by rw [Heap.size_push, z1]
 have z3 : (Zh2_3 s.heap c1 c2 l1 l2).objs.size = s.heap.objs.size + 3 := by rw [Heap.size_push, z2]
 have z4 : (Zh2_4 s.heap c1 c2 l1 l2).objs.size = s.heap.objs.size + 4 := by rw [Heap.size_push, z3]
 have z5 : (Zh2_5 s.heap c1 c2 l1 l2).objs.size = s.heap.objs.size + 5 := by rw [Heap.size_push, z4]
 have g1 : (Zh2_5 s.heap c1 c2 l1 l2).get? s.heap.objs.size = some _ := (Heap.get?_push_of_some _ (Heap.get?_push_of_some _ (Heap.get?_push_of_some _ (Heap.get?_push_of_some _ (Heap.get?_push_size _ rfl)))))
 have g2 : (Zh2_5 s.heap c1 c2 l1 l2).get? (Zh2_1 s.heap c1 c2 l1 l2).objs.size = some _ := (Heap.get?_push_of_some _ (Heap.get?_push_of_some _ (Heap.get?_push_of_some _ (Heap.get?_push_size _ rfl))))
 have g3 : (Zh2_5 s.heap c1 c2 l1 l2).get? (Zh2_2 s.heap c1 c2 l1 l2).objs.size = some _ := (Heap.get?_push_of_some _ (Heap.get?_push_of_some _ (Heap.get?_push_size _ rfl)))
 have g4 : (Zh2_5 s.heap c1 c2 l1 l2).get? (Zh2_3 s.heap c1 c2 l1 l2).objs.size = some _ := (Heap.get?_push_of_some _ (Heap.get?_push_size _ rfl))
 have g5 : (Zh2_5 s.heap c1 c2 l1 l2).get? (Zh2_4 s.heap c1 c2 l1 l2).objs.size = some _ := (Heap.get?_push_size _ rfl)
 show _ ∧ _
 rw [z1] at g2
 rw [z2, z1] at g3
 rw [z3] at g4
 rw [z4, z2, z3] at g5
 rw [z4]
 exact ⟨⟨_, g5, rfl⟩, h _ g5 g3 g4 (ItK.new g1) (ItK.new g2) fun c o x => (Heap.get?_push_of_some _ (Heap.get?_push_of_some _ (Heap.get?_push_of_some _ (Heap.get?_push_of_some _ (Heap.get?_push_of_some _ x)))))⟩
end
def ItzM2 (K : PySem.W.Frag) (c1 c2 : Bool) (a1 a2 : Addr) : It :=
 ⟨fun i H => ∃ (xs1 xs2 : List V) (x1 x2 : V), SqC K c1 H a1 xs1 ∧ SqC K c2 H a2 xs2 ∧ xs1[i]? = some x1 ∧ xs2[i]? = some x2,
  fun i H v H' => ∃ (T : Addr) (x1 x2 : V), v = .ref T ∧ H T = none ∧ H' = upd H T (.tup [x1, x2]) ∧ (∀ xs, SqC K c1 H a1 xs → xs[i]? = some x1) ∧ (∀ xs, SqC K c2 H a2 xs → xs[i]? = some x2),
  fun i H => ∃ xs1 xs2 : List V, SqC K c1 H a1 xs1 ∧ SqC K c2 H a2 xs2 ∧ (xs1.length ≤ i ∨ xs2.length ≤ i)⟩
theorem turn_zipM2 {P : Program} {w : World} {K : PySem.W.Frag} {elts : List Expr} {kk : Nat} {tpos : Pos} {c1 c2 : Bool} {a1 a2 z TI TO i1 i2 : Addr} (D : Apart2 z TI TO i1 i2 a1 a2) :
  Turn P w K (.Tuple elts kk tpos) (ItzM2 K c1 c2 a1 a2) [z, TI, TO, i1, i2] z (fun i h => IsZip h z TI TO .none ∧ IsN h TI #[.ref i1, .ref i2] ∧ (∃ y1 y2, IsN h TO #[y1, y2]) ∧ ItK c1 h i1 a1 i ∧ ItK c2 h i2 a2 i) where
 mem := by simp
 obj := fun i h st c hc => by
  obtain ⟨hz, hTI, ⟨y1, y2, hTO⟩, h1, h2⟩ := st
  have e' : c = z ∨ c = TI ∨ c = TO ∨ c = i1 ∨ c = i2 := by simpa using hc
  rcases e' with q | q | q | q | q
  ·rw [q]; exact ⟨_, hz, fun v q => nomatch q⟩
  ·rw [q]; exact ⟨_, hTI, fun v q => nomatch q⟩
  ·rw [q]; exact ⟨_, hTO, fun v q => nomatch q⟩
  ·rw [q]; exact h1.obj
  ·rw [q]; exact h2.obj
 keep := fun i h h' st k => by
  obtain ⟨hz, hTI, ⟨y1, y2, hTO⟩, h1, h2⟩ := st
  exact ⟨k z (by simp) _ hz, k TI (by simp) _ hTI, ⟨y1, y2, k TO (by simp) _ hTO⟩, h1.at fun o q => k i1 (by simp) o q, h2.at fun o q => k i2 (by simp) o q⟩
 item := by
  intro X hP hw hK hc i pins s σ H E I hf st hg
  subst hP hw hK
  obtain ⟨hz, hTI, ⟨y1, y2, hTO⟩, h1, h2⟩ := st
  obtain ⟨xs1, xs2, x1, x2, hq1, hq2, hx1, hx2⟩ := hg
  obtain ⟨its1, rv1, p1⟩ := seqC_its I hq1
  obtain ⟨u1, hu1, ru1⟩ := rv1.get hx1
  obtain ⟨its2, rv2, p2⟩ := seqC_its I hq2
  obtain ⟨u2, hu2, ru2⟩ := rv2.get hx2
  have hzl : z < s.heap.objs.size := Heap.lt_size hz
  refine pyNext_zipM2_item D hz hTI hTO h1 h2 p1 p2 (x1 := u1) (x2 := u2) (by simpa using hu1) (by simpa using hu2) fun h' z' TO' h1' h2' hT hsz hk => ?_
  refine ⟨_, rfl, wpAny_letOwnedTupleGo_zip (s := { s with heap := h' }) z' fun h'' z'' sb => ?_⟩
  have hT2 : h''.get? s.heap.objs.size = some { cls := .type "tuple", data := .seq #[u1, u2] } := (sb.2 _ (Nat.ne_of_gt hzl)).trans hT
  have new : ObjOk X.prog X.w (upd H s.heap.objs.size (.tup [x1, x2])) h'' s.heap.objs.size (.tup [x1, x2]) :=
   ⟨by show 2 ≤ sizeLine; decide, [u1, u2], (.cons ru1 (.cons ru2 .nil)), ⟨_, hT2, rfl, _, rfl⟩⟩
  have I1 : Inv X pins σ (upd H s.heap.objs.size (.tup [x1, x2])) { s with heap := h'' } :=
   I.turnedNew (t' := s.toks) (ch := [z, TI, TO, i1, i2]) (fun c o hb q => (sb.2 c (fun q' => hb (by simp [q']))).trans (hk c o (fun q' => hb (by simp [q'])) (fun q' => hb (by simp [q'])) (fun q' => hb (by simp [q'])) (fun q' => hb (by simp [q'])) q)) hf (Nat.le_refl _) new
  refine ⟨.ref s.heap.objs.size, _, I1, rfl, ⟨_, x1, x2, rfl, I.hok.fresh (Nat.le_refl _), rfl, fun l hl => by rw [seqC_inj I hl hq1]; exact hx1, fun l hl => by rw [seqC_inj I hl hq2]; exact hx2⟩, ⟨z'', ?_, ⟨u1, u2, ?_⟩, ?_, ?_⟩, fun c hcm => ?_⟩
  ·exact (sb.2 _ D.TIz).trans (hk _ _ D.TIz D.TITO D.TIi1 D.TIi2 hTI)
  ·exact (sb.2 _ D.TOz).trans TO'
  ·exact h1'.at fun o q => (sb.2 _ D.i1z).trans q
  ·exact h2'.at fun o q => (sb.2 _ D.i2z).trans q
  ·have hlt : c < s.heap.objs.size := by
    have e' : c = z ∨ c = TI ∨ c = TO ∨ c = i1 ∨ c = i2 := by simpa using hcm
    rcases e' with q | q | q | q | q
    ·rw [q]; exact hzl
    ·rw [q]; exact Heap.lt_size hTI
    ·rw [q]; exact Heap.lt_size hTO
    ·rw [q]; obtain ⟨_, e1, _⟩ := h1.obj; exact Heap.lt_size e1
    ·rw [q]; obtain ⟨_, e1, _⟩ := h2.obj; exact Heap.lt_size e1
   rw [upd_ne (Nat.ne_of_lt hlt)]
   exact (hf c hcm).1
 done := by
  intro X hP hw hK hc i pins s σ H E I hf st hg
  subst hP hw hK
  obtain ⟨hz, hTI, ⟨y1, y2, hTO⟩, h1, h2⟩ := st
  obtain ⟨xs1, xs2, hq1, hq2, hend⟩ := hg
  obtain ⟨its1, rv1, p1⟩ := seqC_its I hq1
  have e1 := rv1.length
  obtain ⟨its2, rv2, p2⟩ := seqC_its I hq2
  have e2 := rv2.length
  have he : its1.toArray[i]? = none ∨ its2.toArray[i]? = none := by
   rcases hend with q | q
   ·exact .inl (by simp; omega)
   ·exact .inr (by simp; omega)
  exact pyNext_zipM2_end (I.ok.hd hc) D hz hTI hTO h1 h2 p1 p2 he fun h' hk => ⟨rfl, I.turnedL (t' := s.toks) (ch := [z, TI, TO, i1, i2]) (fun c o hb q =>
   hk c o (fun q' => hb (by simp [q'])) (fun q' => hb (by simp [q'])) (fun q' => hb (by simp [q'])) (fun q' => hb (by simp [q'])) q) hf⟩
 self := fun A i s Q E st h => wpAny_pyIter_zip st.1 h
def iZipM2 (K : PySem.W.Frag) (ta : TA) : TI := fun σ H R => ta σ H fun vs H1 => ∃ (c1 c2 : Bool) (a1 a2 : Addr) (xs1 xs2 : List V), vs = [.ref a1, .ref a2] ∧ SqC K c1 H1 a1 xs1 ∧ SqC K c2 H1 a2 xs2 ∧ R (ItzM2 K c1 c2 a1 a2) H1
theorem pi_zipM2 {X : Cx} {e1 e2 : Expr} {ta : TA} {p pos tpos : Pos} {elts : List Expr} {kk : Nat} (hg : Gl X "zip") (hm : X.mg "zip" = none) (ha : PA X [e1, e2] ta)
  (hs : starEach [e1, e2] X.env = (false, eval e1 X.env) :: starEach [e2] X.env := by rfl) (hpl : (backTo pos (starEach [e2] X.env)).any (·.1) = false := by rfl) :
  PI X (.Tuple elts kk tpos) (.Call (.Name "zip" p) [e1, e2] [] pos) (iZipM2 X.K ta) := by
 refine ⟨fun pins s σ H R I h => ?_⟩
 refine Call_ (ld_blt I hg hm PyProof.Rows.boot_zip (PyProof.Rows.callWith_type1 (thn (ha.run pos pins s σ H _ I h) fun us s1 ⟨vs, H1, I1, r1, q1⟩ => ?_) hs hpl))
 obtain ⟨c1, c2, a1, a2, xs1, xs2, ex, hq1, hq2, q⟩ := q1
 subst ex
 cases r1 with
 | cons k1 r1 =>
  cases r1 with
  | cons k2 r1 =>
   cases r1
   cases k1
   cases k2
   have fresh : ∀ c, c ∈ [s1.heap.objs.size + 4, s1.heap.objs.size + 2, s1.heap.objs.size + 3, s1.heap.objs.size, s1.heap.objs.size + 1] → FpOk X pins H1 c := fun c hcm => by
    have hle : s1.heap.objs.size ≤ c := by
     have e' : c = s1.heap.objs.size + 4 ∨ c = s1.heap.objs.size + 2 ∨ c = s1.heap.objs.size + 3 ∨ c = s1.heap.objs.size ∨ c = s1.heap.objs.size + 1 := by simpa using hcm
     rcases e' with z | z | z | z | z
     ·rw [z]; exact Nat.le_add_right _ _
     ·rw [z]; exact Nat.le_add_right _ _
     ·rw [z]; exact Nat.le_add_right _ _
     ·rw [z]; exact Nat.le_refl _
     ·rw [z]; exact Nat.le_add_right _ _
    exact I1.fpOk hle (I1.hok.fresh hle)
   obtain ⟨its1, rv1, p1⟩ := seqC_its I1 hq1
   obtain ⟨its2, rv2, p2⟩ := seqC_its I1 hq2
   refine call_zipM2 p1 p2 fun h' hz hTI hTO g1 g2 hk => wpAny_pyIter_zip hz ?_
   have I2 : Inv X pins σ H1 { s1 with heap := h' } := I1.kept (t' := s1.toks) hk
   exact ⟨s1.heap.objs.size + 4, [s1.heap.objs.size + 4, s1.heap.objs.size + 2, s1.heap.objs.size + 3, s1.heap.objs.size, s1.heap.objs.size + 1], _, _, H1, rfl, I2, turn_zipM2 (apart2 s1.heap.objs.size p1.lt p2.lt), ⟨hz, hTI, ⟨_, _, hTO⟩, g1, g2⟩, fresh, q⟩
section
variable {prog : Program} {w : World} {A : Around} {E : Value → Shared → Prop} {s : Shared}
end
end RZ
namespace DL
open PySem PySem.Spec PyProof.Rows L2
theorem seqC {K : PySem.W.Frag} {H H' : Hp} {c : Bool} {a : Addr} {xs : List V} (e : Same H H') (h : RZ.SqC K c H a xs) : RZ.SqC K c H' a xs := by
 cases c
 ·exact e.seq h
 ·exact seqT e h
section
variable {K : PySem.W.Frag} {F : Hp} {c1 c2 c3 : Bool} {a b c : Addr} {xs ys zs : List V} {as bs cs : List D}
theorem wks_zipM2 (h1 : RZ.SqC K c1 F a xs) (r1 : Reps K F xs as) (l1 : as.length ≤ sizeLine) (h2 : RZ.SqC K c2 F b ys) (r2 : Reps K F ys bs) : Wks K F (RZ.ItzM2 K c1 c2 a b) (zipD as bs) (fun _ => True) where
 sz := by rw [zipD_len]; omega
 go := fun i H F' M hi s S _ => by
  rw [zipD_len] at hi
  have hx : i < xs.length := by rw [r1.length]; omega
  have hy : i < ys.length := by rw [r2.length]; omega
  exact ⟨xs, ys, xs[i], ys[i], seqC S.fz (seqC s h1), seqC S.fz (seqC s h2), by simp [hx], by simp [hy]⟩
 stop := fun H F' M s S _ => ⟨xs, ys, seqC S.fz (seqC s h1), seqC S.fz (seqC s h2), by rw [zipD_len, r1.length, r2.length]; omega⟩
 yld := fun i H v H3 F' M hi s S _ y => by
  obtain ⟨T, x, z, rfl, hT, rfl, q1, q2⟩ := y
  obtain ⟨d, g1, g2⟩ := r1.getV (q1 xs (seqC S.fz (seqC s h1)))
  obtain ⟨e, g3, g4⟩ := r2.getV (q2 ys (seqC S.fz (seqC s h2)))
  obtain ⟨F3, e3, S3, r3⟩ := pair_yld S hT (g2.mono s) (g4.mono s)
  exact ⟨F3, _, e3, S3, zipD_get as bs i d e g1 g3, r3⟩
end
def onTL (d : D) (f : List D → Prop) : Prop := match d with
 | .tup xs => f xs
 | .lst xs => f xs
 | _ => False
theorem onTL_of {K : PySem.W.Frag} {F : Hp} {v : V} {d : D} {f : List D → Prop} (r : Rep K F v d) (h : onTL d f) : ∃ c a xs ds, v = .ref a ∧ RZ.SqC K c F a xs ∧ Reps K F xs ds ∧ ds.length ≤ sizeLine ∧ f ds := by
 cases d with
 | tup ds => cases r with | tup q1 q2 q3 => exact ⟨true, _, _, _, rfl, SqT.of q1, q2, q3, h⟩
 | lst ds => cases r with | lst q1 q2 q3 => exact ⟨false, _, _, _, rfl, SqL.of q1, q2, q3, h⟩
 | _ => exact h.elim
def wiZipM (wa wb : WE) : WI := fun ρ M k x => wa ρ M (fun d M1 => wb ρ M1 (fun e M2 => onTL d fun xs => onTL e fun ys => k (zipD xs ys) (fun _ => True) M2) x) x
section
variable {X : Cx} {a b c : Expr} {wa wb wc : WE} {p pos tpos : Pos} {elts : List Expr} {kk : Nat}
theorem di_zipM {Tq : TkC} (hm : X.mg "zip" = none) (ha : DE Tq X a wa) (hb : DE Tq X b wb) (hg : Gl X "zip" := by rfl) (hs : starEach [a, b] X.env = (false, eval a X.env) :: starEach [b] X.env := by rfl) (hpl : (backTo pos (starEach [b] X.env)).any (·.1) = false := by rfl)
  (h00 : starEach (b :: []) X.env = (false, eval b X.env) :: starEach [] X.env := by rfl) : DI Tq X (.Tuple elts kk tpos) (.Call (.Name "zip" p) [a, b] [] pos) (wiZipM wa wb) := by
 refine ⟨fun W tk => pi_imp (RZ.pi_zipM2 hg hm (pa_cons (ha.pe W tk) (pa_cons (hb.pe W tk) pa_nil h00) hs) hs hpl) fun σ H R q => ?_⟩
 obtain ⟨F, M, ρ, k, x, S, E, w, f, px⟩ := q
 refine ⟨F, M, ρ, _, x, S, E, w, fun v d H1 F1 M1 e1 S1 r1 w1 => ?_, px⟩
 refine ⟨F1, M1, ρ, _, x, S1, E.mono e1.sm, w1, fun u e H2 F2 M2 e2 S2 r2 w2 => ?_, px.on e1⟩
 have r1' := r1.mono e2.sm
 have e12 := e1.trans e2
 obtain ⟨c1, a1, xs, ds, rfl, q1, q2, q3, w3⟩ := onTL_of r1' w2
 obtain ⟨c2, a2, ys, es, rfl, s1, s2, s3, w4⟩ := onTL_of r2 w3
 exact ⟨c1, c2, _, _, _, _, rfl, seqC S2.fz q1, seqC S2.fz s1, f _ _ _ _ _ _ e12 S2 (wks_zipM2 q1 q2 q3 s1 s2) w4⟩
end
end DL
namespace DM
open PySem PySem.Spec PyProof.Rows L2 DL
def tlV : Vl → Option (List D)
 | .v (.tup xs) => some xs
 | .v (.lst xs) => some xs
 | _ => none
def miZipM (ma mb : WM) : WMI := fun r K X => ma r (fun u => mb r (fun v => oK (tlV u) fun xs => oK (tlV v) fun ys => K (zipD xs ys)) X) X
section
variable {X : Cx} {tg : Expr}
theorem tlV_of {M0 : M0T} {M : MH} {u : Vl} {d : D} {f : List D → Ans} {G : Ans → Prop} {k : List D → Prop} (nb : ¬ G .bad) (hu : RelV M0 M u d) (g : G (oK (tlV u) f)) (h : ∀ xs, G (f xs) → k xs) : onTL d k := by
 cases u with
 | o n => exact (nb g).elim
 | v z =>
  cases hu
  cases d with
  | tup xs => exact h _ g
  | lst xs => exact h _ g
  | _ => exact (nb g).elim
theorem mi_zipM {Tq : TkC} {it : Expr} {ma mb : WM} (hd : DI Tq X tg it (wiZipM (wE ma) (wE mb))) : MI Tq X tg it (miZipM ma mb) := di_weak hd fun ρ M k x ⟨M0, r, K, XX, G, O, L, hk, g⟩ => by
 refine ⟨M0, r, _, XX, G, O, L, fun u d hu g => ⟨M0, r, _, XX, G, O, L, fun v e hv g => ?_, g⟩, g⟩
 exact tlV_of L.nb hu g fun xs g => tlV_of L.nb hv g fun ys g => hk _ g
end
end DM
namespace SrtZ
open PySem PyProof.Rows Srt SrtO L2
theorem oneLtZ {prog : Program} {w : World} {A : Around} {s : Shared} (c : Bool) {p q : Int} {t u : Tok} {Q : Bool → Shared → Prop} (h : Q (decide (p < q)) s) : wpAny (model prog w) A (oneLt' c (.int p t) (.int q u)) Q (fun _ _ => False) s := by
 cases c with
 | true => exact oneLt_int h
 | false => exact PySem.W.kat_one _ _ (PyProof.Rows.lt_int (Q := PySem.W.BoolBack Q) h)
def zl : List Int → List Int → Bool
 | [], [] => false
 | [], _ :: _ => true
 | _ :: _, [] => false
 | x :: a, y :: b => if x = y then zl a b else decide (x < y)
theorem zl_asym : ∀ a b, zl a b = true → zl b a = false
 | [], [], h => by cases h
 | [], _ :: _, _ => rfl
 | _ :: _, [], h => by cases h
 | x :: a, y :: b, h => by
  unfold zl at h ⊢
  by_cases e : x = y
  ·rw [if_pos e] at h; rw [if_pos e.symm]; exact zl_asym a b h
  ·rw [if_neg e] at h; rw [if_neg (fun q => e q.symm)]
   have := of_decide_eq_true h
   exact decide_eq_false (by omega)
theorem zl_ntrans : ∀ a b c, zl a b = false → zl b c = false → zl a c = false
 | [], [], c, _, h => h
 | [], _ :: _, _, h, _ => by cases h
 | _ :: _, _, [], _, _ => rfl
 | _ :: _, [], _ :: _, _, h => by cases h
 | x :: a, y :: b, z :: c, h1, h2 => by
  unfold zl at h1 h2 ⊢
  by_cases e : x = y
  ·subst e
   rw [if_pos rfl] at h1
   by_cases f : x = z
   ·rw [if_pos f] at h2 ⊢; exact zl_ntrans a b c h1 h2
   ·rw [if_neg f] at h2 ⊢; exact h2
  ·rw [if_neg e] at h1
   have g := of_decide_eq_false h1
   by_cases f : y = z
   ·subst f
    rw [if_neg e]; exact h1
   ·rw [if_neg f] at h2
    have g2 := of_decide_eq_false h2
    rw [if_neg (by omega)]
    exact decide_eq_false (by omega)
theorem zl_anti : ∀ a b, zl a b = false → zl b a = false → a = b
 | [], [], _, _ => rfl
 | [], _ :: _, h, _ => by cases h
 | _ :: _, [], _, h => by cases h
 | x :: a, y :: b, h1, h2 => by
  unfold zl at h1 h2
  by_cases e : x = y
  ·subst e
   rw [if_pos rfl] at h1 h2
   rw [zl_anti a b h1 h2]
  ·rw [if_neg e] at h1; rw [if_neg (fun q => e q.symm)] at h2
   have := of_decide_eq_false h1
   have := of_decide_eq_false h2
   omega
def IsTupZ (h : Heap) (v : Value) (z : List Int) : Prop := ∃ a o its n, v = .ref a ∧ h.get? a = some o ∧ o.cls = .type "tuple" ∧ o.data = .seq (List.toArray its) n ∧ Vals (z.map V.int) its
theorem IsTupZ.keeps {h h' : Heap} {v : Value} {z : List Int} (p : IsTupZ h v z) (k : ∀ b o, h.get? b = some o → o.cls = .type "tuple" → h'.get? b = some o) : IsTupZ h' v z := by
 obtain ⟨a, o, its, n, e, ho, hc, hd, r⟩ := p
 exact ⟨a, o, its, n, e, k _ _ ho hc, hc, hd, r⟩
section
variable {prog : Program} {w : World} {A : Around} {E : Value → Shared → Prop} {s : Shared}
theorem kat_ints {fin : Bool} {Q : Bool → Shared → Prop} : ∀ {z z' : List Int} {its its' : List Value} (i : Nat), Vals (z.map V.int) its → Vals (z'.map V.int) its' → fin = decide (z.length < z'.length) → Q (zl z z') s → PySem.W.KatLex prog w A true fin Q (its.zip its') i s
 | [], [], _, _, i, .nil, .nil, e, h => PySem.W.kat_nil (by rw [e]; exact h)
 | [], _ :: _, _, _, i, .nil, .cons _ _, e, h => PySem.W.kat_nil (by rw [e]; exact h)
 | _ :: _, [], _, _, i, .cons _ _, .nil, e, h => PySem.W.kat_nil (by rw [e]; exact h)
 | x :: z, y :: z', _, _, i, .cons r rr, .cons q qq, e, h => by
  obtain ⟨t, rfl⟩ := r
  obtain ⟨u, rfl⟩ := q
  refine PySem.W.kat_cons (SeqAt.EqAt.int_int x t y u prog w _ _ ?_)
  refine PySem.W.kat_go (fun e1 => ?_) (fun e1 => ?_)
  ·have ex : x = y := by simpa using e1
   subst ex
   refine PySem.W.kat_yes (kat_ints (i + 1) rr qq (by rw [e]; simp) ?_)
   have hh : zl (x :: z) (x :: z') = zl z z' := by rw [zl, if_pos rfl]
   rw [← hh]
   exact h
  ·have ex : ¬ x = y := by simpa using e1
   refine PySem.W.kat_no (oneLtZ _ ?_)
   have hh : zl (x :: z) (y :: z') = decide (x < y) := by rw [zl, if_neg ex]
   rw [← hh]
   exact h
theorem tupZ_cmp {vs : List Value} {k : Value → List Int} (hp : ∀ v ∈ vs, IsTupZ s.heap v (k v)) : Cmp prog w A s (tuples' true) (fun p => p.1 ∈ vs) (lt2 fun v u => zl (k v) (k u)) := by
 intro p q hm hm'
 show wpAny (model prog w) A (keyLt' (tuples' true) p.1 q.1) (fun r s' => s' = s ∧ r = zl (k p.1) (k q.1)) (fun _ _ => False) s
 obtain ⟨a, o, its, n, e3, ho, hc, hdd, r1⟩ := hp _ hm
 obtain ⟨a', o', its', n', e3', ho', hc', hdd', r2⟩ := hp _ hm'
 generalize k p.1 = z at r1 ⊢
 generalize k q.1 = z' at r2 ⊢
 rw [e3, e3']
 refine PySem.W.kat_lt ho hdd ho' hdd' ?_
 refine kat_ints 0 r1 r2 ?_ ⟨rfl, rfl⟩
 have l1 := r1.length
 have l2 := r2.length
 rw [List.length_map] at l1 l2
 rw [List.size_toArray, List.size_toArray, l1, l2]
theorem firsts_z {h : Heap} : ∀ {vs : List Value}, (∀ v ∈ vs, ∃ z, z ≠ [] ∧ IsTupZ h v z) → ∃ fs : List Value, PySem.W.KatTups h vs fs ∧ fs.length = vs.length ∧ ∀ f ∈ fs, ∃ x t, f = Value.int x t
 | [], _ => ⟨[], PySem.W.KatTups.nil, rfl, fun _ hm => by simp at hm⟩
 | v :: vs, hp => by
  obtain ⟨fs, h1, h2, h3⟩ := firsts_z (vs := vs) fun v' hm => hp v' (List.mem_cons_of_mem _ hm)
  obtain ⟨z, hz, a, o, its, n, e, ho, hc, hd, r⟩ := hp v (List.mem_cons_self ..)
  subst e
  cases z with
  | nil => exact absurd rfl hz
  | cons x z =>
   cases r with
   | cons rx rr =>
    obtain ⟨t, rfl⟩ := rx
    refine ⟨.int x t :: fs, PySem.W.KatTups.cons ho hc hd rfl h1, by rw [List.length_cons, List.length_cons, h2], fun f hm => ?_⟩
    rcases List.mem_cons.mp hm with rfl | hm
    ·exact ⟨x, t, rfl⟩
    ·exact h3 f hm
theorem swo_zl (k : Value → List Int) : Swo fun v u => zl (k v) (k u) :=
 ⟨fun x y h => zl_asym _ _ h, fun x y z h1 h2 => zl_ntrans _ _ _ h2 h1⟩
theorem tupZ_sortable {a : Addr} {vs : List Value} {k : Value → List Int} (h0 : 0 < vs.length) (hp : ∀ v ∈ vs, k v ≠ [] ∧ IsTupZ s.heap v (k v)) (ha : ∀ o, s.heap.get? a = some o → o.cls ≠ .type "tuple") : SortableO prog w A s a vs fun v u => zl (k v) (k u) := by
 intro h' keep
 have hp' : ∀ v ∈ vs, k v ≠ [] ∧ IsTupZ h' v (k v) := fun v hm => ⟨(hp v hm).1, (hp v hm).2.keeps fun b o e c => keep b o (fun z => by subst z; exact ha o e c) e⟩
 obtain ⟨fs, h1, h2, h3⟩ := firsts_z fun v hm => ⟨_, hp' v hm⟩
 refine ⟨tuples' true, fun Q E hq => ?_, tupZ_cmp fun v hm => (hp' v hm).2⟩
 refine PySem.W.kat_kind (T := .type "int") h1 (by omega) (fun f hm => ?_) (by rfl) ?_
 ·obtain ⟨x, t, rfl⟩ := h3 f hm
  exact PySem.W.Looks.now
 ·have e : (Value.type "int" != Value.type "tuple") = true := by first | decide +kernel | rfl | decide
  rw [e]
  exact hq
end
end SrtZ
namespace DL
open PySem PySem.Spec PyProof.Rows L2 _root_.DM SrtZ
def unI : V → Int
 | .int i => i
 | _ => 0
def keyVZ (H : Hp) : V → List Int
 | .ref a => match H a with
  | some (.tup xs) => xs.map unI
  | _ => []
 | _ => []
section
variable {K : PySem.W.Frag} {F : Hp} {f : V → List Int}
end
end DL
namespace DM
open PySem PySem.Spec PyProof.Rows L2 DL
end DM
namespace DL
open PySem PySem.Spec PyProof.Rows L2
section
variable {X : Cx} {pos : Pos}
end
end DL
namespace DM
open PySem PySem.Spec PyProof.Rows L2 DL
section
variable {X : Cx} {e : Expr} {me mi mj : WM} {pos : Pos}
end
end DM
namespace DP
open PySem PySem.Spec PyProof.Rows L2 DL DM
end DP
namespace DP.Lat
abbrev Fn := Nat → Int
def comb : List Int → List Fn → Fn
 | c :: cs, a :: A => fun i => c * a i + comb cs A i
 | _, _ => fun _ => 0
def allZ (cs : List Int) : Prop := ∀ c ∈ cs, c = 0
def To (A B : List Fn) : Prop := ∀ cs, cs.length = A.length → ∃ ds, ds.length = B.length ∧ (∀ i, comb cs A i = comb ds B i) ∧ (allZ ds → allZ cs)
def dot : List Int → List Int → Int
 | c :: cs, b :: bs => c * b + dot cs bs
 | _, _ => 0
def fn (v : List Int) : Fn := fun i => v.getD i 0
end DP.Lat
namespace DP.Lat
abbrev Col := List Int × List Int
def fc (d : Nat) (c : Col) : Fn := fun i => if i < d then fn c.1 i else fn c.2 (i - d)
def Len (d n : Nat) (c : Col) : Prop := c.1.length = d ∧ c.2.length = n
end DP.Lat
namespace DP.Lat
def Bd (G : Nat) (c : Col) : Prop := (∀ x, x ∈ c.1 → x.natAbs ≤ G) ∧ ∀ x, x ∈ c.2 → x.natAbs ≤ G
structure St (d n ax : Nat) (cols : List Col) (G P : Nat) (sg : Int) : Prop where
 len : ∀ c ∈ cols, Len d n c
 bd : ∀ c ∈ cols, Bd G c
 nn : ∀ c ∈ cols, ∃ k : Nat, fn c.1 ax = sg * k ∧ k ≤ P
 ex : ∃ c ∈ cols, fn c.1 ax = sg * P
 ps : 0 < P
 sg : sg = 1 ∨ sg = -1
end DP.Lat
namespace DP.Lat
def Tri (d : Nat) : Nat → List (Nat × Col) → Prop
 | _, [] => True
 | k, (a, c) :: P => k ≤ a ∧ a < d ∧ fn c.1 a ≠ 0 ∧ (∀ j, j < a → fn c.1 j = 0) ∧ Tri d (a + 1) P
structure Ech (d n a : Nat) (C0 : List Col) (P : List (Nat × Col)) (cols : List Col) : Prop where
 len : ∀ c ∈ P.map (·.2) ++ cols, Len d n c
 to : To (C0.map (fc d)) ((P.map (·.2) ++ cols).map (fc d))
 ot : To ((P.map (·.2) ++ cols).map (fc d)) (C0.map (fc d))
 zero : ∀ c ∈ cols, ∀ j, j < a → fn c.1 j = 0
 tri : Tri d 0 P
 ax : ∀ x ∈ P, x.1 < a
 sz : P.length + cols.length = C0.length
end DP.Lat
namespace DP.Lat
section
variable {d n : Nat} {vs : List (List Int)} {P : List (Nat × Col)} {R : List Col}
end
end DP.Lat
namespace DP.Lat
open SrtZ
def lead : List Int → Int
 | [] => 0
 | x :: r => if x = 0 then lead r else x
end DP.Lat
namespace DP.Lat
open PySem PySem.Spec PyProof.Rows L2 DL DM
local macro_rules | `(tactic| walk_at "r") => `(tactic| conv => lhs; whnf)
def colD (c : Col) : D := .tup [tI c.1, tI c.2]
end DP.Lat
namespace DP.Lat
open PySem PySem.Spec PyProof.Rows L2 DL DM
local macro_rules | `(tactic| walk_at "r") => `(tactic| conv => lhs; whnf)
def en : Nat → List Col → List (Nat × Col)
 | _, [] => []
 | m, c :: t => (m, c) :: en (m + 1) t
def oD : Option Col → D
 | none => .non
 | some c => colD c
end DP.Lat
namespace DP.Lat
open PySem PySem.Spec PyProof.Rows L2 DL DM
local macro_rules | `(tactic| walk_at "r") => `(tactic| conv => lhs; whnf)
end DP.Lat
namespace DP.Lat
open PySem PySem.Spec PyProof.Rows L2 DL DM
local macro_rules | `(tactic| walk_at "r") => `(tactic| conv => lhs; whnf)
end DP.Lat
namespace DP.Lat
open PySem PySem.Spec PyProof.Rows L2 DL DM
local macro_rules | `(tactic| walk_at "r") => `(tactic| conv => lhs; whnf)
def z3 : List Int → List Int → List Int → List (Int × Int × Int)
 | a :: as, b :: bs, c :: cs => (a, b, c) :: z3 as bs cs
 | _, _, _ => []
end DP.Lat
namespace DP.Lat
open PySem PySem.Spec PyProof.Rows L2 DL DM
section
variable {d n : Nat} {vs : List (List Int)} {P : List (Nat × Col)} {R : List Col} {times target : List Int}
end
end DP.Lat
namespace DP.Lat
open PySem PySem.Spec PyProof.Rows L2 DL DM SrtZ
local macro_rules | `(tactic| walk_at "r") => `(tactic| conv => lhs; whnf)
end DP.Lat
namespace DP.Lat
def elim (ax : Nat) (top low : List Int) : List Int := vadd (vscale (fn top ax) low) (vscale (-(fn low ax)) top)
end DP.Lat
namespace DP.Lat
open PySem PySem.Spec PyProof.Rows L2 DL DM
local macro_rules | `(tactic| walk_at "r") => `(tactic| conv => lhs; whnf)
end DP.Lat
namespace DP.Lat
open PySem PySem.Spec PyProof.Rows L2 DL DM
local macro_rules | `(tactic| walk_at "r") => `(tactic| conv => lhs; whnf)
end DP.Lat
namespace DP.Lat
open PySem PySem.Spec PyProof.Rows L2 DL DM
local macro_rules | `(tactic| walk_at "r") => `(tactic| conv => lhs; whnf)
end DP.Lat
namespace DP.Lat
open PySem PySem.Spec PyProof.Rows L2 DL DM SrtZ
local macro_rules | `(tactic| walk_at "r") => `(tactic| conv => lhs; whnf)
end DP.Lat
namespace DP.Lat
open PySem PySem.Spec PyProof.Rows L2 DL DM SrtZ
local macro_rules | `(tactic| walk_at "r") => `(tactic| conv => lhs; whnf)
end DP.Lat
namespace DP.Lat
open PySem PySem.Spec PyProof.Rows L2 DL DM SrtZ
local macro_rules | `(tactic| walk_at "r") => `(tactic| conv => lhs; whnf)
def valA : List (Int × List Int) → List Int → List Int
 | [], acc => acc
 | (b, v) :: r, acc => valA r (vadd acc (vscale b v))
end DP.Lat
namespace DL
open PySem PySem.Spec PyProof.Rows L2 _root_.DM SrtZ
section
variable {X : Cx}
end
end DL
namespace DL
open PySem PySem.Spec PyProof.Rows L2 _root_.DM SrtZ
section
variable {X : Cx}
def maxI (x : Int) (xs : List Int) : Int := xs.foldl (fun a y => if a < y then y else a) x
def minI (x : Int) (xs : List Int) : Int := xs.foldl (fun a y => if y < a then y else a) x
end
end DL
namespace DP.Lat
open PySem PySem.Spec PyProof.Rows L2 DL DM SrtZ
section
variable {W at' : Nat} {vs : List (List Int)} {T target v : List Int} {c : Int} {L Ll Lh : List (List Int)}
end
end DP.Lat
namespace DP
open PySem PySem.Spec PyProof.Rows L2 DL DM
end DP
namespace DP.Lat
open PySem PySem.Spec PyProof.Rows L2 DL DM SrtZ
local macro_rules | `(tactic| walk_at "r") => `(tactic| conv => lhs; whnf)
theorem keyD_tI (v : List Int) : keyD (tI v) = some v := intsD_map v
end DP.Lat
namespace DP.Lat
open PySem PySem.Spec PyProof.Rows L2 DL DM SrtZ
end DP.Lat
namespace DP.Lat
open PySem PySem.Spec PyProof.Rows L2 DL DM SrtZ
end DP.Lat
namespace DP.Lat
open PySem PySem.Spec PyProof.Rows L2 DL DM SrtZ
def valP (b : Int) (p : List Int) (ls : List Lp) (r : List Int) : Pt := (b + dot r (ls.map (·.l)), valA (r.zip (ls.map (·.s))) p)
end DP.Lat
namespace DP.Lat
open PySem PySem.Spec PyProof.Rows L2 DL DM SrtZ
section
variable {W : Nat} {q : Row} {P : List Int} {PP : List (Nat × Col)} {R : List Col} {L : List (List Int)}
end
end DP.Lat
namespace DL
open PySem PySem.Spec PyProof.Rows L2 _root_.DM SrtZ
section
variable {X : Cx} {e : Expr} {es : List Expr} {ta : TA} {p pos : Pos}
end
end DL
namespace DL
open PySem PySem.Spec PyProof.Rows L2 _root_.DM SrtZ
end DL
namespace DL
open PySem PySem.Spec PyProof.Rows L2 _root_.DM SrtZ
section
variable {P : Program} {w : World} {K : PySem.W.Frag} {mg : Str → Option Value} {base : Heap}
end
section
variable {X : Cx} {pos apos p : Pos} {C m : Str} {o e : Expr} {es : List Expr} {k n : Nat} {wf : WF} {wo : WE} {wa : WA}
end
end DL
namespace DM
open PySem PySem.Spec PyProof.Rows L2 DL
end DM
namespace DL
open PySem PySem.Spec PyProof.Rows L2 _root_.DM SrtZ
end DL
namespace DM
open PySem PySem.Spec PyProof.Rows L2 DL
end DM
namespace DP
open PySem PySem.Spec PyProof.Rows L2 DL DM
end DP
namespace DP.Lat
open PySem PySem.Spec PyProof.Rows L2 DL DM SrtZ
local macro_rules | `(tactic| walk_at "r") => `(tactic| conv => lhs; whnf)
end DP.Lat
namespace DP.Lat
open PySem PySem.Spec PyProof.Rows L2 DL DM SrtZ
local macro_rules | `(tactic| walk_at "r") => `(tactic| conv => lhs; whnf)
end DP.Lat
namespace DP.Lat
open PySem PySem.Spec PyProof.Rows L2 DL DM SrtZ
local macro_rules | `(tactic| walk_at "r") => `(tactic| conv => lhs; whnf)
end DP.Lat
namespace DP
open PySem PySem.Spec PyProof.Rows L2 DL DM
section
variable {V : Nat} {a c : Tr} {l m : List Lf}
end
section
variable {W V : Nat} {a : Tr} {l : List Lf}
end
end DP
namespace DP
open PySem PySem.Spec PyProof.Rows L2 DL DM
local macro_rules | `(tactic| walk_at "w") => `(tactic| try conv => whnf)
end DP
namespace DL
open PySem PySem.Spec PyProof.Rows L2 _root_.DM SrtZ
end DL
namespace DM
open PySem PySem.Spec PyProof.Rows L2 DL
end DM
namespace DP
open PySem PySem.Spec PyProof.Rows L2 DL DM
end DP
namespace DL
open PySem PySem.Spec PyProof.Rows L2 _root_.DM SrtZ
theorem keys_kvt {H : Hp} : ∀ {zs : List (List Int)} {xs : List V} {bs : List Addr}, zs.length = xs.length → IsKeys H (kvt zs xs) bs → bs.map (fun b => keyVZ H (.ref b)) = zs ∧ ∀ b ∈ bs, H b = some (.tup ((keyVZ H (.ref b)).map V.int))
 | [], [], bs, _, h => by
  cases h
  exact ⟨rfl, fun _ h => nomatch h⟩
 | z :: zs, x :: xs, bs, hl, h => by
  rw [kvt_cons] at h
  cases h with
  | @cons _ b _ bs h1 h2 =>
   obtain ⟨i1, i2⟩ := keys_kvt (by simpa using hl) h2
   have ht : H b = some (.tup (z.map V.int)) := by
    have : H b = some (.tup ((z.map Sum.inl : List Key).map kV)) := h1
    rw [List.map_map] at this
    exact this
   have hk : keyVZ H (.ref b) = z := by
    show (match H b with | some (.tup xs) => xs.map unI | _ => []) = z
    rw [ht]
    show (z.map V.int).map unI = z
    rw [List.map_map]
    exact List.map_id' z
   refine ⟨by rw [List.map_cons, hk, i1], fun c hc => ?_⟩
   rcases List.mem_cons.mp hc with rfl | hc
   ·rw [hk]; exact ht
   ·exact i2 c hc
def rSortedDTO : List V → Hp → VK → Prop := fun vs H Q => ∃ (d : Addr) (zs : List (List Int)) (xs : List V), vs = [V.ref d] ∧ Rd H d (.dT (kvt zs xs)) ∧ zs.length = xs.length ∧ (∀ z ∈ zs, z ≠ []) ∧
 ∀ (ys : List V) (p : Addr), (ys.map (keyVZ H)).Perm zs → (∀ y ∈ ys, ∃ b, y = V.ref b ∧ H b = some (.tup ((keyVZ H y).map V.int))) → ys.Pairwise (fun x y => zl (keyVZ H y) (keyVZ H x) = false) → H p = none → Q (.ref p) (upd H p (.lst ys))
theorem cr_sortedDT {X : Cx} (hc : X.calm = true) : CallR X (.builtin "sorted") rSortedDTO := by
 intro pins s σ H vs us Q I r h
 obtain ⟨a, zs, xs, rfl, hd, hl, hne, q⟩ := h
 obtain ⟨u, rfl, ru⟩ := vals1 r
 obtain rfl : u = Value.ref a := ru
 obtain ⟨z, hs, ks, pr, o, es, ep, ho, hx, hdt, he, hn⟩ := (show ObjOk X.prog X.w H s.heap a (.dT (kvt zs xs)) from hd.ok I.hok)
 have l1 : es.size = ks.length := size_of_entries he
 have l2 : (kvt zs xs).length = ks.length := Paired.length pr
 obtain ⟨k1, k2⟩ := keys_kvt hl (isKeys_of pr)
 refine Calls.call_function_entry PyProof.Rows.kind_sorted PyProof.Rows.plain_sorted PyProof.Rows.entry_sorted (PyProof.Rows.args_sorted1 _) ?_
 unfold Builtin.«sorted»
 refine wpAny_bind (m := checkCount "sorted" 1 1 _) (wpAny_pure ?_)
 refine wpAny_bind (PySem.W.kdu_collect (A := X.A.in1) (kdl_raw hs hx hdt) (I.ok.hd hc) ho (by omega) fun h' tk acc kp it => ?_)
 have hal : acc.toList.length = ks.length := by rw [Array.length_toList, it.1]; exact l1
 have ea : acc.toList = (ks.map fun x => x.2.1).map Value.ref := by
  apply List.ext_getElem?
  intro j
  rw [List.map_map, List.getElem?_map]
  cases hj : acc.toList[j]? with
  | none =>
   have h1 := List.getElem?_eq_none_iff.mp hj
   rw [List.getElem?_eq_none (by omega)]
   all_goals rfl
  | some v =>
   obtain ⟨en, hen, hv⟩ := it.2 j v (by rw [← Array.getElem?_toList]; exact hj)
   have qe := entry_at he j
   rw [hen] at qe
   cases hb : ks[j]? with
   | none =>
    rw [hb] at qe
    exact nomatch (show some en = none from qe)
   | some b =>
    rw [hb] at qe
    have e2 : en = entryOfKey (tupleKind (mixKind X.prog X.w)) b := Option.some.inj qe
    rw [hv, e2]
    all_goals rfl
 generalize (ks.map fun x => x.2.1) = bs at k1 k2 ea
 have I1 : Inv X pins σ H { s with heap := h', toks := tk } := I.kept kp
 have hbl : bs.length = ks.length := by rw [← hal, ea, List.length_map]
 have hz : acc.toList.length ≤ sizeLine := by omega
 refine wpAny_bind (wpAny_newList ?_ hz)
 have hoL : (h'.push (seqObj "list" acc.toList.toArray 0)).get? h'.objs.size = some (seqObj "list" acc.toList.toArray 0) := Heap.get?_push_size _ rfl
 have kp2 : ∀ b o, h'.get? b = some o → (h'.push (seqObj "list" acc.toList.toArray 0)).get? b = some o := fun b o e => Heap.get?_push_of_some _ e
 show wpAny _ _ _ _ _ { s with heap := h'.push (seqObj "list" acc.toList.toArray 0), toks := tk }
 have hvm : ∀ v ∈ acc.toList, ∃ b ∈ bs, v = Value.ref b := fun v hv => by
  rw [ea] at hv
  obtain ⟨b, hb, e⟩ := List.mem_map.mp hv
  exact ⟨b, hb, e.symm⟩
 refine wpAny_bind (wpAny_holding (wpAny_call_entry PyProof.Rows.slot_list_sort ⟨_, hoL, rfl⟩ PyProof.Rows.entry_list_sort
  (SrtO.list_sort_ord (s := { s with heap := h'.push (seqObj "list" acc.toList.toArray 0), toks := tk }) (swo_zl fun u => keyVZ H (backV u)) hoL hz (fun h2 => tupZ_sortable (by omega) (fun v hv => ?_) fun o e => ?_) fun out hs hb => ⟨_, rfl, ?_⟩)
  (PyProof.Rows.args_list_sort _)))
 ·obtain ⟨b, hb, rfl⟩ := hvm v hv
  have ht := k2 b hb
  obtain ⟨_, its2, r2, o, ho, hc, n, hd⟩ := I1.hok _ _ ht
  refine ⟨?_, b, o, its2, n, rfl, kp2 _ _ ho, hc, hd, r2⟩
  exact hne _ (by rw [← k1]; exact List.mem_map.mpr ⟨b, hb, rfl⟩)
 ·have e' : some o = some (seqObj "list" acc.toList.toArray 0) := e.symm.trans hoL
  cases e'
  intro c
  exact absurd (Value.type.inj c) (by decide)
 ·have h3 : ∀ u ∈ out, ∃ a, u = Value.ref a := fun u hu => by
   obtain ⟨b, _, e⟩ := hvm u (hb.perm.mem_iff.mp hu)
   exact ⟨b, e⟩
  obtain ⟨n, hn⟩ := PyProof.Rows.sortedHeap_at (vs := acc.toList) (out := out.toArray) hoL
  have hb2 : (out.map backV).Perm (bs.map V.ref) := by
   have := hb.perm.map backV
   rw [ea, List.map_map] at this
   exact this
  refine wpAny_pure ⟨_, rfl, .ref h'.objs.size, upd H h'.objs.size (.lst (out.map backV)), I1.laid (t' := tk) (fun b u e => ?_) (Nat.le_refl _)
   (show ObjOk X.prog X.w _ _ _ (.lst (out.map backV)) from ⟨?_, out, n, vals_back h3, hn⟩), rfl, q _ _ ?_ (fun y hy => ?_) ?_ (I1.hok.fresh (Nat.le_refl _))⟩
  ·have hb : b < h'.objs.size := Heap.lt_size e
   rw [PyProof.Rows.sortedHeap_old (Nat.ne_of_lt hb) (by rw [size_push']; exact Nat.lt_succ_of_lt hb)]
   exact kp2 _ _ e
  ·rw [hb2.length_eq, List.length_map]; omega
  ·have := hb2.map (keyVZ H)
   rw [List.map_map (l := bs)] at this
   rw [← k1]
   exact this
  ·obtain ⟨b, hb, e⟩ := List.mem_map.mp (hb2.mem_iff.mp hy)
   subst e
   exact ⟨b, rfl, k2 b hb⟩
  ·exact List.pairwise_map.mpr (List.Pairwise.imp (fun {x y} h => h) hs)
theorem adoptAll {K : PySem.W.Frag} {H : Hp} {M : MH} {f : V → List Int} : ∀ {ys : List V} {F : Hp}, RepS K H F M → (∀ y ∈ ys, (f y).length ≤ sizeLine ∧ ∃ b, y = V.ref b ∧ H b = some (.tup ((f y).map V.int))) →
  ∃ F', RepS K H F' M ∧ Ext H F M H F' M ∧ Reps K F' ys (ys.map fun y => D.tup ((f y).map .int))
 | [], F, S, _ => ⟨F, S, Ext.refl _ _ _, .nil⟩
 | y :: ys, F, S, h => by
  obtain ⟨h1, b, e, h2⟩ := h y List.mem_cons_self
  obtain ⟨S1, e1⟩ := S.adopt h2
  obtain ⟨F', S2, e2, r⟩ := adoptAll S1 fun z hz => h z (List.mem_cons_of_mem _ hz)
  refine ⟨F', S2, e1.trans e2, .cons ?_ r⟩
  rw [e]
  rw [e] at h1
  exact .tup (e2.sm _ _ (by rw [← e]; exact upd_same)) (Reps.of_ints _) (by rw [List.length_map]; exact h1)
def lzB (a b : List Int) : Bool := !zl b a
theorem lzB_tot (x y : List Int) (h : lzB x y = false) : lzB y x = true := by
 unfold lzB at h ⊢
 have h2 : zl y x = true := by simpa using h
 rw [zl_asym _ _ h2]; rfl
theorem lzB_trans (x y z : List Int) (a : lzB x y = true) (b : lzB y z = true) : lzB x z = true := by
 unfold lzB at a b ⊢
 rw [zl_ntrans z y x (by simpa using b) (by simpa using a)]; rfl
def tupsZ (zs : List (List Int)) : List D := zs.map fun z => D.tup (z.map .int)
def rSortedDT : RB := fun ds M k => on1 ds fun d => match ctD d M with
 | some (.dt ks _) => (∀ z ∈ ks, z ≠ [] ∧ z.length ≤ 64) ∧ k (.lst (tupsZ (isort lzB ks))) M
 | _ => False
theorem cd_sortedDT {X : Cx} (hc : X.calm = true) : CallD X (.builtin "sorted") rSortedDT := by
 refine ⟨_, cr_sortedDT hc, fun ds vs H F M k Q S r w pv => ?_⟩
 obtain ⟨d, e0, w2⟩ := on1_of w
 clear w
 subst e0
 obtain ⟨v, rfl, r1⟩ := reps1 r
 have w := w2
 clear w2
 cases hct : ctD d M with
 | none => rw [hct] at w; exact w.elim
 | some c =>
  rw [hct] at w
  cases c with
  | dt ks es =>
   obtain ⟨h1, h2⟩ := w
   obtain ⟨p, xs, rfl, hp, hr, hl, hz⟩ := ct_dt S r1 hct
   refine ⟨p, ks, xs, rfl, hp, by rw [hr.length]; exact hl, fun z hz => (h1 z hz).1, fun ys q hperm hy hs hq => ?_⟩
   have hmem : ∀ y ∈ ys, keyVZ H y ∈ ks := fun y hy => hperm.mem_iff.mp (List.mem_map.mpr ⟨y, hy, rfl⟩)
   obtain ⟨F', S1, e1, r2⟩ := adoptAll (f := keyVZ H) S fun y hy' => ⟨Nat.le_trans (h1 _ (hmem y hy')).2 (by rw [sizeLine_eq]; decide), hy y hy'⟩
   obtain ⟨S2, e2⟩ := S1.lay hq (.lst ys)
   have e : ys.map (keyVZ H) = isort lzB ks := by
    refine perm_sorted_on (le := fun x y => lzB x y = true) (fun x _ y _ a b => ?_) (hperm.trans (isort_perm _ ks).symm) ?_ (isort_sorted (le := lzB) lzB_tot lzB_trans ks)
    ·unfold lzB at a b
     exact (zl_anti y x (by simpa using a) (by simpa using b)).symm
    ·refine List.pairwise_map.mpr (List.Pairwise.imp (fun {x y} h => ?_) hs)
     unfold lzB
     rw [h]; rfl
   have e3 : ys.map (fun y => D.tup ((keyVZ H y).map .int)) = tupsZ (isort lzB ks) := by
    rw [← e]
    unfold tupsZ
    rw [List.map_map]; rfl
   rw [e3] at r2
   refine pv _ _ _ _ _ (e1.trans e2) S2 (.lst upd_same (r2.mono e2.sm) ?_) h2
   unfold tupsZ
   rw [List.length_map, (isort_perm lzB ks).length_eq, hl]
   exact hz
  | _ => exact w.elim
section
variable {prog : Program} {w : World} {K : Type} [DecidableEq K] {knd : HeapKind prog w K}
end
def wDgT (wo wi : WE) : WE := fun ρ M k x => wo ρ M (fun o M1 => wi ρ M1 (fun i M2 => ∃ a ks ds, o = .ref a ∧ M2 a = some (.dcT ks ds) ∧ onKey i fun z => onO (getT ks ds z) fun d => k d M2) x) x
section
variable {X : Cx} {o e : Expr} {wo wi : WE} {apos cpos pos : Pos}
theorem de_dgT {Tq : TkC} (hu : X.A.units + 64 < cLine) (ho : DE Tq X o wo) (hi : DE Tq X e wi) (hs : NoSl e := by intro _ _; rfl) : DE Tq X (.Subscript o e pos) (wDgT wo wi) := by
 refine ⟨fun W tk => pe_imp (pe_dget (by omega) (ho.pe W tk) (hi.pe W tk) hs) fun σ H Q q => ?_⟩
 obtain ⟨F, M, ρ, k, x, S, R, w, pv, px⟩ := q
 refine two S R w px fun v u d e H2 F2 M2 e2 S2 r1 r2 w2 => ?_
 obtain ⟨a, ks, ds, rfl, hm, w3⟩ := w2
 cases r1
 obtain ⟨z, hz, w4⟩ := onKey_of w3
 obtain ⟨b, rfl, hb⟩ := key_rep S2 r2 hz
 obtain ⟨_, ob3, hob3, xs3, rfl, hr, hl, hz3⟩ := S2.mu a _ hm
 obtain ⟨y, h1, w5⟩ := onO_of w4
 obtain ⟨v, h2, h3⟩ := hr.getT h1
 exact ⟨a, v, rfl, by rw [← h2, ← valV_kvt]; exact DGet.t (k := z.map Sum.inl) hob3 hb, pv _ _ _ _ _ e2 S2 h3 w5⟩
end
end DL
namespace DL
open PySem PySem.Spec PyProof.Rows L2 _root_.DM
theorem call_divmod {X : Cx} : CallR X (.builtin "divmod") (fun xs H Q => ∃ i j, xs = [V.int i, V.int j] ∧ CFd i j ∧ ∀ p, H p = none → Q (.ref p) (upd H p (.tup [.int (i.fdiv j), .int (i.fmod j)]))) := by
 intro pins s σ H xs us Q I r h
 obtain ⟨i, j, rfl, hc, q⟩ := h
 obtain ⟨u1, u2, rfl, r1, r2⟩ := vals2 r
 obtain ⟨t1, rfl⟩ := r1
 obtain ⟨t2, rfl⟩ := r2
 refine divmod_int hc.1 ?_ (.inl (PyProof.noPylong_of_log2 hc.2))
 refine ⟨.ref s.heap.objs.size, upd H s.heap.objs.size (.tup [.int (i.fdiv j), .int (i.fmod j)]), I.laid (t' := s.toks + 1 + 1) (fun b u e => Heap.get?_push_of_some _ e) (Nat.le_refl _) ?_, rfl, q _ (I.hok.fresh (Nat.le_refl _))⟩
 exact ⟨by show 2 ≤ _; rw [sizeLine_eq]; decide, [.int (i.fdiv j) s.toks, .int (i.fmod j) (s.toks + 1)], .cons ⟨_, rfl⟩ (.cons ⟨_, rfl⟩ .nil), _, Heap.get?_push_size _ rfl, rfl, _, rfl⟩
def rDivmod : RB := fun ds M k => on2 ds fun d e => onII d e fun i j => CFd i j ∧ k (.tup [.int (i.fdiv j), .int (i.fmod j)]) M
theorem cd_divmod {X : Cx} : CallD X (.builtin "divmod") rDivmod := by
 refine ⟨_, call_divmod, fun ds vs H F M k Q S r0 h0 pv => ?_⟩
 obtain ⟨d, e, rfl, h⟩ := on2_of h0
 obtain ⟨v, u, rfl, r, r'⟩ := reps2 r0
 obtain ⟨i, j, rfl, rfl, c, w⟩ := ii_of r r' h
 refine ⟨i, j, rfl, c, fun p hp => ?_⟩
 obtain ⟨S2, e2⟩ := S.lay hp (.tup [.int (i.fdiv j), .int (i.fmod j)])
 exact pv _ _ _ _ _ e2 S2 (.tup upd_same (.cons (.int _) (.cons (.int _) .nil)) (by show 2 ≤ _; rw [sizeLine_eq]; decide)) w
end DL
namespace DM
open PySem PySem.Spec PyProof.Rows L2 DL
end DM
namespace DP.Lat
open PySem PySem.Spec PyProof.Rows L2 DL DM DP
local macro_rules | `(tactic| walk_at "r") => `(tactic| conv => lhs; whnf)
end DP.Lat
namespace DP.Lat
open PySem PySem.Spec PyProof.Rows L2 DL DM DP
local macro_rules | `(tactic| walk_at "r") => `(tactic| conv => lhs; whnf)
end DP.Lat
namespace DP.Lat
open PySem PySem.Spec PyProof.Rows L2 DL DM DP
end DP.Lat
namespace DP.Lat
open PySem PySem.Spec PyProof.Rows L2 DL DM DP
end DP.Lat
namespace DP
open PySem PySem.Spec PyProof.Rows L2 DL DM
section
variable {W : Nat} {tr : Tr} {l : List Lf}
end
section
variable {W : Nat} {S : List Str} {b : Str → List Cd} {kn : Str → M4}
end
end DP
namespace DP
open PySem PySem.Spec PyProof.Rows L2 DL DM Lat
section
variable {W : Nat} {tr : Tr} {l : List Lf} {P : List Int}
end
end DP
namespace DP.Lat
open PySem PySem.Spec PyProof.Rows L2 DL DM DP
end DP.Lat
namespace DP.Lat
open PySem PySem.Spec PyProof.Rows L2 DL DM DP
def putAt (P : List Int) (es : List Ev) : Int := ((es.filter fun e => decide (e.p = P)).map (·.n)).sum
end DP.Lat
namespace DP.Lat
open PySem PySem.Spec PyProof.Rows L2 DL DM DP
section
variable {W : Nat} {tr : Tr} {l : List Lf} {P : List Int}
end
end DP.Lat
namespace DP.Lat
open PySem PySem.Spec PyProof.Rows L2 DL DM DP
section
variable {W : Nat} {tr : Tr} {l : List Lf} {P s : List Int}
end
end DP.Lat
namespace DP.Lat
open PySem PySem.Spec PyProof.Rows L2 DL DM DP
local macro_rules | `(tactic| walk_at "r") => `(tactic| conv => lhs; whnf)
end DP.Lat
namespace DP.Lat
open PySem PySem.Spec PyProof.Rows L2 DL DM DP
end DP.Lat
namespace DP.Lat
open PySem PySem.Spec PyProof.Rows L2 DL DM DP
end DP.Lat
namespace DP.Lat
open PySem PySem.Spec PyProof.Rows L2 DL DM DP
section
variable {d n : Nat} {vs : List (List Int)} {P : List (Nat × Col)} {R : List Col}
end
end DP.Lat
namespace DP.Lat
open PySem PySem.Spec PyProof.Rows L2 DL DM DP
def dueD : List Int → D
 | [] => .tup [.int 0, .non, .non]
 | b :: bs => .tup [.int ((b :: bs).length : Int), .int (minI b bs), .int (maxI b bs)]
section
variable {W : Nat} {tr : Tr} {l : List Lf} {P : List Int}
end
def lvE : Str → List Lf := fun _ => []
end DP.Lat
namespace DP.Lat
open PySem PySem.Spec PyProof.Rows L2 DL DM DP
section
variable {W : Nat} {P : List Int}
end
end DP.Lat
namespace DP
open PySem PySem.Spec PyProof.Rows L2 DL DM DP.Lat
local macro_rules | `(tactic| walk_at "w") => `(tactic| conv => whnf)
end DP
namespace DP
open PySem PySem.Spec PyProof.Rows L2 DL DM DP.Lat
structure Far2 (W : Nat) (cs : List Cd) : Prop where
 len : cs.length ≤ 5
 ok : okCs W cs = true
 dp : dCs cs ≤ 2
 nm : ∀ y, y ∈ namesB cs → y ∈ ([] : List Str)
 sz : szs cs ≤ 60
 m2 : (me2B (knS knE) cs).2 ≤ 60
section
variable {W : Nat} {cs : List Cd}
end
end DP
namespace DM
open PySem PySem.W PySem.Calls PySem.Spec PyProof.Rows PyProof.V L2 DL
def ItiT (d : Addr) (o : Obj) (kvs : List (List Key × V)) : It :=
 ⟨fun i H => H d = some (.frz o (.dT kvs)) ∧ i < kvs.length, fun i H x H' => ∃ T k v q, kvs[i]? = some (k, v) ∧ H q = some (.tup (k.map kV)) ∧ x = .ref T ∧ H T = none ∧ H' = upd H T (.tup [.ref q, v]), fun i H => H d = some (.frz o (.dT kvs)) ∧ kvs.length ≤ i⟩
theorem frzTV {X : Cx} {pins : List (Addr × Obj)} {σ : L2.St} {H : Hp} {s : Shared} {d : Addr} {o : Obj} {kvs : List (List Key × V)} (I : Inv X pins σ H s) (h : H d = some (.frz o (.dT kvs))) :
  (d == sysModules) = false ∧ s.heap.get? d = some o ∧ o.ExactDict ∧ ∃ (es : Array DictEntry) (ep : Nat), o.data = .dict es ep ∧ es.size = kvs.length ∧
   ∀ (i : Nat) (k : List Key) (v : V), kvs[i]? = some (k, v) → ∃ (en : DictEntry) (q : Addr), es[i]? = some en ∧ en.key = .ref q ∧ H q = some (.tup (k.map kV)) ∧ L2.RelV v en.val := by
 obtain ⟨hd, z, hs, xs, pr, o', es, ep, ho, hx, hdt, he, _⟩ := I.hok d _ h
 rw [hd] at ho
 cases ho
 refine ⟨hs, hd, hx, es, ep, hdt, ?_, fun i k v e => ?_⟩
 ·have l1 : es.size = xs.length := size_of_entries he
  have l2 : kvs.length = xs.length := Paired.length pr
  omega
 ·obtain ⟨b, hb, e1, e2, e3⟩ := L2.paired_get pr e
  have q := entry_at he i
  rw [hb] at q
  exact ⟨_, b.2.1, q, rfl, e2, e3⟩
theorem turn_itemsT {P : Program} {w : World} {K : PySem.W.Frag} {d : Addr} {o : Obj} {es : Array DictEntry} {ep : Nat} {kvs : List (List Key × V)} {elts : List Expr} {kk : Nat} {tpos : Pos} (it : Addr) (hod : o.data = .dict es ep) :
  Turn P w K (.Tuple elts kk tpos) (ItiT d o kvs) [it] it (fun i h => ∃ ok ov, IsItemIter h it d i kvs.length ep ok ov) where
 mem := by simp
 obj := fun i h st b hb => by
  have e : b = it := by simpa using hb
  subst e
  obtain ⟨ok, ov, e⟩ := st
  exact ⟨_, e, fun v z => nomatch z⟩
 keep := fun i h h' st k => let ⟨ok, ov, e⟩ := st; ⟨ok, ov, k it (by simp) _ e⟩
 item := by
  intro X hP hw hK hc i pins s σ H E I hf st hg
  subst hP hw hK
  obtain ⟨hd, hi⟩ := hg
  obtain ⟨hs, hgd, hx, es', ep', hdt, hsz, ent⟩ := frzTV I hd
  obtain ⟨rfl, rfl⟩ := dict_ep hod hdt
  obtain ⟨⟨k, v⟩, hkv⟩ : ∃ p, kvs[i]? = some p := ⟨kvs[i], List.getElem?_eq_getElem hi⟩
  obtain ⟨en, q, hen, hkey, hq, hv⟩ := ent i k v hkv
  obtain ⟨ok, ov, he⟩ := st
  rw [← hsz] at he
  have hlt : it < s.heap.objs.size := Heap.lt_size he
  have hie : i < es'.size := by omega
  have hen' : es'[i] = en := by
   rw [Array.getElem?_eq_getElem hie] at hen
   exact Option.some.inj hen
  refine DT.nextI he ⟨o, hgd, hx, hdt⟩ hie fun h' ho hT hz hk => ?_
  rw [hen'] at ho hT
  refine ⟨_, rfl, wpAny_letOwnedTupleGo_items (s := { s with heap := h' }) ho fun h'' he' sb => ?_⟩
  have hT2 : h''.get? s.heap.objs.size = some { cls := .type "tuple", data := .seq #[en.key, en.val] } := (sb.2 _ (Nat.ne_of_gt hlt)).trans hT
  have new : ObjOk X.prog X.w (upd H s.heap.objs.size (.tup [.ref q, v])) h'' s.heap.objs.size (.tup [.ref q, v]) :=
   ⟨by show 2 ≤ sizeLine; decide, [en.key, en.val], .cons hkey (.cons hv .nil), ⟨_, hT2, rfl, _, rfl⟩⟩
  have I1 : Inv X pins σ (upd H s.heap.objs.size (.tup [.ref q, v])) { s with heap := h'' } :=
   I.turnedNew (t' := s.toks) (ch := [it]) (fun b ob hb e => (sb.2 b (by simpa using hb)).trans (hk b ob (by simpa using hb) e)) hf (Nat.le_refl _) new
  refine ⟨.ref s.heap.objs.size, _, I1, rfl, ⟨_, k, v, q, hkv, hq, rfl, I.hok.fresh (Nat.le_refl _), rfl⟩, ⟨en.key, en.val, ?_⟩, fun b hb => ?_⟩
  ·rw [← hsz]; exact he'
  ·have e : b = it := by simpa using hb
   rw [e, upd_ne (Nat.ne_of_lt hlt)]
   exact (hf it (by simp)).1
 done := by
  intro X hP hw hK hc i pins s σ H E I hf st hg
  subst hP hw hK
  obtain ⟨hd, hi⟩ := hg
  obtain ⟨f0, f1, f2, f3, f4, f5⟩ := hf it (by simp)
  obtain ⟨hs, hgd, hx, es', ep', hdt, hsz, ent⟩ := frzTV I hd
  obtain ⟨rfl, rfl⟩ := dict_ep hod hdt
  obtain ⟨ok, ov, he⟩ := st
  rw [← hsz] at he
  exact DT.endI (I.ok.hd hc) he ⟨o, hgd, hx, hdt⟩ (by omega) fun h' eb => ⟨rfl, I.turned (t' := s.toks) (fun b ob hb e => eb b ob hb e) f0 f1 f3 f4 f5⟩
 self := fun A i s Q E st h => let ⟨_, _, e⟩ := st; PySem.W.kcp_self e h
def iItemsT (td : TE) : TI := fun σ H R => td σ H fun x H1 => ∃ d o kvs, x = .ref d ∧ H1 d = some (.frz o (.dT kvs)) ∧ R (ItiT d o kvs) H1
theorem pi_itemsT {X : Cx} {e : Expr} {td : TE} {apos cpos : Pos} {elts : List Expr} {kk : Nat} {tpos : Pos} (he : PE X e td) (hbase : attributeBase e "items" X.env (eval e X.env) = eval e X.env := by rfl) (hline : (apos.endLine == cpos.line) = true := by rfl) :
  PI X (.Tuple elts kk tpos) (.Call (.Attribute e "items" apos) [] [] cpos) (iItemsT td) := by
 refine ⟨fun pins s σ H R I h => ?_⟩
 refine wpAny_Call_method (T := "dict") (id := "dict.items") hbase rfl hline F.plainAttrs_dict F.slot_dict_items F.type_dict_items (thn (he.run pins s σ H _ I h) fun u s1 ⟨x, H1, I1, rx, d, o, kvs, ex, hd, q⟩ => ?_)
 subst ex
 obtain rfl : u = Value.ref d := rx
 obtain ⟨hs, hgd, hx, es, ep, hdt, hsz, ent⟩ := frzTV I1 hd
 have raw : DT.Raw s1.heap d es ep := ⟨o, hgd, hx, hdt⟩
 refine ⟨raw.typeIs, fun b hb => by cases hb; exact ⟨o, hgd, hx.2.1⟩, ?_⟩
 have I2 : Inv X pins σ H1 { s1 with heap := s1.heap.push { cls := .type "dict_items", data := .fields #[.ref d] } } := I1.kept (t' := s1.toks) fun b ob q => Heap.get?_push_of_some _ q
 have fin : wpAny (model X.prog X.w) X.A (pyIter (.ref s1.heap.objs.size)) (PIE X pins σ (.Tuple elts kk tpos) R) X.xe { s1 with heap := s1.heap.push { cls := .type "dict_items", data := .fields #[.ref d] } } := by
  refine DT.iterI (d := d) (es := es) (ep := ep) ⟨_, Heap.get?_push_size _ rfl, rfl, rfl⟩ (raw.push _) (pi_one (tk := s1.toks) I2 _ (turn_itemsT _ hdt) ⟨.none, .none, ?_⟩ q)
  rw [← hsz]
  exact Heap.get?_push_size _ rfl
 show wpAny _ _ (callWith cpos (.builtin "dict.items") [.ref d] [] []) _ X.xe s1
 exact method_meetsIn F.slot_dict_items F.entry_dict_items rfl (PySem.evalArgs_none ⟨rfl, raw.typeIs, F.args_dict_items_1 _, _, DT.meetsItems (es := es) (ep := ep) hs, ⟨raw, fin⟩⟩)
theorem lockT {K : PySem.W.Frag} {H F : Hp} {M : MH} {a : Addr} {ks : List (List Int)} {xs : List V} {ds : List D} (S : RepS K H F M) (hm : M a = some (.dcT ks ds)) (od : Obj) :
  RepS K (upd H a (.frz od (.dT (kvt ks xs)))) (upd F a (.frz od (.dT (kvt ks xs)))) (mdel M a) ∧ Ext H F M (upd H a (.frz od (.dT (kvt ks xs)))) (upd F a (.frz od (.dT (kvt ks xs)))) (mdel M a) := by
 obtain ⟨hf, _⟩ := S.mu a _ hm
 have sF : Same F (upd F a (.frz od (.dT (kvt ks xs)))) := fun b u q => by rw [upd_ne (ne_of_none q hf)]; exact q
 refine ⟨⟨fun b u q => ?_, fun b n q => ?_⟩, sF, fun b u q1 qt q2 q3 => ?_⟩
 ·by_cases hb : b = a
  ·subst hb; rw [upd_same] at q ⊢; exact q
  ·rw [upd_ne hb] at q ⊢; exact S.fz b u q
 ·have hb : b ≠ a := fun z => by rw [z, mdel_same] at q; cases q
  rw [mdel_ne hb] at q
  obtain ⟨q1, u, q2, q3⟩ := S.mu b n q
  exact ⟨by rw [upd_ne hb]; exact q1, u, by rw [upd_ne hb]; exact q2, q3.mono sF⟩
 ·have hb : b ≠ a := fun z => by rw [z, hm] at q3; cases q3
  exact ⟨by rw [upd_ne hb]; exact q1, by rw [upd_ne hb]; exact q2, by rw [mdel_ne hb]; exact q3⟩
def wFrzT (i : Nat) (w : WS) : WS := fun ρ M E => ∃ a ks xs, ρ[i]? = some (some (.ref a)) ∧ M a = some (.dcT ks xs) ∧ w (ρ.set i (some (.dlT ks xs))) (mdel M a) E
theorem dss_frzT {Tq : TkC} {X : Cx} {rest : List Stmt} {w : WS} (i : Nat) (h : DSs Tq X rest w) : DSs Tq X rest (wFrzT i w) := ⟨fun W tk hp => pss_imp (pss_lockS (h.ps W tk hp)) fun D σ H q => by
 obtain ⟨F, M, ρ, E, S, R, ⟨a, ks, ds, hr, hm, w⟩, f⟩ := q
 obtain ⟨hf, o, ho, xs, rfl, hx, hl, hz⟩ := S.mu a _ hm
 refine ⟨a, _, ho, trivial, fun od => ?_⟩
 obtain ⟨S2, e2⟩ := lockT S (xs := xs) hm od
 obtain ⟨v, h1, h2⟩ := R.get hr
 cases h2
 exact ⟨_, _, _, E, S2, (R.mono e2.sm).setD i h1 (.dlT upd_same (hx.mono e2.sm) hl hz), w, f.on e2⟩⟩
def wLckT (w : WE) : WE := fun ρ M k x => w ρ M (fun d M1 => ∃ a ks xs, d = .ref a ∧ M1 a = some (.dcT ks xs) ∧ k (.dlT ks xs) (mdel M1 a)) x
theorem de_lckT {Tq : TkC} {X : Cx} {e : Expr} {w : WE} (h : DE Tq X e w) : DE Tq X e (wLckT w) := ⟨fun W tk => pe_imp (pe_lockNew (h.pe W tk)) fun σ H Q q => by
 obtain ⟨F, M, ρ, k, x, S, E, w, pv, px⟩ := q
 refine ⟨F, M, ρ, _, x, S, E, w, fun v d H1 F1 M1 e1 S1 r1 w1 => ?_, px⟩
 obtain ⟨a, ks, ds, rfl, hm, w2⟩ := w1
 cases r1
 obtain ⟨hf, o, ho, xs, rfl, hr, hl, hz⟩ := S1.mu a _ hm
 refine ⟨a, _, rfl, ho, trivial, fun od => ?_⟩
 obtain ⟨S2, e2⟩ := lockT S1 (xs := xs) hm od
 exact pv _ _ _ _ _ (e1.trans e2) S2 (.dlT upd_same (hr.mono e2.sm) hl hz) w2⟩
def wiItemsT (w : WE) : WI := fun ρ M k x => w ρ M (fun d M1 => ∃ ks xs, d = .dlT ks xs ∧ (∀ z ∈ ks, z.length ≤ 64) ∧ k (zipD (ks.map fun z => .tup (z.map .int)) xs) (fun _ => True) M1) x
theorem kvt_at {ks : List (List Int)} {xs : List V} {i : Nat} {k : List Key} {v : V} (h : (kvt ks xs)[i]? = some (k, v)) : ∃ z, ks[i]? = some z ∧ k = z.map Sum.inl ∧ xs[i]? = some v := by
 unfold kvt at h
 rw [List.getElem?_map] at h
 obtain ⟨p, h1, h2⟩ := Option.map_eq_some_iff.mp h
 obtain ⟨h3, h4⟩ := List.getElem?_zip_eq_some.mp h1
 injection h2 with h5 h6
 exact ⟨p.1, h3, h5.symm, by rw [← h6]; exact h4⟩
theorem wks_itemsT {K : PySem.W.Frag} {F : Hp} {a : Addr} {o : Obj} {ks : List (List Int)} {xs : List V} {ds : List D} (h : F a = some (.frz o (.dT (kvt ks xs)))) (r : Reps K F xs ds) (hl : ks.length = ds.length) (hz : ds.length ≤ sizeLine) (h64 : ∀ z ∈ ks, z.length ≤ 64) : Wks K F (ItiT a o (kvt ks xs)) (zipD (ks.map fun z => .tup (z.map .int)) ds) (fun _ => True) where
 sz := by rw [zipD_len, List.length_map]; omega
 go := fun i H F' M hi s S _ => ⟨S.fz _ _ (s _ _ h), by rw [kvt_len (hl.trans r.length.symm), r.length]; rw [zipD_len, List.length_map] at hi; omega⟩
 stop := fun H F' M s S _ => ⟨S.fz _ _ (s _ _ h), by rw [kvt_len (hl.trans r.length.symm), r.length, zipD_len, List.length_map]; omega⟩
 yld := fun i H v H3 F' M hi s S _ y => by
  obtain ⟨T, k, u, q, hk, hq, rfl, hT, rfl⟩ := y
  obtain ⟨z, hz1, rfl, hu⟩ := kvt_at hk
  obtain ⟨d, hd1, hd2⟩ := r.getV hu
  have hq : H q = some (.tup (z.map V.int)) := by
   rw [hq, List.map_map]; rfl
  obtain ⟨S1, e1⟩ := S.adopt hq
  have rk : Rep K (upd F' q (.tup (z.map V.int))) (.ref q) (.tup (z.map .int)) := .tup upd_same (Reps.of_ints z) (le_line (by rw [List.length_map]; have := h64 z (List.mem_of_getElem? hz1); omega))
  obtain ⟨F3, e3, S3, r3⟩ := pair_yld S1 hT rk ((hd2.mono s).mono e1.sm)
  exact ⟨F3, _, e1.trans e3, S3, zipD_get _ _ i _ _ (by rw [List.getElem?_map, hz1]; rfl) hd1, r3⟩
theorem di_itemsT {Tq : TkC} {X : Cx} {e : Expr} {w : WE} {apos cpos : Pos} {elts : List Expr} {kk : Nat} {tpos : Pos} (h : DE Tq X e w) (hbase : attributeBase e "items" X.env (eval e X.env) = eval e X.env := by rfl) (hline : (apos.endLine == cpos.line) = true := by rfl) :
  DI Tq X (.Tuple elts kk tpos) (.Call (.Attribute e "items" apos) [] [] cpos) (wiItemsT w) := by
 refine ⟨fun W tk => pi_imp (pi_itemsT (h.pe W tk) hbase hline) fun σ H R q => ?_⟩
 obtain ⟨F, M, ρ, k, x, S, E, w, f, px⟩ := q
 refine ⟨F, M, ρ, _, x, S, E, w, fun v d H1 F1 M1 e1 S1 r1 w1 => ?_, px⟩
 obtain ⟨ks, ds, rfl, h64, w2⟩ := w1
 cases r1 with
 | dlT ha hr hl hz => exact ⟨_, _, _, rfl, S1.fz _ _ ha, f _ _ _ _ _ _ e1 S1 (wks_itemsT ha hr hl hz h64) w2⟩
end DM
namespace DM
open PySem PySem.W PySem.Calls PySem.Spec PyProof.Rows PyProof.V L2 DL
def tDisp1T (tk tv : TE) : TE := fun σ H Q => ∀ p, H p = none → tk σ (upd H p (.dT [])) fun x H1 => tv σ H1 fun y H2 => ∃ (b : Addr) (z : List Key), x = .ref b ∧ H2 p = some (.dT []) ∧ H2 b = some (.tup (z.map kV)) ∧ Q (.ref p) (upd H2 p (.dT [(z, y)]))
def onePair (f : V → V → Hp → Prop) : List (V × V) → Hp → Prop
 | [(x, y)], H => f x y H
 | _, _ => False
theorem onePair_of {f : V → V → Hp → Prop} : ∀ {ps : List (V × V)} {H : Hp}, onePair f ps H → ∃ x y, ps = [(x, y)] ∧ f x y H
 | [(x, y)], _, h => ⟨x, y, rfl, h⟩
 | [], _, h => h.elim
 | _ :: _ :: _, _, h => h.elim
theorem pe_disp1T {X : Cx} {pos : Pos} {k v : Expr} {tk tv : TE} (hu : X.A.units + 64 < cLine) (hk : PE X k tk) (hv : PE X v tv) : PE X (.Dict [some k] [v] pos) (tDisp1T tk tv) := by
 refine ⟨fun pins s σ H Q I q => ?_⟩
 have hn := I.hok.fresh (Nat.le_refl s.heap.objs.size)
 have I1 := I.laid (a := s.heap.objs.size) (o := .dT []) (h' := s.heap.push { cls := .type "dict", data := .dict #[] }) (t' := s.toks) (fun _ _ q => Heap.get?_push_of_some _ q) (Nat.le_refl _) (dt_empty s.heap I.big)
 refine wpAny_Dict_any rfl rfl (fun z => nomatch z) (by show 1 ≤ 15; decide) (thn ((pps_cons hk hv pps_nil).run pins _ σ _ (onePair fun x y H2 => ∃ (b : Addr) (z : List Key), x = .ref b ∧ H2 s.heap.objs.size = some (.dT []) ∧ H2 b = some (.tup (z.map kV)) ∧ Q (.ref s.heap.objs.size) (upd H2 s.heap.objs.size (.dT [(z, y)]))) I1 (q _ hn)) fun ws s2 ⟨ps, H2, I2, rel, qq⟩ => ?_)
 obtain ⟨x, y, rfl, b, z, rfl, e, eb, q2⟩ := onePair_of qq
 obtain ⟨zz, hd, xs, r0, dd⟩ := dt_of I2.hok e
 cases r0
 cases rel with
 | @cons a c as bs h t =>
 cases t
 obtain ⟨u, r⟩ := c
 obtain ⟨h1, h2⟩ := h
 cases (show u = Value.ref b from h1)
 unfold storeAll
 rw [List.forIn_cons]
 refine wpAny_bind (wpAny_bind (wpAny_dictSet_heap (hsz := Nat.zero_le _) (knd := tupleKind (mixKind X.prog X.w)) (show X.A.units < cLine by omega) (key_of I2.hok eb) dd fun h' dd' hs => wpAny_pure ?_))
 dsimp only
 rw [List.forIn_nil]
 refine wpAny_pure ⟨.ref s.heap.objs.size, _, ?_, rfl, q2⟩
 obtain ⟨qo, es, ep, hq, g2, g3, g4, _, g5⟩ := dd'
 have rel0 : KT H2 [] [] := .nil
 refine d_write I2 (by rw [e]; exact True.intro) hs ⟨qo, hq⟩ ⟨by rw [sizeLine_eq]; show 1 ≤ _; decide, hd, _, (rel0.put z eb h2).keeps fun c ys ec => ?_, qo, es, ep, hq, g2, g3, g4, g5⟩
 rw [upd_ne (ne_of ec e (fun z => nomatch z))]
 exact ec
def wDsp1T (wk wv : WE) : WE := fun ρ M k x => wk ρ M (fun i M1 => wv ρ M1 (fun d M2 => onKey i fun z => ∀ a, M2 a = none → k (.ref a) (mupd M2 a (.dcT [z] [d]))) x) x
theorem de_dsp1T {Tq : TkC} {X : Cx} {pos : Pos} {ke ve : Expr} {wk wv : WE} (hu : X.A.units + 64 < cLine) (hk : DE Tq X ke wk) (hv : DE Tq X ve wv) : DE Tq X (.Dict [some ke] [ve] pos) (wDsp1T wk wv) := by
 refine ⟨fun W tk => pe_imp (pe_disp1T hu (hk.pe W tk) (hv.pe W tk)) fun σ H Q q => ?_⟩
 obtain ⟨F, M, ρ, k, x, S, R, w, pv, px⟩ := q
 intro p hp
 have fp := S.fno hp
 have mp := S.mno hp
 have e0 : Ext H F M (upd H p (.dT [])) F M := (Ext.refl H F M).at_new hp _
 refine ⟨F, M, ρ, _, x, S.untold fp mp _, R, w, fun v1 i H1 F1 M1 e1 S1 r1 w1 => ?_, px.on e0⟩
 refine ⟨F1, M1, ρ, _, x, S1, R.mono e1.sm, w1, fun v2 d H2 F2 M2 e2 S2 r2 w2 => ?_, px.on (e0.trans e1)⟩
 obtain ⟨z, hz, w3⟩ := onKey_of w2
 obtain ⟨b, rfl, hb⟩ := key_rep S2 (r1.mono e2.sm) hz
 have e12 := e1.trans e2
 obtain ⟨g1, g2, g3⟩ := e12.fr p _ upd_same True.intro fp mp
 refine ⟨b, z.map Sum.inl, rfl, g1, hb, ?_⟩
 have e := e0.trans e12
 have S3 : RepS X.K (upd H2 p (.dT [(z.map Sum.inl, v2)])) F2 (mupd M2 p (.dcT [z] [d])) := ⟨fun b u q => by rw [upd_ne (ne_of_none q g2)]; exact S2.fz b u q, fun b m q => by
  by_cases hb : b = p
  ·subst hb; rw [mupd_same] at q; cases q
   exact ⟨g2, _, upd_same, [v2], rfl, .cons r2 .nil, rfl, by rw [sizeLine_eq]; show 1 ≤ _; decide⟩
  ·rw [mupd_ne hb] at q
   obtain ⟨q1, u, q2, q3⟩ := S2.mu b m q
   exact ⟨q1, u, by rw [upd_ne hb]; exact q2, q3⟩⟩
 have e3 : Ext H F M (upd H2 p (.dT [(z.map Sum.inl, v2)])) F2 (mupd M2 p (.dcT [z] [d])) := ⟨e.sm, fun b u q1 qt q2 q3 => by
  have hb : b ≠ p := fun z => by rw [z, hp] at q1; cases q1
  obtain ⟨c1, c2, c3⟩ := e.fr b u q1 qt q2 q3
  exact ⟨by rw [upd_ne hb]; exact c1, c2, by rw [mupd_ne hb]; exact c3⟩⟩
 exact pv _ _ _ _ _ e3 S3 (.ref p) (w3 p g3)
end DM
namespace DM
open PySem PySem.Spec PyProof.Rows L2 DL
def tImul : TIp := fun x y H Q => ∃ i j, x = .int i ∧ y = .int j ∧ IntMulOk i j ∧ Q (.int (i * j)) H
theorem ip_mul {X : Cx} : PIp X .Mult tImul := by
 intro pins s σ H x y v u Q I r1 r2 h
 obtain ⟨i, j, e1, e2, c, q⟩ := h
 subst e1; subst e2
 obtain ⟨t, rfl⟩ := r1
 obtain ⟨t', rfl⟩ := r2
 exact imul_int ⟨.int _, H, I.tok _, ⟨_, rfl⟩, q⟩ c
def rImul : RD := rInt IntMulOk fun i j => .int (i * j)
theorem id_mul {X : Cx} : IpD X .Mult rImul :=
 ⟨_, ip_mul, fun d e v u H F M k Q S rd re h pv => by
  obtain ⟨i, j, rfl, rfl, c, w⟩ := ii_of rd re h
  exact ⟨i, j, rfl, rfl, c, pv.at S (.int _) w⟩⟩
def fImul := onV2 (fII0 mulB fun i j => .int (i * j))
theorem om_imul : OpM rImul fImul := om_int fun i j h => mulB_ok h
end DM
namespace DP
open PySem PySem.Spec PyProof.Rows L2 DL DM DP.Lat
end DP
namespace DP
open PySem PySem.Spec PyProof.Rows L2 DL DM DP.Lat
section
variable {W : Nat}
structure Two (W : Nat) (cs p q : List Cd) : Prop where
 f1 : Far2 W p
 f2 : Far2 W q
 put : ∀ P : List Int, P.length = W → putAt P (evs 0 (vzero W) (lvB lvE cs)) = putAt P (evs 0 (vzero W) (lvB lvE p)) + putAt (vadd P (vscale (-1) (endp (vzero W) (lvB lvE p)))) (evs 0 (vzero W) (lvB lvE q))
 num : ((evs 0 (vzero W) (lvB lvE cs)).map (·.n)).sum = ((evs 0 (vzero W) (lvB lvE p)).map (·.n)).sum + ((evs 0 (vzero W) (lvB lvE q)).map (·.n)).sum
end
end DP
namespace DP
open PySem PySem.Spec PyProof.Rows L2 DL DM DP.Lat
section
variable {g : List Int → List Int}
structure Lin (W : Nat) (g : List Int → List Int) : Prop where
 len : ∀ v, v.length = W → (g v).length = W
 add : ∀ u v, u.length = W → v.length = W → g (vadd u v) = vadd (g u) (g v)
 sc : ∀ (k : Int) (v : List Int), v.length = W → g (vscale k v) = vscale k (g v)
 zero : g (vzero W) = vzero W
 inj : ∀ u v, u.length = W → v.length = W → g u = g v → u = v
section
variable {W : Nat} (G : Lin W g)
include G
end
end
end DP
namespace DP
open PySem PySem.Spec PyProof.Rows L2 DL DM
local macro_rules | `(tactic| walk_at "r") => `(tactic| conv => lhs; whnf)
def N_residue : List Str := ["place", "moduli", "one", "modulus"]
def M_residue : WMS := (mRet (mCB fTuple (mCons (mLc (miZip (mVar 0) (mVar 1)) (mgTup 2 (mgCons (mgN 2) (mgCons (mgN 3) mgNil))) mYes (mOp fMod (mVar 2) (mVar 3)) [2, 3]) mNil)))
@[irreducible] def m_residue (ds : List D) : Rs D := callM M_residue N_residue ds
theorem m_residue_eq (ds : List D) : m_residue ds = callM M_residue N_residue ds := by unfold m_residue; rfl
def N_period : List Str := ["stride", "moduli", "rounds"]
def M_period : WMS := (mSeq (mSet 2 (mC (.int 1)))
 (mSeq (mWhile [] (mTest (mOp (fEq fun b => !b) (mCall m_residue 2 (mCons (mCall m_scale 2 (mCons (mVar 2) (mCons (mVar 0) mNil))) (mCons (mVar 1) mNil))) (mCall m_origin 1 (mCons (mCB fLen (mCons (mVar 0) mNil)) mNil)))) (mAug 2 (onV2 (fI0 fun i j => .int (i + j))) (mC (.int 1))))
 (mRet (mVar 2))))
@[irreducible] def m_period (ds : List D) : Rs D := callM M_period N_period ds
theorem m_period_eq (ds : List D) : m_period ds = callM M_period N_period ds := by unfold m_period; rfl
def N_check_moduli : List Str := ["dimension", "moduli", "modulus", "classes"]
def M_check_moduli : WMS := (mSeq (mIfS (mTest (mOp (fEq fun b => !b) (mCB fLen (mCons (mVar 1) mNil)) (mVar 0))) (mRaise "WrongDimension" "given" "WrongDimension" (mCB fLen (mCons (mVar 1) mNil))) mNext)
 (mSeq (mFor [2] (miSeq (mVar 1)) (mgN 2) (mIfS (mTest (mOp fLt (mVar 2) (mC (.int 1)))) (mRaise "InvalidCount" "number" "InvalidCount" (mVar 2)) mNext))
 (mSeq (mSet 3 (mC (.int 1)))
 (mSeq (mFor [2] (miSeq (mVar 1)) (mgN 2) (mAug 3 fImul (mVar 2)))
 (mIfS (mTest (mOp fGt (mVar 3) (mC (.int 40)))) (mRaise "TooLong" "limit" "TooLong" (mC (.int 40))) mNext)))))
@[irreducible] def m_check_moduli (ds : List D) : Rs D := callM M_check_moduli N_check_moduli ds
theorem m_check_moduli_eq (ds : List D) : m_check_moduli ds = callM M_check_moduli N_check_moduli ds := by unfold m_check_moduli; rfl
def resV (as ms : List Int) : List Int := List.zipWith Int.fmod as ms
theorem resV_zip : ∀ as ms : List Int, (as.zip ms).map (fun p => p.1.fmod p.2) = resV as ms
 | [], [] => rfl
 | [], _ :: _ => rfl
 | _ :: _, [] => rfl
 | a :: as, m :: ms => by
  exact congrArg (a.fmod m :: ·) (resV_zip as ms)
theorem residue_d {as ms : List Int} (h : ∀ m ∈ ms, m ≠ 0) : m_residue [tI as, tI ms] = .ok (tI (resV as ms)) := by
 rw [m_residue_eq]
 walk_at "r"
 rw [zipD_ints, comp_map (fun p : Int × Int => D.tup [.int p.1, .int p.2]) (fun p => .int (p.1.fmod p.2)) (as.zip ms) fun p hp K X => by
  have hm := h p.2 (List.of_mem_zip hp).2
  show vK (match nzB p.1 p.2 with | true => some (D.int (p.1.fmod p.2)) | false => none) K = _
  rw [show nzB p.1 p.2 = true from decide_eq_true hm]
  rfl]
 walk_at "r"
 rw [← resV_zip]
 show Rs.ok (D.tup _) = Rs.ok (D.tup _)
 rw [List.map_map]
 rfl
def perB (s ms : List Int) (r : Nat) : Bool := decide (resV (vscale (r : Int) s) ms = vzero s.length)
def perF (s ms : List Int) : Nat → Nat → Nat
 | 0, r => r
 | f + 1, r => if perB s ms r then r else perF s ms f (r + 1)
theorem perF_ge (s ms : List Int) : ∀ f r, r ≤ perF s ms f r ∧ perF s ms f r ≤ r + f
 | 0, r => ⟨Nat.le_refl _, Nat.le_refl _⟩
 | f + 1, r => by
  unfold perF
  split
  ·exact ⟨Nat.le_refl _, by omega⟩
  ·have := perF_ge s ms f (r + 1); omega
theorem per_loop {s ms : List Int} (hm : ∀ m ∈ ms, m ≠ 0) (hs : s.length ≤ 1000) {b : Nat} (hb : ∀ x ∈ s, x.natAbs < 2 ^ b) (hb2 : b ≤ 8000) {E : EndsK} {mt : WMT} {st : WMS} (hmt : mt = (mTest (mOp (fEq fun b => !b) (mCall m_residue 2 (mCons (mCall m_scale 2 (mCons (mVar 2) (mCons (mVar 0) mNil))) (mCons (mVar 1) mNil))) (mCall m_origin 1 (mCons (mCB fLen (mCons (mVar 0) mNil)) mNil)))))
  (hst : st = (mAug 2 (onV2 (fI0 fun i j => .int (i + j))) (mC (.int 1)))) : ∀ (f n r : Nat), f < n → r + f < 2 ^ 20 → perB s ms (r + f) = true →
  whileM [] mt st n [some (.v (tI s)), some (.v (tI ms)), some (.v (.int (r : Int)))] E = E.nx [some (.v (tI s)), some (.v (tI ms)), some (.v (.int (perF s ms f r : Nat)))]
 | f, 0, _, h, _, _ => absurd h (Nat.not_lt_zero _)
 | f, n + 1, r, h, hr, hp => by
  have key : ∀ K X, mt [some (.v (tI s)), some (.v (tI ms)), some (.v (.int (r : Int)))] K X = K (!perB s ms r) := fun K X => by
   subst hmt
   conv => lhs; whnf
   rw [scale_d (k := (r : Int)) (v := s) fun x hx => mulB_of (a := 20) (b := b) (by omega) (hb x hx) (by omega)]
   conv => lhs; whnf
   rw [residue_d hm]
   conv => lhs; whnf
   rw [List.length_map, origin_d (W := s.length) hs]
   conv => lhs; whnf
   rw [tI_eq]
   rfl
  rw [whileM_s]
  show mt [some (.v (tI s)), some (.v (tI ms)), some (.v (.int (r : Int)))] _ _ = _
  rw [key]
  cases c : perB s ms r with
  | true =>
   have e : perF s ms f r = r := by
    cases f with
    | zero => rfl
    | succ f => unfold perF; rw [if_pos c]
   rw [e]
   rfl
  | false =>
   cases f with
   | zero => rw [Nat.add_zero] at hp; rw [hp] at c; cases c
   | succ f =>
    have e : perF s ms (f + 1) r = perF s ms f (r + 1) := by
     show (if perB s ms r then r else perF s ms f (r + 1)) = _
     rw [c]; rfl
    rw [e, ← per_loop hm hs hb hb2 hmt hst f n (r + 1) (by omega) (by omega) (by rw [show r + 1 + f = r + (f + 1) by omega]; exact hp)]
    subst hst
    rfl
theorem period_d {s ms : List Int} (hm : ∀ m ∈ ms, m ≠ 0) (hs : s.length ≤ 1000) {b : Nat} (hb : ∀ x ∈ s, x.natAbs < 2 ^ b) (hb2 : b ≤ 8000) {f : Nat} (hf : f < 1000) (hp : perB s ms (1 + f) = true) : m_period [tI s, tI ms] = .ok (.int (perF s ms f 1 : Nat)) := by
 rw [m_period_eq]
 walk_at "r"
 refine (per_loop hm hs hb hb2 rfl rfl f 1000000 1 (by omega) (by omega) hp).trans ?_
 rfl
def prodM : List Int → Int
 | [] => 1
 | m :: ms => m * prodM ms
theorem prodM_pos : ∀ {ms : List Int}, (∀ m ∈ ms, 1 ≤ m) → 1 ≤ prodM ms
 | [], _ => Int.le_refl _
 | m :: ms, h => by
  have h1 := h m List.mem_cons_self
  have h2 := prodM_pos fun x hx => h x (List.mem_cons_of_mem _ hx)
  show 1 ≤ m * prodM ms
  have := Int.mul_le_mul h1 h2 (by omega) (by omega)
  omega
theorem moduli_d {W : Nat} {ms : List Int} (hl : ms.length = W) (h : ∀ m ∈ ms, 1 ≤ m) (hp : prodM ms ≤ 40) : m_check_moduli [.int W, tI ms] = .ok .non := by
 rw [m_check_moduli_eq]
 walk_at "r"
 rw [List.length_map, hl, decide_eq_true rfl]
 walk_at "r"
 refine (ck1 ms none h).trans ?_
 walk_at "r"
 refine (ck2 ms none 1 h (by decide) (by rw [Int.one_mul]; exact hp)).trans ?_
 rw [Int.one_mul]
 walk_at "r"
 rw [decide_eq_false (show ¬ prodM ms > 40 by omega)]
 rfl
end DP
namespace DP.Rsd
open PySem PySem.Spec PyProof.Rows L2 DL DM DP
def inBox : List Int → List Int → Prop
 | [], [] => True
 | z :: zs, m :: ms => 0 ≤ z ∧ z < m ∧ inBox zs ms
 | _, _ => False
theorem inBox_len : ∀ {z ms : List Int}, inBox z ms → z.length = ms.length
 | [], [], _ => rfl
 | _ :: _, _ :: _, h => congrArg (· + 1) (inBox_len h.2.2)
 | [], _ :: _, h => h.elim
 | _ :: _, [], h => h.elim
theorem resV_box : ∀ {as ms : List Int}, as.length = ms.length → (∀ m ∈ ms, 1 ≤ m) → inBox (resV as ms) ms
 | [], [], _, _ => trivial
 | a :: as, m :: ms, h, hm => by
  have h1 := hm m List.mem_cons_self
  exact ⟨Int.fmod_nonneg_of_pos a (by omega), Int.fmod_lt_of_pos a (by omega), resV_box (by simpa using h) fun x hx => hm x (List.mem_cons_of_mem _ hx)⟩
 | [], _ :: _, h, _ => by cases h
 | _ :: _, [], h, _ => by cases h
theorem flat_len {α : Type} {f : Nat → List α} {c : Nat} (h : ∀ k, (f k).length = c) : ∀ n, ((List.range n).flatMap f).length = n * c
 | 0 => by simp
 | n + 1 => by
  rw [List.range_succ, List.flatMap_append, List.length_append, flat_len h n]
  simp [h, Nat.succ_mul]
abbrev ST := List (List Int) × List Int
def addT (T : ST) (z : List Int) (n : Int) : ST := (putKsT T.1 z, putXsT T.1 T.2 z ((getT T.1 T.2 z).getD 0 + n))
structure STok (ms : List Int) (B : Nat) (T : ST) : Prop where
 len : T.1.length = T.2.length
 nd : T.1.Nodup
 box : ∀ z ∈ T.1, inBox z ms
 bd : ∀ n ∈ T.2, n.natAbs ≤ B
def perR (s ms : List Int) : Nat := perF s ms ((prodM ms).toNat - 1) 1
def cntR (t : Int) (r k : Nat) : Int := t.fdiv r + (if (k : Int) < t.fmod r then 1 else 0)
def turnT (ms s : List Int) (t : Int) (r : Nat) (p : List Int × Int) (ks : List Nat) (T : ST) : ST := ks.foldl (fun (acc : ST) (k : Nat) => addT acc (resV (vadd p.1 (vscale (k : Int) s)) ms) (p.2 * cntR t r k)) T
def foldT (ms s : List Int) (t : Int) (r : Nat) (ps : List (List Int × Int)) (T : ST) : ST := ps.foldl (fun acc p => turnT ms s t r p (List.range r) acc) T
def strewnT (ms : List Int) (T : ST) (l : List Int × Int) : ST := foldT ms l.1 l.2 (perR l.1 ms) (T.1.zip T.2) ([], [])
theorem resV_zero : ∀ {c : Int} {s ms : List Int}, s.length = ms.length → (∀ m ∈ ms, ∃ q, c = m * q) → resV (vscale c s) ms = vzero s.length
 | _, [], [], _, _ => rfl
 | c, a :: s, m :: ms, h, hd => by
  obtain ⟨q, hq⟩ := hd m List.mem_cons_self
  have ih := resV_zero (c := c) (s := s) (ms := ms) (by simpa using h) fun x hx => hd x (List.mem_cons_of_mem _ hx)
  have e : (c * a).fmod m = 0 := by rw [hq, Int.mul_assoc]; exact fmod_mul _ _
  show (c * a).fmod m :: resV (vscale c s) ms = _
  rw [e, ih]
  rfl
 | _, [], _ :: _, h, _ => by cases h
 | _, _ :: _, [], h, _ => by cases h
theorem prod_dvd : ∀ {ms : List Int} {m : Int}, m ∈ ms → ∃ q, prodM ms = m * q
 | [], _, h => nomatch h
 | x :: ms, m, h => by
  rcases List.mem_cons.mp h with rfl | h
  ·exact ⟨prodM ms, rfl⟩
  ·obtain ⟨q, hq⟩ := prod_dvd h
   exact ⟨x * q, by show x * prodM ms = _; rw [hq, ← Int.mul_assoc, Int.mul_comm x, Int.mul_assoc]⟩
theorem per_prod {s ms : List Int} (h : s.length = ms.length) (hm : ∀ m ∈ ms, 1 ≤ m) : perB s ms (1 + ((prodM ms).toNat - 1)) = true := by
 have h1 := prodM_pos hm
 refine decide_eq_true ?_
 rw [show ((1 + ((prodM ms).toNat - 1) : Nat) : Int) = prodM ms by omega]
 exact resV_zero h fun m hx => prod_dvd hx
theorem perR_bd {s ms : List Int} (hm : ∀ m ∈ ms, 1 ≤ m) (hp : prodM ms ≤ 40) : 1 ≤ perR s ms ∧ perR s ms ≤ 40 := by
 have := perF_ge s ms ((prodM ms).toNat - 1) 1
 have := prodM_pos hm
 unfold perR
 omega
theorem perR_d {s ms : List Int} (h : s.length = ms.length) (hm : ∀ m ∈ ms, 1 ≤ m) (hp : prodM ms ≤ 40) (hl : s.length ≤ 1000) {b : Nat} (hb : ∀ x ∈ s, x.natAbs < 2 ^ b) (hb2 : b ≤ 8000) : m_period [tI s, tI ms] = .ok (.int (perR s ms : Nat)) :=
 period_d (fun m hx => by have := hm m hx; omega) hl hb hb2 (by omega) (per_prod h hm)
theorem cnt_bd {t : Int} {r k : Nat} (h0 : 0 ≤ t) (hr : 1 ≤ r) : (cntR t r k).natAbs ≤ t.natAbs + 1 := by
 have h1 : t.fdiv r = t / (r : Int) := Int.fdiv_eq_ediv_of_nonneg t (by omega)
 have h2 : 0 ≤ t / (r : Int) := Int.ediv_nonneg h0 (by omega)
 have h3 : t / (r : Int) ≤ t := Int.ediv_le_self _ h0
 unfold cntR
 rw [h1]
 split <;> omega
theorem turn_ok {ms s : List Int} {t : Int} {r : Nat} {p : List Int × Int} (hs : s.length = ms.length) (hm : ∀ m ∈ ms, 1 ≤ m) (h0 : 0 ≤ t) (hr : 1 ≤ r) (hp : p.1.length = ms.length) : ∀ (ks : List Nat) {B : Nat} {T : ST}, STok ms B T → STok ms (B + ks.length * (p.2.natAbs * (t.natAbs + 1))) (turnT ms s t r p ks T)
 | [], B, T, h => by rw [List.length_nil, Nat.zero_mul]; exact h
 | k :: ks, B, T, h => by
  have h1 := h.add (z := resV (vadd p.1 (vscale (k : Int) s)) ms) (n := p.2 * cntR t r k) (C := p.2.natAbs * (t.natAbs + 1)) (resV_box (vadd_lenW hp (by rw [vscale_len, hs])) hm) (by rw [Int.natAbs_mul]; exact Nat.mul_le_mul_left _ (cnt_bd h0 hr))
  have := turn_ok hs hm h0 hr hp ks h1
  rw [List.length_cons, Nat.succ_mul, Nat.add_comm (ks.length * _), ← Nat.add_assoc]
  exact this
theorem fold_ok {ms s : List Int} {t : Int} {r A : Nat} (hs : s.length = ms.length) (hm : ∀ m ∈ ms, 1 ≤ m) (h0 : 0 ≤ t) (hr : 1 ≤ r) : ∀ (ps : List (List Int × Int)) {B : Nat} {T : ST}, (∀ p ∈ ps, p.1.length = ms.length ∧ p.2.natAbs ≤ A) → STok ms B T → STok ms (B + ps.length * (r * (A * (t.natAbs + 1)))) (foldT ms s t r ps T)
 | [], B, T, _, h => by rw [List.length_nil, Nat.zero_mul]; exact h
 | p :: ps, B, T, hp, h => by
  obtain ⟨p1, p2⟩ := hp p List.mem_cons_self
  have h1 := turn_ok (r := r) (t := t) hs hm h0 hr p1 (List.range r) h
  rw [List.length_range] at h1
  have h2 := h1.mono (C := B + r * (A * (t.natAbs + 1))) (Nat.add_le_add_left (Nat.mul_le_mul_left _ (Nat.mul_le_mul_right _ p2)) _)
  have := fold_ok hs hm h0 hr ps (fun q hq => hp q (List.mem_cons_of_mem _ hq)) h2
  rw [List.length_cons, Nat.succ_mul, Nat.add_comm (ps.length * _), ← Nat.add_assoc]
  exact this
theorem strewn_ok {ms : List Int} {T : ST} {l : List Int × Int} {A : Nat} (hs : l.1.length = ms.length) (hm : ∀ m ∈ ms, 1 ≤ m) (hp : prodM ms ≤ 40) (h0 : 0 ≤ l.2) (h : STok ms A T) : STok ms (1600 * (A * (l.2.natAbs + 1))) (strewnT ms T l) := by
 have hr := perR_bd (s := l.1) hm hp
 have h1 := fold_ok (A := A) hs hm h0 hr.1 (T.1.zip T.2) (fun p hq => ⟨inBox_len (h.box p.1 (List.of_mem_zip hq).1), h.bd p.2 (List.of_mem_zip hq).2⟩) STok.nil
 refine h1.mono ?_
 have hl : (T.1.zip T.2).length ≤ 40 := by rw [List.length_zip]; have := h.few hm hp; omega
 rw [Nat.zero_add]
 calc (T.1.zip T.2).length * (perR l.1 ms * (A * (l.2.natAbs + 1))) ≤ 40 * (40 * (A * (l.2.natAbs + 1))) := Nat.mul_le_mul hl (Nat.mul_le_mul_right _ hr.2)
  _ = 1600 * (A * (l.2.natAbs + 1)) := by rw [← Nat.mul_assoc]
end DP.Rsd
namespace DP
open PySem PySem.Spec PyProof.Rows L2 DL DM
def N_Effect_still : List Str := ["dimension"]
def M_Effect_still : WMS := (mRet (mCall m_Effect___init__ 3 (mCons (mVar 0) (mCons (mCall m_origin 1 (mCons (mVar 0) mNil)) (mCons (mLst mNil) mNil)))))
@[irreducible] def m_Effect_still (ds : List D) : Rs D := callM M_Effect_still N_Effect_still ds
theorem m_Effect_still_eq (ds : List D) : m_Effect_still ds = callM M_Effect_still N_Effect_still ds := by unfold m_Effect_still; rfl
def N_Effect_mark : List Str := ["place", "number"]
def M_Effect_mark : WMS := (mRet (mCall m_Effect___init__ 3 (mCons (mCB fLen (mCons (mVar 0) mNil)) (mCons (mCall m_origin 1 (mCons (mCB fLen (mCons (mVar 0) mNil)) mNil)) (mCons (mLst (mCons (mTup (mCons (mVar 1) (mCons (mVar 0) (mCons (mTup mNil) mNil)))) mNil)) mNil)))))
@[irreducible] def m_Effect_mark (ds : List D) : Rs D := callM M_Effect_mark N_Effect_mark ds
theorem m_Effect_mark_eq (ds : List D) : m_Effect_mark ds = callM M_Effect_mark N_Effect_mark ds := by unfold m_Effect_mark; rfl
def Nm_Effect_terms : List Str := ["self"]
def M_Effect_terms : WMS := (mRet (mCB fListX (mCons (mFld "Effect" "rows" (mVar 0)) mNil)))
@[irreducible] def m_Effect_terms (ds : List D) : Rs D := callM M_Effect_terms Nm_Effect_terms ds
theorem m_Effect_terms_eq (ds : List D) : m_Effect_terms ds = callM M_Effect_terms Nm_Effect_terms ds := by unfold m_Effect_terms; rfl
end DP
namespace DP
open PySem PySem.Spec PyProof.Rows L2 DL DM
local macro_rules | `(tactic| walk_at "r") => `(tactic| conv => lhs; whnf)
structure TmOk (W e L : Nat) (q : Tm) : Prop where
 nz : q.n ≠ 0
 n : q.n.natAbs < 2 ^ e
 p : q.p.length = W
 l : q.ls.length ≤ L
 ls : ∀ l, l ∈ q.ls → l.1.length = W ∧ (∀ x, x ∈ l.1 → x.natAbs < 2 ^ e) ∧ l.2.natAbs < 2 ^ e
 tz : ∀ l, l ∈ q.ls → l.2 ≠ 0
 fw : ∀ l, l ∈ q.ls → fwd l.1 = true
def tng (v : List Int) (q : Tm) : Tm := ⟨-q.n, vadd q.p v, q.ls⟩
def trp (W : Nat) (s : List Int) (t : Int) (q : Tm) : Tm := tmOf W q.n q.p ((s, t) :: q.ls)
def pw0 (W : Nat) (t : Int) (s : List Int) (ts : List Tm) : List Tm := if t = 0 then [] else if t = 1 then ts else ts.map (trp W s t)
def pw (W : Nat) (t : Int) (s : List Int) (ts : List Tm) : List Tm := if t < 0 then pw0 W (-t) (vscale (-1) s) (ts.map (tng (vscale (-1) s))) else pw0 W t s ts
section
variable {W e L : Nat} {s s' : List Int} {ts ts' : List Tm} {t : Int}
theorem filt_nz {ts : List Tm} (h : ∀ q, q ∈ ts → q.n ≠ 0) : ts.filter (fun q => !decide (q.n = 0)) = ts := List.filter_eq_self.mpr fun q hq => by simp [h q hq]
theorem einit_nz {ts : List Tm} (h : ∀ q, q ∈ ts → q.n ≠ 0) : m_Effect___init__ [.int W, tI s, .lst (ts.map tmD)] = .ok (effD W s ts) := by rw [einit_d, filt_nz h]
theorem estill_d (hW : W ≤ 1000) : m_Effect_still [.int W] = .ok (effD W (vzero W) []) := by
 rw [m_Effect_still_eq]
 walk_at "r"
 rw [origin_d hW]
 walk_at "r"
 rw [show m_Effect___init__ [.int W, tI (vzero W), .lst []] = .ok (effD W (vzero W) []) from einit_nz (ts := []) fun q hq => nomatch hq]
 rfl
theorem emark_d {p : List Int} {i : Int} (hW : W ≤ 1000) (hp : p.length = W) : m_Effect_mark [tI p, .int i] = .ok (effD W (vzero W) (if i = 0 then [] else [⟨i, p, []⟩])) := by
 subst hp
 rw [m_Effect_mark_eq]
 walk_at "r"
 rw [List.length_map, origin_d hW]
 walk_at "r"
 rw [show m_Effect___init__ ((fun x => D.int (p.length : Nat) :: x) ((fun x => tI (vzero p.length) :: x) ((fun x => D.lst [D.tup [.int i, tI p, .tup []]] :: x) []))) = .ok (effD p.length (vzero p.length) (if i = 0 then [] else [⟨i, p, []⟩])) from by
  have := einit_d (W := p.length) (s := vzero p.length) [⟨i, p, []⟩]
  refine Eq.trans this ?_
  by_cases h : i = 0
  ·rw [if_pos h]; simp [h]
  ·rw [if_neg h]; simp [h]]
 rfl
theorem eterms_d : m_Effect_terms [effD W s ts] = .ok (.lst (ts.map tmD)) := by rw [m_Effect_terms_eq]; rfl
end
end DP
namespace DP
open PySem PySem.Spec PyProof.Rows L2 DL DM DP.Rsd
local macro_rules | `(tactic| walk_at "w") => `(tactic| try conv => whnf)
namespace Rsd
theorem seq_all {s rest : WS} {ρ : Rh} {M : MH} {E : EndsD} (h : ∀ E' : EndsD, (∀ ρ' M', rest ρ' M' E → E'.nx ρ' M') → s ρ M E') : wSeq s rest ρ M E := h { nx := fun ρ1 M1 => rest ρ1 M1 E, rt := E.rt, bk := E.bk, ct := E.ct, xc := E.xc } fun _ _ h => h
def pD (p : List Int × Int) : D := .tup [tI p.1, .int p.2]
theorem zip_pD : ∀ (ks : List (List Int)) (ns : List Int), zipD (ks.map fun z => .tup (z.map .int)) (ns.map .int) = (ks.zip ns).map pD
 | [], [] => rfl
 | [], _ :: _ => rfl
 | _ :: _, [] => rfl
 | k :: ks, n :: ns => congrArg (pD (k, n) :: ·) (zip_pD ks ns)
theorem ints_range (r : Nat) : intsFrom 0 ((r : Int)).toNat = (List.range r).map fun (k : Nat) => D.int (k : Int) := by
 rw [List.range_eq_range', Int.toNat_natCast]
 exact DP.Lat.intsFrom_map 0 r
theorem getD_int {z : List Int} {T : ST} : (getT T.1 (T.2.map D.int) z).getD (.int 0) = .int ((getT T.1 T.2 z).getD 0) := by
 rw [DP.getT_int]
 cases getT T.1 T.2 z <;> rfl
def Kp (M M' : MH) : Prop := ∀ a o, M a = some o → M' a = some o
theorem log_lt {t : Int} {n : Nat} (h : t.natAbs < 2 ^ n) (hn : n ≤ 9000) : t.natAbs.log2 < 9000 := by
 by_cases c : t.natAbs = 0
 ·rw [c]; decide
 ·exact (Nat.log2_lt c).mpr (Nat.lt_of_lt_of_le h (Nat.pow_le_pow_right (by decide) hn))
end Rsd
def sp_strewn : WF := fun ds M k _ => ∃ (ms : List Int) (T : ST) (s : List Int) (t : Int) (A N : Nat), ds = [.dlT T.1 (T.2.map .int), .tup [tI s, .int t], tI ms] ∧ (∀ m ∈ ms, 1 ≤ m) ∧ prodM ms ≤ 40 ∧ ms.length ≤ 64 ∧ s.length = ms.length ∧ (∀ x ∈ s, x.natAbs < 2 ^ 7900) ∧ 0 ≤ t ∧ t.natAbs < 2 ^ 7900 ∧ STok ms A T ∧ A < 2 ^ N ∧ N ≤ 150000 ∧
 ∀ M', Kp M M' → k (.dlT (strewnT ms T (s, t)).1 ((strewnT ms T (s, t)).2.map .int)) M'
def N_strewn : List Str := ["sums", "loop", "moduli", "rounds", "result", "stride", "times", "whole", "rest", "place", "number", "k", "there"]
def w_strewn : WS := (wSeq (wAsg (wVar 1) (wgTup 2 (wgCons (wgN 5) (wgCons (wgN 6) wgNil))))
 (wSeq (wSet 3 (wCall (wfOf m_period) 2 (wCons (wVar 5) (wCons (wVar 2) wNil))))
 (wSeq (wAsg (wCB rDivmod (wCons (wVar 6) (wCons (wVar 3) wNil))) (wgTup 2 (wgCons (wgN 7) (wgCons (wgN 8) wgNil))))
 (wSeq (wSet 4 wDnewT)
 (wSeq (wFor (wiItemsT (wVar 0)) (wgTup 2 (wgCons (wgN 9) (wgCons (wgN 10) wgNil))) (wFor (wiR1 (wVar 3)) (wgN 11) (wSeq (wSet 12 (wCall (wfOf m_residue) 2 (wCons (wCallV (wfOf m_add) 1 (wCons (wVar 9) (wCons (wCall (wfOf m_scale) 2 (wCons (wVar 11) (wCons (wVar 5) wNil))) wNil))) (wCons (wVar 2) wNil))))
 (wDputT (wVar 4) (wVar 12) (wOp rAdd (wDGet2T (wVar 4) (wVar 12) (wC (.int 0))) (wOp rMul (wVar 10) (wOp rAdd (wVar 7) (wCB rInt1 (wCons (wOp rLt (wVar 11) (wVar 8)) wNil)))))))))
 (wFrzT 4 (wRet (wVar 4))))))))
theorem hw_strewn (ds : List D) (M : MH) (k : KD) (x : KE) (_ : ds.length = 3) (h : sp_strewn ds M k x) : w_strewn (startD N_strewn ds) M (retE k x) := by
 obtain ⟨ms, T, s, t, A, N, rfl, hm, hp, hl, hs, hsb, h0, htb, hT, hA, hN, hk⟩ := h
 unfold w_strewn
 have Lpe := @perR_d
 have Lre := @residue_d
 have Lsc := @scale_d
 have Lad := @add_d
 generalize m_period = f_pe at Lpe ⊢
 generalize m_residue = f_re at Lre ⊢
 generalize m_scale = f_sc at Lsc ⊢
 generalize m_add = f_ad at Lad ⊢
 have hr := perR_bd (s := s) hm hp
 have hnz : ∀ m ∈ ms, m ≠ 0 := fun m hx => by have := hm m hx; omega
 refine seq_all fun n h => ?_
 walk_at "w"
 refine h _ _ ?_
 clear h
 try dsimp only [List.set_cons_zero, List.set_cons_succ]
 refine seq_all fun n h => ?_
 walk_at "w"
 rw [Lpe hs hm hp (by omega) hsb (by decide)]
 walk_at "w"
 refine h _ _ ?_
 clear h
 try dsimp only [List.set_cons_zero, List.set_cons_succ]
 have es : strewnT ms T (s, t) = foldT ms s t (perR s ms) (T.1.zip T.2) ([], []) := rfl
 rw [es] at hk
 generalize perR s ms = r at hr hk ⊢
 refine seq_all fun n h => ?_
 walk_at "w"
 refine ⟨⟨by omega, log_lt (n := 10) (by omega) (by decide)⟩, ?_⟩
 walk_at "w"
 refine h _ _ ?_
 clear h
 try dsimp only [List.set_cons_zero, List.set_cons_succ]
 refine seq_all fun n h => ?_
 walk_at "w"
 intro pp hpp
 refine h _ (mupd M pp (.dcT [] [])) ?_
 clear h
 try dsimp only [List.set_cons_zero, List.set_cons_succ]
 refine seq_all fun n h => ?_
 walk_at "w"
 refine ⟨T.1, T.2.map .int, rfl, fun z hz => by rw [inBox_len (hT.box z hz)]; exact hl, ?_⟩
 rw [zip_pD]
 refine forD_inv (fun ds ρ M' => ∃ (ps : List (List Int × Int)) (T' : ST) (B : Nat), ds = ps.map pD ∧ foldT ms s t r ps T' = foldT ms s t r (T.1.zip T.2) ([], []) ∧ STok ms B T' ∧ (∀ p ∈ ps, p.1.length = ms.length ∧ p.2.natAbs ≤ A) ∧ M' pp = some (.dcT T'.1 (T'.2.map .int)) ∧ Kp M M' ∧ ∃ o9 o10 o11 o12, ρ = [some (.dlT T.1 (T.2.map .int)), some (.tup [tI s, .int t]), some (tI ms), some (.int (r : Int)), some (.ref pp), some (tI s), some (.int t), some (.int (t.fdiv r)), some (.int (t.fmod r)), o9, o10, o11, o12]) (fun _ _ _ _ => trivial) (fun ρ M' hI => ?_) (fun d0 rr ρ M' nx hI hn => ?_) _ _ _ ⟨T.1.zip T.2, ([], []), 0, rfl, rfl, STok.nil, fun p hq => ⟨inBox_len (hT.box p.1 (List.of_mem_zip hq).1), hT.bd p.2 (List.of_mem_zip hq).2⟩, mupd_same, (Kp.refl M).upd hpp, _, _, _, _, rfl⟩
 ·obtain ⟨ps, T', B, he, hf, hT', _, hM, hK, o9, o10, o11, o12, rfl⟩ := hI
  have : ps = [] := by cases ps with | nil => rfl | cons _ _ => cases he
  subst this
  have hf : T' = foldT ms s t r (T.1.zip T.2) ([], []) := hf
  refine h _ _ ?_
  clear h
  refine ⟨pp, T'.1, T'.2.map .int, rfl, hM, ?_⟩
  try dsimp only [List.set_cons_zero, List.set_cons_succ]
  walk_at "w"
  rw [hf]
  exact Lt.now (hk _ (hK.del hpp))
 clear h
 obtain ⟨ps, T', B, he, hf, hT', hps, hM, hK, o9, o10, o11, o12, rfl⟩ := hI
 cases ps with
 | nil => cases he
 | cons p ps =>
 obtain ⟨z, nu⟩ := p
 cases he
 obtain ⟨hz, hnu⟩ := hps (z, nu) List.mem_cons_self
 walk_at "w"
 refine ⟨by omega, by omega, ?_⟩
 rw [ints_range]
 refine forD_inv (fun ds ρ M' => ∃ (js : List Nat) (T1 : ST) (B1 : Nat), ds = js.map (fun (j : Nat) => D.int (j : Int)) ∧ turnT ms s t r (z, nu) js T1 = turnT ms s t r (z, nu) (List.range r) T' ∧ STok ms B1 T1 ∧ (∀ j ∈ js, j < 40) ∧ M' pp = some (.dcT T1.1 (T1.2.map .int)) ∧ Kp M M' ∧ ∃ o11 o12, ρ = [some (.dlT T.1 (T.2.map .int)), some (.tup [tI s, .int t]), some (tI ms), some (.int (r : Int)), some (.ref pp), some (tI s), some (.int t), some (.int (t.fdiv r)), some (.int (t.fmod r)), some (tI z), some (.int nu), o11, o12]) (fun _ _ _ _ => trivial) (fun ρ M' hI => ?_) (fun d0 rr ρ M' nx2 hI hn2 => ?_) _ _ _ ⟨List.range r, T', B, rfl, rfl, hT', fun j hj => by have := List.mem_range.mp hj; omega, hM, hK, _, _, rfl⟩
 ·obtain ⟨js, T1, B1, he, hf1, hT1, _, hM1, hK1, o11, o12, rfl⟩ := hI
  have : js = [] := by cases js with | nil => rfl | cons _ _ => cases he
  subst this
  have hf1 : T1 = turnT ms s t r (z, nu) (List.range r) T' := hf1
  refine hn _ _ ⟨ps, T1, B1, rfl, ?_, hT1, fun q hq => hps q (List.mem_cons_of_mem _ hq), hM1, hK1, _, _, _, _, rfl⟩
  rw [← hf, hf1]
  rfl
 obtain ⟨js, T1, B1, he, hf1, hT1, hjs, hM1, hK1, o11, o12, rfl⟩ := hI
 cases js with
 | nil => cases he
 | cons j js =>
 cases he
 have hj := hjs j List.mem_cons_self
 try dsimp only [wgN, List.set_cons_zero, List.set_cons_succ]
 refine seq_all fun n h => ?_
 walk_at "w"
 rw [Lsc (k := (j : Int)) (v := s) fun x hx => mulB_of (a := 6) (b := 7900) (by omega) (hsb x hx) (by decide)]
 walk_at "w"
 rw [show f_ad (List.take 1 [tI z, tI (vscale (j : Int) s)] ++ [.tup (List.drop 1 [tI z, tI (vscale (j : Int) s)])]) = .ok (tI (vadd z (vscale (j : Int) s))) from Lad (a := z) (vs := [vscale (j : Int) s])]
 walk_at "w"
 rw [Lre hnz]
 walk_at "w"
 refine h _ _ ?_
 clear h
 try dsimp only [List.set_cons_zero, List.set_cons_succ]
 have hb := resV_box (as := vadd z (vscale (j : Int) s)) (vadd_lenW hz (by rw [vscale_len, hs])) hm
 have hadd := hT1.add (n := nu * cntR t r j) hb (Nat.le_refl _)
 have hf2 : turnT ms s t r (z, nu) js (addT T1 (resV (vadd z (vscale (j : Int) s)) ms) (nu * cntR t r j)) = turnT ms s t r (z, nu) (List.range r) T' := hf1
 have hcnt := cnt_bd (k := j) h0 hr.1
 have hfew := hT1.few hm hp
 generalize resV (vadd z (vscale (j : Int) s)) ms = y at hb hadd hf2 ⊢
 walk_at "w"
 refine ⟨pp, T1.1, T1.2.map .int, rfl, hM1, ?_⟩
 walk_at "w"
 show onKey (tI y) _
 unfold onKey
 rw [show keyD (tI y) = some y from keyD_tI y]
 refine ⟨T1.1, T1.2.map .int, hM1, ?_⟩
 rw [getD_int]
 walk_at "w"
 obtain ⟨c, hc, hc2⟩ : ∃ c : Int, (if decide ((j : Int) < t.fmod r) = true then (1 : Int) else 0) = c ∧ cntR t r j = t.fdiv r + c := ⟨_, rfl, by
  unfold cntR
  by_cases q : (j : Int) < t.fmod r
  ·rw [if_pos q, decide_eq_true q]; rfl
  ·rw [if_neg q, decide_eq_false q]; rfl⟩
 rw [hc]
 refine ⟨mulOk_w (a := N + 1) (b := 7901) (Nat.lt_of_le_of_lt hnu (Nat.lt_of_lt_of_le hA (Nat.pow_le_pow_right (by decide) (by omega)))) (by
  rw [← hc2]
  refine Nat.lt_of_le_of_lt hcnt ?_
  rw [show 2 ^ 7901 = 2 ^ 7900 + 2 ^ 7900 by rw [← Nat.two_mul, ← Nat.pow_succ']]
  have : 1 ≤ 2 ^ 7900 := Nat.one_le_two_pow
  omega) (by omega) (by decide) (by omega), ?_⟩
 rw [← hc2]
 walk_at "w"
 rw [show keyD (tI y) = some y from keyD_tI y]
 refine ⟨pp, T1.1, T1.2.map .int, rfl, hM1, by rw [List.length_map, ← hT1.len]; omega, ?_⟩
 refine hn2 _ _ ⟨js, addT T1 y (nu * cntR t r j), _, rfl, hf2, hadd, fun q hq => hjs q (List.mem_cons_of_mem _ hq), ?_, hK1.upd hpp, _, _, rfl⟩
 rw [mupd_same, putXsT_int]
 rfl
end DP
namespace DP
open PySem PySem.Spec PyProof.Rows L2 DL DM DP.Rsd
local macro_rules | `(tactic| walk_at "w") => `(tactic| try conv => whnf)
namespace Rsd
def sumsT (ms : List Int) (q : Tm) : ST := q.ls.foldl (strewnT ms) ([resV q.p ms], [q.n])
def addP (T : ST) (p : List Int × Int) : ST := addT T p.1 p.2
def mergeT (T U : ST) : ST := (U.1.zip U.2).foldl addP T
def resT (ms : List Int) (ts : List Tm) : ST := ts.foldl (fun acc q => mergeT acc (sumsT ms q)) ([], [])
def valT (T : ST) (z : List Int) : Int := (getT T.1 T.2 z).getD 0
def outT (T : ST) : List (List Int × Int) := ((isort lzB T.1).filter fun z => !decide (valT T z = 0)).map fun z => (z, valT T z)
def pQ (T : ST) (d : D) : Bool := match keyD d with
 | some z => !decide (valT T z = 0)
 | none => false
def fQ (T : ST) (d : D) : D := match keyD d with
 | some z => pD (z, valT T z)
 | none => .non
theorem pQ_t {T : ST} {z : List Int} : pQ T (.tup (z.map .int)) = !decide (valT T z = 0) := by
 unfold pQ
 rw [keyD_tI z]
theorem fQ_t {T : ST} {z : List Int} : fQ T (.tup (z.map .int)) = pD (z, valT T z) := by
 unfold fQ
 rw [keyD_tI z]
structure TmR (W : Nat) (q : Tm) : Prop where
 p : q.p.length = W
 n : q.n.natAbs < 2 ^ 90000
 l : q.ls.length ≤ 6
 s : ∀ x ∈ q.ls, x.1.length = W ∧ (∀ y ∈ x.1, y.natAbs < 2 ^ 7900) ∧ 0 ≤ x.2 ∧ x.2.natAbs < 2 ^ 7900
end Rsd
def sp_residue_sums : WF := fun ds M k _ => ∃ (W : Nat) (ms : List Int) (s : List Int) (ts : List Tm), ds = [effD W s ts, tI ms] ∧ ms.length = W ∧ 1 ≤ W ∧ W ≤ 64 ∧ (∀ m ∈ ms, 1 ≤ m) ∧ prodM ms ≤ 40 ∧ (∀ q ∈ ts, TmR W q) ∧ ∀ M', Kp M M' → k (.lst ((outT (resT ms ts)).map pD)) M'
def N_residue_sums : List Str := ["effect", "moduli", "result", "number", "place", "loops", "sums", "loop", "there", "amount"]
def w_residue_sums : WS := (wSeq (wDrop (wCall (wfOf m_check_moduli) 2 (wCons (wProp "Effect" m_Effect_dimension (wVar 0)) (wCons (wVar 1) wNil))))
 (wSeq (wSet 2 wDnewT)
 (wSeq (wFor (wiSeq (wMeth "Effect" "terms" (wfOf m_Effect_terms) 1 (wVar 0) wNil)) (wgTup 3 (wgCons (wgN 3) (wgCons (wgN 4) (wgCons (wgN 5) wgNil)))) (wSeq (wSet 6 (wLckT (wDsp1T (wCall (wfOf m_residue) 2 (wCons (wVar 4) (wCons (wVar 1) wNil))) (wVar 3))))
 (wSeq (wFor (wiSeq (wVar 5)) (wgN 7) (wSet 6 (wCall sp_strewn 3 (wCons (wVar 6) (wCons (wVar 7) (wCons (wVar 1) wNil))))))
 (wFor (wiItemsT (wVar 6)) (wgTup 2 (wgCons (wgN 8) (wgCons (wgN 9) wgNil))) (wDputT (wVar 2) (wVar 8) (wOp rAdd (wDGet2T (wVar 2) (wVar 8) (wC (.int 0))) (wVar 9)))))))
 (wRet (wLc (wiSeq (wCB rSortedDT (wCons (wVar 2) wNil))) (wgN 8) (wTest (wOp rNe (wDgT (wVar 2) (wVar 8)) (wC (.int 0)))) (wTup (wCons (wVar 8) (wCons (wDgT (wVar 2) (wVar 8)) wNil))) [8])))))
theorem rs_out {T : ST} {ms : List Int} {B : Nat} {pp : Addr} {M : MH} {o0 o1 o3 o4 o5 o6 o7 o8 o9 : Option D} {E : EndsD} (hT : STok ms B T) (h1 : 1 ≤ ms.length) (h64 : ms.length ≤ 64) (hM : M pp = some (.dcT T.1 (T.2.map .int))) (h : E.rt (.lst ((outT T).map pD)) M) :
  wRet (wLc (wiSeq (wCB rSortedDT (wCons (wVar 2) wNil))) (wgN 8) (wTest (wOp rNe (wDgT (wVar 2) (wVar 8)) (wC (.int 0)))) (wTup (wCons (wVar 8) (wCons (wDgT (wVar 2) (wVar 8)) wNil))) [8]) [o0, o1, some (.ref pp), o3, o4, o5, o6, o7, o8, o9] M E := by
 have hg : ∀ z, z ∈ isort lzB T.1 → getT T.1 (T.2.map D.int) z = some (.int (valT T z)) := fun z hz => by
  have hz := (isort_perm lzB T.1).mem_iff.mp hz
  have : (getT T.1 T.2 z).isSome = true := by rw [getT_some hT.len]; exact decide_eq_true hz
  obtain ⟨v, hv⟩ := Option.isSome_iff_exists.mp this
  rw [DP.getT_int]
  unfold valT
  rw [hv]; rfl
 have e : ((tupsZ (isort lzB T.1)).filter (pQ T)).map (fQ T) = (outT T).map pD := by
  unfold outT tupsZ
  rw [List.filter_map, List.map_map, List.map_map, show (pQ T ∘ fun z : List Int => D.tup (z.map .int)) = fun z => !decide (valT T z = 0) from funext fun z => pQ_t]
  exact List.map_congr_left fun z _ => fQ_t
 walk_at "w"
 rw [show ctD (.ref pp) M = some (.dt T.1 (T.2.map .int)) from by show (match M pp with | some m => ctO m | none => none) = _; rw [hM]; rfl]
 walk_at "w"
 refine ⟨fun z hz => ?_, ?_⟩
 ·have := inBox_len (hT.box z hz)
  exact ⟨fun e => by rw [e] at this; simp at this; omega, by omega⟩
 rw [← e] at h
 refine compD_filter (pQ T) (fQ T) _ trivial (fun d hd k1 k2 hk1 hk2 => ?_) h
 obtain ⟨z, hz, rfl⟩ := List.mem_map.mp hd
 have hv := hg z hz
 rw [pQ_t] at hk1 hk2
 rw [fQ_t] at hk1
 walk_at "w"
 refine ⟨pp, T.1, T.2.map .int, rfl, hM, ?_⟩
 unfold onKey
 rw [keyD_tI z]
 show onO (getT T.1 (T.2.map D.int) z) _
 rw [hv]
 walk_at "w"
 by_cases c : valT T z = 0
 ·rw [decide_eq_true c] at hk2 ⊢
  exact hk2 rfl
 ·rw [decide_eq_false c] at hk1 ⊢
  walk_at "w"
  refine ⟨pp, T.1, T.2.map .int, rfl, hM, ?_⟩
  unfold onKey
  rw [keyD_tI z]
  show onO (getT T.1 (T.2.map D.int) z) _
  rw [hv]
  walk_at "w"
  exact hk1 rfl
def rsR (E W : D) (pp : Addr) (o3 o4 o5 o6 o7 o8 o9 : Option D) : Rh := [some E, some W, some (.ref pp), o3, o4, o5, o6, o7, o8, o9]
theorem hw_residue_sums (ds : List D) (M : MH) (k : KD) (x : KE) (_ : ds.length = 2) (h : sp_residue_sums ds M k x) : w_residue_sums (startD N_residue_sums ds) M (retE k x) := by
 obtain ⟨W, ms, s, ts, rfl, hl, hW1, hW64, hm, hp, hts, hk⟩ := h
 unfold w_residue_sums
 have Lcm := @moduli_d
 have Lre := @residue_d
 have Let := @eterms_d
 have Led : m_Effect_dimension [effD W s ts] = .ok (.int W) := by rw [m_Effect_dimension_eq]; rfl
 generalize m_check_moduli = f_cm at Lcm ⊢
 generalize m_residue = f_re at Lre ⊢
 generalize m_Effect_terms = f_et at Let ⊢
 generalize m_Effect_dimension = f_ed at Led ⊢
 have hnz : ∀ m ∈ ms, m ≠ 0 := fun m hx => by have := hm m hx; omega
 refine seq_all fun n h => ?_
 walk_at "w"
 rw [Led]
 walk_at "w"
 rw [Lcm hl hm hp]
 walk_at "w"
 refine h _ _ ?_
 clear h
 refine seq_all fun n h => ?_
 walk_at "w"
 intro pp hpp
 refine h _ (mupd M pp (.dcT [] [])) ?_
 clear h
 try dsimp only [List.set_cons_zero, List.set_cons_succ]
 refine seq_all fun n h => ?_
 walk_at "w"
 rw [Let]
 walk_at "w"
 refine forD_inv (fun ds ρ M' => ∃ (qs : List Tm) (T' : ST) (B : Nat), ds = qs.map tmD ∧ qs.foldl (fun acc q => mergeT acc (sumsT ms q)) T' = resT ms ts ∧ STok ms B T' ∧ (∀ q ∈ qs, TmR W q) ∧ M' pp = some (.dcT T'.1 (T'.2.map .int)) ∧ Kp M M' ∧ ∃ o3 o4 o5 o6 o7 o8 o9, ρ = rsR (effD W s ts) (tI ms) pp o3 o4 o5 o6 o7 o8 o9) (fun _ _ _ _ => trivial) (fun ρ M' hI => ?_) (fun d0 rr ρ M' nx hI hn => ?_) _ _ _ ⟨ts, ([], []), 0, rfl, rfl, STok.nil, hts, mupd_same, (Kp.refl M).upd hpp, _, _, _, _, _, _, _, rfl⟩
 ·obtain ⟨qs, T', B, he, hf, hT', _, hM, hK, o3, o4, o5, o6, o7, o8, o9, rfl⟩ := hI
  have : qs = [] := by cases qs with | nil => rfl | cons _ _ => cases he
  subst this
  have hf : T' = resT ms ts := hf
  refine h _ _ ?_
  clear h
  refine rs_out hT' (by omega) (by omega) hM ?_
  rw [hf]
  exact Lt.now (hk _ hK)
 clear h
 obtain ⟨qs, T', B, he, hf, hT', hqs, hM, hK, o3, o4, o5, o6, o7, o8, o9, rfl⟩ := hI
 cases qs with
 | nil => cases he
 | cons q qs =>
 cases he
 have hq := hqs q List.mem_cons_self
 unfold rsR at *
 show wSeq (wSet 6 (wLckT (wDsp1T (wCall (wfOf f_re) 2 (wCons (wVar 4) (wCons (wVar 1) wNil))) (wVar 3))))
   (wSeq (wFor (wiSeq (wVar 5)) (wgN 7) (wSet 6 (wCall sp_strewn 3 (wCons (wVar 6) (wCons (wVar 7) (wCons (wVar 1) wNil))))))
    (wFor (wiItemsT (wVar 6)) (wgTup 2 (wgCons (wgN 8) (wgCons (wgN 9) wgNil))) (wDputT (wVar 2) (wVar 8) (wOp DL.rAdd (wDGet2T (wVar 2) (wVar 8) (wC (D.int 0))) (wVar 9)))))
  [some (effD W s ts), some (tI ms), some (.ref pp), some (.int q.n), some (tI q.p), some (.tup (q.ls.map ltD)), o6, o7, o8, o9] M' { nx := nx, rt := n.rt, bk := n.nx, ct := nx, xc := n.xc }
 refine seq_all fun n h => ?_
 walk_at "w"
 rw [Lre hnz]
 walk_at "w"
 rw [show keyD (tI (resV q.p ms)) = some (resV q.p ms) from keyD_tI _]
 intro pa hpa
 have hne : pp ≠ pa := fun e => by rw [e, hpa] at hM; cases hM
 refine ⟨pa, [resV q.p ms], [.int q.n], rfl, mupd_same, ?_⟩
 have hM2 : (mdel (mupd M' pa (.dcT [resV q.p ms] [.int q.n])) pa) pp = some (.dcT T'.1 (T'.2.map .int)) := by rw [mdel_ne hne, mupd_ne hne]; exact hM
 have hK2 : Kp M (mdel (mupd M' pa (.dcT [resV q.p ms] [.int q.n])) pa) := fun a o ha => by
  have : a ≠ pa := fun e => by rw [← e] at hpa; rw [hK a o ha] at hpa; cases hpa
  rw [mdel_ne this, mupd_ne this]; exact hK a o ha
 refine h _ _ ?_
 clear h
 generalize mdel (mupd M' pa (.dcT [resV q.p ms] [.int q.n])) pa = M2 at hM2 hK2 ⊢
 try dsimp only [List.set_cons_zero, List.set_cons_succ]
 have hT1 : STok ms q.n.natAbs ([resV q.p ms], [q.n]) := ⟨rfl, by simp, fun z hz => by rw [List.mem_singleton.mp hz]; exact resV_box (by rw [hq.p, hl]) hm, fun v hv => by rw [List.mem_singleton.mp hv]; exact Nat.le_refl _⟩
 refine seq_all fun n h => ?_
 walk_at "w"
 refine forD_inv (fun ds ρ M3 => ∃ (ls : List (List Int × Int)) (T1 : ST) (A N : Nat), ds = ls.map ltD ∧ ls.foldl (strewnT ms) T1 = sumsT ms q ∧ STok ms A T1 ∧ A < 2 ^ N ∧ N + 7912 * ls.length ≤ 150000 ∧ (∀ l ∈ ls, l ∈ q.ls) ∧ M3 pp = some (.dcT T'.1 (T'.2.map .int)) ∧ Kp M M3 ∧ ∃ o7, ρ = [some (effD W s ts), some (tI ms), some (.ref pp), some (.int q.n), some (tI q.p), some (.tup (q.ls.map ltD)), some (.dlT T1.1 (T1.2.map .int)), o7, o8, o9]) (fun _ _ _ _ => trivial) (fun ρ M3 hI => ?_) (fun d0 rr ρ M3 nx2 hI hn2 => ?_) _ _ _ ⟨q.ls, _, _, 90000, rfl, rfl, hT1, hq.n, by have := hq.l; omega, fun _ h => h, hM2, hK2, _, rfl⟩
 rotate_left
 ·obtain ⟨ls, T1, A, N, he, hf1, hT1, hA, hN, hin, hM3, hK3, o7, rfl⟩ := hI
  cases ls with
  | nil => cases he
  | cons l ls =>
  cases he
  obtain ⟨c1, c2, c3, c4⟩ := hq.s l (hin l List.mem_cons_self)
  rw [List.length_cons] at hN
  walk_at "w"
  refine ⟨ms, T1, l.1, l.2, A, N, rfl, hm, hp, by omega, by rw [c1, hl], c2, c3, c4, hT1, hA, by omega, fun M4 hK4 => ?_⟩
  exact hn2 _ _ ⟨ls, strewnT ms T1 l, _, N + 7912, rfl, hf1, strewn_ok (by rw [c1, hl]) hm hp c3 hT1, grow hA c4, by omega, fun y hy => hin y (List.mem_cons_of_mem _ hy), hK4 _ _ hM3, hK3.trans hK4, _, rfl⟩
 obtain ⟨ls, T1, A, N, he, hf1, hT1, _, _, _, hM3, hK3, o7, rfl⟩ := hI
 have : ls = [] := by cases ls with | nil => rfl | cons _ _ => cases he
 subst this
 have hf1 : T1 = sumsT ms q := hf1
 refine h _ _ ?_
 clear h
 walk_at "w"
 refine ⟨T1.1, T1.2.map .int, rfl, fun z hz => by rw [inBox_len (hT1.box z hz)]; omega, ?_⟩
 rw [zip_pD]
 refine forD_inv (fun ds ρ M4 => ∃ (ps : List (List Int × Int)) (T2 : ST) (B2 : Nat), ds = ps.map pD ∧ ps.foldl addP T2 = mergeT T' (sumsT ms q) ∧ STok ms B2 T2 ∧ (∀ p ∈ ps, inBox p.1 ms) ∧ M4 pp = some (.dcT T2.1 (T2.2.map .int)) ∧ Kp M M4 ∧ ∃ o6 o7 o8 o9, ρ = [some (effD W s ts), some (tI ms), some (.ref pp), some (.int q.n), some (tI q.p), some (.tup (q.ls.map ltD)), o6, o7, o8, o9]) (fun _ _ _ _ => trivial) (fun ρ M4 hI => ?_) (fun d0 rr ρ M4 nx3 hI hn3 => ?_) _ _ _ ⟨T1.1.zip T1.2, T', B, rfl, by rw [hf1]; rfl, hT', fun p hq => hT1.box p.1 (List.of_mem_zip hq).1, hM3, hK3, _, _, _, _, rfl⟩
 ·obtain ⟨ps, T2, B2, he, hf2, hT2, _, hM4, hK4, o6, o7, o8, o9, rfl⟩ := hI
  have : ps = [] := by cases ps with | nil => rfl | cons _ _ => cases he
  subst this
  have hf2 : T2 = mergeT T' (sumsT ms q) := hf2
  refine hn _ _ ⟨qs, T2, B2, rfl, ?_, hT2, fun q hq => hqs q (List.mem_cons_of_mem _ hq), hM4, hK4, _, _, _, _, _, _, _, rfl⟩
  rw [← hf, hf2]
  rfl
 obtain ⟨ps, T2, B2, he, hf2, hT2, hps, hM4, hK4, o6, o7, o8, o9, rfl⟩ := hI
 cases ps with
 | nil => cases he
 | cons p ps =>
 obtain ⟨z, nu⟩ := p
 cases he
 have hz := hps (z, nu) List.mem_cons_self
 have hfew := hT2.few hm hp
 walk_at "w"
 refine ⟨pp, T2.1, T2.2.map .int, rfl, hM4, ?_⟩
 walk_at "w"
 show onKey (tI z) _
 unfold onKey
 rw [show keyD (tI z) = some z from keyD_tI z]
 refine ⟨T2.1, T2.2.map .int, hM4, ?_⟩
 rw [getD_int]
 walk_at "w"
 rw [show keyD (tI z) = some z from keyD_tI z]
 refine ⟨pp, T2.1, T2.2.map .int, rfl, hM4, by rw [List.length_map, ← hT2.len]; omega, ?_⟩
 refine hn3 _ _ ⟨ps, addP T2 (z, nu), _, rfl, hf2, hT2.add hz (Nat.le_refl nu.natAbs), fun q hq => hps q (List.mem_cons_of_mem _ hq), ?_, fun a o ha => ?_, _, _, _, _, rfl⟩
 ·rw [mupd_same, putXsT_int]
  rfl
 ·have : a ≠ pp := fun e => by rw [e, hpp] at ha; cases ha
  rw [mupd_ne this]; exact hK4 a o ha
end DP
namespace DP
open PySem PySem.Spec PyProof.Rows L2 DL DM
local macro_rules | `(tactic| walk_at "r") => `(tactic| conv => lhs; whnf)
section
variable {W e L : Nat} {s s' : List Int} {ts ts' : List Tm} {t : Int}
theorem fwd_neg : ∀ {v : List Int}, v ≠ vzero v.length → fwd v = false → fwd (vscale (-1) v) = true
 | [], h, _ => absurd rfl h
 | x :: r, h, hf => by
  rw [fwd_cons] at hf
  show fwd ((-1 * x) :: vscale (-1) r) = true
  rw [fwd_cons]
  by_cases hx : x = 0
  ·rw [if_pos hx] at hf
   rw [if_pos (by omega)]
   refine fwd_neg (fun z => h ?_) hf
   rw [hx, z]
   show 0 :: vzero r.length = 0 :: vzero (vzero r.length).length
   rw [show (vzero r.length).length = r.length from List.length_replicate]
  ·rw [if_neg hx] at hf
   have := of_decide_eq_false hf
   rw [if_neg (by omega)]
   exact decide_eq_true (by omega)
theorem fold_ok {c E : Nat} : ∀ (ls : List (List Int × Int)) (q : Tm) (m : Nat), (∀ l, l ∈ ls → l.1.length = W ∧ (∀ x, x ∈ l.1 → x.natAbs < 2 ^ c) ∧ l.2.natAbs < 2 ^ c ∧ l.2 ≠ 0) → q.n ≠ 0 → q.n.natAbs < 2 ^ m → m + ls.length * c ≤ E → c ≤ E → q.p.length = W →
  (∀ l, l ∈ q.ls → l.1.length = W ∧ (∀ x, x ∈ l.1 → x.natAbs < 2 ^ E) ∧ l.2.natAbs < 2 ^ E) → (∀ l, l ∈ q.ls → l.2 ≠ 0) → (∀ l, l ∈ q.ls → fwd l.1 = true) → q.ls.length + ls.length ≤ L → TmOk W E L (ls.foldl (tmStep W) q)
 | [], q, m, _, h1, h2, h3, _, h5, h6, h7, h8, h9 => ⟨h1, Nat.lt_of_lt_of_le h2 (Nat.pow_le_pow_right (by decide) (by omega)), h5, Nat.le_trans (Nat.le_add_right _ _) h9, h6, h7, h8⟩
 | l :: r, q, m, h, h1, h2, h3, h4, h5, h6, h7, h8, h9 => by
  obtain ⟨g1, g2, g3, g4⟩ := h l List.mem_cons_self
  have hr := fun y hy => h y (List.mem_cons_of_mem _ hy)
  have u : ∀ {x : Int}, x.natAbs < 2 ^ c → x.natAbs < 2 ^ E := fun g => Nat.lt_of_lt_of_le g (Nat.pow_le_pow_right (by decide) h4)
  rw [List.length_cons, Nat.add_mul, Nat.one_mul] at h3
  rw [List.length_cons] at h9
  rw [List.foldl_cons]
  unfold tmStep
  by_cases hz : l.1 = vzero W
  ·rw [if_pos hz]
   refine fold_ok r ⟨q.n * l.2, q.p, q.ls⟩ (m + c) hr (Int.mul_ne_zero h1 g4) ?_ (by omega) h4 h5 h6 h7 h8 (by show q.ls.length + _ ≤ _; omega)
   show (q.n * l.2).natAbs < _
   rw [Int.natAbs_mul, Nat.pow_add]
   exact Nat.mul_lt_mul'' h2 g3
  ·rw [if_neg hz]
   by_cases hf : fwd l.1 = true
   ·rw [if_pos hf]
    refine fold_ok r ⟨q.n, q.p, q.ls ++ [l]⟩ m hr h1 h2 (by omega) h4 h5 (fun y hy => ?_) (fun y hy => ?_) (fun y hy => ?_) (by show (q.ls ++ [l]).length + _ ≤ _; rw [List.length_append, List.length_singleton]; omega)
    all_goals rcases List.mem_append.mp hy with hy | hy
    ·exact h6 y hy
    ·rw [List.mem_singleton.mp hy]; exact ⟨g1, fun x hx => u (g2 x hx), u g3⟩
    ·exact h7 y hy
    ·rw [List.mem_singleton.mp hy]; exact g4
    ·exact h8 y hy
    ·rw [List.mem_singleton.mp hy]; exact hf
   ·rw [if_neg hf]
    have hf := Bool.eq_false_iff.mpr hf
    refine fold_ok r ⟨q.n, vadd q.p (vscale (l.2 - 1) l.1), q.ls ++ [(vscale (-1) l.1, l.2)]⟩ m hr h1 h2 (by omega) h4 (by show (vadd q.p (vscale (l.2 - 1) l.1)).length = W; rw [vadd_len (by rw [vscale_len, h5, g1]), h5]) (fun y hy => ?_) (fun y hy => ?_) (fun y hy => ?_) (by show (q.ls ++ [_]).length + _ ≤ _; rw [List.length_append, List.length_singleton]; omega)
    all_goals rcases List.mem_append.mp hy with hy | hy
    ·exact h6 y hy
    ·rw [List.mem_singleton.mp hy]
     refine ⟨by rw [vscale_len]; exact g1, fun x hx => ?_, u g3⟩
     obtain ⟨z, hz, rfl⟩ := List.mem_map.mp hx
     have := u (g2 z hz)
     omega
    ·exact h7 y hy
    ·rw [List.mem_singleton.mp hy]; exact g4
    ·exact h8 y hy
    ·rw [List.mem_singleton.mp hy]; exact fwd_neg (by rw [g1]; exact hz) hf
end
end DP
namespace DP.RsM
open PySem PySem.Spec PyProof.Rows L2 DL DM DP
def mD (b : Bool) (ms : List Int) : D := if b then .lst (ms.map .int) else tI ms
local macro_rules | `(tactic| walk_at "r") => `(tactic| conv => lhs; whnf)
def N_residue : List Str := ["place", "moduli", "one", "modulus"]
def M_residue : WMS := (mRet (mCB fTuple (mCons (mLc (miZipM (mVar 0) (mVar 1)) (mgTup 2 (mgCons (mgN 2) (mgCons (mgN 3) mgNil))) mYes (mOp fMod (mVar 2) (mVar 3)) [2, 3]) mNil)))
@[irreducible] def m_residue (ds : List D) : Rs D := callM M_residue N_residue ds
theorem m_residue_eq (ds : List D) : m_residue ds = callM M_residue N_residue ds := by unfold m_residue; rfl
def N_period : List Str := ["stride", "moduli", "rounds"]
def M_period : WMS := (mSeq (mSet 2 (mC (.int 1)))
 (mSeq (mWhile [] (mTest (mOp (fEq fun b => !b) (mCall m_residue 2 (mCons (mCall m_scale 2 (mCons (mVar 2) (mCons (mVar 0) mNil))) (mCons (mVar 1) mNil))) (mCall m_origin 1 (mCons (mCB fLen (mCons (mVar 0) mNil)) mNil)))) (mAug 2 (onV2 (fI0 fun i j => .int (i + j))) (mC (.int 1))))
 (mRet (mVar 2))))
@[irreducible] def m_period (ds : List D) : Rs D := callM M_period N_period ds
theorem m_period_eq (ds : List D) : m_period ds = callM M_period N_period ds := by unfold m_period; rfl
theorem residue_d {as ms : List Int} {bb : Bool} (h : ∀ m ∈ ms, m ≠ 0) : m_residue [tI as, mD bb ms] = .ok (tI (resV as ms)) := by
 rw [m_residue_eq]
 cases bb
 ·show callM M_residue N_residue [tI as, tI ms] = _
  walk_at "r"
  rw [zipD_ints, comp_map (fun p : Int × Int => D.tup [.int p.1, .int p.2]) (fun p => .int (p.1.fmod p.2)) (as.zip ms) fun p hp K X => by
   have hm := h p.2 (List.of_mem_zip hp).2
   show vK (match nzB p.1 p.2 with | true => some (D.int (p.1.fmod p.2)) | false => none) K = _
   rw [show nzB p.1 p.2 = true from decide_eq_true hm]
   rfl]
  walk_at "r"
  rw [← resV_zip]
  show Rs.ok (D.tup _) = Rs.ok (D.tup _)
  rw [List.map_map]
  rfl
 ·show callM M_residue N_residue [tI as, .lst (ms.map .int)] = _
  walk_at "r"
  rw [zipD_ints, comp_map (fun p : Int × Int => D.tup [.int p.1, .int p.2]) (fun p => .int (p.1.fmod p.2)) (as.zip ms) fun p hp K X => by
   have hm := h p.2 (List.of_mem_zip hp).2
   show vK (match nzB p.1 p.2 with | true => some (D.int (p.1.fmod p.2)) | false => none) K = _
   rw [show nzB p.1 p.2 = true from decide_eq_true hm]
   rfl]
  walk_at "r"
  rw [← resV_zip]
  show Rs.ok (D.tup _) = Rs.ok (D.tup _)
  rw [List.map_map]
  rfl
theorem per_loop {s ms : List Int} {bb : Bool} (hm : ∀ m ∈ ms, m ≠ 0) (hs : s.length ≤ 1000) {b : Nat} (hb : ∀ x ∈ s, x.natAbs < 2 ^ b) (hb2 : b ≤ 8000) {E : EndsK} {mt : WMT} {st : WMS} (hmt : mt = (mTest (mOp (fEq fun b => !b) (mCall m_residue 2 (mCons (mCall m_scale 2 (mCons (mVar 2) (mCons (mVar 0) mNil))) (mCons (mVar 1) mNil))) (mCall m_origin 1 (mCons (mCB fLen (mCons (mVar 0) mNil)) mNil)))))
  (hst : st = (mAug 2 (onV2 (fI0 fun i j => .int (i + j))) (mC (.int 1)))) : ∀ (f n r : Nat), f < n → r + f < 2 ^ 20 → perB s ms (r + f) = true →
  whileM [] mt st n [some (.v (tI s)), some (.v (mD bb ms)), some (.v (.int (r : Int)))] E = E.nx [some (.v (tI s)), some (.v (mD bb ms)), some (.v (.int (perF s ms f r : Nat)))]
 | f, 0, _, h, _, _ => absurd h (Nat.not_lt_zero _)
 | f, n + 1, r, h, hr, hp => by
  have key : ∀ K X, mt [some (.v (tI s)), some (.v (mD bb ms)), some (.v (.int (r : Int)))] K X = K (!perB s ms r) := fun K X => by
   subst hmt
   conv => lhs; whnf
   rw [scale_d (k := (r : Int)) (v := s) fun x hx => mulB_of (a := 20) (b := b) (by omega) (hb x hx) (by omega)]
   conv => lhs; whnf
   rw [residue_d hm]
   conv => lhs; whnf
   rw [List.length_map, origin_d (W := s.length) hs]
   conv => lhs; whnf
   rw [tI_eq]
   rfl
  rw [whileM_s]
  show mt [some (.v (tI s)), some (.v (mD bb ms)), some (.v (.int (r : Int)))] _ _ = _
  rw [key]
  cases c : perB s ms r with
  | true =>
   have e : perF s ms f r = r := by
    cases f with
    | zero => rfl
    | succ f => unfold perF; rw [if_pos c]
   rw [e]
   rfl
  | false =>
   cases f with
   | zero => rw [Nat.add_zero] at hp; rw [hp] at c; cases c
   | succ f =>
    have e : perF s ms (f + 1) r = perF s ms f (r + 1) := by
     show (if perB s ms r then r else perF s ms f (r + 1)) = _
     rw [c]; rfl
    rw [e, ← per_loop hm hs hb hb2 hmt hst f n (r + 1) (by omega) (by omega) (by rw [show r + 1 + f = r + (f + 1) by omega]; exact hp)]
    subst hst
    rfl
theorem period_d {s ms : List Int} {bb : Bool} (hm : ∀ m ∈ ms, m ≠ 0) (hs : s.length ≤ 1000) {b : Nat} (hb : ∀ x ∈ s, x.natAbs < 2 ^ b) (hb2 : b ≤ 8000) {f : Nat} (hf : f < 1000) (hp : perB s ms (1 + f) = true) : m_period [tI s, mD bb ms] = .ok (.int (perF s ms f 1 : Nat)) := by
 rw [m_period_eq]
 walk_at "r"
 refine (per_loop hm hs hb hb2 rfl rfl f 1000000 1 (by omega) (by omega) hp).trans ?_
 rfl
end DP.RsM
namespace DP.RsM
open PySem PySem.Spec PyProof.Rows L2 DL DM DP DP.Rsd
local macro_rules | `(tactic| walk_at "w") => `(tactic| try conv => whnf)
theorem perR_d {s ms : List Int} {bb : Bool} (h : s.length = ms.length) (hm : ∀ m ∈ ms, 1 ≤ m) (hp : prodM ms ≤ 40) (hl : s.length ≤ 1000) {b : Nat} (hb : ∀ x ∈ s, x.natAbs < 2 ^ b) (hb2 : b ≤ 8000) : RsM.m_period [tI s, mD bb ms] = .ok (.int (perR s ms : Nat)) :=
 RsM.period_d (fun m hx => by have := hm m hx; omega) hl hb hb2 (by have := prodM_pos hm; omega) (per_prod h hm)
def sp_strewn : WF := fun ds M k _ => ∃ (bb : Bool) (ms : List Int) (T : ST) (s : List Int) (t : Int) (A N : Nat), ds = [.dlT T.1 (T.2.map .int), .tup [tI s, .int t], mD bb ms] ∧ (∀ m ∈ ms, 1 ≤ m) ∧ prodM ms ≤ 40 ∧ ms.length ≤ 64 ∧ s.length = ms.length ∧ (∀ x ∈ s, x.natAbs < 2 ^ 7900) ∧ 0 ≤ t ∧ t.natAbs < 2 ^ 7900 ∧ STok ms A T ∧ A < 2 ^ N ∧ N ≤ 150000 ∧
 ∀ M', Kp M M' → k (.dlT (strewnT ms T (s, t)).1 ((strewnT ms T (s, t)).2.map .int)) M'
def N_strewn : List Str := ["sums", "loop", "moduli", "rounds", "result", "stride", "times", "whole", "rest", "place", "number", "k", "there"]
def w_strewn : WS := (wSeq (wAsg (wVar 1) (wgTup 2 (wgCons (wgN 5) (wgCons (wgN 6) wgNil))))
 (wSeq (wSet 3 (wCall (wfOf RsM.m_period) 2 (wCons (wVar 5) (wCons (wVar 2) wNil))))
 (wSeq (wAsg (wCB rDivmod (wCons (wVar 6) (wCons (wVar 3) wNil))) (wgTup 2 (wgCons (wgN 7) (wgCons (wgN 8) wgNil))))
 (wSeq (wSet 4 wDnewT)
 (wSeq (wFor (wiItemsT (wVar 0)) (wgTup 2 (wgCons (wgN 9) (wgCons (wgN 10) wgNil))) (wFor (wiR1 (wVar 3)) (wgN 11) (wSeq (wSet 12 (wCall (wfOf RsM.m_residue) 2 (wCons (wCallV (wfOf m_add) 1 (wCons (wVar 9) (wCons (wCall (wfOf m_scale) 2 (wCons (wVar 11) (wCons (wVar 5) wNil))) wNil))) (wCons (wVar 2) wNil))))
 (wDputT (wVar 4) (wVar 12) (wOp rAdd (wDGet2T (wVar 4) (wVar 12) (wC (.int 0))) (wOp rMul (wVar 10) (wOp rAdd (wVar 7) (wCB rInt1 (wCons (wOp rLt (wVar 11) (wVar 8)) wNil)))))))))
 (wFrzT 4 (wRet (wVar 4))))))))
theorem hw_strewn (ds : List D) (M : MH) (k : KD) (x : KE) (_ : ds.length = 3) (h : RsM.sp_strewn ds M k x) : w_strewn (startD N_strewn ds) M (retE k x) := by
 obtain ⟨bb, ms, T, s, t, A, N, rfl, hm, hp, hl, hs, hsb, h0, htb, hT, hA, hN, hk⟩ := h
 unfold w_strewn
 have Lpe := @RsM.perR_d
 have Lre := @RsM.residue_d
 have Lsc := @scale_d
 have Lad := @add_d
 generalize RsM.m_period = f_pe at Lpe ⊢
 generalize RsM.m_residue = f_re at Lre ⊢
 generalize m_scale = f_sc at Lsc ⊢
 generalize m_add = f_ad at Lad ⊢
 have hr := perR_bd (s := s) hm hp
 have hnz : ∀ m ∈ ms, m ≠ 0 := fun m hx => by have := hm m hx; omega
 refine seq_all fun n h => ?_
 walk_at "w"
 refine h _ _ ?_
 clear h
 try dsimp only [List.set_cons_zero, List.set_cons_succ]
 refine seq_all fun n h => ?_
 walk_at "w"
 rw [Lpe hs hm hp (by omega) hsb (by decide)]
 walk_at "w"
 refine h _ _ ?_
 clear h
 try dsimp only [List.set_cons_zero, List.set_cons_succ]
 have es : strewnT ms T (s, t) = foldT ms s t (perR s ms) (T.1.zip T.2) ([], []) := rfl
 rw [es] at hk
 generalize perR s ms = r at hr hk ⊢
 refine seq_all fun n h => ?_
 walk_at "w"
 refine ⟨⟨by omega, log_lt (n := 10) (by omega) (by decide)⟩, ?_⟩
 walk_at "w"
 refine h _ _ ?_
 clear h
 try dsimp only [List.set_cons_zero, List.set_cons_succ]
 refine seq_all fun n h => ?_
 walk_at "w"
 intro pp hpp
 refine h _ (mupd M pp (.dcT [] [])) ?_
 clear h
 try dsimp only [List.set_cons_zero, List.set_cons_succ]
 refine seq_all fun n h => ?_
 walk_at "w"
 refine ⟨T.1, T.2.map .int, rfl, fun z hz => by rw [inBox_len (hT.box z hz)]; exact hl, ?_⟩
 rw [zip_pD]
 refine forD_inv (fun ds ρ M' => ∃ (ps : List (List Int × Int)) (T' : ST) (B : Nat), ds = ps.map pD ∧ foldT ms s t r ps T' = foldT ms s t r (T.1.zip T.2) ([], []) ∧ STok ms B T' ∧ (∀ p ∈ ps, p.1.length = ms.length ∧ p.2.natAbs ≤ A) ∧ M' pp = some (.dcT T'.1 (T'.2.map .int)) ∧ Kp M M' ∧ ∃ o9 o10 o11 o12, ρ = [some (.dlT T.1 (T.2.map .int)), some (.tup [tI s, .int t]), some (mD bb ms), some (.int (r : Int)), some (.ref pp), some (tI s), some (.int t), some (.int (t.fdiv r)), some (.int (t.fmod r)), o9, o10, o11, o12]) (fun _ _ _ _ => trivial) (fun ρ M' hI => ?_) (fun d0 rr ρ M' nx hI hn => ?_) _ _ _ ⟨T.1.zip T.2, ([], []), 0, rfl, rfl, STok.nil, fun p hq => ⟨inBox_len (hT.box p.1 (List.of_mem_zip hq).1), hT.bd p.2 (List.of_mem_zip hq).2⟩, mupd_same, (Kp.refl M).upd hpp, _, _, _, _, rfl⟩
 ·obtain ⟨ps, T', B, he, hf, hT', _, hM, hK, o9, o10, o11, o12, rfl⟩ := hI
  have : ps = [] := by cases ps with | nil => rfl | cons _ _ => cases he
  subst this
  have hf : T' = foldT ms s t r (T.1.zip T.2) ([], []) := hf
  refine h _ _ ?_
  clear h
  refine ⟨pp, T'.1, T'.2.map .int, rfl, hM, ?_⟩
  try dsimp only [List.set_cons_zero, List.set_cons_succ]
  walk_at "w"
  rw [hf]
  exact Lt.now (hk _ (hK.del hpp))
 clear h
 obtain ⟨ps, T', B, he, hf, hT', hps, hM, hK, o9, o10, o11, o12, rfl⟩ := hI
 cases ps with
 | nil => cases he
 | cons p ps =>
 obtain ⟨z, nu⟩ := p
 cases he
 obtain ⟨hz, hnu⟩ := hps (z, nu) List.mem_cons_self
 walk_at "w"
 refine ⟨by omega, by omega, ?_⟩
 rw [ints_range]
 refine forD_inv (fun ds ρ M' => ∃ (js : List Nat) (T1 : ST) (B1 : Nat), ds = js.map (fun (j : Nat) => D.int (j : Int)) ∧ turnT ms s t r (z, nu) js T1 = turnT ms s t r (z, nu) (List.range r) T' ∧ STok ms B1 T1 ∧ (∀ j ∈ js, j < 40) ∧ M' pp = some (.dcT T1.1 (T1.2.map .int)) ∧ Kp M M' ∧ ∃ o11 o12, ρ = [some (.dlT T.1 (T.2.map .int)), some (.tup [tI s, .int t]), some (mD bb ms), some (.int (r : Int)), some (.ref pp), some (tI s), some (.int t), some (.int (t.fdiv r)), some (.int (t.fmod r)), some (tI z), some (.int nu), o11, o12]) (fun _ _ _ _ => trivial) (fun ρ M' hI => ?_) (fun d0 rr ρ M' nx2 hI hn2 => ?_) _ _ _ ⟨List.range r, T', B, rfl, rfl, hT', fun j hj => by have := List.mem_range.mp hj; omega, hM, hK, _, _, rfl⟩
 ·obtain ⟨js, T1, B1, he, hf1, hT1, _, hM1, hK1, o11, o12, rfl⟩ := hI
  have : js = [] := by cases js with | nil => rfl | cons _ _ => cases he
  subst this
  have hf1 : T1 = turnT ms s t r (z, nu) (List.range r) T' := hf1
  refine hn _ _ ⟨ps, T1, B1, rfl, ?_, hT1, fun q hq => hps q (List.mem_cons_of_mem _ hq), hM1, hK1, _, _, _, _, rfl⟩
  rw [← hf, hf1]
  rfl
 obtain ⟨js, T1, B1, he, hf1, hT1, hjs, hM1, hK1, o11, o12, rfl⟩ := hI
 cases js with
 | nil => cases he
 | cons j js =>
 cases he
 have hj := hjs j List.mem_cons_self
 try dsimp only [wgN, List.set_cons_zero, List.set_cons_succ]
 refine seq_all fun n h => ?_
 walk_at "w"
 rw [Lsc (k := (j : Int)) (v := s) fun x hx => mulB_of (a := 6) (b := 7900) (by omega) (hsb x hx) (by decide)]
 walk_at "w"
 rw [show f_ad (List.take 1 [tI z, tI (vscale (j : Int) s)] ++ [.tup (List.drop 1 [tI z, tI (vscale (j : Int) s)])]) = .ok (tI (vadd z (vscale (j : Int) s))) from Lad (a := z) (vs := [vscale (j : Int) s])]
 walk_at "w"
 rw [Lre hnz]
 walk_at "w"
 refine h _ _ ?_
 clear h
 try dsimp only [List.set_cons_zero, List.set_cons_succ]
 have hb := resV_box (as := vadd z (vscale (j : Int) s)) (vadd_lenW hz (by rw [vscale_len, hs])) hm
 have hadd := hT1.add (n := nu * cntR t r j) hb (Nat.le_refl _)
 have hf2 : turnT ms s t r (z, nu) js (addT T1 (resV (vadd z (vscale (j : Int) s)) ms) (nu * cntR t r j)) = turnT ms s t r (z, nu) (List.range r) T' := hf1
 have hcnt := cnt_bd (k := j) h0 hr.1
 have hfew := hT1.few hm hp
 generalize resV (vadd z (vscale (j : Int) s)) ms = y at hb hadd hf2 ⊢
 walk_at "w"
 refine ⟨pp, T1.1, T1.2.map .int, rfl, hM1, ?_⟩
 walk_at "w"
 show onKey (tI y) _
 unfold onKey
 rw [show keyD (tI y) = some y from keyD_tI y]
 refine ⟨T1.1, T1.2.map .int, hM1, ?_⟩
 rw [getD_int]
 walk_at "w"
 obtain ⟨c, hc, hc2⟩ : ∃ c : Int, (if decide ((j : Int) < t.fmod r) = true then (1 : Int) else 0) = c ∧ cntR t r j = t.fdiv r + c := ⟨_, rfl, by
  unfold cntR
  by_cases q : (j : Int) < t.fmod r
  ·rw [if_pos q, decide_eq_true q]; rfl
  ·rw [if_neg q, decide_eq_false q]; rfl⟩
 rw [hc]
 refine ⟨mulOk_w (a := N + 1) (b := 7901) (Nat.lt_of_le_of_lt hnu (Nat.lt_of_lt_of_le hA (Nat.pow_le_pow_right (by decide) (by omega)))) (by
  rw [← hc2]
  refine Nat.lt_of_le_of_lt hcnt ?_
  rw [show 2 ^ 7901 = 2 ^ 7900 + 2 ^ 7900 by rw [← Nat.two_mul, ← Nat.pow_succ']]
  have : 1 ≤ 2 ^ 7900 := Nat.one_le_two_pow
  omega) (by omega) (by decide) (by omega), ?_⟩
 rw [← hc2]
 walk_at "w"
 rw [show keyD (tI y) = some y from keyD_tI y]
 refine ⟨pp, T1.1, T1.2.map .int, rfl, hM1, by rw [List.length_map, ← hT1.len]; omega, ?_⟩
 refine hn2 _ _ ⟨js, addT T1 y (nu * cntR t r j), _, rfl, hf2, hadd, fun q hq => hjs q (List.mem_cons_of_mem _ hq), ?_, hK1.upd hpp, _, _, rfl⟩
 rw [mupd_same, putXsT_int]
 rfl
def sp_residue_sums : WF := fun ds M k _ => ∃ (bb : Bool) (W : Nat) (ms : List Int) (s : List Int) (ts : List Tm), ds = [effD W s ts, mD bb ms] ∧ ms.length = W ∧ 1 ≤ W ∧ W ≤ 64 ∧ (∀ m ∈ ms, 1 ≤ m) ∧ prodM ms ≤ 40 ∧ (∀ q ∈ ts, TmR W q) ∧ ∀ M', Kp M M' → k (.lst ((outT (resT ms ts)).map pD)) M'
def N_residue_sums : List Str := ["effect", "moduli", "result", "number", "place", "loops", "sums", "loop", "there", "amount"]
def w_residue_sums : WS := (wSeq (wDrop (wCall (wfOf m_check_moduli) 2 (wCons (wProp "Effect" m_Effect_dimension (wVar 0)) (wCons (wVar 1) wNil))))
 (wSeq (wSet 2 wDnewT)
 (wSeq (wFor (wiSeq (wMeth "Effect" "terms" (wfOf m_Effect_terms) 1 (wVar 0) wNil)) (wgTup 3 (wgCons (wgN 3) (wgCons (wgN 4) (wgCons (wgN 5) wgNil)))) (wSeq (wSet 6 (wLckT (wDsp1T (wCall (wfOf RsM.m_residue) 2 (wCons (wVar 4) (wCons (wVar 1) wNil))) (wVar 3))))
 (wSeq (wFor (wiSeq (wVar 5)) (wgN 7) (wSet 6 (wCall RsM.sp_strewn 3 (wCons (wVar 6) (wCons (wVar 7) (wCons (wVar 1) wNil))))))
 (wFor (wiItemsT (wVar 6)) (wgTup 2 (wgCons (wgN 8) (wgCons (wgN 9) wgNil))) (wDputT (wVar 2) (wVar 8) (wOp rAdd (wDGet2T (wVar 2) (wVar 8) (wC (.int 0))) (wVar 9)))))))
 (wRet (wLc (wiSeq (wCB rSortedDT (wCons (wVar 2) wNil))) (wgN 8) (wTest (wOp rNe (wDgT (wVar 2) (wVar 8)) (wC (.int 0)))) (wTup (wCons (wVar 8) (wCons (wDgT (wVar 2) (wVar 8)) wNil))) [8])))))
theorem hw_residue_sums (ds : List D) (M : MH) (k : KD) (x : KE) (_ : ds.length = 2) (h : sp_residue_sums ds M k x) : w_residue_sums (startD N_residue_sums ds) M (retE k x) := by
 obtain ⟨bb, W, ms, s, ts, rfl, hl, hW1, hW64, hm, hp, hts, hk⟩ := h
 unfold w_residue_sums
 have Lcm := @RsM.moduli_dM
 have Lre := @RsM.residue_d
 have Let := @eterms_d
 have Led : m_Effect_dimension [effD W s ts] = .ok (.int W) := by rw [m_Effect_dimension_eq]; rfl
 generalize m_check_moduli = f_cm at Lcm ⊢
 generalize RsM.m_residue = f_re at Lre ⊢
 generalize m_Effect_terms = f_et at Let ⊢
 generalize m_Effect_dimension = f_ed at Led ⊢
 have hnz : ∀ m ∈ ms, m ≠ 0 := fun m hx => by have := hm m hx; omega
 refine seq_all fun n h => ?_
 walk_at "w"
 rw [Led]
 walk_at "w"
 rw [Lcm hl hm hp]
 walk_at "w"
 refine h _ _ ?_
 clear h
 refine seq_all fun n h => ?_
 walk_at "w"
 intro pp hpp
 refine h _ (mupd M pp (.dcT [] [])) ?_
 clear h
 try dsimp only [List.set_cons_zero, List.set_cons_succ]
 refine seq_all fun n h => ?_
 walk_at "w"
 rw [Let]
 walk_at "w"
 refine forD_inv (fun ds ρ M' => ∃ (qs : List Tm) (T' : ST) (B : Nat), ds = qs.map tmD ∧ qs.foldl (fun acc q => mergeT acc (sumsT ms q)) T' = resT ms ts ∧ STok ms B T' ∧ (∀ q ∈ qs, TmR W q) ∧ M' pp = some (.dcT T'.1 (T'.2.map .int)) ∧ Kp M M' ∧ ∃ o3 o4 o5 o6 o7 o8 o9, ρ = rsR (effD W s ts) (mD bb ms) pp o3 o4 o5 o6 o7 o8 o9) (fun _ _ _ _ => trivial) (fun ρ M' hI => ?_) (fun d0 rr ρ M' nx hI hn => ?_) _ _ _ ⟨ts, ([], []), 0, rfl, rfl, STok.nil, hts, mupd_same, (Kp.refl M).upd hpp, _, _, _, _, _, _, _, rfl⟩
 ·obtain ⟨qs, T', B, he, hf, hT', _, hM, hK, o3, o4, o5, o6, o7, o8, o9, rfl⟩ := hI
  have : qs = [] := by cases qs with | nil => rfl | cons _ _ => cases he
  subst this
  have hf : T' = resT ms ts := hf
  refine h _ _ ?_
  clear h
  refine rs_out hT' (by omega) (by omega) hM ?_
  rw [hf]
  exact Lt.now (hk _ hK)
 clear h
 obtain ⟨qs, T', B, he, hf, hT', hqs, hM, hK, o3, o4, o5, o6, o7, o8, o9, rfl⟩ := hI
 cases qs with
 | nil => cases he
 | cons q qs =>
 cases he
 have hq := hqs q List.mem_cons_self
 unfold rsR at *
 show wSeq (wSet 6 (wLckT (wDsp1T (wCall (wfOf f_re) 2 (wCons (wVar 4) (wCons (wVar 1) wNil))) (wVar 3))))
   (wSeq (wFor (wiSeq (wVar 5)) (wgN 7) (wSet 6 (wCall RsM.sp_strewn 3 (wCons (wVar 6) (wCons (wVar 7) (wCons (wVar 1) wNil))))))
    (wFor (wiItemsT (wVar 6)) (wgTup 2 (wgCons (wgN 8) (wgCons (wgN 9) wgNil))) (wDputT (wVar 2) (wVar 8) (wOp DL.rAdd (wDGet2T (wVar 2) (wVar 8) (wC (D.int 0))) (wVar 9)))))
  [some (effD W s ts), some (mD bb ms), some (.ref pp), some (.int q.n), some (tI q.p), some (.tup (q.ls.map ltD)), o6, o7, o8, o9] M' { nx := nx, rt := n.rt, bk := n.nx, ct := nx, xc := n.xc }
 refine seq_all fun n h => ?_
 walk_at "w"
 rw [Lre hnz]
 walk_at "w"
 rw [show keyD (tI (resV q.p ms)) = some (resV q.p ms) from keyD_tI _]
 intro pa hpa
 have hne : pp ≠ pa := fun e => by rw [e, hpa] at hM; cases hM
 refine ⟨pa, [resV q.p ms], [.int q.n], rfl, mupd_same, ?_⟩
 have hM2 : (mdel (mupd M' pa (.dcT [resV q.p ms] [.int q.n])) pa) pp = some (.dcT T'.1 (T'.2.map .int)) := by rw [mdel_ne hne, mupd_ne hne]; exact hM
 have hK2 : Kp M (mdel (mupd M' pa (.dcT [resV q.p ms] [.int q.n])) pa) := fun a o ha => by
  have : a ≠ pa := fun e => by rw [← e] at hpa; rw [hK a o ha] at hpa; cases hpa
  rw [mdel_ne this, mupd_ne this]; exact hK a o ha
 refine h _ _ ?_
 clear h
 generalize mdel (mupd M' pa (.dcT [resV q.p ms] [.int q.n])) pa = M2 at hM2 hK2 ⊢
 try dsimp only [List.set_cons_zero, List.set_cons_succ]
 have hT1 : STok ms q.n.natAbs ([resV q.p ms], [q.n]) := ⟨rfl, by simp, fun z hz => by rw [List.mem_singleton.mp hz]; exact resV_box (by rw [hq.p, hl]) hm, fun v hv => by rw [List.mem_singleton.mp hv]; exact Nat.le_refl _⟩
 refine seq_all fun n h => ?_
 walk_at "w"
 refine forD_inv (fun ds ρ M3 => ∃ (ls : List (List Int × Int)) (T1 : ST) (A N : Nat), ds = ls.map ltD ∧ ls.foldl (strewnT ms) T1 = sumsT ms q ∧ STok ms A T1 ∧ A < 2 ^ N ∧ N + 7912 * ls.length ≤ 150000 ∧ (∀ l ∈ ls, l ∈ q.ls) ∧ M3 pp = some (.dcT T'.1 (T'.2.map .int)) ∧ Kp M M3 ∧ ∃ o7, ρ = [some (effD W s ts), some (mD bb ms), some (.ref pp), some (.int q.n), some (tI q.p), some (.tup (q.ls.map ltD)), some (.dlT T1.1 (T1.2.map .int)), o7, o8, o9]) (fun _ _ _ _ => trivial) (fun ρ M3 hI => ?_) (fun d0 rr ρ M3 nx2 hI hn2 => ?_) _ _ _ ⟨q.ls, _, _, 90000, rfl, rfl, hT1, hq.n, by have := hq.l; omega, fun _ h => h, hM2, hK2, _, rfl⟩
 rotate_left
 ·obtain ⟨ls, T1, A, N, he, hf1, hT1, hA, hN, hin, hM3, hK3, o7, rfl⟩ := hI
  cases ls with
  | nil => cases he
  | cons l ls =>
  cases he
  obtain ⟨c1, c2, c3, c4⟩ := hq.s l (hin l List.mem_cons_self)
  rw [List.length_cons] at hN
  walk_at "w"
  refine ⟨bb, ms, T1, l.1, l.2, A, N, rfl, hm, hp, by omega, by rw [c1, hl], c2, c3, c4, hT1, hA, by omega, fun M4 hK4 => ?_⟩
  exact hn2 _ _ ⟨ls, strewnT ms T1 l, _, N + 7912, rfl, hf1, strewn_ok (by rw [c1, hl]) hm hp c3 hT1, grow hA c4, by omega, fun y hy => hin y (List.mem_cons_of_mem _ hy), hK4 _ _ hM3, hK3.trans hK4, _, rfl⟩
 obtain ⟨ls, T1, A, N, he, hf1, hT1, _, _, _, hM3, hK3, o7, rfl⟩ := hI
 have : ls = [] := by cases ls with | nil => rfl | cons _ _ => cases he
 subst this
 have hf1 : T1 = sumsT ms q := hf1
 refine h _ _ ?_
 clear h
 walk_at "w"
 refine ⟨T1.1, T1.2.map .int, rfl, fun z hz => by rw [inBox_len (hT1.box z hz)]; omega, ?_⟩
 rw [zip_pD]
 refine forD_inv (fun ds ρ M4 => ∃ (ps : List (List Int × Int)) (T2 : ST) (B2 : Nat), ds = ps.map pD ∧ ps.foldl addP T2 = mergeT T' (sumsT ms q) ∧ STok ms B2 T2 ∧ (∀ p ∈ ps, inBox p.1 ms) ∧ M4 pp = some (.dcT T2.1 (T2.2.map .int)) ∧ Kp M M4 ∧ ∃ o6 o7 o8 o9, ρ = [some (effD W s ts), some (mD bb ms), some (.ref pp), some (.int q.n), some (tI q.p), some (.tup (q.ls.map ltD)), o6, o7, o8, o9]) (fun _ _ _ _ => trivial) (fun ρ M4 hI => ?_) (fun d0 rr ρ M4 nx3 hI hn3 => ?_) _ _ _ ⟨T1.1.zip T1.2, T', B, rfl, by rw [hf1]; rfl, hT', fun p hq => hT1.box p.1 (List.of_mem_zip hq).1, hM3, hK3, _, _, _, _, rfl⟩
 ·obtain ⟨ps, T2, B2, he, hf2, hT2, _, hM4, hK4, o6, o7, o8, o9, rfl⟩ := hI
  have : ps = [] := by cases ps with | nil => rfl | cons _ _ => cases he
  subst this
  have hf2 : T2 = mergeT T' (sumsT ms q) := hf2
  refine hn _ _ ⟨qs, T2, B2, rfl, ?_, hT2, fun q hq => hqs q (List.mem_cons_of_mem _ hq), hM4, hK4, _, _, _, _, _, _, _, rfl⟩
  rw [← hf, hf2]
  rfl
 obtain ⟨ps, T2, B2, he, hf2, hT2, hps, hM4, hK4, o6, o7, o8, o9, rfl⟩ := hI
 cases ps with
 | nil => cases he
 | cons p ps =>
 obtain ⟨z, nu⟩ := p
 cases he
 have hz := hps (z, nu) List.mem_cons_self
 have hfew := hT2.few hm hp
 walk_at "w"
 refine ⟨pp, T2.1, T2.2.map .int, rfl, hM4, ?_⟩
 walk_at "w"
 show onKey (tI z) _
 unfold onKey
 rw [show keyD (tI z) = some z from keyD_tI z]
 refine ⟨T2.1, T2.2.map .int, hM4, ?_⟩
 rw [getD_int]
 walk_at "w"
 rw [show keyD (tI z) = some z from keyD_tI z]
 refine ⟨pp, T2.1, T2.2.map .int, rfl, hM4, by rw [List.length_map, ← hT2.len]; omega, ?_⟩
 refine hn3 _ _ ⟨ps, addP T2 (z, nu), _, rfl, hf2, hT2.add hz (Nat.le_refl nu.natAbs), fun q hq => hps q (List.mem_cons_of_mem _ hq), ?_, fun a o ha => ?_, _, _, _, _, rfl⟩
 ·rw [mupd_same, putXsT_int]
  rfl
 ·have : a ≠ pp := fun e => by rw [e, hpp] at ha; cases ha
  rw [mupd_ne this]; exact hK4 a o ha
end DP.RsM
namespace DP.Rsd
open PySem PySem.Spec PyProof.Rows L2 DL DM DP DP.Lat
section
variable {φ : List Int → Int}
end
end DP.Rsd
namespace DP.Rsd
open PySem PySem.Spec PyProof.Rows L2 DL DM DP DP.Lat
section
variable {φ : List Int → Int} {ms s : List Int}
end
end DP.Rsd
namespace DP.Rsd
open PySem PySem.Spec PyProof.Rows L2 DL DM DP DP.Lat
structure Ax (W : Nat) (o : List Nat) (sg : List Int) : Prop where
 ol : o.length = W
 sl : sg.length = W
 lt : ∀ k ∈ o, k < W
 all : ∀ k, k < W → k ∈ o
 sg1 : ∀ s ∈ sg, s = 1 ∨ s = -1
def tn (o : List Nat) (sg : List Int) (v : List Int) : List Int := List.zipWith (fun k s => s * fn v k) o sg
def mo (o : List Nat) (ms : List Int) : List Int := o.map (fn ms)
section
variable {W : Nat} {o : List Nat} {sg : List Int} (A : Ax W o sg)
include A
variable {ms : List Int} (hl : ms.length = W) (hm : ∀ m ∈ ms, 1 ≤ m)
include hl hm
end
end DP.Rsd
namespace DP.Rsd
open PySem PySem.Spec PyProof.Rows L2 DL DM DP DP.Lat
end DP.Rsd
namespace DP.Rsd
open PySem PySem.Spec PyProof.Rows L2 DL DM DP DP.Lat
end DP.Rsd
namespace DP
open PySem PySem.Spec PyProof.Rows L2 DL DM DP.Rsd
local macro_rules | `(tactic| walk_at "w") => `(tactic| try conv => whnf)
end DP
namespace DP
open PySem PySem.Spec PyProof.Rows L2 DL DM DP.Rsd
local macro_rules | `(tactic| walk_at "w") => `(tactic| try conv => whnf)
end DP
namespace DP.Rsd
open PySem PySem.Spec PyProof.Rows L2 DL DM DP DP.Lat
variable {φ : List Int → Int}
def dv : List Int → List Int → Prop
 | [], [] => True
 | c :: cs, m :: ms => (∃ q, m = c * q) ∧ dv cs ms
 | _, _ => False
variable {W : Nat} {ms : List Int} {ts : List Tm}
end DP.Rsd
namespace DL
open PySem PySem.Spec PyProof.Rows L2 _root_.DM
variable {X : Cx} {pos p : Pos} {C y : Str} {e : Expr} {es : List Expr} {k n i : Nat} {wf : WF} {wa : WA}
end DL
namespace DL
open PySem PySem.Spec PyProof.Rows L2 _root_.DM
variable {X : Cx} {o i : Expr} {wo wi : WE} {pos tpos : Pos}
end DL
namespace PySem.SeqAt
open PySem PySem.Spec PyProof.Rows
open MeetsSeq MeetsSeq2 MeetsSeq3 SeqRoads2
variable {prog : Program} {w : World}
end PySem.SeqAt
namespace L2
open PySem PySem.Spec PyProof.Rows
variable {X : Cx}
end L2
namespace L2
open PySem PySem.Spec PyProof.Rows
variable {X : Cx}
end L2
namespace DL
open PySem PySem.Spec PyProof.Rows L2 _root_.DM
variable {X : Cx}
end DL
namespace DL
open PySem PySem.Spec PyProof.Rows L2 LamX
end DL
namespace DL
open PySem PySem.Spec PyProof.Rows L2 _root_.DM
variable {X : Cx}
def wDead : WS := fun _ _ _ => False
theorem ds_dead {Tq : TkC} {st : Stmt} : DS Tq X st wDead := ⟨fun W _ _ => ⟨fun pins s σ H E I q => by
 obtain ⟨F, M, ρ, E1, S, R, w, f⟩ := q
 exact w.elim⟩⟩
end DL
namespace DL
open PySem PySem.Spec PyProof.Rows L2 _root_.DM
section
variable {X : Cx} {pos p : Pos} {f : Str} {e : Expr} {es : List Expr} {k n : Nat} {b : Bool} {wf : WF} {wa : WA}
end
end DL
namespace PySem.W
open PySem PySem.Calls PyProof.Rows
section
variable {prog : Program} {w : World} {A : Around} {E : Value → Shared → Prop} {s : Shared} {K : Frag} {x C f : Addr} {ox : Obj} {od : Option Obj}
end
end PySem.W
namespace DL
open PySem PySem.Spec PyProof.Rows L2 _root_.DM
section
variable {X : Cx} {k n : Nat} {f Ca : Addr} {fd : FuncData} {ps : List Str} {sp : Sp} {C m : Str} {wf : WF}
end
end DL
namespace L2
open PySem PySem.Spec PyProof.Rows
section
variable {X : Cx}
def DcEq (K : PySem.W.Frag) (H : Hp) (x y : V) : Prop := ∃ a b ks ls, x = .ref a ∧ y = .ref b ∧ Rd H a (.dK ks) ∧ Rd H b (.dK ls) ∧ ks.length = ls.length ∧
 ∀ p ∈ ks, ∃ (u : V) (d e : PyData), valV ls p.1 = some u ∧ Dp K H p.2 d ∧ Dp K H u e ∧ SeqAt.shaped d = true ∧ SeqAt.shaped e = true ∧ PyData.eqv d e = true
end
end L2
namespace DL
open PySem PySem.Spec PyProof.Rows L2 _root_.DM
section
variable {X : Cx}
end
end DL
namespace DL
open PySem PySem.Spec PyProof.Rows L2
section
open Builtin Builtin.ObjectAttr PySem.W PySem.Calls PySem.HandSPX
variable {X : Cx} {p pos : Pos}
end
section
variable {X : Cx} {nm tg : Str} {k : Nat} {p pos pos2 : Pos}
end
end DL
namespace DL
open PySem PySem.Spec PyProof.Rows L2
section
variable {X : Cx} {pins : List (Addr × Obj)} {σ : L2.St} {H : Hp} {s : Shared} {a : Addr} {kvs : List (Key × V)} {A : Around} {E : Value → Shared → Prop}
end
section
variable {X : Cx} {o e f : Expr} {apos cpos : Pos} {td ty tx : TE}
end
section
variable {X : Cx} {o e f : Expr} {wo wi we : WE} {apos cpos : Pos}
end
end DL
namespace PySem.W
open PySem PySem.Calls PyProof.Rows
section
variable {prog : Program} {w : World} {A : Around} {E : Value → Shared → Prop} {s : Shared} {K : Frag} {x C f : Addr} {ox : Obj} {od : Option Obj} {b tb : Value}
end
end PySem.W
namespace DL
open PySem PySem.Spec PyProof.Rows L2 _root_.DM
section
variable {X : Cx} {k n : Nat} {f Ca : Addr} {fd : FuncData} {ps : List Str} {sp : Sp} {C m : Str} {wf : WF}
end
end DL
namespace DL
open PySem PySem.Spec PyProof.Rows L2 _root_.DM
section
variable {K : PySem.W.Frag} {mg : Str → Option Value} {C : Str} {Cs : List Str}
end
end DL
namespace L2
open PySem PySem.Spec PyProof.Rows
inductive HitsV (K : PySem.W.Frag) (H : Hp) (ls : List (Key × V)) : List (Key × V) → Bool → Prop
 | nil : HitsV K H ls [] true
 | miss {k : Key} {v : V} {r : List (Key × V)} : valV ls k = none → HitsV K H ls ((k, v) :: r) false
 | hit {k : Key} {v u : V} {d e : PyData} {r : List (Key × V)} {b : Bool} : valV ls k = some u → Dp K H v d → Dp K H u e → SeqAt.shaped d = true → SeqAt.shaped e = true → HitsV K H ls r b → HitsV K H ls ((k, v) :: r) (PyData.eqv d e && b)
section
variable {X : Cx}
end
end L2
namespace DL
open PySem PySem.Spec PyProof.Rows L2 _root_.DM
section
variable {X : Cx}
end
end DL
namespace DL
open PySem PySem.Spec PyProof.Rows L2 _root_.DM
end DL
namespace DM
open PySem PySem.Spec PyProof.Rows L2 DL
end DM
namespace DL
open PySem PySem.Spec PyProof.Rows L2 _root_.DM
section
variable {X : Cx} {o e : Expr} {pos pt : Pos} {wo we : WE} {C f : Str}
end
end DL
namespace EnS
open PySem
open Sem (wp)
def tyS (b : Bool) : String := if b then "str_ascii_iterator" else "str_iterator"
section
variable {prog : Program} {w : World} {A : Around} {E : Value → Shared → Prop} {s : Shared} {b : Bool}
theorem at_ {k k' : Heap} {it : Addr} {ty : String} {x : Str} {t : Tok} {i : Nat} (p : k.IsStrIter it ty x t i) (h : ∀ o, k.get? it = some o → k'.get? it = some o) : k'.IsStrIter it ty x t i :=
 let ⟨o, ho, r⟩ := p; ⟨o, h o ho, r⟩
theorem nextOf_item {it : Addr} {x : Str} {t : Tok} {i c : Nat} {Q : Value → Shared → Prop} (hit : s.heap.IsStrIter it (tyS b) x t i) (hx : x.cps[i]? = some c)
  (hQ : ∀ h', h'.IsStrIter it (tyS b) x t (i + 1) → Heap.SameBut it s.heap h' → Q (.str ⟨#[c]⟩ s.toks) { s with heap := h', toks := s.toks + 1 }) : wpAny (model prog w) A (Builtin.SmallTypes.nextOf (.ref it)) Q E s := by
 cases b with
 | true => exact wpAny_nextOf_ascii_item hit hx hQ
 | false => exact wpAny_nextOf_wide_item hit hx hQ
theorem nextOf_end {it : Addr} {x : Str} {t : Tok} {i : Nat} {Q : Value → Shared → Prop} (hh : A.handled = none) (hit : s.heap.IsStrIter it (tyS b) x t i) (hx : x.cps[i]? = none)
  (hE : ∀ h' e, Heap.ExtBut it s.heap h' → (∃ o, h'.get? e = some o ∧ o.cls = .type "StopIteration") → E (.ref e) { s with heap := h' }) : wpAny (model prog w) A (Builtin.SmallTypes.nextOf (.ref it)) Q E s := by
 cases b with
 | true => exact wpAny_nextOf_ascii_end hh hit hx hE
 | false => exact wpAny_nextOf_wide_end hh hit hx hE
end
end EnS
namespace EnS
open PySem
open Sem (wp)
section
variable {prog : Program} {w : World} {A : Around} {E : Value → Shared → Prop} {s : Shared}
end
open PySem.Spec PyProof.Rows L2
def IteS (x : Str) : It :=
 ⟨fun i H => i < x.cps.size, fun i H v H' => ∃ T c, v = .ref T ∧ H T = none ∧ H' = upd H T (.tup [.int (i : Nat), .str ⟨#[c]⟩]) ∧ x.cps[i]? = some c, fun i H => x.cps.size ≤ i⟩
def iEnS (ta : TA) : TI := fun σ H R => ta σ H fun vs H1 => ∃ x, vs = [.str x] ∧ R (IteS x) H1
end EnS
namespace DL
open PySem PySem.Spec PyProof.Rows L2 _root_.DM
end DL
namespace DM
open PySem PySem.Spec PyProof.Rows L2 DL
end DM
namespace DL
open PySem PySem.Spec PyProof.Rows L2
end DL
namespace DM
open PySem PySem.Spec PyProof.Rows L2 DL
end DM
namespace PySem
section
variable {M : Model} {A : Around} {E : Value → Shared → Prop} {s : Shared} {env : Env}
theorem frameOf_frame {e1 e2 : Env} (h : e1.frame = e2.frame) : frameOf e1 = frameOf e2 := by
 unfold frameOf
 rw [h]
theorem noteFrame_frame {x : Value} {e1 e2 : Env} (h : e1.frame = e2.frame) : noteFrame x e1 = noteFrame x e2 := by
 unfold noteFrame
 rw [frameOf_frame h, h]
def compPostX (M : Model) (A : Around) (E : Value → Shared → Prop) (use : Option (Value → Sem Unit)) (Q : Value → Shared → Prop) (acc : Value) (C : Addr) (fr : Option Addr) (r : Result) (s' : Shared) : Prop :=
 match r, use with
 | .ok _, none => ∃ m, s'.heap.Ns C m ∧ ∀ h', Heap.SameBut C s'.heap h' → Q acc { s' with heap := h' }
 | .ok _, some u => wpAny M A (u acc) (fun _ s'' => ∃ m, s''.heap.Ns C m ∧ ∀ h', Heap.SameBut C s''.heap h' → Q .none { s'' with heap := h' }) E s'
 | .error x, _ => ∃ m, s'.heap.Ns C m ∧ ∀ h', Heap.SameBut C s'.heap h' → ∀ cenv : Env, cenv.locals = C → cenv.frame = fr → wpAny M A (PySem.passOn "comprehension.variables-let-go" x cenv : Sem Value) (fun _ _ => False) E { s' with heap := h' }
theorem wpAny_comprehension_freeX {e : Expr} {scope : Scope} {pos : Pos} {newAcc first : Sem Value} {g : Comprehension} {gs : List Comprehension} {cl : List (Str × Addr)} {use : Option (Value → Sem Unit)}
  {Q : Value → Shared → Prop}
  (hcl : clausesOf e = g :: gs) (hs : ∀ x, foldedSetIterable g.iter env x = pure x) (hclos : closureFor scope env = pure cl)
  (hkind : scope.kind = .function) (hnames : ∀ x ∈ scope.names, x.2 = .local → scope.names.lookup x.1 = some .local)
  (h : wpAny M A first (fun x s₁ => wpAny M A (pyIter x) (fun it s₂ => wpAny M A newAcc (fun acc s₃ =>
   wpAny M A (newFunctionEnv scope env.globals cl [] env.qual none .none (some env)) (fun cenv s₄ =>
    codeAny M A (.compStart e 0 it acc { cenv with scope := relabel scope env }) (compPostX M A E use Q acc cenv.locals cenv.frame) s₄) E s₃) E s₂) E s₁) E s) :
  wpAny M A (comprehension e scope env pos newAcc false first use) Q E s := by
 unfold comprehension
 rw [hclos, hcl]
 refine wpAny_bind (wpAny_mono h (fun x s₁ h₁ => wpAny_bind (wpAny_standAt (wpAny_bind (wpAny_of_eq (hs x) (wpAny_bind (wpAny_holding (wpAny_mono h₁ (fun it s₂ h₂ =>
  wpAny_standIf (wpAny_bind (wpAny_mono h₂ (fun acc s₃ h₃ => wpAny_bind (wpAny_pure (wpAny_bind (wpAny_mono h₃ (fun cenv s₄ h₄ => ?_) fun _ _ h' => h')))) fun _ _ h' => h')))
   fun _ _ h' => h'))))))) fun _ _ h' => h')
 dsimp only
 have hv : ∀ x ∈ (scope.names.filter fun x => (x.2 == .local || x.2 == .cell) && x.1 != (".0" : Str)).reverse, x.2 = .local →
   Env.kindOf { cenv with scope := relabel scope env } x.1 = some .local := fun x hx hl => lookup_relabel_local (hnames x (List.mem_filter.mp (List.mem_reverse.mp hx)).1 hl)
 have hv' : ∀ x ∈ (scope.names.filter fun x => (x.2 == .local || x.2 == .cell) && x.1 != (".0" : Str)).reverse.drop 1 ++ (scope.names.filter fun x => (x.2 == .local || x.2 == .cell) && x.1 != (".0" : Str)).reverse.take 1,
   x.2 = .local → Env.kindOf { cenv with scope := relabel scope env } x.1 = some .local := fun x hx hl => by
  rcases List.mem_append.mp hx with h1 | h1
  ·exact hv x (List.mem_of_mem_drop h1) hl
  ·exact hv x (List.mem_of_mem_take h1) hl
 refine wpAny_holding (wpAny_bind (wpAny_attempt (wpAny_holding (wpAny_run (codeAny_mono h₄ fun r s' hr => ?_)))))
 cases r with
 | ok f =>
  cases use with
  | none =>
   obtain ⟨m, hn, hr⟩ := hr
   exact wpAny_bind (wpAny_holding (wpAny_comp_letGo (cenv := { cenv with scope := relabel scope env }) hkind _ s' m hv hn fun h' m' _ hs' => wpAny_pure (hr h' hs')))
  | some u =>
   refine wpAny_bind (wpAny_rule (wpAny_bind (wpAny_holding (wpAny_mono hr (fun _ s'' hr' => ?_) fun _ _ h' => h'))))
   obtain ⟨m, hn, hr'⟩ := hr'
   exact wpAny_bind (wpAny_comp_letGo (cenv := { cenv with scope := relabel scope env }) hkind _ s'' m hv' hn fun h' m' _ hs' => wpAny_pure (hr' h' hs'))
 | error x =>
  have hr' : ∃ m, s'.heap.Ns cenv.locals m ∧ ∀ h', Heap.SameBut cenv.locals s'.heap h' → ∀ cenv' : Env, cenv'.locals = cenv.locals → cenv'.frame = cenv.frame → wpAny M A (PySem.passOn "comprehension.variables-let-go" x cenv' : Sem Value) (fun _ _ => False) E { s' with heap := h' } := by cases use <;> exact hr
  obtain ⟨m, hn, hr⟩ := hr'
  exact wpAny_bind (wpAny_holding (wpAny_comp_letGo (cenv := { cenv with scope := relabel scope env }) hkind _ s' m hv hn fun h' m' _ hs' => wpAny_mono (hr h' hs' _ rfl rfl) (fun _ _ f => f.elim) fun _ _ y => y))
end
namespace PXN
open HandSPX
section
variable {M : Model} {A : Around} {E : Value → Shared → Prop} {s : Shared} {Z : Obj → Prop} {base : Heap} {env : Env} {outer l : List Env} {L e : Addr}
theorem looks_anyZ {fl : Value} {Q : Unit → Shared → Prop} (hZ : Steady1 Z) (hfr : A.frames = some (env :: outer)) (hf : env.frame = some L) (hfl : (fl == rawInt L) = false) (hkb : base.StaysIn s.heap) (hen : base.get? e = none) (hl : s.heap.FunFrames base (env :: outer)) (ht : TracedZ s.heap base e Z fl)
  (hQ : ∀ h', HeldZ base (env :: outer) e Z L h' → s.heap.UpToSlots h' → Q () { s with heap := h' }) : wpAny M A (noteFrame (.ref e) env) Q E s := by
 obtain ⟨oe, vs, T, oT, ts, he, hz, hd, h1, hnT, hTe, hT, hdT, h3⟩ := ht
 unfold noteFrame
 simp only [hf]
 refine wpAny_bind (wpAny_field he hd h1 ?_)
 rw [if_pos (show (Value.ref T != Value.none) = true from by simp)]
 refine wpAny_bind (wpAny_field hT hdT h3 ?_)
 rw [if_neg (show ¬ ((fl == rawInt L) = true) from by rw [hfl]; decide)]
 refine wpAny_bind (wpAny_setField hT hdT (Array.getElem?_eq_some_iff.mp h3).1 ?_)
 have other : ∀ b, b ≠ T → (s.heap.update T (Obj.mapFields (·.setIfInBounds 3 Value.none))).get? b = s.heap.get? b := fun b hb => Heap.get?_update_other _ _ (Ne.symm hb)
 have noRecord : ∀ b o, s.heap.get? b = some o → (∀ vs, o.data ≠ .fields vs) → b ≠ T := fun b o hb hnf q => by
  rw [q, hT] at hb; injection hb with hb; subst hb; exact hnf ts hdT
 refine wpAny_entryZ hZ hfr (hl.of_keeps fun b o hb hnf => ⟨o, (other b (noRecord b o hb hnf)).trans hb, rfl⟩) hf ((other e (Ne.symm hTe)).trans he)
  (fun b o hbo => (other b fun q => by rw [q, hnT] at hbo; cases hbo).trans (hkb b o hbo)) hen hd (Array.getElem?_eq_some_iff.mp h1).1 hz fun h' hN => ?_
 obtain ⟨x1, x2, x3, x4⟩ := hN
 exact hQ h' ⟨x1, hen, x2, x3⟩ fun b o hb hnf => x4 b o ((other b (noRecord b o hb hnf)).trans hb) hnf
end
end PXN
end PySem
namespace L2N
open PySem PySem.Spec PyProof.Rows L2
theorem Sky.note {M : Model} {A : Around} {E₁ : Value → Shared → Prop} {s : Shared} {B : Heap} {env : Env} {outer : List Env} {L C a : Addr} {Z : Obj → Prop} {Q : Unit → Shared → Prop} (hZ : PXN.Steady1 Z) (hfr : A.frames = some (env :: outer)) (hf : env.frame = some L) (hCL : C ≠ L)
  (x : Sky B (env :: outer) a Z C s.heap) (hQ : ∀ h', HandSPX.HeldZ B (env :: outer) a Z L h' → s.heap.UpToSlots h' → Q () { s with heap := h' }) :
  wpAny M A (noteFrame (.ref a) env) Q E₁ s := by
 rcases x with ⟨hB, hn, hl, oe, vs, he, hz, hd, h1⟩ | fl | hh
 ·exact PXN.look_newZ hZ hfr hl hf he hB hn hd h1 hz hQ
 ·exact PXN.looks_onZ hZ hfr hf fl hQ
 ·exact PXN.looks_anyZ hZ hfr hf (by simp [rawInt]; intro z; exact hCL (Int.ofNat.inj z)) hh.1 hh.2.1 hh.2.2.1 hh.2.2.2 hQ
end L2N
namespace L2
open PySem PySem.Spec PyProof.Rows
abbrev Cx.blkX (X : Cx) (s : Shared) (H : Hp) (scope : Scope) (cenv : Env) (fp : List Addr) (xe : Value → Shared → Prop) : Cx := { X.blk s H scope cenv fp with xe := xe }
section
variable {X : Cx} {pins : List (Addr × Obj)} {σ : St} {H H' : Hp} {s s' : Shared}
theorem Cx.Ok.toX {s : Shared} {H : Hp} {scope : Scope} {cenv : Env} {fp : List Addr} (ok : (X.blk s H scope cenv fp).Ok) (xe : Value → Shared → Prop) : (X.blkX s H scope cenv fp xe).Ok :=
 ⟨ok.mod, ok.kind, ok.glob, ok.blt, ok.above, ok.inj, ok.has, ok.cab, ok.hd, ok.frames, ok.stk, ok.exf, ok.bs, ok.bsz, ok.noex, ok.exfs, ok.funs, ok.frf⟩
theorem Inv.toX {s0 : Shared} {H0 : Hp} {scope : Scope} {cenv : Env} {fp : List Addr} (I : Inv (X.blk s0 H0 scope cenv fp) pins σ H s) (xe : Value → Shared → Prop) : Inv (X.blkX s0 H0 scope cenv fp xe) pins σ H s :=
 ⟨I.ok.toX xe, I.os, I.bare, I.base, I.loc, I.cell, I.free, I.freeC, I.pin, I.hok, I.len⟩
theorem compPostX_err {M : Model} {A : Around} {E : Value → Shared → Prop} {use : Option (Value → Sem Unit)} {Q : Value → Shared → Prop} {acc : Value} {C : Addr} {fr : Option Addr} {x : Value} {s' : Shared}
  (h : ∃ m, s'.heap.Ns C m ∧ ∀ h', Heap.SameBut C s'.heap h' → ∀ cenv : Env, cenv.locals = C → cenv.frame = fr → wpAny M A (PySem.passOn "comprehension.variables-let-go" x cenv : Sem Value) (fun _ _ => False) E { s' with heap := h' }) : compPostX M A E use Q acc C fr (.error x) s' := by cases use <;> exact h
theorem funFrames_but {B h h' : Heap} {C : Addr} {oC : Obj} (hC : B.get? C = some oC) (sb : Heap.SameBut C h h') : ∀ {l : List Env}, h.FunFrames B l → h'.FunFrames (PySem.W.hideAll B [C]) l
 | [], _ => trivial
 | env :: rest, ⟨hk, ⟨L, o, hf, hn, ho, hd⟩, hr⟩ => by
  have hne : L ≠ C := fun z => by rw [z, hC] at hn; cases hn
  refine ⟨hk, ⟨L, o, hf, ?_, (sb.2 L hne).trans ho, hd⟩, funFrames_but hC sb hr⟩
  cases q : (PySem.W.hideAll B [C]).get? L with
  | none => rfl
  | some o2 => rw [PySem.W.of_hideAll _ q] at hn; cases hn
theorem held_but {B h h' : Heap} {C a L : Addr} {oC : Obj} {l : List Env} {Z : Obj → Prop} (hC : B.get? C = some oC) (sb : Heap.SameBut C h h') (x : HandSPX.HeldZ B l a Z L h) : HandSPX.HeldZ (PySem.W.hideAll B [C]) l a Z L h' := by
 obtain ⟨x1, x2, x3, oe, vs, T, oT, ts, he, hz, hd, h1, hnT, hTe, hT, hdT, h3⟩ := x
 have none_of : ∀ b, B.get? b = none → (PySem.W.hideAll B [C]).get? b = none := fun b hb => by
  cases q : (PySem.W.hideAll B [C]).get? b with
  | none => rfl
  | some o2 => rw [PySem.W.of_hideAll _ q] at hb; cases hb
 have ne_of : ∀ b, B.get? b = none → b ≠ C := fun b hb z => by rw [z, hC] at hb; cases hb
 refine ⟨fun b o e => ?_, none_of a x2, funFrames_but hC sb x3, oe, vs, T, oT, ts, (sb.2 a (ne_of a x2)).trans he, hz, hd, h1, none_of T hnT, hTe, (sb.2 T (ne_of T hnT)).trans hT, hdT, h3⟩
 have hne : b ≠ C := fun z => by rw [z, PySem.W.hideAll_none [C] (by simp)] at e; cases e
 exact (sb.2 b hne).trans (x1 b o (PySem.W.of_hideAll _ e))
theorem takes_blk {W : WX} {σ : St} {H3 : Hp} {s3 : Shared} {scope : Scope} {ce : Env} {fp : List Addr} {use : Option (Value → Sem Unit)} {Qf : Value → Shared → Prop} {acc : Value}
  (hst : X.stack = X.env :: X.outer) (hfr : X.env.frame = some X.env.locals) (tk : L2N.Takes X W)
  (I3 : Inv X pins σ H3 s3) (f3 : ∀ b ∈ fp, FpOk X pins H3 b ∧ b < s3.heap.objs.size) (cL : ce.locals = s3.heap.objs.size) (cF : ce.frame = X.env.frame) :
  L2N.Takes (X.blkX s3 H3 scope ce fp (notedBy (model X.prog X.w) X.A ce fun e s' => compPostX (model X.prog X.w) X.A X.xe use Qf acc s3.heap.objs.size X.env.frame (.error e) s')) (fun c d _ H => W c d σ H) := by
 rintro u s' ⟨a, B, sI, pins8, σ8, H8, cls, d, rfl, I8, nb, up, sky, na, os, ag, w⟩
 have hfr' : X.A.frames = some (X.env :: X.outer) := by rw [I3.ok.frames, hst]
 have hCL : s3.heap.objs.size ≠ X.env.locals := Nat.ne_of_gt I3.lt
 have sky1 : L2.Sky B (X.env :: X.outer) a (L2N.Zn cls d) s3.heap.objs.size s'.heap := by
  rw [← hst, ← cL]
  exact sky
 show wpAny (model X.prog X.w) X.A (noteFrame (.ref a) ce) (fun _ s'' => compPostX (model X.prog X.w) X.A X.xe use Qf acc s3.heap.objs.size X.env.frame (.error (.ref a)) s'') _ s'
 rw [noteFrame_frame cF]
 refine L2N.Sky.note L2N.Zn.steady hfr' hfr hCL sky1 fun h1 hh up1 => compPostX_err ?_
 obtain ⟨m, hn, _⟩ := I8.loc
 have hn : sI.heap.Ns ce.locals m := hn
 rw [cL] at hn
 have hnC : s3.heap.objs.size ∉ frs X.stack := fun hb => by
  obtain ⟨_, o, ho, _⟩ := I3.stack.mem hb
  exact Nat.lt_irrefl _ (Heap.lt_size ho)
 have hn0 := hn
 obtain ⟨oC, es, ep, hoC, _⟩ := hn
 have hBC : B.get? s3.heap.objs.size = some oC := nb _ _ hoC hnC
 have nC : H8 s3.heap.objs.size = none := by
  have z : H8 ce.locals = none := I8.free
  rw [cL] at z
  exact z
 have J : Inv X pins σ H8 sI := I3.call' (ch := fp) I8.os I8.base I8.hok I8.bare fun b hb => ⟨(f3 b hb).1.2.2.2.1, (f3 b hb).1.2.1, (f3 b hb).1.2.2.2.2.1, (f3 b hb).1.2.2.2.2.2⟩
 obtain ⟨f0, f1, f2, f3', f4, f5⟩ := I3.fpOk (Nat.le_refl _) nC
 have J2 := J.turned (t' := sI.toks) (h' := PySem.W.hideAll sI.heap [s3.heap.objs.size]) (fun b o hb e => PySem.W.hideAll_get [s3.heap.objs.size] e (by simpa using hb)) f0 f1 f3' f4 f5
 refine ⟨m, (up.trans up1).ns hn0, fun h' sb cenv hl hf => ?_⟩
 have hh2 := held_but hBC sb hh
 unfold PySem.passOn
 obtain ⟨oe, vs, T, oT, ts, he, hz, hd, h1', hnT, hTe, hT, hdT, h3⟩ := hh2.2.2.2
 refine wpAny_bind (wpAny_field he hd h1' ?_)
 rw [if_neg (show ¬ ((Value.ref T == Value.none) = true) from by simp)]
 rw [hf, hfr]
 refine wpAny_bind (HandSPX.setFlight_onZ hh2 fun h4 hh4 up4 => wpAny_throw (tk _ _ ?_))
 refine ⟨a, PySem.W.hideAll B [s3.heap.objs.size], { sI with heap := PySem.W.hideAll sI.heap [s3.heap.objs.size], toks := sI.toks }, pins, σ, H8, cls, d, rfl, J2, fun b o e hb => ?_, fun b o e hnf => ?_, .inr (.inr ?_), na, os, ag, w⟩
 ·have hne : b ≠ s3.heap.objs.size := fun z => by rw [z, PySem.W.hideAll_none [s3.heap.objs.size] (by simp)] at e; cases e
  exact PySem.W.hideAll_get _ (nb b o (PySem.W.of_hideAll _ e) hb) (by simpa using hne)
 ·have hne : b ≠ s3.heap.objs.size := fun z => by rw [z, PySem.W.hideAll_none [s3.heap.objs.size] (by simp)] at e; cases e
  obtain ⟨sl, e1⟩ := (up.trans up1) b o (PySem.W.of_hideAll _ e) hnf
  exact up4 b { o with slots := sl } ((sb.2 b hne).trans e1) hnf |>.imp fun sl2 e2 => e2
 ·rw [hst]
  exact hh4
end
end L2
namespace L2
open PySem PySem.Spec PyProof.Rows
theorem wpAny_mono' {α : Type} {t : Sem α} {Q Q' : α → Shared → Prop} {M : Model} {A : Around} {E : Value → Shared → Prop} {s : Shared} (h : wpAny M A t Q E s) (hQ : ∀ a s, Q a s → Q' a s) : wpAny M A t Q' E s := wpAny_mono h hQ fun _ _ z => z
section
variable {X : Cx}
theorem lc_coreX {W0 : WX} (hst : X.stack = X.env :: X.outer) (hfr : X.env.frame = some X.env.locals) (tk : L2N.Takes X W0) {pins : List (Addr × Obj)} {s : Shared} {σ : St} {H : Hp} {Q : VK} {elt tg iter : Expr} {ifs : List Expr} {scope : Scope} {own : List (Str × Nat)} {pos pos' : Pos} {wi : TI} {g : TG} {tt : TT} {te : TE} {use : Option (Value → Sem Unit)} {Qf : Value → Shared → Prop}
  (hc : X.calm = true) (hN : X.N.Nodup) (I : Inv X pins σ H s) (hi : PI X tg iter wi) (ok : BlkOk X.N X.env.scope scope own)
  (hg : ∀ (s : Shared) (H : Hp) (C : Addr) (cl : List (Str × Addr)) (fp : List Addr) (xe : Value → Shared → Prop), PG (X.blkX s H scope (compEnvC scope cl C X.env) fp xe) tg g) (ht : ∀ (s : Shared) (H : Hp) (C : Addr) (cl : List (Str × Addr)) (fp : List Addr) (xe : Value → Shared → Prop), PTs (X.blkX s H scope (compEnvC scope cl C X.env) fp xe) ifs tt)
  (he : ∀ (s : Shared) (H : Hp) (C : Addr) (cl : List (Str × Addr)) (fp : List Addr) (xe : Value → Shared → Prop), L2N.Takes (X.blkX s H scope (compEnvC scope cl C X.env) fp xe) (fun c d _ H => W0 c d σ H) → PE (X.blkX s H scope (compEnvC scope cl C X.env) fp xe) elt te) (hs : ∀ x, foldedSetIterable iter X.env x = pure x)
  (h : tLc wi g tt te (own.map (·.2)) σ H Q)
  (hRR : ∀ D C s' m H', Inv X pins σ H' s' → Q (.ref D) H' → s'.heap.Ns C m → FpOk X pins H' C → compPostX (model X.prog X.w) X.A X.xe use Qf (.ref D) C X.env.frame (.ok .next) s') :
  wpAny (model X.prog X.w) X.A (comprehension (.ListComp elt [⟨tg, iter, ifs, 0⟩] scope pos) scope X.env pos' (newList []) false (eval iter X.env) use) Qf X.xe s := by
 have hfree : ∀ y ∈ scope.names, y.2 = .free → ∃ c, X.env.cells.lookup y.1 = some c := fun y hy e => by
  rcases ok.free y hy e with k | k
  ·exact I.ok.has _ (.inl k)
  ·exact I.ok.has _ (.inr k)
 refine wpAny_comprehension_freeX (use := use) rfl hs (closure_ok hfree) ok.kind (fun y hy e => by rw [ok.uniq y hy, e])
  (thn (hi.run pins s σ H _ I h) fun xv s1 hx => thn hx fun itv s2 h2 => ?_)
 obtain ⟨it, fp, tn, J, H2, e, I2, T, st2, f2, q⟩ := h2
 subst e
 refine wpAny_newObj_type (newEnv_comp ?_) (by show 0 ≤ sizeLine; decide)
 generalize hD : s2.heap.objs.size = D
 have hDn : H2 D = none := I2.hok.fresh (Nat.le_of_eq hD)
 obtain ⟨W, ⟨m0, w0⟩, turn⟩ := q D hDn
 -- the new list
 generalize hs3 : ({ s2 with heap := s2.heap.push { cls := .type "list", data := .seq ([] : List Value).toArray } } : Shared) = s3
 have I3 : Inv X pins σ (upd H2 D (.lst [])) s3 := by
  rw [← hs3]
  refine I2.laid (t' := s2.toks) (fun b o e => Heap.get?_push_of_some _ e) (Nat.le_of_eq hD) ⟨Nat.zero_le _, [], 0, .nil, ?_⟩
  rw [← hD]
  exact Heap.get?_push_size _ rfl
 have h3 : s3.heap = s2.heap.push { cls := .type "list", data := .seq ([] : List Value).toArray } := by rw [← hs3]
 have sz : ∀ b ∈ fp, b < s2.heap.objs.size := fun b hb => by
  obtain ⟨o, e, _⟩ := T.obj _ _ st2 b hb
  exact Heap.lt_size e
 have f3 : ∀ b ∈ fp, FpOk X pins (upd H2 D (.lst [])) b ∧ b < s3.heap.objs.size := fun b hb => by
  have hlt := sz b hb
  refine ⟨⟨?_, (f2 b hb).2⟩, by rw [h3, Heap.size_push]; exact Nat.lt_succ_of_lt hlt⟩
  rw [upd_ne (by rw [← hD]; exact Nat.ne_of_lt hlt)]
  exact (f2 b hb).1
 have st3 : tn 0 s3.heap := T.keep _ _ _ st2 fun b _ o e => by rw [h3]; exact Heap.get?_push_of_some _ e
 have I4 := (block_start I3 ok hN f3).toX (notedBy (model X.prog X.w) X.A (compEnvC scope (cellsFrom (s3.heap.objs.size + 1) scope.names (cloFrom X.env.cells scope.names [])) s3.heap.objs.size X.env) fun e s' => compPostX (model X.prog X.w) X.A X.xe use Qf (.ref D) s3.heap.objs.size X.env.frame (.error e) s')
 have pg := hg s3 (upd H2 D (.lst [])) s3.heap.objs.size (cellsFrom (s3.heap.objs.size + 1) scope.names (cloFrom X.env.cells scope.names [])) fp (notedBy (model X.prog X.w) X.A (compEnvC scope (cellsFrom (s3.heap.objs.size + 1) scope.names (cloFrom X.env.cells scope.names [])) s3.heap.objs.size X.env) fun e s' => compPostX (model X.prog X.w) X.A X.xe use Qf (.ref D) s3.heap.objs.size X.env.frame (.error e) s')
 have pt := ht s3 (upd H2 D (.lst [])) s3.heap.objs.size (cellsFrom (s3.heap.objs.size + 1) scope.names (cloFrom X.env.cells scope.names [])) fp (notedBy (model X.prog X.w) X.A (compEnvC scope (cellsFrom (s3.heap.objs.size + 1) scope.names (cloFrom X.env.cells scope.names [])) s3.heap.objs.size X.env) fun e s' => compPostX (model X.prog X.w) X.A X.xe use Qf (.ref D) s3.heap.objs.size X.env.frame (.error e) s')
 have pe := he s3 (upd H2 D (.lst [])) s3.heap.objs.size (cellsFrom (s3.heap.objs.size + 1) scope.names (cloFrom X.env.cells scope.names [])) fp _ (takes_blk (acc := .ref D) (use := use) (Qf := Qf) hst hfr tk I3 f3 rfl rfl)
 show codeAny _ _ (.compStart (.ListComp elt [⟨tg, iter, ifs, 0⟩] scope pos) 0 (.ref it) (.ref D) (compEnvC scope (cellsFrom (s3.heap.objs.size + 1) scope.names (cloFrom X.env.cells scope.names [])) s3.heap.objs.size X.env)) (compPostX (model X.prog X.w) X.A X.xe use Qf (.ref D) s3.heap.objs.size X.env.frame) { s3 with heap := pushCells (s3.heap.push { cls := .type "dict", data := .dict #[] }) scope.names }
 have nfp : ∀ b ∈ fp, (upd H2 D (.lst [])) b = none := fun b hb => (f3 b hb).1.1
 generalize hce : compEnvC scope (cellsFrom (s3.heap.objs.size + 1) scope.names (cloFrom X.env.cells scope.names [])) s3.heap.objs.size X.env = ce at I4 pg pt pe ⊢
 have cL : ce.locals = s3.heap.objs.size := by subst hce; rfl
 generalize hH3 : upd H2 D (.lst []) = H3 at I3 I4 pg pt pe w0 nfp f3
 generalize hs4 : ({ s3 with heap := pushCells (s3.heap.push { cls := .type "dict", data := .dict #[] }) scope.names } : Shared) = s4 at I4 ⊢
 have st4 : tn 0 s4.heap := T.keep _ _ _ st3 fun b _ o e => by rw [← hs4]; exact pushCells_keeps _ _ _ _ (Heap.get?_push_of_some _ e)
 have stat : ∀ {σ' : St} {H' : Hp} {s' : Shared}, Inv (X.blkX s3 H3 scope ce fp (notedBy (model X.prog X.w) X.A ce fun e s' => compPostX (model X.prog X.w) X.A X.xe use Qf (.ref D) s3.heap.objs.size X.env.frame (.error e) s')) [] σ' H' s' → (∀ b ∈ fp, H' b = none) → ∀ b ∈ fp, FpOk (X.blkX s3 H3 scope ce fp (notedBy (model X.prog X.w) X.A ce fun e s' => compPostX (model X.prog X.w) X.A X.xe use Qf (.ref D) s3.heap.objs.size X.env.frame (.error e) s')) [] H' b := fun {σ' H' s'} I' hn b hb =>
  ⟨hn b hb, (I'.ok.exf b hb).1, I'.ok.exfs b hb, .inl hb, fun x c e => (I'.ok.exf b hb).2 x c e, fun p hp => absurd (show p ∈ ([] : List (Addr × Obj)) ++ [] from hp) (by simp)⟩
 have loop : codeAny (model X.prog X.w) X.A (.compLoop (.ListComp elt [⟨tg, iter, ifs, 0⟩] scope pos) 0 (.ref it) (.ref D) ce) (compPostX (model X.prog X.w) X.A X.xe use Qf (.ref D) s3.heap.objs.size X.env.frame) s4 := by
  refine compLoop_any (fun n s' => ∃ i H', Inv (X.blkX s3 H3 scope ce fp (notedBy (model X.prog X.w) X.A ce fun e s' => compPostX (model X.prog X.w) X.A X.xe use Qf (.ref D) s3.heap.objs.size X.env.frame (.error e) s')) [] (wipe σ (own.map (·.2))) H' s' ∧ tn i s'.heap ∧ (∀ b ∈ fp, H' b = none) ∧ W i n H') ?_ m0 ⟨0, H3, I4, st4, nfp, w0⟩
  rintro n s5 ⟨i, H5, I5, st5, n5, w5⟩
  rcases turn i n H5 w5 with ⟨stop, qq⟩ | ⟨go, Nx, hNx, step⟩
  ·have td := T.done (X.blkX s3 H3 scope ce fp (notedBy (model X.prog X.w) X.A ce fun e s' => compPostX (model X.prog X.w) X.A X.xe use Qf (.ref D) s3.heap.objs.size X.env.frame (.error e) s')) rfl rfl rfl hc i [] s5 _ H5 (fun _ _ => False) I5 (stat I5 n5) st5 stop
   refine thnF td fun r s6 ⟨hr, I6⟩ => ?_
   subst hr
   -- back in the def's context
   have I7 : Inv X pins σ H5 s6 := I3.call' (ch := fp) I6.os I6.base I6.hok I6.bare fun b hb => ⟨(f3 b hb).1.2.2.2.1, (f3 b hb).1.2.1, (f3 b hb).1.2.2.2.2.1, (f3 b hb).1.2.2.2.2.2⟩
   have nC : H5 s3.heap.objs.size = none := by
    have z : H5 ce.locals = none := I6.free
    rw [cL] at z
    exact z
   obtain ⟨m, hn, _⟩ := I6.loc
   have hn : s6.heap.Ns ce.locals m := hn
   rw [cL] at hn
   exact hRR D s3.heap.objs.size s6 m H5 I7 qq hn (I3.fpOk (Nat.le_refl _) nC)
  ·have ti := T.item (X.blkX s3 H3 scope ce fp (notedBy (model X.prog X.w) X.A ce fun e s' => compPostX (model X.prog X.w) X.A X.xe use Qf (.ref D) s3.heap.objs.size X.env.frame (.error e) s')) rfl rfl rfl hc i [] s5 _ H5 (fun _ _ => False) I5 (stat I5 n5) st5 go
   refine thnF ti fun r s6 ⟨u, hr, h6⟩ => ?_
   subst hr
   refine thnF h6 fun _ s7 ⟨x, H7, I7, r7, y7, st7, n7⟩ => ?_
   have I7' := I7.pinned (stat I7 n7) (T.obj _ _ st7)
   refine wpAny_mono' (pg.run _ s7 _ H7 x u _ I7' r7 (step x H7 y7)) fun _ s8 ⟨σ8, H8, I8, hw8, q8⟩ => ?_
   refine wpAny_mono' (pt.run _ s8 σ8 H8 _ I8 q8) fun b s9 ⟨H9, I9, q9⟩ => ?_
   -- the turn's end
   have fin : ∀ {s' : Shared} {H' : Hp}, Inv (X.blkX s3 H3 scope ce fp (notedBy (model X.prog X.w) X.A ce fun e s' => compPostX (model X.prog X.w) X.A X.xe use Qf (.ref D) s3.heap.objs.size X.env.frame (.error e) s')) ([] ++ pinsAt fp s7.heap) σ8 H' s' → Nx H' → ∃ m, m < n ∧ ∃ i H', Inv (X.blkX s3 H3 scope ce fp (notedBy (model X.prog X.w) X.A ce fun e s' => compPostX (model X.prog X.w) X.A X.xe use Qf (.ref D) s3.heap.objs.size X.env.frame (.error e) s')) [] (wipe σ (own.map (·.2))) H' s' ∧ tn i s'.heap ∧ (∀ b ∈ fp, H' b = none) ∧ W i m H' := fun {s' H'} I' nx => by
    obtain ⟨m', hm, w'⟩ := hNx H' nx
    have pin' : ∀ b ∈ fp, ∀ o, s7.heap.get? b = some o → s'.heap.get? b = some o ∧ H' b = none := fun b hb o e =>
     let z := I'.pin (b, o) (List.mem_append_right _ (List.mem_append_right _ (mem_pinsAt hb e)))
     ⟨z.1, z.2.1⟩
    have hl : (wipe σ (own.map (·.2))).length = σ8.length := by rw [← hw8, wipe_length]
    refine ⟨m', hm, i + 1, H', (I'.unpinned (pins := [])).weak hl (fun j v e => ?_), T.keep _ _ _ st7 fun b hb o e => (pin' b hb o e).1, fun b hb => ?_, w'⟩
    ·rw [← hw8] at e
     exact (wipe_some e).1
    ·obtain ⟨o, e, _⟩ := T.obj _ _ st7 b hb
     exact (pin' b hb o e).2
   cases b with
   | false =>
    simp only [Bool.false_eq_true, if_false] at q9 ⊢
    exact fin I9 q9
   | true =>
    simp only [if_true] at q9 ⊢
    refine wpAny_mono' (pe.run _ s9 σ8 H9 _ I9 q9) fun z s10 ⟨yv, H10, I10, r10, acc, hD10, hz10, nx⟩ => ?_
    exact app_ok (X := X.blkX s3 H3 scope ce fp (notedBy (model X.prog X.w) X.A ce fun e s' => compPostX (model X.prog X.w) X.A X.xe use Qf (.ref D) s3.heap.objs.size X.env.frame (.error e) s')) I10 hD10 hz10 r10 fun s11 I11 => fin I11 nx
 exact codeAny_compStart_list loop (T.self X.A 0 _ _ _ st4 loop)
end
end L2
namespace DL
open PySem PySem.Spec PyProof.Rows L2
section
variable {X : Cx} {elt tg iter : Expr} {ifs : List Expr} {scope : Scope} {own : List (Str × Nat)} {pos : Pos} {wi : WI} {is : List Nat} {gt : WG} {wt : WT} {we : WE}
end
end DL
namespace DL
open PySem PySem.Spec PyProof.Rows L2
end DL
namespace DL
open PySem PySem.Spec PyProof.Rows L2
end DL
namespace L2
open PySem PySem.Spec PyProof.Rows
section
variable {X : Cx} {o e : Expr} {to te : TE}
end
end L2
namespace DL
open PySem PySem.Spec PyProof.Rows L2
section
variable {X : Cx} {pos : Pos}
end
end DL
namespace DL
open PySem PySem.Spec PyProof.Rows L2 _root_.DM
section
variable {X : Cx}
end
section
variable {X : Cx} {pos p : Pos} {C n1 n2 : Str} {c1 c2 : D} {k : Nat} {wf : WF} {wa : WA} {e e2 : Expr} {q1 q2 : Pos} {we we2 : WE}
end
section
variable {X : Cx} {a : Addr} {oe : Obj} {cls : Value} {d : Option Addr} {pn : List (Addr × Obj)} {n pre : Str} {i j : Nat} {p1 p2 p3 p4 p5 p6 : Pos}
end
end DL
namespace DL
open PySem PySem.Spec PyProof.Rows L2 LamX _root_.DM
def LamO (q : Str) (params : Arguments) (body : Expr) (scope : Scope) (cl : List (Str × Addr)) (dV : Value) (f c' : Addr) : HO :=
 .ext fun h => ∃ doc pm ctv, h.get? f = some (PySem.W.kdv_obj "<lambda>" q params (.expr body) scope cl dV doc pm c' ctv)
section
variable {X : Cx} {pins : List (Addr × Obj)} {σ : L2.St} {H : Hp} {s : Shared}
theorem lamO_ok {P : Program} {w : World} {H' : Hp} {h : Heap} {q : Str} {params : Arguments} {body : Expr} {scope : Scope} {cl : List (Str × Addr)} {dV doc pm ctv : Value} {f c' : Addr} (e : h.get? f = some (PySem.W.kdv_obj "<lambda>" q params (.expr body) scope cl dV doc pm c' ctv)) : ObjOk P w H' h f (LamO q params body scope cl dV f c') :=
 ⟨⟨doc, pm, ctv, e⟩, ⟨_, e⟩, fun _ _ ⟨doc, pm, ctv, e⟩ st => ⟨doc, pm, ctv, st _ e⟩⟩
theorem lam_tail {dV : Value} {c P : Addr} {params : Arguments} {body : Expr} {scope : Scope} {pos : Pos} {E : Value → Shared → Prop} {Q : Value → Shared → Prop} {ps : Array Value} (I : Inv X pins σ H s) (TB : TabB X.base X.mg c P) (hcode : X.env.code = .ref c)
  (hP : H P = some (.tbl ps)) (ht : TriplesOk ps.toList) (ha : ∀ (pos : Pos) (cv : Value), codeAmong pos ps.toList = some cv → ∃ c, cv = .ref c ∧ H c = some (CodeO c (X.env.qual ++ "<lambda>"))) (hfree : ∀ y ∈ scope.names, y.2 = .free → ∃ c, X.env.cells.lookup y.1 = some c)
  (h : ∀ (f c' : Addr) (H1 : Hp) (s' : Shared), ((H1 = H ∧ ∃ pos : Pos, codeAmong pos ps.toList = some (.ref c')) ∨ (H c' = none ∧ ∃ l m, H1 = newCode H P (X.env.qual ++ "<lambda>") ps l m c')) → H1 f = none → H1 c' = some (CodeO c' (X.env.qual ++ "<lambda>")) →
   Inv X pins σ (upd H1 f (LamO (X.env.qual ++ "<lambda>") params body scope (cloFrom X.env.cells scope.names []) dV f c')) s' → Q (.ref f) s') :
  wpAny (model X.prog X.w) X.A (makeTail "<lambda>" (X.env.qual ++ "<lambda>") params (.expr body) scope X.env dV .none none pos pos.line) Q E s := by
 have bP : s.heap.BuiltinsAt X.mg P := TB.bm.keeps I.bk
 have hP' : s.heap.get? P = some { cls := .none, data := .fields ps } := I.hok P _ hP
 have clo := closure_ok hfree
 have gl := I.mod.glob.keeps I.bk
 have cd := TB.code.keeps I.bk
 cases hc : codeAmong pos ps.toList with
 | some cv =>
  obtain ⟨c', e, hco⟩ := ha pos cv hc
  subst e
  refine PySem.W.kdv_makeTailHit (mg := X.mg) (c := c) (P := P) (ps := ps) clo I.ok.glob gl hcode cd hP' ht hc bP fun ctv doc h' tk hx hsz => ?_
  refine h h'.objs.size c' H _ (.inl ⟨rfl, pos, hc⟩) (I.hok.fresh hsz) hco ?_
  exact I.laid (fun b o e => Heap.get?_push_of_some _ (hx b o e)) hsz (lamO_ok (Heap.get?_push_size _ rfl))
 | none =>
  refine PySem.W.kdv_makeTail (mg := X.mg) (c := c) (P := P) (ps := ps) clo I.ok.glob gl hcode cd hP' ht hc TB.gP bP fun c' ctv doc h' tk hx hge hlt hrec htb => ?_
  obtain ⟨c2, oc, vs, t, e2, hoc, hd, hv⟩ := hrec
  cases e2
  have J := inv_table (t' := tk) (more := #[rawInt pos.line, rawInt pos.col, .ref c']) (h' := h') I hP (fun b o hb e => hx b o hb e) htb hge ⟨oc, vs, t, hoc, hd, hv⟩
  have hf : (upd (upd H P (.tbl (ps ++ #[rawInt pos.line, rawInt pos.col, .ref c']))) c' (CodeO c' (X.env.qual ++ "<lambda>"))) h'.objs.size = none := J.hok.fresh (Nat.le_refl _)
  refine h h'.objs.size c' _ _ (.inr ⟨I.hok.fresh hge, _, _, rfl⟩) hf upd_same ?_
  exact J.laid (t' := tk) (fun b o e => Heap.get?_push_of_some _ e) (Nat.le_refl _) (lamO_ok (Heap.get?_push_size _ rfl))
def tLam1 (P : Addr) (q : Str) (params : Arguments) (body : Expr) (scope : Scope) (cl : List (Str × Addr)) (df : Bool) : TE := fun _ H Q => (∃ ps : Array Value, H P = some (.tbl ps) ∧ TriplesOk ps.toList ∧ ∀ (pos : Pos) (cv : Value), codeAmong pos ps.toList = some cv → ∃ c, cv = .ref c ∧ H c = some (CodeO c q)) ∧
 ∀ (H0 : Hp) (dV : Value), (match df with
  | false => H0 = H ∧ dV = .none
  | true => ∃ T0, H T0 = none ∧ H0 = upd H T0 (.tup [.int 0]) ∧ dV = .ref T0) →
 ∀ ps : Array Value, H0 P = some (.tbl ps) → ∀ (f c' : Addr) (H1 : Hp), ((H1 = H0 ∧ ∃ pos : Pos, codeAmong pos ps.toList = some (.ref c')) ∨ (H0 c' = none ∧ ∃ l m, H1 = newCode H0 P q ps l m c')) → H1 f = none → H1 c' = some (CodeO c' q) → Q (.ref f) (upd H1 f (LamO q params body scope cl dV f c'))
theorem pe_lam0 {c P : Addr} {params : Arguments} {body : Expr} {scope : Scope} {pos : Pos} (TB : TabB X.base X.mg c P) (hcode : X.env.code = .ref c) (L : ∀ y ∈ scope.names, y.2 = .free → X.env.scope.names.lookup y.1 = some .cell ∨ X.env.scope.names.lookup y.1 = some .free) (hdef : defaultsOf params X.env = ([], [])) :
  PE X (.Lambda params body scope pos) (tLam1 P (X.env.qual ++ "<lambda>") params body scope (cloFrom X.env.cells scope.names []) false) := by
 refine ⟨fun pins s σ H Q I h => ?_⟩
 obtain ⟨⟨ps, hP, hT, hA⟩, h⟩ := h
 refine PySem.W.kla_eval hdef ?_
 rw [makeFunction_eq]
 simp only [List.zip_nil_right, List.filterMap_nil, List.isEmpty_nil, if_true, pure_bind]
 exact lam_tail I TB hcode hP hT hA (fun y hy e => (L y hy e).elim (fun k => I.ok.has _ (.inl k)) fun k => I.ok.has _ (.inr k)) fun f c' H1 s' hH hf hc J => ⟨.ref f, _, J, rfl, h H .none ⟨rfl, rfl⟩ ps hP f c' H1 hH hf hc⟩
theorem pe_lam1 {c P : Addr} {params : Arguments} {body : Expr} {scope : Scope} {pos dp : Pos} {dj : Nat} (TB : TabB X.base X.mg c P) (hcode : X.env.code = .ref c) (L : ∀ y ∈ scope.names, y.2 = .free → X.env.scope.names.lookup y.1 = some .cell ∨ X.env.scope.names.lookup y.1 = some .free) (hd : params.defaults = [.Constant (.int 0) dj dp]) (hk : params.kw_defaults = []) :
  PE X (.Lambda params body scope pos) (tLam1 P (X.env.qual ++ "<lambda>") params body scope (cloFrom X.env.cells scope.names []) true) := by
 refine ⟨fun pins s σ H Q I h => ?_⟩
 obtain ⟨⟨ps, hP, hT, hA⟩, h⟩ := h
 refine PySem.W.kdv_lam (by rw [hd]; rfl) hk ?_
 rw [hd]
 refine PySem.W.kdv_all1 (thn ((pe_int (pos := dp)).run pins s σ H (fun v H1 => v = .int 0 ∧ H1 = H) I ⟨rfl, rfl⟩) fun u s1 ⟨v, H1, I1, r1, q1⟩ => PySem.W.kdv_all0 ?_)
 obtain ⟨ev, eH⟩ := q1
 subst ev
 rw [eH] at I1
 rw [makeFunction_eq]
 simp only [List.zip_nil_right, List.filterMap_nil, List.isEmpty_nil, List.isEmpty_cons, if_true, pure_bind, Bool.false_eq_true, if_false]
 refine wpAny_bind (wpAny_newTextTuple ?_)
 have hT0 : H s1.heap.objs.size = none := I1.hok.fresh (Nat.le_refl _)
 have I2 : Inv X pins σ (upd H s1.heap.objs.size (.tup [.int 0])) { s1 with heap := s1.heap.push { cls := .type "tuple", data := .seq [u].toArray } } :=
  I1.laid (t' := s1.toks) (fun b o e => Heap.get?_push_of_some _ e) (Nat.le_refl _) ⟨le_line (by decide : 1 ≤ 4096), [u], .cons r1 .nil, ⟨_, Heap.get?_push_size _ rfl, rfl, _, rfl⟩⟩
 have up : ∀ b o, H b = some o → upd H s1.heap.objs.size (.tup [.int 0]) b = some o := fun b o e => by rw [upd_ne (ne_of_none e hT0)]; exact e
 refine lam_tail I2 TB hcode (up _ _ hP) hT (fun pos cv hc => ?_) (fun y hy e => (L y hy e).elim (fun k => I.ok.has _ (.inl k)) fun k => I.ok.has _ (.inr k)) fun f c' H1 s' hH hf hc J => ⟨.ref f, _, J, rfl, h _ _ ⟨_, hT0, rfl, rfl⟩ ps (up _ _ hP) f c' H1 hH hf hc⟩
 obtain ⟨c0, e1, e2⟩ := hA pos cv hc
 exact ⟨c0, e1, up _ _ e2⟩
end
structure LamS3 (N : List Str) (sc scope : Scope) : Prop where
 kind : scope.kind = .function
 co : scope.isCoroutine = false
 gen : scope.isGenerator = false
 own : ∀ y ∈ scope.names, (y.2 = .local → y.1 ∉ N) ∧ y.2 ≠ .cell
 free : ∀ y ∈ scope.names, y.2 = .free → sc.names.lookup y.1 = some .cell ∨ sc.names.lookup y.1 = some .free
def lamSB3 (N : List Str) (sc scope : Scope) : Bool :=
 decide (scope.kind = .function) && (!scope.isCoroutine && (!scope.isGenerator && scope.names.all fun y => (!decide (y.2 = .local) || !decide (y.1 ∈ N)) && (!decide (y.2 = .cell) && (!decide (y.2 = .free) || (decide (sc.names.lookup y.1 = some .cell) || decide (sc.names.lookup y.1 = some .free))))))
theorem lamS3_by {N : List Str} {sc scope : Scope} (h : lamSB3 N sc scope = true) : LamS3 N sc scope := by
 unfold lamSB3 at h
 simp only [Bool.and_eq_true, Bool.or_eq_true, Bool.not_eq_true', decide_eq_true_eq, decide_eq_false_iff_not, List.all_eq_true] at h
 obtain ⟨h1, h2, h3, h4⟩ := h
 refine ⟨h1, h2, h3, fun y hy => ⟨fun e => ?_, (h4 y hy).2.1⟩, fun y hy e => ?_⟩
 ·rcases (h4 y hy).1 with z | z
  ·exact absurd e z
  ·exact z
 ·rcases (h4 y hy).2.2 with z | z
  ·exact absurd e z
  ·exact z
section
variable {X : Cx} {pins : List (Addr × Obj)} {σ : L2.St} {H HZ : Hp} {s s1 : Shared}
theorem lam_start3 {fz : List Addr} {A : Around} {outer : List Env} {E : XK} {scope : Scope} {f c' : Addr} {h₁ : Heap} {tk : Nat} {m0 : Str → Option Value} (I : Inv X pins σ H s) (L : LamS3 X.N X.env.scope scope) (e0 : Env0 X.prog X.w X.K X.mg X.base A outer s1 HZ) (hd : A.handled = none)
  (un : Un fz [] H HZ s.heap s1.heap) (hns : h₁.Ns s1.heap.objs.size m0) (kp : ∀ b o, s1.heap.get? b = some o → h₁.get? b = some o) :
  Inv (lamCx X A outer s1 HZ E scope f c') [] σ HZ { s1 with heap := h₁, toks := tk } := by
 have cap : ∀ y ∈ scope.names, y.2 = .free → ∃ c, X.env.cells.lookup y.1 = some c := fun y hy e => (L.free y hy e).elim (fun k => I.ok.has _ (.inl k)) fun k => I.ok.has _ (.inr k)
 have same : ∀ {y : Str} {c : Addr}, (cloFrom X.env.cells scope.names []).lookup y = some c → X.env.cells.lookup y = some c := fun {y c} e => by
  rcases cloFrom_mem (PySem.mem_of_lookup e) with hm | ⟨g1, g2⟩
  ·exact nomatch hm
  ·obtain ⟨c1, hc⟩ := cap _ g1 rfl
   have hc : X.env.cells.lookup y = some c1 := hc
   have e2 : c = c1 := by
    rw [g2, hc] <;> rfl
   rw [e2, hc]
 have there : ∀ {y : Str}, scope.names.lookup y = some .free → ∃ c, (cloFrom X.env.cells scope.names []).lookup y = some c := fun {y} hl => mem_lookup (cloFrom_has (cells := X.env.cells) (acc := []) (show (y, NameKind.free) ∈ scope.names from PySem.mem_of_lookup hl))
 have stays : ∀ {c : Addr} {v : Option Value}, H c = none → s.heap.IsCell c v → h₁.IsCell c v := fun {c v} n ⟨o, ho, hd⟩ => by
  obtain ⟨sl, q⟩ := un.any ho n (by simp)
  exact ⟨_, kp _ _ q, hd⟩
 have none : ∀ b : Addr, b ∉ (lamCx X A outer s1 HZ E scope f c').ex := fun b z => nomatch (show b ∈ ([] : List Addr) from z)
 refine ⟨⟨e0.mod, L.kind, rfl, rfl, Nat.le_refl _, fun y z c e1 e2 => I.ok.inj y z c (same e1) (same e2), fun y hy => ?_, (fun y c z _ => nomatch (show false = true from z)), fun _ => hd, Around.frames_deeper e0.frames, .inr ⟨rfl, rfl⟩, fun b z => absurd z (none b), e0.bs, e0.bsz, fun b _ _ => none b,
   fun b z => absurd z (none b), e0.funs, e0.frf⟩,
  rfl, e0.bare, Un.kept kp, ⟨_, hns, fun i y v e1 e2 e3 => ?_⟩, fun y c e => ?_, e0.hok.fresh (Nat.le_refl _), fun y c e => ?_, (fun q hq => nomatch (show q ∈ ([] : List (Addr × Obj)) from hq)), e0.hok.kept kp, I.len⟩
 ·rcases (show scope.names.lookup y = some .cell ∨ scope.names.lookup y = some .free from hy) with k | k
  ·exact absurd rfl (L.own _ (PySem.mem_of_lookup k)).2
  ·exact there k
 ·rcases (show Vis scope y from e3) with k | k | k
  ·exact absurd (List.mem_of_getElem? e1) ((L.own _ (PySem.mem_of_lookup k)).1 rfl)
  ·exact absurd rfl (L.own _ (PySem.mem_of_lookup k)).2
  ·obtain ⟨m, hn, look⟩ := I.loc
   have out := L.free _ (PySem.mem_of_lookup k) rfl
   obtain ⟨u, r, q⟩ := look i y v e1 e2 (out.elim (fun k => .inr (.inl k)) fun k => .inr (.inr k))
   obtain ⟨c2, h2⟩ := there k
   refine ⟨u, r, .inr ⟨.inr k, c2, h2, ?_⟩⟩
   rcases q with ⟨k', _⟩ | ⟨_, c3, e', z⟩
   ·have k' : X.env.scope.names.lookup y = some .local := k'
    rcases out with k2 | k2 <;> rw [show X.env.scope.names.lookup y = _ from k2] at k' <;> cases k'
   ·rw [same h2] at e'
    cases e'
    exact stays (I.freeC y _ (same h2)) z
 ·obtain ⟨u, z⟩ := I.cell y c (same e)
  exact ⟨u, stays (I.freeC y c (same e)) z⟩
 ·obtain ⟨v, o, ho, _⟩ := I.cell y c (same e)
  exact un.free c o ho (I.freeC y c (same e)) (by simp)
structure LamB (params : Arguments) (body : Expr) (scope : Scope) (df : Bool) : Prop where
 b0 : df = false → ∀ (q : Str) (cl : List (Str × Addr)) (doc pm cv ctv : Value), bindArgs (PySem.W.kdv_fn "<lambda>" q params (.expr body) scope cl .none doc pm cv ctv) ⟨[], []⟩ = pure []
 b1 : df = true → ∃ nm : Str, scope.names.lookup nm = some .local ∧ ∀ (q : Str) (cl : List (Str × Addr)) (doc pm cv ctv : Value) (T0 : Addr), ∃ kc : Option (Array Value) → Sem (List (Str × Value)),
  bindArgs (PySem.W.kdv_fn "<lambda>" q params (.expr body) scope cl (.ref T0) doc pm cv ctv) ⟨[], []⟩ = seqItems? (.ref T0) >>= kc ∧ ∀ u : Value, kc (some #[u]) = pure [(nm, u)]
def DfOk (H : Hp) (df : Bool) (dV : Value) : Prop := match df with
 | false => dV = .none
 | true => ∃ T0, dV = .ref T0 ∧ H T0 = some (.tup [.int 0])
theorem bind_lam {P : Program} {w : World} {params : Arguments} {body : Expr} {scope : Scope} {df : Bool} {dV : Value} {q : Str} {cl : List (Str × Addr)} {doc pm cv ctv : Value} (B : LamB params body scope df) (D : DfOk HZ df dV) (hk : HOk P w HZ s1.heap) :
  ∃ binds : List (Str × Value), (∀ y ∈ binds, scope.names.lookup y.1 = some .local) ∧ BindsTo s1 (PySem.W.kdv_fn "<lambda>" q params (.expr body) scope cl dV doc pm cv ctv) ⟨[], []⟩ binds := by
 cases df with
 | false =>
  have D : dV = .none := D
  subst D
  exact ⟨[], (fun y hy => nomatch hy), BindsTo.of_eq (B.b0 rfl q cl doc pm cv ctv)⟩
 | true =>
  obtain ⟨T0, rfl, hT⟩ := (show ∃ T0, dV = .ref T0 ∧ HZ T0 = some (.tup [.int 0]) from D)
  obtain ⟨nm, hn, hb⟩ := B.b1 rfl
  obtain ⟨_, its, hv, o, ho, _, n, hd⟩ := hk T0 _ hT
  obtain ⟨kc, e1, e2⟩ := hb q cl doc pm cv ctv T0
  have hi : ∃ u, its = [u] := by
   have := hv.length
   match its, this with
   | [u], _ => exact ⟨u, rfl⟩
  obtain ⟨u, rfl⟩ := hi
  exact ⟨[(nm, u)], fun y hy => by cases List.mem_singleton.mp hy; exact hn, BindsTo.of_defaults rfl ho hd e1 (e2 u)⟩
theorem act3 {CXg : CXT} {Eg : XK} {Ng : List Str} {qg : Str} {sg : Scope} {g f c' : Addr} {cdg dV : Value} {params : Arguments} {body : Expr} {scope : Scope} {df : Bool} {k i : Nat} {a : Str} {A0 : Around} {St0 : List Env} {pn : List (Addr × Obj)} {xe : Value → Shared → Prop} {W : WX} {E : XK} {tb : TE} {p1 p2 : Pos}
  (I : Inv X pins σ H s) (L : LamS3 X.N X.env.scope scope) (B : LamB params body scope df)
  (tk : Takes ((cxOf CXg X.prog X.w X.K X.mg X.base Ng qg sg g cdg A0 St0 s H Eg).tr pn xe) W) (hW : ∀ cls d σ' H', E cls d H' → W cls d σ' H') (hr : Room (k + 1) (A0.deeper (envOfC qg sg s.heap.objs.size g cdg)))
  (hbody : ∀ (A : Around) (outer : List Env) (s : Shared) (H : Hp), Room k (A.deeper (lamEnv X scope s.heap.objs.size f c')) → PE (lamCx X A outer s H E scope f c') body tb)
  (hN : Ng[i]? = some a) (hv : Vis sg a) (hd : (a == ("__debug__" : Str)) = false := by decide) (hcd : (a == ("__classdict__" : Str)) = false := by decide) :
  PE ((cxOf CXg X.prog X.w X.K X.mg X.base Ng qg sg g cdg A0 St0 s H Eg).tr pn xe) (.Call (.Name a p1) [] [] p2)
   (fun σZ HZ Q => σZ[i]? = some (some (.ref f)) ∧ HZ f = some (LamO (X.env.qual ++ "<lambda>") params body scope (cloFrom X.env.cells scope.names []) dV f c') ∧ DfOk HZ df dV ∧ HZ c' = some (CodeO c' (X.env.qual ++ "<lambda>")) ∧ tb σ HZ Q) := by
 refine ⟨fun pinsZ sZ σZ HZ Q IZ h => ?_⟩
 obtain ⟨hs, hf, hD, hc, ht⟩ := h
 refine wpAny_Call_Name_kw (thn ((pe_var (pos := p1) (i := i) hN hv hd hcd).run pinsZ sZ σZ HZ (fun v H1 => v = .ref f ∧ H1 = HZ) IZ ⟨.ref f, hs, rfl, rfl⟩) fun u s1 ⟨v, H1, I1, r1, q1⟩ => ?_)
 obtain ⟨ev, eH⟩ := q1
 subst ev
 rw [eH] at I1
 obtain rfl : u = Value.ref f := r1
 obtain ⟨⟨doc, pm, ctv, of1⟩, _, _⟩ := I1.hok f _ hf
 refine PySem.W.callWith_F0 ⟨_, _, _, _, of1⟩ ?_
 have un : Un (frs St0) [] H HZ s.heap s1.heap := I1.base
 obtain ⟨⟨oc, vs, t, hoc, hdc, hvc⟩, _, _⟩ := I1.hok c' _ hc
 obtain ⟨binds, bl, bt⟩ := bind_lam (q := X.env.qual ++ "<lambda>") (cl := cloFrom X.env.cells scope.names []) (doc := doc) (pm := pm) (cv := .ref c') (ctv := ctv) B hD I1.hok
 have rc : codeAny (model X.prog X.w) (A0.deeper (envOfC qg sg s.heap.objs.size g cdg)) (.call (.ref f) ⟨[], []⟩) (CR (L2.CX X.prog X.w) (envOfC qg sg s.heap.objs.size g cdg :: St0) X.prog X.w HZ s1 Q E) s1 := by
  refine PySem.W.kla_callFunE hr.depth of1 rfl L.co L.gen rfl ⟨c', oc, vs, t, rfl, hoc, hdc, hvc⟩ ?_
  refine bt _ _ _ _ ?_
  refine wpAny_newFunctionEnv (fun y hy => (L.own y hy).2) bl (fun h₁ hns hsb => ⟨I1.nolimit.fresh _ hsb, ?_⟩) L.kind
  show codeAny _ _ (.expr body (lamEnv X scope s1.heap.objs.size f c')) _ _
  have kp : ∀ b o, s1.heap.get? b = some o → h₁.get? b = some o := fun b o e => hsb.extBut b o (Nat.ne_of_lt (Heap.lt_size e)) (Heap.get?_push_of_some _ e)
  have J : Inv (lamCx X (A0.deeper (envOfC qg sg s.heap.objs.size g cdg)) (envOfC qg sg s.heap.objs.size g cdg :: St0) s1 HZ E scope f c') [] σ HZ { s1 with heap := h₁, toks := s1.toks + binds.length } :=
   lam_start3 I L I1.env0 hr.hd un hns kp
  refine PySem.W.kla_codeExpr (wpAny_mono ((hbody _ _ s1 HZ (hr.deeper _)).run [] _ _ HZ Q J ht) (fun v s' hq => ?_) fun e s' hq => hq)
  obtain ⟨w', H', J', rv, q⟩ := hq
  exact ⟨w', H', J'.os, J'.bare, J'.base, J'.hok, rv, q⟩
 have hx : Passes (L2.CX X.prog X.w) ((cxOf CXg X.prog X.w X.K X.mg X.base Ng qg sg g cdg A0 St0 s H Eg).tr pn xe) E := passes_call tk hW
 refine wpAny_call (codeAny_mono rc fun r s' hq => ?_)
 cases r with
 | error e => exact hx pinsZ σZ HZ s1 e s' I1 hq
 | ok fl =>
  cases fl with
  | ret u => exact I1.after hq
  | next => exact hq.elim
  | brk => exact hq.elim
  | cont => exact hq.elim
end
end DL
namespace L2
open PySem PySem.Spec PyProof.Rows
section
variable {X : Cx}
theorem lc_coreY {W0 : WX} (hst : X.stack = X.env :: X.outer) (hfr : X.env.frame = some X.env.locals) (tk : L2N.Takes X W0) {pins : List (Addr × Obj)} {s : Shared} {σ : St} {H : Hp} {Q : VK} {elt tg iter : Expr} {ifs : List Expr} {scope : Scope} {own : List (Str × Nat)} {pos pos' : Pos} {wi : TI} {g : TG} {tt : TT} {te : TE} {use : Option (Value → Sem Unit)} {Qf : Value → Shared → Prop}
  (hc : X.calm = true) (hN : X.N.Nodup) (I : Inv X pins σ H s) (hi : PI X tg iter wi) (ok : BlkOk X.N X.env.scope scope own)
  (hg : ∀ (s : Shared) (H : Hp) (C : Addr) (cl : List (Str × Addr)) (fp : List Addr) (xe : Value → Shared → Prop), PG (X.blkX s H scope (compEnvC scope cl C X.env) fp xe) tg g) (ht : ∀ (s : Shared) (H : Hp) (C : Addr) (cl : List (Str × Addr)) (fp : List Addr) (xe : Value → Shared → Prop), PTs (X.blkX s H scope (compEnvC scope cl C X.env) fp xe) ifs tt)
  (he : ∀ (s : Shared) (H : Hp) (C : Addr) (cl : List (Str × Addr)) (fp : List Addr) (xe : Value → Shared → Prop), L2N.Takes (X.blkX s H scope (compEnvC scope cl C X.env) fp xe) (fun c d _ H => W0 c d σ H) → (∀ (pins' : List (Addr × Obj)) (σ' : St) (H' : Hp) (s' : Shared), Inv (X.blkX s H scope (compEnvC scope cl C X.env) fp xe) pins' σ' H' s' → Inv X pins σ H' s') → PE (X.blkX s H scope (compEnvC scope cl C X.env) fp xe) elt te) (hs : ∀ x, foldedSetIterable iter X.env x = pure x)
  (h : tLc wi g tt te (own.map (·.2)) σ H Q)
  (hRR : ∀ D C s' m H', Inv X pins σ H' s' → Q (.ref D) H' → s'.heap.Ns C m → FpOk X pins H' C → compPostX (model X.prog X.w) X.A X.xe use Qf (.ref D) C X.env.frame (.ok .next) s') :
  wpAny (model X.prog X.w) X.A (comprehension (.ListComp elt [⟨tg, iter, ifs, 0⟩] scope pos) scope X.env pos' (newList []) false (eval iter X.env) use) Qf X.xe s := by
 have hfree : ∀ y ∈ scope.names, y.2 = .free → ∃ c, X.env.cells.lookup y.1 = some c := fun y hy e => by
  rcases ok.free y hy e with k | k
  ·exact I.ok.has _ (.inl k)
  ·exact I.ok.has _ (.inr k)
 refine wpAny_comprehension_freeX (use := use) rfl hs (closure_ok hfree) ok.kind (fun y hy e => by rw [ok.uniq y hy, e])
  (thn (hi.run pins s σ H _ I h) fun xv s1 hx => thn hx fun itv s2 h2 => ?_)
 obtain ⟨it, fp, tn, J, H2, e, I2, T, st2, f2, q⟩ := h2
 subst e
 refine wpAny_newObj_type (newEnv_comp ?_) (by show 0 ≤ sizeLine; decide)
 generalize hD : s2.heap.objs.size = D
 have hDn : H2 D = none := I2.hok.fresh (Nat.le_of_eq hD)
 obtain ⟨W, ⟨m0, w0⟩, turn⟩ := q D hDn
 -- the new list
 generalize hs3 : ({ s2 with heap := s2.heap.push { cls := .type "list", data := .seq ([] : List Value).toArray } } : Shared) = s3
 have I3 : Inv X pins σ (upd H2 D (.lst [])) s3 := by
  rw [← hs3]
  refine I2.laid (t' := s2.toks) (fun b o e => Heap.get?_push_of_some _ e) (Nat.le_of_eq hD) ⟨Nat.zero_le _, [], 0, .nil, ?_⟩
  rw [← hD]
  exact Heap.get?_push_size _ rfl
 have h3 : s3.heap = s2.heap.push { cls := .type "list", data := .seq ([] : List Value).toArray } := by rw [← hs3]
 have sz : ∀ b ∈ fp, b < s2.heap.objs.size := fun b hb => by
  obtain ⟨o, e, _⟩ := T.obj _ _ st2 b hb
  exact Heap.lt_size e
 have f3 : ∀ b ∈ fp, FpOk X pins (upd H2 D (.lst [])) b ∧ b < s3.heap.objs.size := fun b hb => by
  have hlt := sz b hb
  refine ⟨⟨?_, (f2 b hb).2⟩, by rw [h3, Heap.size_push]; exact Nat.lt_succ_of_lt hlt⟩
  rw [upd_ne (by rw [← hD]; exact Nat.ne_of_lt hlt)]
  exact (f2 b hb).1
 have st3 : tn 0 s3.heap := T.keep _ _ _ st2 fun b _ o e => by rw [h3]; exact Heap.get?_push_of_some _ e
 have I4 := (block_start I3 ok hN f3).toX (notedBy (model X.prog X.w) X.A (compEnvC scope (cellsFrom (s3.heap.objs.size + 1) scope.names (cloFrom X.env.cells scope.names [])) s3.heap.objs.size X.env) fun e s' => compPostX (model X.prog X.w) X.A X.xe use Qf (.ref D) s3.heap.objs.size X.env.frame (.error e) s')
 have pg := hg s3 (upd H2 D (.lst [])) s3.heap.objs.size (cellsFrom (s3.heap.objs.size + 1) scope.names (cloFrom X.env.cells scope.names [])) fp (notedBy (model X.prog X.w) X.A (compEnvC scope (cellsFrom (s3.heap.objs.size + 1) scope.names (cloFrom X.env.cells scope.names [])) s3.heap.objs.size X.env) fun e s' => compPostX (model X.prog X.w) X.A X.xe use Qf (.ref D) s3.heap.objs.size X.env.frame (.error e) s')
 have pt := ht s3 (upd H2 D (.lst [])) s3.heap.objs.size (cellsFrom (s3.heap.objs.size + 1) scope.names (cloFrom X.env.cells scope.names [])) fp (notedBy (model X.prog X.w) X.A (compEnvC scope (cellsFrom (s3.heap.objs.size + 1) scope.names (cloFrom X.env.cells scope.names [])) s3.heap.objs.size X.env) fun e s' => compPostX (model X.prog X.w) X.A X.xe use Qf (.ref D) s3.heap.objs.size X.env.frame (.error e) s')
 have pe := he s3 (upd H2 D (.lst [])) s3.heap.objs.size (cellsFrom (s3.heap.objs.size + 1) scope.names (cloFrom X.env.cells scope.names [])) fp _ (takes_blk (acc := .ref D) (use := use) (Qf := Qf) hst hfr tk I3 f3 rfl rfl) (fun pins' σ' H' s' I6 => I3.call' (ch := fp) I6.os I6.base I6.hok I6.bare fun b hb => ⟨(f3 b hb).1.2.2.2.1, (f3 b hb).1.2.1, (f3 b hb).1.2.2.2.2.1, (f3 b hb).1.2.2.2.2.2⟩)
 show codeAny _ _ (.compStart (.ListComp elt [⟨tg, iter, ifs, 0⟩] scope pos) 0 (.ref it) (.ref D) (compEnvC scope (cellsFrom (s3.heap.objs.size + 1) scope.names (cloFrom X.env.cells scope.names [])) s3.heap.objs.size X.env)) (compPostX (model X.prog X.w) X.A X.xe use Qf (.ref D) s3.heap.objs.size X.env.frame) { s3 with heap := pushCells (s3.heap.push { cls := .type "dict", data := .dict #[] }) scope.names }
 have nfp : ∀ b ∈ fp, (upd H2 D (.lst [])) b = none := fun b hb => (f3 b hb).1.1
 generalize hce : compEnvC scope (cellsFrom (s3.heap.objs.size + 1) scope.names (cloFrom X.env.cells scope.names [])) s3.heap.objs.size X.env = ce at I4 pg pt pe ⊢
 have cL : ce.locals = s3.heap.objs.size := by subst hce; rfl
 generalize hH3 : upd H2 D (.lst []) = H3 at I3 I4 pg pt pe w0 nfp f3
 generalize hs4 : ({ s3 with heap := pushCells (s3.heap.push { cls := .type "dict", data := .dict #[] }) scope.names } : Shared) = s4 at I4 ⊢
 have st4 : tn 0 s4.heap := T.keep _ _ _ st3 fun b _ o e => by rw [← hs4]; exact pushCells_keeps _ _ _ _ (Heap.get?_push_of_some _ e)
 have stat : ∀ {σ' : St} {H' : Hp} {s' : Shared}, Inv (X.blkX s3 H3 scope ce fp (notedBy (model X.prog X.w) X.A ce fun e s' => compPostX (model X.prog X.w) X.A X.xe use Qf (.ref D) s3.heap.objs.size X.env.frame (.error e) s')) [] σ' H' s' → (∀ b ∈ fp, H' b = none) → ∀ b ∈ fp, FpOk (X.blkX s3 H3 scope ce fp (notedBy (model X.prog X.w) X.A ce fun e s' => compPostX (model X.prog X.w) X.A X.xe use Qf (.ref D) s3.heap.objs.size X.env.frame (.error e) s')) [] H' b := fun {σ' H' s'} I' hn b hb =>
  ⟨hn b hb, (I'.ok.exf b hb).1, I'.ok.exfs b hb, .inl hb, fun x c e => (I'.ok.exf b hb).2 x c e, fun p hp => absurd (show p ∈ ([] : List (Addr × Obj)) ++ [] from hp) (by simp)⟩
 have loop : codeAny (model X.prog X.w) X.A (.compLoop (.ListComp elt [⟨tg, iter, ifs, 0⟩] scope pos) 0 (.ref it) (.ref D) ce) (compPostX (model X.prog X.w) X.A X.xe use Qf (.ref D) s3.heap.objs.size X.env.frame) s4 := by
  refine compLoop_any (fun n s' => ∃ i H', Inv (X.blkX s3 H3 scope ce fp (notedBy (model X.prog X.w) X.A ce fun e s' => compPostX (model X.prog X.w) X.A X.xe use Qf (.ref D) s3.heap.objs.size X.env.frame (.error e) s')) [] (wipe σ (own.map (·.2))) H' s' ∧ tn i s'.heap ∧ (∀ b ∈ fp, H' b = none) ∧ W i n H') ?_ m0 ⟨0, H3, I4, st4, nfp, w0⟩
  rintro n s5 ⟨i, H5, I5, st5, n5, w5⟩
  rcases turn i n H5 w5 with ⟨stop, qq⟩ | ⟨go, Nx, hNx, step⟩
  ·have td := T.done (X.blkX s3 H3 scope ce fp (notedBy (model X.prog X.w) X.A ce fun e s' => compPostX (model X.prog X.w) X.A X.xe use Qf (.ref D) s3.heap.objs.size X.env.frame (.error e) s')) rfl rfl rfl hc i [] s5 _ H5 (fun _ _ => False) I5 (stat I5 n5) st5 stop
   refine thnF td fun r s6 ⟨hr, I6⟩ => ?_
   subst hr
   -- back in the def's context
   have I7 : Inv X pins σ H5 s6 := I3.call' (ch := fp) I6.os I6.base I6.hok I6.bare fun b hb => ⟨(f3 b hb).1.2.2.2.1, (f3 b hb).1.2.1, (f3 b hb).1.2.2.2.2.1, (f3 b hb).1.2.2.2.2.2⟩
   have nC : H5 s3.heap.objs.size = none := by
    have z : H5 ce.locals = none := I6.free
    rw [cL] at z
    exact z
   obtain ⟨m, hn, _⟩ := I6.loc
   have hn : s6.heap.Ns ce.locals m := hn
   rw [cL] at hn
   exact hRR D s3.heap.objs.size s6 m H5 I7 qq hn (I3.fpOk (Nat.le_refl _) nC)
  ·have ti := T.item (X.blkX s3 H3 scope ce fp (notedBy (model X.prog X.w) X.A ce fun e s' => compPostX (model X.prog X.w) X.A X.xe use Qf (.ref D) s3.heap.objs.size X.env.frame (.error e) s')) rfl rfl rfl hc i [] s5 _ H5 (fun _ _ => False) I5 (stat I5 n5) st5 go
   refine thnF ti fun r s6 ⟨u, hr, h6⟩ => ?_
   subst hr
   refine thnF h6 fun _ s7 ⟨x, H7, I7, r7, y7, st7, n7⟩ => ?_
   have I7' := I7.pinned (stat I7 n7) (T.obj _ _ st7)
   refine wpAny_mono' (pg.run _ s7 _ H7 x u _ I7' r7 (step x H7 y7)) fun _ s8 ⟨σ8, H8, I8, hw8, q8⟩ => ?_
   refine wpAny_mono' (pt.run _ s8 σ8 H8 _ I8 q8) fun b s9 ⟨H9, I9, q9⟩ => ?_
   -- the turn's end
   have fin : ∀ {s' : Shared} {H' : Hp}, Inv (X.blkX s3 H3 scope ce fp (notedBy (model X.prog X.w) X.A ce fun e s' => compPostX (model X.prog X.w) X.A X.xe use Qf (.ref D) s3.heap.objs.size X.env.frame (.error e) s')) ([] ++ pinsAt fp s7.heap) σ8 H' s' → Nx H' → ∃ m, m < n ∧ ∃ i H', Inv (X.blkX s3 H3 scope ce fp (notedBy (model X.prog X.w) X.A ce fun e s' => compPostX (model X.prog X.w) X.A X.xe use Qf (.ref D) s3.heap.objs.size X.env.frame (.error e) s')) [] (wipe σ (own.map (·.2))) H' s' ∧ tn i s'.heap ∧ (∀ b ∈ fp, H' b = none) ∧ W i m H' := fun {s' H'} I' nx => by
    obtain ⟨m', hm, w'⟩ := hNx H' nx
    have pin' : ∀ b ∈ fp, ∀ o, s7.heap.get? b = some o → s'.heap.get? b = some o ∧ H' b = none := fun b hb o e =>
     let z := I'.pin (b, o) (List.mem_append_right _ (List.mem_append_right _ (mem_pinsAt hb e)))
     ⟨z.1, z.2.1⟩
    have hl : (wipe σ (own.map (·.2))).length = σ8.length := by rw [← hw8, wipe_length]
    refine ⟨m', hm, i + 1, H', (I'.unpinned (pins := [])).weak hl (fun j v e => ?_), T.keep _ _ _ st7 fun b hb o e => (pin' b hb o e).1, fun b hb => ?_, w'⟩
    ·rw [← hw8] at e
     exact (wipe_some e).1
    ·obtain ⟨o, e, _⟩ := T.obj _ _ st7 b hb
     exact (pin' b hb o e).2
   cases b with
   | false =>
    simp only [Bool.false_eq_true, if_false] at q9 ⊢
    exact fin I9 q9
   | true =>
    simp only [if_true] at q9 ⊢
    refine wpAny_mono' (pe.run _ s9 σ8 H9 _ I9 q9) fun z s10 ⟨yv, H10, I10, r10, acc, hD10, hz10, nx⟩ => ?_
    exact app_ok (X := X.blkX s3 H3 scope ce fp (notedBy (model X.prog X.w) X.A ce fun e s' => compPostX (model X.prog X.w) X.A X.xe use Qf (.ref D) s3.heap.objs.size X.env.frame (.error e) s')) I10 hD10 hz10 r10 fun s11 I11 => fin I11 nx
 exact codeAny_compStart_list loop (T.self X.A 0 _ _ _ st4 loop)
theorem pe_lcY {W0 : WX} (hst : X.stack = X.env :: X.outer) (hfr : X.env.frame = some X.env.locals) (tk : L2N.Takes X W0) {elt tg iter : Expr} {ifs : List Expr} {scope : Scope} {own : List (Str × Nat)} {pos : Pos} {wi : TI} {g : TG} {tt : TT} {te : St → TE} (hc : X.calm = true) (hN : X.N.Nodup) (hi : PI X tg iter wi) (ok : BlkOk X.N X.env.scope scope own)
  (hg : ∀ (s : Shared) (H : Hp) (C : Addr) (cl : List (Str × Addr)) (fp : List Addr) (xe : Value → Shared → Prop), PG (X.blkX s H scope (compEnvC scope cl C X.env) fp xe) tg g) (ht : ∀ (s : Shared) (H : Hp) (C : Addr) (cl : List (Str × Addr)) (fp : List Addr) (xe : Value → Shared → Prop), PTs (X.blkX s H scope (compEnvC scope cl C X.env) fp xe) ifs tt)
  (he : ∀ (σ : St) (s : Shared) (H : Hp) (C : Addr) (cl : List (Str × Addr)) (fp : List Addr) (xe : Value → Shared → Prop), L2N.Takes (X.blkX s H scope (compEnvC scope cl C X.env) fp xe) (fun c d _ H => W0 c d σ H) → (∀ (pins' : List (Addr × Obj)) (σ' : St) (H' : Hp) (s' : Shared), Inv (X.blkX s H scope (compEnvC scope cl C X.env) fp xe) pins' σ' H' s' → ∃ pins, Inv X pins σ H' s') → PE (X.blkX s H scope (compEnvC scope cl C X.env) fp xe) elt (te σ)) (hs : ∀ x, foldedSetIterable iter X.env x = pure x := by intro _; rfl) :
  PE X (.ListComp elt [⟨tg, iter, ifs, 0⟩] scope pos) (fun σ H Q => tLc wi g tt (te σ) (own.map (·.2)) σ H Q) := by
 refine ⟨fun pins s σ H Q I h => ?_⟩
 rw [eval_ListComp]
 refine lc_coreY hst hfr tk hc hN I hi ok hg ht (fun s H C cl fp xe t b => he σ s H C cl fp xe t fun p' σ' H' s' I' => ⟨_, b p' σ' H' s' I'⟩) hs h fun D C s' m H' I' q hn f => ⟨m, hn, fun h'' sb => ?_⟩
 obtain ⟨f0, f1, f2, f3, f4, f5⟩ := f
 exact ⟨.ref D, H', I'.turned (t' := s'.toks) (fun b o hb e => (sb.2 b hb).trans e) f0 f1 f3 f4 f5, rfl, q⟩
end
end L2
namespace DL
open PySem PySem.Spec PyProof.Rows L2 LamX _root_.DM
structure LamR where
 params : Arguments
 body : Expr
 scope : Scope
 df : Bool
 wb : WE
structure LamOk (X : Cx) (k : Nat) (l : LamR) : Prop where
 sc : LamS3 X.N X.env.scope l.scope
 bi : LamB l.params l.body l.scope l.df
 bd : ∀ (A : Around) (outer : List Env) (s : Shared) (H : Hp) (E : XK) (f c' : Addr), Room k (A.deeper (lamEnv X l.scope s.heap.objs.size f c')) → DE tkL (lamCx X A outer s H E l.scope f c') l.body l.wb
def IsLam (X : Cx) (H : Hp) (l : LamR) (f : Addr) : Prop := ∃ c' dV, H f = some (LamO (X.env.qual ++ "<lambda>") l.params l.body l.scope (cloFrom X.env.cells l.scope.names []) dV f c') ∧ DfOk H l.df dV ∧ H c' = some (CodeO c' (X.env.qual ++ "<lambda>"))
def tAskV (X : Cx) (k j : Nat) (TT : (XK → Hp → VK → Prop) → Hp → VK → Prop) (σX : L2.St) : TE := fun σ H Q => ∃ f l, LamOk X k l ∧ σ[j]? = some (some (.ref f)) ∧ IsLam X H l f ∧ TT (fun E H' Q' => tOf X.K (fun c d _ H => E c d H) l.wb σX H' Q') H Q
section
variable {X : Cx}
theorem pe_askV {tb : XTab} {cls : List ClD} {x a a2 : Str} {g : Addr} {k j : Nat} {pg : Arguments} {bg : List Stmt} {sg : Scope} {dV kV doc pm cdv ct oc : Value} {an od : Option Addr} {osl : Array (Option Value)} {Ng : List Str} {p pa pos : Pos} {σX : L2.St}
  {scope : Scope} {s0 : Shared} {H0 : Hp} {C : Addr} {cl : List (Str × Addr)} {fp : List Addr} {xe : Value → Shared → Prop}
  (hg : Gl (X.blkX s0 H0 scope (compEnvC scope cl C X.env) fp xe) x) (hm : X.mg x = some (.ref g)) (hk : PySem.W.keepIn X.K (.ref g) = true)
  (lk : X.K.lookup g = some ⟨oc, od, .func (PySem.W.fnOf x x pg bg sg dV kV doc pm an cdv ct), osl⟩) (hcg : PySem.W.codeIn X.K cdv x = true) (hb : L2.Binds X.K (PySem.W.fnOf x x pg bg sg dV kV doc pm an cdv ct) [a] []) (Sg : FnScope Ng [a] sg) (hNg : Ng[0]? = some a) (hva : Vis sg a)
  (hG : GivesTo (X.blkX s0 H0 scope (compEnvC scope cl C X.env) fp xe) Ng x sg g cdv bg a (X.env.qual ++ "<lambda>") (TTask X.K tb cls)) (hr : Room (k + 2) X.A)
  (hj : X.N[j]? = some a2) (hv : Vis (X.blkX s0 H0 scope (compEnvC scope cl C X.env) fp xe).env.scope a2)
  (bk : ∀ (pins' : List (Addr × Obj)) (σ' : L2.St) (H' : Hp) (s' : Shared), Inv (X.blkX s0 H0 scope (compEnvC scope cl C X.env) fp xe) pins' σ' H' s' → ∃ pins, Inv X pins σX H' s')
  (hdb : (x == ("__debug__" : Str)) = false := by decide) (hd : (a == ("__debug__" : Str)) = false := by decide) (hcd : (a == ("__classdict__" : Str)) = false := by decide) (hd2 : (a2 == ("__debug__" : Str)) = false := by decide) (hcd2 : (a2 == ("__classdict__" : Str)) = false := by decide) :
  PE (X.blkX s0 H0 scope (compEnvC scope cl C X.env) fp xe) (.Call (.Name x p) [.Name a2 pa] [] pos) (tAskV X k j (TTask X.K tb cls) σX) := by
 generalize hY : X.blkX s0 H0 scope (compEnvC scope cl C X.env) fp xe = Y at *
 refine ⟨fun pins s σ H Q I h => ?_⟩
 obtain ⟨f, l, L, hs, ⟨c', dV, hf, hD, hc⟩, tt⟩ := h
 have eK : Y.K = X.K := by rw [← hY]
 have eM : Y.mg = X.mg := by rw [← hY]
 have eA : Y.A = X.A := by rw [← hY]
 have eN : Y.N = X.N := by rw [← hY]
 refine wpAny_Call_Name_kw (ld_glob I hg (by rw [eM]; exact hm) ?_ hdb)
 refine PySem.W.callWith_K (h₀ := Y.base) I.ok.mod.kin (by rw [eK]; exact hk) ?_ (by rfl) (by rfl)
 show wpAny _ _ (spliced ((false, eval (.Name a2 pa) Y.env) :: backTo pos (starEach [] Y.env))) _ _ s
 refine Calls.spliced_cons (thn ((pe_var (pos := pa) (i := j) (by rw [eN]; exact hj) hv hd2 hcd2).run pins s σ H (fun v H1 => v = .ref f ∧ H1 = H) I ⟨.ref f, hs, rfl, rfl⟩) fun u s1 ⟨v, H1, I1, r1, q1⟩ => ?_)
 obtain ⟨ev, eH⟩ := q1
 subst ev
 rw [eH] at I1
 obtain rfl : u = Value.ref f := r1
 refine Calls.spliced_nil ⟨I1.kIn, ?_⟩
 obtain ⟨pX, IX⟩ := bk _ _ _ _ I1
 have rc : codeAny (model Y.prog Y.w) Y.A (.call (.ref g) ⟨[.ref f], []⟩) (CR C8.CX0 Y.stack Y.prog Y.w H s1 Q C8.E0) s1 := by
  refine run_ofS (N := Ng) (ps := [a]) (us := [.ref f]) (vs := [.ref f]) (by rw [eK]; exact lk) (by rw [eK]; exact hcg) Sg (by rw [eA]; exact hr) I1.env0 (hb s1 [.ref f] (by rw [← eK]; exact I1.kIn) rfl) (.cons rfl .nil) rfl fun hr' => ?_
  have act : ∀ (W : WX) (pn : List (Addr × Obj)) (xe : Value → Shared → Prop) (E : XK) (p1 p2 : Pos), Takes ((cxOf C8.CX0 Y.prog Y.w Y.K Y.mg Y.base Ng x sg g cdv Y.A Y.stack s1 H C8.E0).tr pn xe) W → (∀ cls d σ' H', E cls d H' → W cls d σ' H') →
    PE ((cxOf C8.CX0 Y.prog Y.w Y.K Y.mg Y.base Ng x sg g cdv Y.A Y.stack s1 H C8.E0).tr pn xe) (.Call (.Name a p1) [] [] p2) (fun σZ HZ Q => σZ[0]? = some (some (.ref f)) ∧ HZ c' = some (CodeO c' (X.env.qual ++ "<lambda>")) ∧ ((HZ f = some (LamO (X.env.qual ++ "<lambda>") l.params l.body l.scope (cloFrom X.env.cells l.scope.names []) dV f c') ∧ DfOk HZ l.df dV) ∧ tOf X.K (fun c d _ H => E c d H) l.wb σX HZ Q)) := by
   subst hY
   intro W pn xe' E p1 p2 tk hW
   exact pe_imp (act3 (X := X) (CXg := C8.CX0) (Eg := C8.E0) (k := k) (i := 0) IX L.sc L.bi tk hW hr' (fun A outer s H hr2 => (L.bd A outer s H E f c' hr2).pe _ (takes_of rfl rfl rfl rfl)) hNg hva hd hcd) fun σ H Q ⟨z1, z2, ⟨z3, z4⟩, z5⟩ => ⟨z1, z3, z4, z2, z5⟩
  have tt2 : TTask X.K tb cls (fun E H' Q' => (H' f = some (LamO (X.env.qual ++ "<lambda>") l.params l.body l.scope (cloFrom X.env.cells l.scope.names []) dV f c') ∧ DfOk H' l.df dV) ∧ tOf X.K (fun c d _ H => E c d H) l.wb σX H' Q') H Q := by
   intro p hp
   have up : ∀ {b : Addr} {o : HO}, H b = some o → upd H p (.tup [.str "", .non]) b = some o := fun {b o} e => by rw [upd_ne (ne_of_none e hp)]; exact e
   refine ⟨⟨up hf, ?_⟩, tt p hp⟩
   cases hdf : l.df with
   | false => rw [hdf] at hD; exact hD
   | true =>
    rw [hdf] at hD
    obtain ⟨T0, e1, e2⟩ := (show ∃ T0, dV = .ref T0 ∧ H T0 = some (.tup [.int 0]) from hD)
    exact (show ∃ T0, dV = .ref T0 ∧ _ = some _ from ⟨T0, e1, up e2⟩)
  obtain ⟨t', ht', hq'⟩ := hG f c' s1 H Q _ act hc tt2
  exact ⟨t', ht'.nox, hq'⟩
 refine wpAny_call (codeAny_mono rc fun r s2 hq => ?_)
 cases r with
 | error e => exact (show False from hq).elim
 | ok fl =>
  cases fl with
  | ret u => exact I1.after hq
  | next => exact hq.elim
  | brk => exact hq.elim
  | cont => exact hq.elim
end
end DL
namespace DL
open PySem PySem.Spec PyProof.Rows L2 LamX _root_.DM
theorem DfOk.mono {F F' : Hp} (e : Same F F') {df : Bool} {dV : Value} (h : DfOk F df dV) : DfOk F' df dV := by
 cases df with
 | false => exact h
 | true =>
  obtain ⟨T0, e1, e2⟩ := (show ∃ T0, dV = .ref T0 ∧ F T0 = some (.tup [.int 0]) from h)
  exact (show ∃ T0, dV = .ref T0 ∧ F' T0 = some (.tup [.int 0]) from ⟨T0, e1, e _ _ e2⟩)
theorem IsLam.mono {X : Cx} {F F' : Hp} {l : LamR} {f : Addr} (e : Same F F') (h : IsLam X F l f) : IsLam X F' l f :=
 let ⟨c', dV, h1, h2, h3⟩ := h
 ⟨c', dV, e _ _ h1, h2.mono e, e _ _ h3⟩
inductive LamFs (X : Cx) (F : Hp) : List Addr → List LamR → Prop
 | nil : LamFs X F [] []
 | cons {f : Addr} {fs : List Addr} {l : LamR} {ls : List LamR} : IsLam X F l f → LamFs X F fs ls → LamFs X F (f :: fs) (l :: ls)
theorem LamFs.mono {X : Cx} {F F' : Hp} (e : Same F F') : ∀ {fs : List Addr} {ls : List LamR}, LamFs X F fs ls → LamFs X F' fs ls
 | _, _, .nil => .nil
 | _, _, .cons h r => .cons (h.mono e) (r.mono e)
theorem LamFs.length {X : Cx} {F : Hp} : ∀ {fs : List Addr} {ls : List LamR}, LamFs X F fs ls → fs.length = ls.length
 | _, _, .nil => rfl
 | _, _, .cons _ r => congrArg (· + 1) r.length
theorem LamFs.get {X : Cx} {F : Hp} : ∀ {fs : List Addr} {ls : List LamR} {i : Nat} {l : LamR}, LamFs X F fs ls → ls[i]? = some l → ∃ f, fs[i]? = some f ∧ IsLam X F l f
 | _, _, 0, _, .cons h _, e => by cases e; exact ⟨_, rfl, h⟩
 | _, _, i + 1, _, .cons _ r, e => r.get (i := i) e
section
variable {X : Cx}
theorem lam_stepD {P : Addr} {q : Str} {l : LamR} {σ : L2.St} {H F : Hp} {M : MH} {Q : VK} (hq : X.env.qual ++ "<lambda>" = q) (S : RepS X.K H F M) (hm : M P = some (.tab q))
  (h : ∀ f H' F', Ext H F M H' F' M → RepS X.K H' F' M → IsLam X F' l f → Q (.ref f) H') : tLam1 P (X.env.qual ++ "<lambda>") l.params l.body l.scope (cloFrom X.env.cells l.scope.names []) l.df σ H Q := by
 subst hq
 obtain ⟨fP, o, hP, ps, e, ht, hA⟩ := S.mu P _ hm
 subst e
 refine ⟨⟨ps, hP, ht, fun pos cv hc => let ⟨c0, h1, h2⟩ := hA pos cv hc; ⟨c0, h1, S.fz _ _ h2⟩⟩, fun H0 dV hd ps' hP' f c' H1 hH hf hco => ?_⟩
 have step0 : ∃ F0, Ext H F M H0 F0 M ∧ RepS X.K H0 F0 M ∧ DfOk F0 l.df dV := by
  cases hdf : l.df with
  | false =>
   rw [hdf] at hd
   obtain ⟨rfl, rfl⟩ := hd
   exact ⟨F, Ext.refl _ _ _, S, (show (Value.none : Value) = .none from rfl)⟩
  | true =>
   rw [hdf] at hd
   obtain ⟨T0, hT, rfl, rfl⟩ := hd
   obtain ⟨S0, e0⟩ := S.lay hT (.tup [.int 0])
   exact ⟨_, e0, S0, (show ∃ T1, Value.ref T0 = .ref T1 ∧ _ = some _ from ⟨T0, rfl, upd_same⟩)⟩
 obtain ⟨F0, e0, S0, D0⟩ := step0
 obtain ⟨_, o0, hP0, ps0, e, ht0, hA0⟩ := S0.mu P _ hm
 subst e
 rw [hP0] at hP'
 cases hP'
 have step1 : ∃ F1, Ext H0 F0 M H1 F1 M ∧ RepS X.K H1 F1 M ∧ F1 c' = some (CodeO c' (X.env.qual ++ "<lambda>")) := by
  rcases hH with ⟨rfl, pos, hc⟩ | ⟨hc, lm, m, rfl⟩
  ·obtain ⟨c0, e1, e2⟩ := hA0 pos _ hc
   cases e1
   exact ⟨F0, Ext.refl _ _ _, S0, e2⟩
  ·obtain ⟨S2, e2⟩ := S0.newCode (l := lm) (m := m) hm hP0 ht0 hA0 hc
   exact ⟨_, e2, S2, upd_same⟩
 obtain ⟨F1, e1, S1, hc1⟩ := step1
 obtain ⟨S2, e2⟩ := S1.lay hf (LamO (X.env.qual ++ "<lambda>") l.params l.body l.scope (cloFrom X.env.cells l.scope.names []) dV f c')
 exact h f _ _ ((e0.trans e1).trans e2) S2 ⟨c', dV, upd_same, D0.mono (e1.sm.trans e2.sm), e2.sm _ _ hc1⟩
def LamPE (X : Cx) (P : Addr) (e : Expr) (l : LamR) : Prop := PE X e (tLam1 P (X.env.qual ++ "<lambda>") l.params l.body l.scope (cloFrom X.env.cells l.scope.names []) l.df) ∧ ∀ es : List Expr, starEach (e :: es) X.env = (false, eval e X.env) :: starEach es X.env
inductive LamEs (X : Cx) (P : Addr) : List Expr → List LamR → Prop
 | nil : LamEs X P [] []
 | cons {e : Expr} {es : List Expr} {l : LamR} {ls : List LamR} : LamPE X P e l → LamEs X P es ls → LamEs X P (e :: es) (l :: ls)
theorem lamPE0 {c P : Addr} {params : Arguments} {body : Expr} {scope : Scope} {pos : Pos} {wb : WE} (TB : TabB X.base X.mg c P) (hcode : X.env.code = .ref c) (L : LamS3 X.N X.env.scope scope) (hdef : defaultsOf params X.env = ([], []) := by rfl) :
  LamPE X P (.Lambda params body scope pos) ⟨params, body, scope, false, wb⟩ := ⟨pe_lam0 TB hcode L.free hdef, fun _ => rfl⟩
theorem lamPE1 {c P : Addr} {params : Arguments} {body : Expr} {scope : Scope} {pos dp : Pos} {dj : Nat} {wb : WE} (TB : TabB X.base X.mg c P) (hcode : X.env.code = .ref c) (L : LamS3 X.N X.env.scope scope) (hd : params.defaults = [.Constant (.int 0) dj dp] := by rfl) (hk : params.kw_defaults = [] := by rfl) :
  LamPE X P (.Lambda params body scope pos) ⟨params, body, scope, true, wb⟩ := ⟨pe_lam1 TB hcode L.free hd hk, fun _ => rfl⟩
theorem pa_lams {P : Addr} {q : Str} (hq : X.env.qual ++ "<lambda>" = q) : ∀ {es : List Expr} {ls : List LamR}, LamEs X P es ls →
  PA X es (fun σ H Q => ∃ F M, RepS X.K H F M ∧ M P = some (.tab q) ∧ ∀ fs H' F', Ext H F M H' F' M → RepS X.K H' F' M → LamFs X F' fs ls → Q (fs.map V.ref) H')
 | _, _, .nil => pa_imp pa_nil fun σ H Q ⟨F, M, S, hm, h⟩ => h [] H F (Ext.refl _ _ _) S .nil
 | _, _, .cons he r => pa_imp (pa_cons he.1 (pa_lams hq r) (he.2 _)) fun σ H Q ⟨F, M, S, hm, h⟩ =>
   lam_stepD hq S hm fun f H' F' e' S' hl => ⟨F', M, S', hm, fun fs H2 F2 e2 S2 r2 => h (f :: fs) H2 F2 (e'.trans e2) S2 (.cons (hl.mono e2.sm) r2)⟩
def LamG (X : Cx) (i : Nat) (ls : List LamR) (σ : L2.St) (F : Hp) : Prop := ∃ (a : Addr) (fs : List Addr), σ[i]? = some (some (.ref a)) ∧ F a = some (.lst (fs.map V.ref)) ∧ fs.length ≤ sizeLine ∧ LamFs X F fs ls
def tOfG (G : L2.St → Hp → Prop) (K : PySem.W.Frag) (W : WX) (w : WE) : TE := fun σ H Q => ∃ F M ρ k x, G σ F ∧ RepS K H F M ∧ RepE K F σ ρ ∧ w ρ M k x ∧ PostV K H F M k Q ∧ PostX K H F M x (fun c d => W c d σ)
def tOfTG (G : L2.St → Hp → Prop) (K : PySem.W.Frag) (W : WX) (w : WT) : TT := fun σ H Q => ∃ F M ρ k x, G σ F ∧ RepS K H F M ∧ RepE K F σ ρ ∧ w ρ M k x ∧ PostB K H F M k Q ∧ PostX K H F M x (fun c d => W c d σ)
def tOfSG (G : L2.St → Hp → Prop) (K : PySem.W.Frag) (W : WX) (w : WS) : TS := fun D σ H => ∃ F M ρ E, G σ F ∧ RepS K H F M ∧ RepE K F σ ρ ∧ w ρ M E ∧ FinD K W H F M E D
structure DEG (G : L2.St → Hp → Prop) (Tq : TkC) (X : Cx) (e : Expr) (w : WE) : Prop where
 pe : ∀ W, Tq.t X W → PE X e (tOfG G X.K W w)
structure DTG (G : L2.St → Hp → Prop) (Tq : TkC) (X : Cx) (e : Expr) (w : WT) : Prop where
 pt : ∀ W, Tq.t X W → PT X e (tOfTG G X.K W w)
structure DSsG (G : L2.St → Hp → Prop) (Tq : TkC) (X : Cx) (st : List Stmt) (w : WS) : Prop where
 ps : ∀ W, Tq.t X W → Pss X → PSs X st (tOfSG G X.K W w)
theorem dtG_cmp {G : L2.St → Hp → Prop} {Tq : TkC} {op : CmpOp} {r : D → D → MH → KD → Prop} {a b : Expr} {wa wb : WE} {pos : Pos} (ho : OpD X (compareOp op) r) (ha : DEG G Tq X a wa) (hb : DE Tq X b wb) (hm : behindInMarks op b = false := by first | exact nomark _ | rfl) : DTG G Tq X (.Compare a [op] [b] pos) (wTest (wOp r wa wb)) := by
 obtain ⟨r2, h, s⟩ := ho
 refine ⟨fun W tk => pt_imp (pt_cmpR h (ha.pe W tk) (hb.pe W tk) hm) fun σ H Q q => ?_⟩
 obtain ⟨F, M, ρ, k, x, g, S, E, w, pv, px⟩ := q
 refine ⟨F, M, ρ, _, x, g, S, E, w, fun v d H1 F1 M1 e1 S1 r1 w1 => ⟨F1, M1, ρ, _, x, S1, E.mono e1.sm, w1, fun u e H2 F2 M2 e2 S2 r2 w2 => ?_, px.on e1⟩, px⟩
 refine s d e v u H2 F2 M2 _ _ S2 (r1.mono e2.sm) r2 w2 fun v' d' H3 F3 M3 e3 S3 r3 w3 => ?_
 obtain ⟨b, rfl, w4⟩ := bl_of r3 w3
 exact ⟨b, rfl, pv b H3 F3 M3 ((e1.trans e2).trans e3) S3 w4⟩
theorem dssG_if {G : L2.St → Hp → Prop} {Tq : TkC} {c : Expr} {a b rest : List Stmt} {wc : WT} {w u r : WS} {pos : Pos} (hc : DTG G Tq X c wc) (ha : DSs Tq X a w) (hb : DSs Tq X b u) (hr : DSs Tq X rest r) : DSsG G Tq X (.If c a b pos :: rest) (wSeq (wIfS wc w u) r) := by
 refine ⟨fun W tk hp => pss_imp (pss_cons (ps_if (hc.pt W tk) (ha.ps W tk hp) (hb.ps W tk hp)) (hr.ps W tk hp)) fun D σ H q => ?_⟩
 obtain ⟨F, M, ρ, E, g, S, R, w, f⟩ := q
 have fin : FinD X.K W H F M { E with nx := fun ρ1 M1 => r ρ1 M1 E } { D with nx := tOfS X.K W r D } := ⟨fun σ' ρ' H' F' M' e' S' R' w' => ⟨F', M', ρ', E, S', R', w', f.on e'⟩, f.rt, f.bk, f.ct, f.xc⟩
 refine ⟨F, M, ρ, _, _, g, S, R, w, fun b H1 F1 M1 e1 S1 w1 => ?_, f.xc σ⟩
 cases b with
 | true => rw [if_pos rfl]; exact ⟨F1, M1, ρ, _, S1, R.mono e1.sm, w1, fin.on e1⟩
 | false => rw [if_neg Bool.false_ne_true]; exact ⟨F1, M1, ρ, _, S1, R.mono e1.sm, w1, fin.on e1⟩
def wLams (P : Addr) (q : Str) (i : Nat) (w : WS) : WS := fun ρ M E => M P = some (.tab q) ∧ w (ρ.set i none) M E
theorem dss_lams {Tq : TkC} {P : Addr} {q : Str} {i : Nat} {y : Str} {es : List Expr} {ls : List LamR} {rest : List Stmt} {w : WS} {p1 p2 p3 : Pos} (hq : X.env.qual ++ "<lambda>" = q) (hN : X.N.Nodup) (hi : X.N[i]? = some y) (hy : Loc X.env.scope y) (he : LamEs X P es ls) (hl : ls.length ≤ 4096) (hr : DSsG (LamG X i ls) Tq X rest w)
  (hs : swapsWith (.List es p2) (some (.Name y p1)) p3.line X.env = pure false := by rfl) (hf : X.fn y = true ∨ X.env.scope.names.lookup y = some .local := by first | exact .inl rfl | exact .inr rfl | assumption) :
  DSs Tq X (.Assign [.Name y p1] (.List es p2) p3 :: rest) (wLams P q i w) := by
 refine ⟨fun W tk hp => ⟨fun pins s σ H D I t => (pss_cons (ps_set hN hi hy (pe_lst (pa_lams hq he)) hs hf) (hr.ps W tk hp)).run pins s σ H D I ?_⟩⟩
 obtain ⟨F, M, ρ, E, S, R, ⟨hm, w⟩, f⟩ := t
 refine ⟨F, M, S, hm, fun fs H1 F1 e1 S1 r1 => ⟨by rw [List.length_map, r1.length]; exact le_line hl, fun p hp' => ?_⟩⟩
 obtain ⟨S2, e2⟩ := S1.lay hp' (.lst (fs.map V.ref))
 have lt : i < σ.length := by
  rw [I.len]
  exact (List.getElem?_eq_some_iff.mp hi).1
 refine ⟨_, M, ρ.set i none, E, ⟨p, fs, ?_, upd_same, by rw [r1.length]; exact le_line hl, r1.mono e2.sm⟩, S2, (R.mono (e1.trans e2).sm).setNo i, w, f.on (e1.trans e2)⟩
 rw [List.getElem?_set_self lt]
def wAsk1 (tb : XTab) (cl : List ClD) (rs : List (Str × Option Str)) (wb : WE) (ρ : Rh) (M : MH) (k : D → MH → Prop) : Prop := wb ρ M (fun _ M1 => k (.tup [.str "", .non]) M1) fun nm fs M1 =>
 ∃ fo t v, hitC tb nm cl = some fo ∧ (nm, fo) ∈ rs ∧ fs.lookup ("tag" : Str) = some t ∧ (match fo with
  | some f => fs.lookup f = some v
  | none => v = D.non) ∧ k (.tup [t, v]) M1
def askL (tb : XTab) (cl : List ClD) (rs : List (Str × Option Str)) (ρ : Rh) : List WE → MH → (List D → MH → Prop) → Prop
 | [], M, k => k [] M
 | wb :: r, M, k => wAsk1 tb cl rs wb ρ M fun e M1 => askL tb cl rs ρ r M1 fun es M2 => k (e :: es) M2
def wAskL (tb : XTab) (cl : List ClD) (rs : List (Str × Option Str)) (wbs : List WE) : WE := fun ρ M k _ => askL tb cl rs ρ wbs M fun es M' => k (.lst es) M'
theorem ask1_in {tb : XTab} {cl : List ClD} {rs : List (Str × Option Str)} {wb : WE} {σ : L2.St} {H F : Hp} {M : MH} {ρ : Rh} {k : KD} {Q : VK} (cf : ∀ p ∈ rs, XfN X.K (He.ga X.K p.1) ("tag" : Str) ∧ ∀ f, p.2 = some f → XfN X.K (He.ga X.K p.1) f) (S : RepS X.K H F M) (E : RepE X.K F σ ρ)
  (w : wAsk1 tb cl rs wb ρ M k) (pv : PostV X.K H F M k Q) : TTask X.K tb cl (fun Ec H' Q' => tOf X.K (fun c d _ H => Ec c d H) wb σ H' Q') H Q := ask_in cf S E w pv
theorem wipe_put (σ : L2.St) {j : Nat} (v : V) (lt : j < σ.length) : L2.wipe ((L2.wipe σ [j]).set j (some v)) [j] = L2.wipe σ [j] := by
 simp only [L2.wipe, List.foldl]
 simp
theorem asks_in {k j : Nat} {ls : List LamR} {tb : XTab} {cl : List ClD} {rs : List (Str × Option Str)} {σ : L2.St} {H F : Hp} {M : MH} {ρ : Rh} {kk : KD} {Q : VK} {i : Nat} (cf : ∀ p ∈ rs, XfN X.K (He.ga X.K p.1) ("tag" : Str) ∧ ∀ f, p.2 = some f → XfN X.K (He.ga X.K p.1) f)
  (G : LamG X i ls σ F) (S : RepS X.K H F M) (R : RepE X.K F σ ρ) (L : ∀ l ∈ ls, LamOk X k l) (lt : j < σ.length)
  (w : askL tb cl rs ρ (ls.map LamR.wb) M fun es M' => kk (.lst es) M') (pv : PostV X.K H F M kk Q) :
  tLc (iList X.K (tVar i)) (gName j) tYes (tAskV X k j (TTask X.K tb cl) σ) [j] σ H Q := by
 obtain ⟨a, fs, hs, ha, hl, rf⟩ := G
 refine ⟨_, hs, a, rfl, ⟨_, .inl (.inl (S.fz _ _ ha))⟩, ?_⟩
 intro D hD
 refine ⟨fun i m H' => m = ls.length - i ∧ i ≤ ls.length ∧ ∃ F' M' vs acc, Ext H F M H' F' M' ∧ RepS X.K H' F' M' ∧ H' D = some (.lst vs) ∧ F' D = none ∧ M' D = none ∧ Reps X.K F' vs acc ∧ acc.length ≤ i ∧
   askL tb cl rs ρ ((ls.drop i).map LamR.wb) M' (fun es M'' => kk (.lst (acc ++ es)) M''),
  ⟨_, rfl, Nat.zero_le _, F, M, [], [], (Ext.refl _ _ _).at_new hD _, S.untold (S.fno hD) (S.mno hD) _, upd_same, S.fno hD, S.mno hD, .nil, Nat.le_refl _, w⟩, ?_⟩
 rintro n m H' ⟨rfl, hi, F', M', vs, acc, e', S', hD', fD, mD, ra, la, w'⟩
 have lst : SqL X.K H' a (fs.map V.ref) := .inl (.inl (S'.fz _ _ (e'.sm _ _ ha)))
 by_cases hlt : n < ls.length
 ·obtain ⟨l, hd⟩ : ∃ l, ls[n]? = some l := ⟨ls[n], by simp [hlt]⟩
  obtain ⟨f, hf, il⟩ := rf.get hd
  rw [drop_cons hd] at w'
  refine .inr ⟨⟨_, .ref f, lst, by rw [List.getElem?_map, hf]; rfl⟩, fun H2 => ∃ F2 M2 vs acc, Ext H F M H2 F2 M2 ∧ RepS X.K H2 F2 M2 ∧ H2 D = some (.lst vs) ∧ F2 D = none ∧ M2 D = none ∧ Reps X.K F2 vs acc ∧ acc.length ≤ n + 1 ∧
   askL tb cl rs ρ ((ls.drop (n + 1)).map LamR.wb) M2 (fun es M'' => kk (.lst (acc ++ es)) M''), fun H2 n2 => ⟨_, by omega, rfl, hlt, n2⟩, fun v H3 y => ?_⟩
  obtain ⟨rfl, hy⟩ := y
  have hv : v = .ref f := by
   have := hy _ lst
   rw [List.getElem?_map, hf] at this
   cases this
   rfl
  subst hv
  refine ⟨wipe_put _ _ lt, ?_⟩
  unfold tYes
  simp only [if_true]
  refine ⟨f, l, L l (List.mem_of_getElem? hd), by rw [List.getElem?_set_self (by rw [wipe_length]; exact lt)], let ⟨c', dV, h1, h2, h3⟩ := il.mono e'.sm; ⟨c', dV, S'.fz _ _ h1, h2.mono S'.fz, S'.fz _ _ h3⟩, ?_⟩
  refine ask1_in cf S' (R.mono e'.sm) w' fun u e H6 F6 M6 e6 S6 r6 w6 => ?_
  obtain ⟨hD6, fD6, mD6⟩ := e6.fr D _ hD' True.intro fD mD
  have rv := ra.mono e6.sm
  refine ⟨vs, hD6, by rw [rv.length]; have := rf.length; omega, F6, M6, _, acc ++ [e], (e'.trans e6).at_new hD _, S6.untold fD6 mD6 _, upd_same, fD6, mD6, rv.snoc r6, by rw [List.length_append, List.length_singleton]; omega, ?_⟩
  have q : (fun es M'' => kk (.lst (acc ++ [e] ++ es)) M'') = (fun es M'' => kk (.lst (acc ++ (e :: es))) M'') := by
   funext es M''
   rw [List.append_assoc]
   rfl
  rw [q]
  exact w6
 ·have e : n = ls.length := by omega
  subst e
  rw [List.drop_length] at w'
  refine .inl ⟨⟨_, lst, by rw [List.length_map, rf.length]; exact Nat.le_refl _⟩, ?_⟩
  have w2 : kk (.lst (acc ++ [])) M' := w'
  rw [List.append_nil] at w2
  exact fin_frz pv H F M D vs acc H' F' M' (Ext.refl _ _ _) hD e' S' hD' fD mD ra (Nat.le_trans la (by rw [← rf.length]; exact hl)) w2
theorem deG_asks {Tq : TkC} {tb : XTab} {cl : List ClD} {rs : List (Str × Option Str)} {x a a2 y : Str} {k i j : Nat} {st : Stmt} {Ng : List Str} {ls : List LamR} {scope : Scope} {p pa pos p5 p6 pos' : Pos} (Fa : AskF X.K X.mg x a st Ng tb cl rs) (hr : Room (k + 2) X.A)
  (hst : X.stack = X.env :: X.outer) (hfr : X.env.frame = some X.env.locals) (hc : X.calm = true) (hN : X.N.Nodup) (hi : X.N[i]? = some y) (hv : Vis X.env.scope y) (hj : X.N[j]? = some a2) (ok : BlkOk X.N X.env.scope scope [(a2, j)])
  (hgb : ∀ (s : Shared) (H : Hp) (C : Addr) (cl : List (Str × Addr)) (fp : List Addr) (xe : Value → Shared → Prop), PG (X.blkX s H scope (compEnvC scope cl C X.env) fp xe) (.Name a2 p5) (gName j))
  (hvb : ∀ (s : Shared) (H : Hp) (C : Addr) (cl : List (Str × Addr)) (fp : List Addr) (xe : Value → Shared → Prop), Vis (X.blkX s H scope (compEnvC scope cl C X.env) fp xe).env.scope a2)
  (hgx : ∀ (s : Shared) (H : Hp) (C : Addr) (cl : List (Str × Addr)) (fp : List Addr) (xe : Value → Shared → Prop), Gl (X.blkX s H scope (compEnvC scope cl C X.env) fp xe) x)
  (L : ∀ l ∈ ls, LamOk X k l)
  (hdb : (x == ("__debug__" : Str)) = false := by decide) (hd : (a == ("__debug__" : Str)) = false := by decide) (hcd : (a == ("__classdict__" : Str)) = false := by decide) (hd2 : (a2 == ("__debug__" : Str)) = false := by decide) (hcd2 : (a2 == ("__classdict__" : Str)) = false := by decide)
  (hd3 : (y == ("__debug__" : Str)) = false := by decide) (hcd3 : (y == ("__classdict__" : Str)) = false := by decide) :
  DEG (LamG X i ls) Tq X (.ListComp (.Call (.Name x p) [.Name a2 pa] [] pos) [⟨.Name a2 p5, .Name y p6, [], 0⟩] scope pos') (wAskL tb cl rs (ls.map LamR.wb)) := by
 obtain ⟨g, fd, G, hm⟩ := Fa.fn
 have hb := G.binds (ps := [a]) Fa.bi
 obtain ⟨oc, od, kV, doc, pm, an, cdv, ct, osl, rfl, lk, hcg⟩ := G.ex
 refine ⟨fun W tk => ⟨fun pins s σ H Q I h => ?_⟩⟩
 have lt : j < σ.length := by
  rw [I.len]
  exact (List.getElem?_eq_some_iff.mp hj).1
 refine (pe_lcY (W0 := noW) (te := fun σ => tAskV X k j (TTask X.K tb cl) σ) (tt := tYes) (g := gName j) (own := [(a2, j)]) hst hfr takes0N hc hN (pi_list (pe_var (pos := p6) hi hv hd3 hcd3)) ok hgb (fun _ _ _ _ _ _ => pts_nil) (fun σ s H C cl fp xe tk' bk => ?_) (fun _ => rfl)).run pins s σ H Q I ?_
 ·exact pe_askV (a := a) (hgx s H C cl fp xe) hm G.kp lk hcg hb Fa.sc Fa.nm.1 Fa.nm.2 (Fa.gives _ g cdv _ rfl rfl) hr hj (hvb s H C cl fp xe) bk hdb hd hcd hd2 hcd2
 ·obtain ⟨F, M, ρ, kk, x', g', S, R, w, pv, px⟩ := h
  exact asks_in Fa.tells g' S R L lt w pv
theorem lamOks_nil {k : Nat} : ∀ l ∈ ([] : List LamR), LamOk X k l := fun _ h => nomatch h
theorem lamOks_cons {k : Nat} {l : LamR} {ls : List LamR} (h : LamOk X k l) (r : ∀ l ∈ ls, LamOk X k l) : ∀ m ∈ l :: ls, LamOk X k m := fun m hm => by
 rcases List.mem_cons.mp hm with e | e
 ·rw [e]; exact h
 ·exact r m e
end
end DL
namespace DL
open PySem PySem.Spec PyProof.Rows L2 LamX _root_.DM
section
variable {X : Cx} {o e : Expr} {wo we : WE} {apos cpos : Pos}
end
end DL
namespace DL
open PySem PySem.Spec PyProof.Rows L2 _root_.DM
theorem valV_int {n : Int} : ∀ (ks : List Str) (xs : List V), valV (kvz ks xs) (.inl n) = none
 | [], _ => rfl
 | _ :: _, [] => rfl
 | k :: ks, x :: xs => by
  have ih := valV_int (n := n) ks xs
  unfold valV at ih ⊢
  show ((((Sum.inr k : Key), x) :: kvz ks xs).find? _).map _ = none
  rw [List.find?_cons]
  exact ih
def wDGetI (wo wi we : WE) : WE := fun ρ M k x => wo ρ M (fun o M1 => match o with
 | .dcl _ _ => wi ρ M1 (fun i M2 => we ρ M2 (fun e M3 => onInt i fun _ => k e M3) x) x
 | _ => False) x
section
variable {X : Cx} {o e f : Expr} {wo wi we : WE} {apos cpos : Pos}
theorem de_dgetI {Tq : TkC} (hu : X.A.units + 64 < cLine) (ho : DE Tq X o wo) (he : DE Tq X e wi) (hf : DE Tq X f we) (m : M2 X o "get" apos e f cpos := by exact ⟨by rfl, by rfl, by rfl, by rfl⟩) : DE Tq X (.Call (.Attribute o "get" apos) [e, f] [] cpos) (wDGetI wo wi we) := by
 refine ⟨fun W tk => pe_imp (pe_dget2 (by omega) (ho.pe W tk) (he.pe W tk) (hf.pe W tk) m) fun σ H Q q => ?_⟩
 obtain ⟨F, M, ρ, k, x, S, R, w, pv, px⟩ := q
 refine ⟨F, M, ρ, _, x, S, R, w, fun v d H1 F1 M1 e1 S1 r1 w1 => ?_, px⟩
 cases d with
 | dcl ks ds =>
  cases r1 with
  | @dcl a ob _ xs _ hF hr hl hz =>
  have hH := S1.fz _ _ hF
  refine ⟨a, rfl, .inl ⟨_, .inr ⟨ob, hH⟩⟩, F1, M1, ρ, _, x, S1, R.mono e1.sm, w1, fun v2 i H2 F2 M2' e2 S2 r2 w3 => ?_, px.on e1⟩
  refine ⟨F2, M2', ρ, _, x, S2, R.mono (e1.trans e2).sm, w3, fun v3 y H3 F3 M3 e3 S3 r3 w4 => ?_, px.on (e1.trans e2)⟩
  have hH3 := S3.fz _ _ ((e2.trans e3).sm _ _ hF)
  cases i with
  | int n =>
   cases r2
   refine ⟨none, .inl ⟨_, .inl n, .inr ⟨ob, hH3⟩, rfl, (valV_int _ _).symm⟩, ?_⟩
   exact pv _ _ _ _ _ ((e1.trans e2).trans e3) S3 r3 w4
  | _ => exact False.elim w4
 | _ => exact w1.elim
end
end DL
namespace DP.RsM
open PySem PySem.Spec PyProof.Rows L2 DL DM _root_.DP
local macro_rules | `(tactic| walk_at "r") => `(tactic| try conv => lhs; whnf)
def wrongM (W : Nat) (ms : List Int) : Option XE := if ms.length = W then match ms.find? (fun m => decide (m < 1)) with
  | some m => some ⟨"InvalidCount", "number", .int m⟩
  | none => if prodM ms > 40 then some ⟨"TooLong", "limit", .int 40⟩ else none
 else some ⟨"WrongDimension", "given", .int ms.length⟩
theorem ck1_any {a b y : Option Vl} {E : EndsK} : ∀ (ms : List Int) (x : Option Vl), loopM [2] (mgN 2) (mIfS (mTest (mOp fLt (mVar 2) (mC (.int 1)))) (mRaise "InvalidCount" "number" "InvalidCount" (mVar 2)) mNext) (ms.map .int) [a, b, x, y] E = match ms.find? (fun m => decide (m < 1)) with
  | some m => xE E ⟨"InvalidCount", "number", .int m⟩
  | none => E.nx [a, b, none, y]
 | [], x => loopM_nil
 | m :: ms, x => by
  rw [List.map_cons, loopM_cons, List.find?_cons]
  by_cases h : m < 1
  ·rw [decide_eq_true h]
   walk_at "r"
   rw [decide_eq_true h]
   rfl
  ·rw [decide_eq_false h]
   walk_at "r"
   rw [decide_eq_false h]
   exact ck1_any ms _
theorem ck2_any {a b : Option Vl} {E : EndsK} : ∀ (ms : List Int) (x : Option Vl) (c : Int) (A : Nat), (∀ m ∈ ms, m.natAbs ≤ 64) → c.natAbs < 2 ^ A → A + 7 * ms.length ≤ 4000 → loopM [2] (mgN 2) (mAug 3 fImul (mVar 2)) (ms.map .int) [a, b, x, some (.v (.int c))] E = E.nx [a, b, none, some (.v (.int (c * prodM ms)))]
 | [], x, c, _, _, _, _ => by
  rw [show c * prodM [] = c from Int.mul_one c]
  exact loopM_nil
 | m :: ms, x, c, A, h, hc, hA => by
  have h1 := h m List.mem_cons_self
  rw [List.length_cons] at hA
  have e : c * prodM (m :: ms) = c * m * prodM ms := by rw [Int.mul_assoc]; rfl
  rw [e]
  have hm : m.natAbs < 2 ^ 7 := by omega
  rw [List.map_cons, loopM_cons]
  walk_at "r"
  have em : fImul (.v (.int c)) (.v (.int m)) = some (.int (c * m)) := by
   show (match mulB c m with | true => some (D.int (c * m)) | false => none) = _
   rw [show mulB c m = true from mulB_of (a := A) (b := 7) hc hm (by omega)]
  rw [em]
  refine ck2_any ms _ (c * m) (A + 7) (fun x hx => h x (List.mem_cons_of_mem _ hx)) ?_ (by omega)
  rw [Int.natAbs_mul, Nat.pow_add]
  exact Nat.mul_lt_mul'' hc hm
theorem moduli_any {W : Nat} {ms : List Int} {bb : Bool} (hs : ∀ m ∈ ms, m.natAbs ≤ 64) (hl : ms.length ≤ 64) : m_check_moduli [.int W, mD bb ms] = match wrongM W ms with
  | some e => xA e
  | none => .ok .non := by
 unfold wrongM
 have key : ∀ d : D, (d = .lst (ms.map .int) ∨ d = tI ms) → m_check_moduli [.int W, d] = match (if ms.length = W then match ms.find? (fun m => decide (m < 1)) with
  | some m => some ⟨"InvalidCount", "number", .int m⟩
  | none => if prodM ms > 40 then some ⟨"TooLong", "limit", .int 40⟩ else none
 else some (⟨"WrongDimension", "given", .int ms.length⟩ : XE)) with
  | some e => xA e
  | none => .ok .non := fun d hd => by
  rw [m_check_moduli_eq]
  by_cases hW : ms.length = W
  ·rw [if_pos hW]
   rcases hd with rfl | rfl
   all_goals
    walk_at "r"
    rw [List.length_map, hW, decide_eq_true rfl]
    walk_at "r"
    refine (ck1_any ms none).trans ?_
    cases hf : ms.find? (fun m => decide (m < 1)) with
    | some m => rfl
    | none =>
     walk_at "r"
     refine (ck2_any ms none 1 1 hs (by decide) (by omega)).trans ?_
     rw [Int.one_mul]
     walk_at "r"
     by_cases hp : prodM ms > 40
     ·rw [if_pos hp, decide_eq_true hp]; rfl
     ·rw [if_neg hp, decide_eq_false hp]; rfl
  ·rw [if_neg hW]
   have hW' : ¬ ((ms.length : Int) = (W : Int)) := fun e => hW (by omega)
   rcases hd with rfl | rfl
   all_goals
    walk_at "r"
    rw [List.length_map, decide_eq_false hW']
    walk_at "r"
    try rw [List.length_map]
    try rfl
 cases bb
 ·exact key _ (.inr rfl)
 ·exact key _ (.inl rfl)
end DP.RsM
namespace K31
open PySem PySem.Spec PyProof.Rows L2 DL _root_.DM LamX _root_.DP.RsM
open _root_.DP hiding m_residue m_residue_eq M_residue N_residue m_period m_period_eq M_period N_period residue_d per_loop period_d sp_strewn N_strewn w_strewn hw_strewn sp_residue_sums N_residue_sums w_residue_sums hw_residue_sums
variable {P : Program} {w : World} {K : PySem.W.Frag} {mg : Str → Option Value} {base : Heap} {f : Addr} {cdv : Value} {A : Around} {outer : List Env} {s : Shared} {H : Hp} {E : XK}
local macro_rules | `(tactic| walk_at "l") => `(tactic| first | exact Or.inl rfl | exact Or.inr rfl)
structure Bl (mg : Str → Option Value) : Prop where
 abs : mg "abs" = none
 all : mg "all" = none
 divmod : mg "divmod" = none
 int : mg "int" = none
 len : mg "len" = none
 list : mg "list" = none
 range : mg "range" = none
 sorted : mg "sorted" = none
 tuple : mg "tuple" = none
 zip : mg "zip" = none
 c_MAX_CLASSES : ∃ t, mg "MAX_CLASSES" = some (.int 40 t)
def Kp (M M' : MH) : Prop := ∀ a o, M a = some o → M' a = some o
def efO (W : Nat) (s : List Int) (o : Option (List Int)) : D := effD W s (match o with
 | none => []
 | some p => [⟨3, p, []⟩])
def rowsO (ms : List Int) : Option (List Int) → List D
 | none => []
 | some p => [.tup [tI (resV p ms), .int 3]]
def sp_strewn : WF := fun _ _ _ _ => False
def sp_residue_sums : WF := fun ds M k x => ∃ (bb : Bool) (W : Nat) (ms s : List Int) (o : Option (List Int)), ds = [efO W s o, mD bb ms] ∧ 1 ≤ W ∧ W ≤ 64 ∧ ms.length ≤ 64 ∧ (∀ m, m ∈ ms → m.natAbs ≤ 64) ∧ (∀ p, o = some p → p.length = W) ∧ match wrongM W ms with
 | some e => x e.nm [("tag", .str e.nm), (e.fl, e.d)] M
 | none => ∀ M', Kp M M' → k (.lst (rowsO ms o)) M'
def sp_rotation : WF := fun ds M k _ => ∃ (s s' : List Int) (n : Nat), ds = [efO 1 s none, efO 1 s' none, .int n] ∧ 1 ≤ n ∧ n ≤ 40 ∧ ∀ M', Kp M M' → k (.int 0) M'
def sp_offset : WF := fun ds M k x => ∃ (W W' : Nat) (s s' : List Int), ds = [efO W s none, efO W' s' none] ∧ s.length = W ∧ s'.length = W' ∧ W ≤ 64 ∧ W' ≤ 64 ∧ (s = s' → s ≠ [0]) ∧
 ((W ≠ 1 ∧ x "WrongDimension" [("tag", .str "WrongDimension"), ("given", .int W)] M) ∨ (W = 1 ∧ W' ≠ 1 ∧ x "WrongDimension" [("tag", .str "WrongDimension"), ("given", .int W')] M) ∨ (W = 1 ∧ W' = 1 ∧
  if s = s' then (if (s.headD 0).natAbs > 40 then x "TooLong" [("tag", .str "TooLong"), ("limit", .int 40)] M else ∀ M', Kp M M' → k (.int 0) M') else k .non M))
theorem sc_origin : FnScope ["dimension"] ["dimension"] (defScope s_origin) := ⟨rfl, rfl, rfl, by decide +kernel, rfl, by decide +kernel, by decide +kernel⟩
theorem d_origin (B : Bl mg) (hr : Room 0 (A.deeper (envOfC "origin" (defScope s_origin) s.heap.objs.size f cdv))) :
  DSs tkN (cxOf (L2N.CX P w) P w K mg base ["dimension"] "origin" (defScope s_origin) f cdv A outer s H E) (defBody s_origin) (wS (M_origin)) := by
 have sc := sc_origin
 exact (mss_one (ms_ret (me_op od_mul om_mul (me_tup (ma_cons me_int ma_nil)) (mv 0))))
theorem ok_origin {f : Addr} {fd : FuncData} {m : List D → Rs D} (B : Bl mg) (F : Fun K "origin" "origin" s_origin f fd) (hm : mg "origin" = some (.ref f))
  (hw : ∀ ds, m ds = callM (M_origin) ["dimension"] ds) : FnD P w K mg base "origin" (0 + 1) 1 (wfOf m) :=
 ⟨_, _, _, rfl, fn_d F sc_origin (fun cdv A outer s H E hr => d_origin B hr) (hw_mE hw), hm, F.kp, F.binds fun _ _ _ _ _ _ us hl => match us, hl with | [_], _ => rfl⟩
theorem sc_add : FnScope ["one", "others", "result", "other", "a", "b"] ["one", "others"] (defScope s_add) := ⟨rfl, rfl, rfl, by decide +kernel, rfl, by decide +kernel, by decide +kernel⟩
theorem d_add (B : Bl mg) (hr : Room 0 (A.deeper (envOfC "add" (defScope s_add) s.heap.objs.size f cdv))) :
  DSs tkN (cxOf (L2N.CX P w) P w K mg base ["one", "others", "result", "other", "a", "b"] "add" (defScope s_add) f cdv A outer s H E) (defBody s_add) (wS (M_add)) := by
 have sc := sc_add
 exact (mss_cons (ms_set (i := 2) sc.nd rfl (by walk_at "l") (mv 0))
 (mss_cons (ms_for [3] rfl (mi_seq (mv 1)) (mg_name (i := 3) sc.nd rfl (by walk_at "l")) (mss_one (ms_set (i := 2) sc.nd rfl (by walk_at "l") (me_callTy cd_tuple cm_tuple B.tuple (by decide +kernel) (ma_cons (me_lc (own := [("a", 4), ("b", 5)]) (mt := mYes) (me := (mOp fAdd (mVar 4) (mVar 5))) (g := (mgTup 2 (mgCons (mgN 4) (mgCons (mgN 5) mgNil)))) rfl sc.nd (mi_zip (di_zip B.zip (mv 2) (mv 3))) (blkOk_by (N := ["one", "others", "result", "other", "a", "b"]) (sc := defScope s_add) (by decide +kernel)) (by decide) (fun _ _ _ _ _ => (mg_tup rfl (mgs_cons (mg_name (i := 4) sc.nd rfl (by walk_at "l")) (mgs_cons (mg_name (i := 5) sc.nd rfl (by walk_at "l")) mgs_nil)))) (fun _ _ _ _ _ => mts_nil) (fun _ _ _ _ _ => (me_op od_add om_add (mv 4) (mv 5)))) ma_nil)))))
 (mss_one (ms_ret (mv 2)))))
theorem ok_add {f : Addr} {fd : FuncData} {m : List D → Rs D} (B : Bl mg) (F : Fun K "add" "add" s_add f fd) (hm : mg "add" = some (.ref f))
  (hw : ∀ ds, m ds = callM (M_add) ["one", "others", "result", "other", "a", "b"] ds) : FnV P w K mg base "add" (0 + 1) 1 (wfOf m) :=
 ⟨_, fn_dV (ps := ["one"]) (pv := "others") F sc_add (fun kV doc pm cdv ct an => StX.bind_star1 (B := fun vs => bindArgs (PySem.W.fnOf "add" "add" (defArgs s_add) (defBody s_add) (defScope s_add) .none kV doc pm an cdv ct) ⟨vs, []⟩) (fun _ => rfl) (fun _ _ _ => rfl)) (fun cdv A outer s H E hr => d_add B hr) (hw_mE hw), hm, F.kp⟩
theorem sc_scale : FnScope ["number", "place", "one"] ["number", "place"] (defScope s_scale) := ⟨rfl, rfl, rfl, by decide +kernel, rfl, by decide +kernel, by decide +kernel⟩
theorem d_scale (B : Bl mg) (hr : Room 0 (A.deeper (envOfC "scale" (defScope s_scale) s.heap.objs.size f cdv))) :
  DSs tkN (cxOf (L2N.CX P w) P w K mg base ["number", "place", "one"] "scale" (defScope s_scale) f cdv A outer s H E) (defBody s_scale) (wS (M_scale)) := by
 have sc := sc_scale
 exact (mss_one (ms_ret (me_callTy cd_tuple cm_tuple B.tuple (by decide +kernel) (ma_cons (me_lc (own := [("one", 2)]) (mt := mYes) (me := (mOp fMul (mVar 0) (mVar 2))) (g := (mgN 2)) rfl sc.nd (mi_seq (mv 1)) (blkOk_by (N := ["number", "place", "one"]) (sc := defScope s_scale) (by decide +kernel)) (by decide) (fun _ _ _ _ _ => (mg_name (i := 2) sc.nd rfl (by walk_at "l"))) (fun _ _ _ _ _ => mts_nil) (fun _ _ _ _ _ => (me_op od_mul om_mul (mv 0) (mv 2)))) ma_nil))))
theorem ok_scale {f : Addr} {fd : FuncData} {m : List D → Rs D} (B : Bl mg) (F : Fun K "scale" "scale" s_scale f fd) (hm : mg "scale" = some (.ref f))
  (hw : ∀ ds, m ds = callM (M_scale) ["number", "place", "one"] ds) : FnD P w K mg base "scale" (0 + 1) 2 (wfOf m) :=
 ⟨_, _, _, rfl, fn_d F sc_scale (fun cdv A outer s H E hr => d_scale B hr) (hw_mE hw), hm, F.kp, F.binds fun _ _ _ _ _ _ us hl => match us, hl with | [_, _], _ => rfl⟩
theorem sc_opposite : FnScope ["place"] ["place"] (defScope s_opposite) := ⟨rfl, rfl, rfl, by decide +kernel, rfl, by decide +kernel, by decide +kernel⟩
theorem d_opposite (B : Bl mg) (G_scale : FnD P w K mg base "scale" 1 2 (wfOf m_scale)) (hr : Room 1 (A.deeper (envOfC "opposite" (defScope s_opposite) s.heap.objs.size f cdv))) :
  DSs tkN (cxOf (L2N.CX P w) P w K mg base ["place"] "opposite" (defScope s_opposite) f cdv A outer s H E) (defBody s_opposite) (wS (M_opposite)) := by
 have sc := sc_opposite
 exact (mss_one (ms_ret (me_call G_scale (hr.mono (by decide)) (ma_cons (me_un ud_neg um_neg me_int) (ma_cons (mv 0) ma_nil)))))
theorem ok_opposite {f : Addr} {fd : FuncData} {m : List D → Rs D} (B : Bl mg) (G_scale : FnD P w K mg base "scale" 1 2 (wfOf m_scale)) (F : Fun K "opposite" "opposite" s_opposite f fd) (hm : mg "opposite" = some (.ref f))
  (hw : ∀ ds, m ds = callM (M_opposite) ["place"] ds) : FnD P w K mg base "opposite" (1 + 1) 1 (wfOf m) :=
 ⟨_, _, _, rfl, fn_d F sc_opposite (fun cdv A outer s H E hr => d_opposite B G_scale hr) (hw_mE hw), hm, F.kp, F.binds fun _ _ _ _ _ _ us hl => match us, hl with | [_], _ => rfl⟩
theorem sc_is_forward : FnScope ["vector", "one"] ["vector"] (defScope s_is_forward) := ⟨rfl, rfl, rfl, by decide +kernel, rfl, by decide +kernel, by decide +kernel⟩
theorem d_is_forward (B : Bl mg) (hr : Room 0 (A.deeper (envOfC "is_forward" (defScope s_is_forward) s.heap.objs.size f cdv))) :
  DSs tkN (cxOf (L2N.CX P w) P w K mg base ["vector", "one"] "is_forward" (defScope s_is_forward) f cdv A outer s H E) (defBody s_is_forward) (wS (M_is_forward)) := by
 have sc := sc_is_forward
 exact (mss_cons (ms_for [1] rfl (mi_seq (mv 0)) (mg_name (i := 1) sc.nd rfl (by walk_at "l")) (mss_one (ms_if (mt_cmp (od_ne hr.units) om_ne (mv 1) me_int) (mss_one (ms_ret (me_cmp od_gt om_gt (mv 1) me_int))) mss_nil)))
 (mss_one (ms_ret me_bl)))
theorem ok_is_forward {f : Addr} {fd : FuncData} {m : List D → Rs D} (B : Bl mg) (F : Fun K "is_forward" "is_forward" s_is_forward f fd) (hm : mg "is_forward" = some (.ref f))
  (hw : ∀ ds, m ds = callM (M_is_forward) ["vector", "one"] ds) : FnD P w K mg base "is_forward" (0 + 1) 1 (wfOf m) :=
 ⟨_, _, _, rfl, fn_d F sc_is_forward (fun cdv A outer s H E hr => d_is_forward B hr) (hw_mE hw), hm, F.kp, F.binds fun _ _ _ _ _ _ us hl => match us, hl with | [_], _ => rfl⟩
theorem sc_residue : FnScope ["place", "moduli", "one", "modulus"] ["place", "moduli"] (defScope s_residue) := ⟨rfl, rfl, rfl, by decide +kernel, rfl, by decide +kernel, by decide +kernel⟩
theorem d_residue (B : Bl mg) (hr : Room 0 (A.deeper (envOfC "residue" (defScope s_residue) s.heap.objs.size f cdv))) :
  DSs tkN (cxOf (L2N.CX P w) P w K mg base ["place", "moduli", "one", "modulus"] "residue" (defScope s_residue) f cdv A outer s H E) (defBody s_residue) (wS (M_residue)) := by
 have sc := sc_residue
 exact (mss_one (ms_ret (me_callTy cd_tuple cm_tuple B.tuple (by decide +kernel) (ma_cons (me_lc (own := [("one", 2), ("modulus", 3)]) (mt := mYes) (me := (mOp fMod (mVar 2) (mVar 3))) (g := (mgTup 2 (mgCons (mgN 2) (mgCons (mgN 3) mgNil)))) rfl sc.nd (mi_zipM (di_zipM B.zip (mv 0) (mv 1))) (blkOk_by (N := ["place", "moduli", "one", "modulus"]) (sc := defScope s_residue) (by decide +kernel)) (by decide) (fun _ _ _ _ _ => (mg_tup rfl (mgs_cons (mg_name (i := 2) sc.nd rfl (by walk_at "l")) (mgs_cons (mg_name (i := 3) sc.nd rfl (by walk_at "l")) mgs_nil)))) (fun _ _ _ _ _ => mts_nil) (fun _ _ _ _ _ => (me_op od_mod om_mod (mv 2) (mv 3)))) ma_nil))))
theorem ok_residue {f : Addr} {fd : FuncData} {m : List D → Rs D} (B : Bl mg) (F : Fun K "residue" "residue" s_residue f fd) (hm : mg "residue" = some (.ref f))
  (hw : ∀ ds, m ds = callM (M_residue) ["place", "moduli", "one", "modulus"] ds) : FnD P w K mg base "residue" (0 + 1) 2 (wfOf m) :=
 ⟨_, _, _, rfl, fn_d F sc_residue (fun cdv A outer s H E hr => d_residue B hr) (hw_mE hw), hm, F.kp, F.binds fun _ _ _ _ _ _ us hl => match us, hl with | [_, _], _ => rfl⟩
theorem sc_forward_loop : FnScope ["place", "stride", "times"] ["place", "stride", "times"] (defScope s_forward_loop) := ⟨rfl, rfl, rfl, by decide +kernel, rfl, by decide +kernel, by decide +kernel⟩
theorem d_forward_loop (B : Bl mg) (G_add : FnV P w K mg base "add" 1 1 (wfOf m_add)) (G_is_forward : FnD P w K mg base "is_forward" 1 1 (wfOf m_is_forward)) (G_opposite : FnD P w K mg base "opposite" 2 1 (wfOf m_opposite)) (G_scale : FnD P w K mg base "scale" 1 2 (wfOf m_scale)) (hr : Room 2 (A.deeper (envOfC "forward_loop" (defScope s_forward_loop) s.heap.objs.size f cdv))) :
  DSs tkN (cxOf (L2N.CX P w) P w K mg base ["place", "stride", "times"] "forward_loop" (defScope s_forward_loop) f cdv A outer s H E) (defBody s_forward_loop) (wS (M_forward_loop)) := by
 have sc := sc_forward_loop
 exact (mss_cons (ms_if (mt_val (me_call G_is_forward (hr.mono (by decide)) (ma_cons (mv 1) ma_nil))) (mss_one (ms_ret (me_tup (ma_cons (mv 0) (ma_cons (me_tup (ma_cons (mv 1) (ma_cons (mv 2) ma_nil))) ma_nil))))) mss_nil)
 (mss_one (ms_ret (me_tup (ma_cons (me_callV G_add (hr.mono (by decide)) (ma_cons (mv 0) (ma_cons (me_call G_scale (hr.mono (by decide)) (ma_cons (me_op od_sub om_sub (mv 2) me_int) (ma_cons (mv 1) ma_nil))) ma_nil))) (ma_cons (me_tup (ma_cons (me_call G_opposite (hr.mono (by decide)) (ma_cons (mv 1) ma_nil)) (ma_cons (mv 2) ma_nil))) ma_nil))))))
theorem ok_forward_loop {f : Addr} {fd : FuncData} {m : List D → Rs D} (B : Bl mg) (G_add : FnV P w K mg base "add" 1 1 (wfOf m_add)) (G_is_forward : FnD P w K mg base "is_forward" 1 1 (wfOf m_is_forward)) (G_opposite : FnD P w K mg base "opposite" 2 1 (wfOf m_opposite)) (G_scale : FnD P w K mg base "scale" 1 2 (wfOf m_scale)) (F : Fun K "forward_loop" "forward_loop" s_forward_loop f fd) (hm : mg "forward_loop" = some (.ref f))
  (hw : ∀ ds, m ds = callM (M_forward_loop) ["place", "stride", "times"] ds) : FnD P w K mg base "forward_loop" (2 + 1) 3 (wfOf m) :=
 ⟨_, _, _, rfl, fn_d F sc_forward_loop (fun cdv A outer s H E hr => d_forward_loop B G_add G_is_forward G_opposite G_scale hr) (hw_mE hw), hm, F.kp, F.binds fun _ _ _ _ _ _ us hl => match us, hl with | [_, _, _], _ => rfl⟩
theorem sc_term_of : FnScope ["number", "place", "loops", "kept", "stride", "times", "loop"] ["number", "place", "loops"] (defScope s_term_of) := ⟨rfl, rfl, rfl, by decide +kernel, rfl, by decide +kernel, by decide +kernel⟩
theorem d_term_of (B : Bl mg) (G_forward_loop : FnD P w K mg base "forward_loop" 3 3 (wfOf m_forward_loop)) (G_origin : FnD P w K mg base "origin" 1 1 (wfOf m_origin)) (hr : Room 3 (A.deeper (envOfC "term_of" (defScope s_term_of) s.heap.objs.size f cdv))) :
  DSs tkN (cxOf (L2N.CX P w) P w K mg base ["number", "place", "loops", "kept", "stride", "times", "loop"] "term_of" (defScope s_term_of) f cdv A outer s H E) (defBody s_term_of) (wS (M_term_of)) := by
 have sc := sc_term_of
 exact (mss_cons (ms_set (i := 3) sc.nd rfl (by walk_at "l") (me_lst ma_nil))
 (mss_cons (ms_for [4, 5, 6] rfl (mi_seq (mv 2)) (mg_tup rfl (mgs_cons (mg_name (i := 4) sc.nd rfl (by walk_at "l")) (mgs_cons (mg_name (i := 5) sc.nd rfl (by walk_at "l")) mgs_nil))) (mss_one (ms_if (mt_cmp (od_eq hr.units) om_eq (mv 4) (me_call G_origin (hr.mono (by decide)) (ma_cons (me_callB cd_lenX cm_len B.len (by decide +kernel) (ma_cons (mv 1) ma_nil)) ma_nil))) (mss_one (ms_set (i := 0) sc.nd rfl (by walk_at "l") (me_op od_mul om_mul (mv 0) (mv 5)))) (mss_cons (ms_asg (me_call G_forward_loop (hr.mono (by decide)) (ma_cons (mv 1) (ma_cons (mv 4) (ma_cons (mv 5) ma_nil)))) (mg_tup rfl (mgs_cons (mg_name (i := 1) sc.nd rfl (by walk_at "l")) (mgs_cons (mg_name (i := 6) sc.nd rfl (by walk_at "l")) mgs_nil))))
 (mss_one (ms_set (i := 3) sc.nd rfl (by walk_at "l") (me_op od_add om_add (mv 3) (me_lst (ma_cons (mv 6) ma_nil)))))))))
 (mss_one (ms_ret (me_tup (ma_cons (mv 0) (ma_cons (mv 1) (ma_cons (me_callTy cd_tuple cm_tuple B.tuple (by decide +kernel) (ma_cons (mv 3) ma_nil)) ma_nil))))))))
theorem ok_term_of {f : Addr} {fd : FuncData} {m : List D → Rs D} (B : Bl mg) (G_forward_loop : FnD P w K mg base "forward_loop" 3 3 (wfOf m_forward_loop)) (G_origin : FnD P w K mg base "origin" 1 1 (wfOf m_origin)) (F : Fun K "term_of" "term_of" s_term_of f fd) (hm : mg "term_of" = some (.ref f))
  (hw : ∀ ds, m ds = callM (M_term_of) ["number", "place", "loops", "kept", "stride", "times", "loop"] ds) : FnD P w K mg base "term_of" (3 + 1) 3 (wfOf m) :=
 ⟨_, _, _, rfl, fn_d F sc_term_of (fun cdv A outer s H E hr => d_term_of B G_forward_loop G_origin hr) (hw_mE hw), hm, F.kp, F.binds fun _ _ _ _ _ _ us hl => match us, hl with | [_, _, _], _ => rfl⟩
theorem sc_period : FnScope ["stride", "moduli", "rounds"] ["stride", "moduli"] (defScope s_period) := ⟨rfl, rfl, rfl, by decide +kernel, rfl, by decide +kernel, by decide +kernel⟩
theorem d_period (B : Bl mg) (G_origin : FnD P w K mg base "origin" 1 1 (wfOf m_origin)) (G_residue : FnD P w K mg base "residue" 1 2 (wfOf m_residue)) (G_scale : FnD P w K mg base "scale" 1 2 (wfOf m_scale)) (hr : Room 1 (A.deeper (envOfC "period" (defScope s_period) s.heap.objs.size f cdv))) :
  DSs tkN (cxOf (L2N.CX P w) P w K mg base ["stride", "moduli", "rounds"] "period" (defScope s_period) f cdv A outer s H E) (defBody s_period) (wS (M_period)) := by
 have sc := sc_period
 exact (mss_cons (ms_set (i := 2) sc.nd rfl (by walk_at "l") me_int)
 (mss_cons (ms_while [] (mt_cmp (od_ne hr.units) om_ne (me_call G_residue (hr.mono (by decide)) (ma_cons (me_call G_scale (hr.mono (by decide)) (ma_cons (mv 2) (ma_cons (mv 0) ma_nil))) (ma_cons (mv 1) ma_nil))) (me_call G_origin (hr.mono (by decide)) (ma_cons (me_callB cd_lenX cm_len B.len (by decide +kernel) (ma_cons (mv 0) ma_nil)) ma_nil))) (mss_one (ms_aug om_int0 (ds_aug (i := 2) sc.nd rfl (by walk_at "l") id_add me_int))))
 (mss_one (ms_ret (mv 2)))))
theorem ok_period {f : Addr} {fd : FuncData} {m : List D → Rs D} (B : Bl mg) (G_origin : FnD P w K mg base "origin" 1 1 (wfOf m_origin)) (G_residue : FnD P w K mg base "residue" 1 2 (wfOf m_residue)) (G_scale : FnD P w K mg base "scale" 1 2 (wfOf m_scale)) (F : Fun K "period" "period" s_period f fd) (hm : mg "period" = some (.ref f))
  (hw : ∀ ds, m ds = callM (M_period) ["stride", "moduli", "rounds"] ds) : FnD P w K mg base "period" (1 + 1) 2 (wfOf m) :=
 ⟨_, _, _, rfl, fn_d F sc_period (fun cdv A outer s H E hr => d_period B G_origin G_residue G_scale hr) (hw_mE hw), hm, F.kp, F.binds fun _ _ _ _ _ _ us hl => match us, hl with | [_, _], _ => rfl⟩
theorem sc_strewn : FnScope ["sums", "loop", "moduli", "rounds", "result", "stride", "times", "whole", "rest", "place", "number", "k", "there"] ["sums", "loop", "moduli"] (defScope s_strewn) := ⟨rfl, rfl, rfl, by decide +kernel, rfl, by decide +kernel, by decide +kernel⟩
abbrev N_strewn : List Str := ["sums", "loop", "moduli", "rounds", "result", "stride", "times", "whole", "rest", "place", "number", "k", "there"]
def w_strewn : WS := (wSeq (wAsg (wVar 1) (wgTup 2 (wgCons (wgN 5) (wgCons (wgN 6) wgNil))))
 (wSeq (wSet 3 (wCall (wfOf m_period) 2 (wCons (wVar 5) (wCons (wVar 2) wNil))))
 (wSeq (wAsg (wCB rDivmod (wCons (wVar 6) (wCons (wVar 3) wNil))) (wgTup 2 (wgCons (wgN 7) (wgCons (wgN 8) wgNil))))
 (wSeq (wSet 4 wDnewT)
 (wSeq (wFor (wiItemsT (wVar 0)) (wgTup 2 (wgCons (wgN 9) (wgCons (wgN 10) wgNil))) (wFor (wiR1 (wVar 3)) (wgN 11) (wSeq (wSet 12 (wCall (wfOf m_residue) 2 (wCons (wCallV (wfOf m_add) 1 (wCons (wVar 9) (wCons (wCall (wfOf m_scale) 2 (wCons (wVar 11) (wCons (wVar 5) wNil))) wNil))) (wCons (wVar 2) wNil))))
 (wDputT (wVar 4) (wVar 12) (wOp rAdd (wDGet2T (wVar 4) (wVar 12) (wC (.int 0))) (wOp rMul (wVar 10) (wOp rAdd (wVar 7) (wCB rInt1 (wCons (wOp rLt (wVar 11) (wVar 8)) wNil)))))))))
 (wFrzT 4 (wRet (wVar 4))))))))
theorem d_strewn (B : Bl mg) (G_add : FnV P w K mg base "add" 1 1 (wfOf m_add)) (G_period : FnD P w K mg base "period" 2 2 (wfOf m_period)) (G_residue : FnD P w K mg base "residue" 1 2 (wfOf m_residue)) (G_scale : FnD P w K mg base "scale" 1 2 (wfOf m_scale)) (hr : Room 2 (A.deeper (envOfC "strewn" (defScope s_strewn) s.heap.objs.size f cdv))) :
  DSs tkN (cxOf (L2N.CX P w) P w K mg base ["sums", "loop", "moduli", "rounds", "result", "stride", "times", "whole", "rest", "place", "number", "k", "there"] "strewn" (defScope s_strewn) f cdv A outer s H E) (defBody s_strewn) (w_strewn) := by
 have sc := sc_strewn
 exact (dss_cons (ds_asg (dv 1) (dg_tup rfl (dgs_cons (dg_name (i := 5) sc.nd rfl (by walk_at "l")) (dgs_cons (dg_name (i := 6) sc.nd rfl (by walk_at "l")) dgs_nil))))
 (dss_cons (ds_set (i := 3) sc.nd rfl (by walk_at "l") (de_call G_period (hr.mono (by decide)) (da_cons (dv 5) (da_cons (dv 2) da_nil))))
 (dss_cons (ds_asg (de_callB cd_divmod B.divmod (by decide +kernel) (da_cons (dv 6) (da_cons (dv 3) da_nil))) (dg_tup rfl (dgs_cons (dg_name (i := 7) sc.nd rfl (by walk_at "l")) (dgs_cons (dg_name (i := 8) sc.nd rfl (by walk_at "l")) dgs_nil))))
 (dss_cons (ds_set (i := 4) sc.nd rfl (by walk_at "l") de_dnewT)
 (dss_cons (ds_for rfl (di_itemsT (dv 0)) (dg_tup rfl (dgs_cons (dg_name (i := 9) sc.nd rfl (by walk_at "l")) (dgs_cons (dg_name (i := 10) sc.nd rfl (by walk_at "l")) dgs_nil))) (dss_one (ds_for rfl (di_r1 B.range (dv 3)) (dg_name (i := 11) sc.nd rfl (by walk_at "l")) (dss_cons (ds_set (i := 12) sc.nd rfl (by walk_at "l") (de_call G_residue (hr.mono (by decide)) (da_cons (de_callV G_add (hr.mono (by decide)) (da_cons (dv 9) (da_cons (de_call G_scale (hr.mono (by decide)) (da_cons (dv 11) (da_cons (dv 5) da_nil))) da_nil))) (da_cons (dv 2) da_nil))))
 (dss_one (ds_dputT hr.units (dv 4) (dv 12) (de_op od_add (de_dget2T hr.units (dv 4) (dv 12) de_int) (de_op od_mul (dv 10) (de_op od_add (dv 7) (de_callTy cd_int B.int (by decide +kernel) (da_cons (de_cmp od_lt (dv 11) (dv 8)) da_nil)))))))))))
 (dss_frzT 4 (dss_one (ds_ret (dv 4)))))))))
theorem ok_strewn {f : Addr} {fd : FuncData} (sp : WF) (B : Bl mg) (G_add : FnV P w K mg base "add" 1 1 (wfOf m_add)) (G_period : FnD P w K mg base "period" 2 2 (wfOf m_period)) (G_residue : FnD P w K mg base "residue" 1 2 (wfOf m_residue)) (G_scale : FnD P w K mg base "scale" 1 2 (wfOf m_scale)) (F : Fun K "strewn" "strewn" s_strewn f fd) (hm : mg "strewn" = some (.ref f))
  (hw : ∀ ds M k x, ds.length = 3 → sp ds M k x → (w_strewn) (startD ["sums", "loop", "moduli", "rounds", "result", "stride", "times", "whole", "rest", "place", "number", "k", "there"] ds) M (retE k x)) : FnD P w K mg base "strewn" (2 + 1) 3 sp :=
 ⟨_, _, _, rfl, fn_d F sc_strewn (fun cdv A outer s H E hr => d_strewn B G_add G_period G_residue G_scale hr) hw, hm, F.kp, F.binds fun _ _ _ _ _ _ us hl => match us, hl with | [_, _, _], _ => rfl⟩
theorem sc_check_moduli : FnScope ["dimension", "moduli", "modulus", "classes"] ["dimension", "moduli"] (defScope s_check_moduli) := ⟨rfl, rfl, rfl, by decide +kernel, rfl, by decide +kernel, by decide +kernel⟩
theorem d_check_moduli (B : Bl mg) (X_InvalidCount : ExD P w K mg base "InvalidCount" "number" "InvalidCount" 1) (X_TooLong : ExD P w K mg base "TooLong" "limit" "TooLong" 1) (X_WrongDimension : ExD P w K mg base "WrongDimension" "given" "WrongDimension" 1) (hr : Room 2 (A.deeper (envOfC "check_moduli" (defScope s_check_moduli) s.heap.objs.size f cdv))) :
  DSs tkN (cxOf (L2N.CX P w) P w K mg base ["dimension", "moduli", "modulus", "classes"] "check_moduli" (defScope s_check_moduli) f cdv A outer s H E) (defBody s_check_moduli) (wS (M_check_moduli)) := by
 have sc := sc_check_moduli
 exact (mss_cons (ms_if (mt_cmp (od_ne hr.units) om_ne (me_callB cd_lenX cm_len B.len (by decide +kernel) (ma_cons (mv 1) ma_nil)) (mv 0)) (mss_one (ms_raise (ds_raise rfl X_WrongDimension (hr.mono (by decide)) (me_callB cd_lenX cm_len B.len (by decide +kernel) (ma_cons (mv 1) ma_nil))))) mss_nil)
 (mss_cons (ms_for [2] rfl (mi_seq (mv 1)) (mg_name (i := 2) sc.nd rfl (by walk_at "l")) (mss_one (ms_if (mt_cmp od_lt om_lt (mv 2) me_int) (mss_one (ms_raise (ds_raise rfl X_InvalidCount (hr.mono (by decide)) (mv 2)))) mss_nil)))
 (mss_cons (ms_set (i := 3) sc.nd rfl (by walk_at "l") me_int)
 (mss_cons (ms_for [2] rfl (mi_seq (mv 1)) (mg_name (i := 2) sc.nd rfl (by walk_at "l")) (mss_one (ms_aug om_imul (ds_aug (i := 3) sc.nd rfl (by walk_at "l") id_mul (mv 2)))))
 (mss_one (ms_if (mt_cmp od_gt om_gt (mv 3) (me_gint B.c_MAX_CLASSES)) (mss_one (ms_raise (ds_raise rfl X_TooLong (hr.mono (by decide)) (me_gint B.c_MAX_CLASSES)))) mss_nil))))))
theorem ok_check_moduli {f : Addr} {fd : FuncData} {m : List D → Rs D} (B : Bl mg) (X_InvalidCount : ExD P w K mg base "InvalidCount" "number" "InvalidCount" 1) (X_TooLong : ExD P w K mg base "TooLong" "limit" "TooLong" 1) (X_WrongDimension : ExD P w K mg base "WrongDimension" "given" "WrongDimension" 1) (F : Fun K "check_moduli" "check_moduli" s_check_moduli f fd) (hm : mg "check_moduli" = some (.ref f))
  (hw : ∀ ds, m ds = callM (M_check_moduli) ["dimension", "moduli", "modulus", "classes"] ds) : FnD P w K mg base "check_moduli" (2 + 1) 2 (wfOf m) :=
 ⟨_, _, _, rfl, fn_d F sc_check_moduli (fun cdv A outer s H E hr => d_check_moduli B X_InvalidCount X_TooLong X_WrongDimension hr) (hw_mE hw), hm, F.kp, F.binds fun _ _ _ _ _ _ us hl => match us, hl with | [_, _], _ => rfl⟩
theorem sc__a_box : FnScope ["_law_script", "_law_cells", "_law_mark", "_law_cell"] ["_law_script"] (defScope s__a_box) := ⟨rfl, rfl, rfl, by decide +kernel, rfl, by decide +kernel, by decide +kernel⟩
def w__a_box : WS := (wSeq (wSet 1 (wCB rList (wCons (wSl (wVar 0) wNoPart (wPart (wC (.int 63)))) wNil)))
 (wSeq (wSet 2 (wOp rAdd (wC (.int 3814)) (wOp rMul (wC (.int 67)) (wCB rLn (wCons (wVar 1) wNil)))))
 (wSeq (wFor (wiSeq (wVar 1)) (wgN 3) (wSet 2 (wOp rMod (wOp rAdd (wOp rMul (wVar 2) (wC (.int 1709))) (wVar 3)) (wC (.int 2147483587)))))
 (wRet (wLstM (wCons (wVar 1) (wCons (wC (.int 0)) (wCons (wC (.int 0)) (wCons (wVar 2) wNil)))))))))
theorem d__a_box (B : Bl mg) (hr : Room 0 (A.deeper (envOfC "_law_a_box" (defScope s__a_box) s.heap.objs.size f cdv))) :
  DSs tkN (cxOf (L2N.CX P w) P w K mg base ["_law_script", "_law_cells", "_law_mark", "_law_cell"] "_law_a_box" (defScope s__a_box) f cdv A outer s H E) (defBody s__a_box) (w__a_box) := by
 have sc := sc__a_box
 exact (dss_cons (ds_set (i := 1) sc.nd rfl (by walk_at "l") (de_callTy cd_list B.list (by decide +kernel) (da_cons (de_sl (dv 0) do_none (do_some de_int)) da_nil)))
 (dss_cons (ds_set (i := 2) sc.nd rfl (by walk_at "l") (de_op od_add de_int (de_op od_mul de_int (de_callB cd_len B.len (by decide +kernel) (da_cons (dv 1) da_nil)))))
 (dss_cons (ds_for rfl (di_seq (dv 1)) (dg_name (i := 3) sc.nd rfl (by walk_at "l")) (dss_one (ds_set (i := 2) sc.nd rfl (by walk_at "l") (de_op od_mod (de_op od_add (de_op od_mul (dv 2) de_int) (dv 3)) de_int))))
 (dss_one (ds_ret (de_lstM (da_cons (dv 1) (da_cons de_int (da_cons de_int (da_cons (dv 2) da_nil))))))))))
theorem ok__a_box {f : Addr} {fd : FuncData} (sp : WF) (B : Bl mg) (F : Fun K "_law_a_box" "_law_a_box" s__a_box f fd) (hm : mg "_law_a_box" = some (.ref f))
  (hw : ∀ ds M k x, ds.length = 1 → sp ds M k x → (w__a_box) (startD ["_law_script", "_law_cells", "_law_mark", "_law_cell"] ds) M (retE k x)) : FnD P w K mg base "_law_a_box" (0 + 1) 1 sp :=
 ⟨_, _, _, rfl, fn_d F sc__a_box (fun cdv A outer s H E hr => d__a_box B hr) hw, hm, F.kp, F.binds fun _ _ _ _ _ _ us hl => match us, hl with | [_], _ => rfl⟩
theorem sc__draw : FnScope ["_law_box", "_law_many", "_law_drawn", "_law_seed", "_law_fold", "_law_twist"] ["_law_box", "_law_many"] (defScope s__draw) := ⟨rfl, rfl, rfl, by decide +kernel, rfl, by decide +kernel, by decide +kernel⟩
def w__draw : WS := (wSeq (wIfS (wTest (wOp rLt (wIx (wVar 0) (wC (.int 2))) (wC (.int 2)))) (wSeq (wPut (wVar 0) (wC (.int 1)) (wOp rAdd (wIx (wVar 0) (wC (.int 1))) (wC (.int 1))))
 (wSeq (wSet 3 (wOp rAdd (wIx (wVar 0) (wC (.int 3))) (wOp rMul (wIx (wVar 0) (wC (.int 1))) (wC (.int 6151)))))
 (wSeq (wIfS (wTest (wOp rLe (wIx (wVar 0) (wC (.int 1))) (wCB rLn (wCons (wIx (wVar 0) (wC (.int 0))) wNil)))) (wSet 3 (wIx (wIx (wVar 0) (wC (.int 0))) (wOp rSub (wIx (wVar 0) (wC (.int 1))) (wC (.int 1))))) wNext)
 (wSeq (wIfS (wOr (wTest (wOp rGt (wIx (wVar 0) (wC (.int 1))) (wCB rLn (wCons (wIx (wVar 0) (wC (.int 0))) wNil)))) (wTest (wOp rLt (wVar 3) (wOp rPow (wC (.int 10)) (wC (.int 18)))))) (wSeq (wSet 4 (wOp rMod (wOp rAdd (wOp rAdd (wOp rMul (wVar 3) (wC (.int 48271))) (wOp rMul (wIx (wVar 0) (wC (.int 1))) (wC (.int 40692)))) (wIx (wVar 0) (wC (.int 3)))) (wC (.int 2147483647))))
 (wSeq (wSet 5 (wOp rMod (wOp rAdd (wOp rMul (wVar 4) (wVar 4)) (wIx (wVar 0) (wC (.int 1)))) (wC (.int 998244353))))
 (wRet (wOp rMod (wOp rFdiv (wOp rMod (wOp rAdd (wOp rMul (wVar 5) (wC (.int 69621))) (wVar 4)) (wC (.int 2147483629))) (wC (.int 7))) (wVar 1))))) wNext)
 (wPut (wVar 0) (wC (.int 2)) (wVar 3)))))) wNext)
 (wSeq (wSet 2 (wOp rMod (wIx (wVar 0) (wC (.int 2))) (wVar 1)))
 (wSeq (wPut (wVar 0) (wC (.int 2)) (wOp rFdiv (wIx (wVar 0) (wC (.int 2))) (wVar 1)))
 (wRet (wVar 2)))))
theorem d__draw (B : Bl mg) (hr : Room 0 (A.deeper (envOfC "_law_draw" (defScope s__draw) s.heap.objs.size f cdv))) :
  DSs tkN (cxOf (L2N.CX P w) P w K mg base ["_law_box", "_law_many", "_law_drawn", "_law_seed", "_law_fold", "_law_twist"] "_law_draw" (defScope s__draw) f cdv A outer s H E) (defBody s__draw) (w__draw) := by
 have sc := sc__draw
 exact (dss_cons (ds_if (dt_cmp od_lt (de_ix (dv 0) de_int) de_int) (dss_cons (ds_put (dv 0) de_int (de_op od_add (de_ix (dv 0) de_int) de_int))
 (dss_cons (ds_set (i := 3) sc.nd rfl (by walk_at "l") (de_op od_add (de_ix (dv 0) de_int) (de_op od_mul (de_ix (dv 0) de_int) de_int)))
 (dss_cons (ds_if (dt_cmp od_le (de_ix (dv 0) de_int) (de_callB cd_len B.len (by decide +kernel) (da_cons (de_ix (dv 0) de_int) da_nil))) (dss_one (ds_set (i := 3) sc.nd rfl (by walk_at "l") (de_ix (de_ix (dv 0) de_int) (de_op od_sub (de_ix (dv 0) de_int) de_int)))) dss_nil)
 (dss_cons (ds_if (DW.dt (dw_or (dt_cmp od_gt (de_ix (dv 0) de_int) (de_callB cd_len B.len (by decide +kernel) (da_cons (de_ix (dv 0) de_int) da_nil))) (dw_or1 (dt_cmp od_lt (dv 3) (de_op od_pow de_int de_int))))) (dss_cons (ds_set (i := 4) sc.nd rfl (by walk_at "l") (de_op od_mod (de_op od_add (de_op od_add (de_op od_mul (dv 3) de_int) (de_op od_mul (de_ix (dv 0) de_int) de_int)) (de_ix (dv 0) de_int)) de_int))
 (dss_cons (ds_set (i := 5) sc.nd rfl (by walk_at "l") (de_op od_mod (de_op od_add (de_op od_mul (dv 4) (dv 4)) (de_ix (dv 0) de_int)) de_int))
 (dss_one (ds_ret (de_op od_mod (de_op od_fdiv (de_op od_mod (de_op od_add (de_op od_mul (dv 5) de_int) (dv 4)) de_int) de_int) (dv 1)))))) dss_nil)
 (dss_one (ds_put (dv 0) de_int (dv 3))))))) dss_nil)
 (dss_cons (ds_set (i := 2) sc.nd rfl (by walk_at "l") (de_op od_mod (de_ix (dv 0) de_int) (dv 1)))
 (dss_cons (ds_put (dv 0) de_int (de_op od_fdiv (de_ix (dv 0) de_int) (dv 1)))
 (dss_one (ds_ret (dv 2))))))
theorem ok__draw {f : Addr} {fd : FuncData} (sp : WF) (B : Bl mg) (F : Fun K "_law_draw" "_law_draw" s__draw f fd) (hm : mg "_law_draw" = some (.ref f))
  (hw : ∀ ds M k x, ds.length = 2 → sp ds M k x → (w__draw) (startD ["_law_box", "_law_many", "_law_drawn", "_law_seed", "_law_fold", "_law_twist"] ds) M (retE k x)) : FnD P w K mg base "_law_draw" (0 + 1) 2 sp :=
 ⟨_, _, _, rfl, fn_d F sc__draw (fun cdv A outer s H E hr => d__draw B hr) hw, hm, F.kp, F.binds fun _ _ _ _ _ _ us hl => match us, hl with | [_, _], _ => rfl⟩
theorem sc__any : FnScope ["_law_box", "_law_row"] ["_law_box", "_law_row"] (defScope s__any) := ⟨rfl, rfl, rfl, by decide +kernel, rfl, by decide +kernel, by decide +kernel⟩
def w__any : WS := (wRet (wIx (wVar 1) (wCall sp__draw 2 (wCons (wVar 0) (wCons (wCB rLn (wCons (wVar 1) wNil)) wNil)))))
theorem d__any (B : Bl mg) (G__draw : FnD P w K mg base "_law_draw" 1 2 sp__draw) (hr : Room 1 (A.deeper (envOfC "_law_any" (defScope s__any) s.heap.objs.size f cdv))) :
  DSs tkN (cxOf (L2N.CX P w) P w K mg base ["_law_box", "_law_row"] "_law_any" (defScope s__any) f cdv A outer s H E) (defBody s__any) (w__any) := by
 have sc := sc__any
 exact (dss_one (ds_ret (de_ix (dv 1) (de_call G__draw (hr.mono (by decide)) (da_cons (dv 0) (da_cons (de_callB cd_len B.len (by decide +kernel) (da_cons (dv 1) da_nil)) da_nil))))))
theorem ok__any {f : Addr} {fd : FuncData} (sp : WF) (B : Bl mg) (G__draw : FnD P w K mg base "_law_draw" 1 2 sp__draw) (F : Fun K "_law_any" "_law_any" s__any f fd) (hm : mg "_law_any" = some (.ref f))
  (hw : ∀ ds M k x, ds.length = 2 → sp ds M k x → (w__any) (startD ["_law_box", "_law_row"] ds) M (retE k x)) : FnD P w K mg base "_law_any" (1 + 1) 2 sp :=
 ⟨_, _, _, rfl, fn_d F sc__any (fun cdv A outer s H E hr => d__any B G__draw hr) hw, hm, F.kp, F.binds fun _ _ _ _ _ _ us hl => match us, hl with | [_, _], _ => rfl⟩
abbrev N__refused : List Str := ["_law_ask", "_law_told", "e"]
theorem sc__refused : FnScope N__refused ["_law_ask"] (defScope s__refused) := ⟨rfl, rfl, rfl, by decide +kernel, rfl, by decide +kernel, by decide +kernel⟩
abbrev clX : List ClD := [(["InvalidName", "DuplicateName", "Circular", "InUse", "UnknownName"], some "name"), (["TooLong", "TooDeep", "TooMany"], some "limit"), (["Tangled", "UnknownWalker"], some "index"), (["InvalidPlace"], some "place"), (["InvalidBlock"], some "path"), (["CapacityExceeded"], some "capacity"), (["Overload"], some "load"), (["InvalidBeat"], some "beat"), (["InvalidCount"], some "number"), (["WrongDimension"], some "given"), (["ParseError"], some "position"), (["InvalidCommand"], some "first"), (["NothingLeft"], none)]
def csX : List Str := ["CapacityExceeded", "Circular", "DuplicateName", "InUse", "InvalidBeat", "InvalidBlock", "InvalidCommand", "InvalidCount", "InvalidName", "InvalidPlace", "NothingLeft", "Overload", "ParseError", "Tangled", "TooDeep", "TooLong", "TooMany", "UnknownName", "UnknownWalker", "WrongDimension"]
abbrev lamN : Str := "law.<locals>.<lambda>"
theorem gives__refused {X : Cx} {g : Addr} {cdg : Value} {q : Str} (hx : excsB rsX tbX X.K = true) (hC : ∀ c ∈ csX, X.mg c = some (.ref (He.ga X.K c))) : LamX.GivesTo X N__refused "_law_refused" (defScope s__refused) g cdg (defBody s__refused) "_law_ask" q (TTask X.K tbX clX) :=
 ask_gives (by decide) rfl rfl (Or.inl rfl) (fun _ => rfl) (Or.inl rfl) (excsB_tab hx) (fun s H => (clz_many (.cons ⟨rfl, by decide, .inl (hC "InvalidName" (by decide))⟩ (.cons ⟨rfl, by decide, .inl (hC "DuplicateName" (by decide))⟩ (.cons ⟨rfl, by decide, .inl (hC "Circular" (by decide))⟩ (.cons ⟨rfl, by decide, .inl (hC "InUse" (by decide))⟩ (.cons ⟨rfl, by decide, .inl (hC "UnknownName" (by decide))⟩ .nil))))) rfl (fun a oe cls d pn hz hf => su_field (by show (N__refused : List Str).Nodup; decide) rfl rfl (Or.inl rfl) (Or.inl rfl) rfl hz hf) (clz_many (.cons ⟨rfl, by decide, .inl (hC "TooLong" (by decide))⟩ (.cons ⟨rfl, by decide, .inl (hC "TooDeep" (by decide))⟩ (.cons ⟨rfl, by decide, .inl (hC "TooMany" (by decide))⟩ .nil))) rfl (fun a oe cls d pn hz hf => su_field (by show (N__refused : List Str).Nodup; decide) rfl rfl (Or.inl rfl) (Or.inl rfl) rfl hz hf) (clz_many (.cons ⟨rfl, by decide, .inl (hC "Tangled" (by decide))⟩ (.cons ⟨rfl, by decide, .inl (hC "UnknownWalker" (by decide))⟩ .nil)) rfl (fun a oe cls d pn hz hf => su_field (by show (N__refused : List Str).Nodup; decide) rfl rfl (Or.inl rfl) (Or.inl rfl) rfl hz hf) (clz_one ⟨rfl, by decide, .inl (hC "InvalidPlace" (by decide))⟩ (fun a oe cls d pn hz hf => su_field (by show (N__refused : List Str).Nodup; decide) rfl rfl (Or.inl rfl) (Or.inl rfl) rfl hz hf) (clz_one ⟨rfl, by decide, .inl (hC "InvalidBlock" (by decide))⟩ (fun a oe cls d pn hz hf => su_field (by show (N__refused : List Str).Nodup; decide) rfl rfl (Or.inl rfl) (Or.inl rfl) rfl hz hf) (clz_one ⟨rfl, by decide, .inl (hC "CapacityExceeded" (by decide))⟩ (fun a oe cls d pn hz hf => su_field (by show (N__refused : List Str).Nodup; decide) rfl rfl (Or.inl rfl) (Or.inl rfl) rfl hz hf) (clz_one ⟨rfl, by decide, .inl (hC "Overload" (by decide))⟩ (fun a oe cls d pn hz hf => su_field (by show (N__refused : List Str).Nodup; decide) rfl rfl (Or.inl rfl) (Or.inl rfl) rfl hz hf) (clz_one ⟨rfl, by decide, .inl (hC "InvalidBeat" (by decide))⟩ (fun a oe cls d pn hz hf => su_field (by show (N__refused : List Str).Nodup; decide) rfl rfl (Or.inl rfl) (Or.inl rfl) rfl hz hf) (clz_one ⟨rfl, by decide, .inl (hC "InvalidCount" (by decide))⟩ (fun a oe cls d pn hz hf => su_field (by show (N__refused : List Str).Nodup; decide) rfl rfl (Or.inl rfl) (Or.inl rfl) rfl hz hf) (clz_one ⟨rfl, by decide, .inl (hC "WrongDimension" (by decide))⟩ (fun a oe cls d pn hz hf => su_field (by show (N__refused : List Str).Nodup; decide) rfl rfl (Or.inl rfl) (Or.inl rfl) rfl hz hf) (clz_one ⟨rfl, by decide, .inl (hC "ParseError" (by decide))⟩ (fun a oe cls d pn hz hf => su_field (by show (N__refused : List Str).Nodup; decide) rfl rfl (Or.inl rfl) (Or.inl rfl) rfl hz hf) (clz_one ⟨rfl, by decide, .inl (hC "InvalidCommand" (by decide))⟩ (fun a oe cls d pn hz hf => su_field (by show (N__refused : List Str).Nodup; decide) rfl rfl (Or.inl rfl) (Or.inl rfl) rfl hz hf) (clz_one ⟨rfl, by decide, .inl (hC "NothingLeft" (by decide))⟩ (fun a oe cls d pn hz hf => su_none (by show (N__refused : List Str).Nodup; decide) rfl rfl (Or.inl rfl) (Or.inl rfl) rfl hz hf) clz_nil))))))))))))))
theorem sc__spot : FnScope ["_law_box", "_law_ways", "_law_k"] ["_law_box", "_law_ways"] (defScope s__spot) := ⟨rfl, rfl, rfl, by decide +kernel, rfl, by decide +kernel, by decide +kernel⟩
abbrev N__spot : List Str := ["_law_box", "_law_ways", "_law_k"]
def w__spot : WS := (wSeq (wIfS (wTest (wOp rEq (wCall sp__draw 2 (wCons (wVar 0) (wCons (wC (.int 3)) wNil))) (wC (.int 0)))) (wRet (wCB rTuple (wCons (wLc (wiR1 (wVar 1)) (wgN 2) wYes (wOp rSub (wCall sp__draw 2 (wCons (wVar 0) (wCons (wOp rAdd (wOp rMul (wC (.int 2)) (wOp rPow (wC (.int 10)) (wC (.int 40)))) (wC (.int 1))) wNil))) (wOp rPow (wC (.int 10)) (wC (.int 40)))) [2]) wNil))) wNext)
 (wRet (wCB rTuple (wCons (wLc (wiR1 (wVar 1)) (wgN 2) wYes (wOp rSub (wCall sp__draw 2 (wCons (wVar 0) (wCons (wC (.int 21)) wNil))) (wC (.int 10))) [2]) wNil))))
theorem d__spot (B : Bl mg) (G__draw : FnD P w K mg base "_law_draw" 1 2 sp__draw) (hr : Room 1 (A.deeper (envOfC "_law_spot" (defScope s__spot) s.heap.objs.size f cdv))) :
  DSs tkN (cxOf (L2N.CX P w) P w K mg base ["_law_box", "_law_ways", "_law_k"] "_law_spot" (defScope s__spot) f cdv A outer s H E) (defBody s__spot) (w__spot) := by
 have sc := sc__spot
 exact (dss_cons (ds_if (dt_cmp (od_eq hr.units) (de_call G__draw (hr.mono (by decide)) (da_cons (dv 0) (da_cons de_int da_nil))) de_int) (dss_one (ds_ret (de_callTy cd_tuple B.tuple (by decide +kernel) (da_cons (de_lc (own := [("_law_k", 2)]) (wt := wYes) (we := (wOp rSub (wCall sp__draw 2 (wCons (wVar 0) (wCons (wOp rAdd (wOp rMul (wC (.int 2)) (wOp rPow (wC (.int 10)) (wC (.int 40)))) (wC (.int 1))) wNil))) (wOp rPow (wC (.int 10)) (wC (.int 40))))) (gt := (wgN 2)) rfl sc.nd (di_r1 B.range (dv 1)) (blkOk_by (N := ["_law_box", "_law_ways", "_law_k"]) (sc := defScope s__spot) (by decide +kernel)) (by decide) (fun _ _ _ _ _ => (dg_name (i := 2) sc.nd rfl (by walk_at "l"))) (fun _ _ _ _ _ => dts_nil) (fun _ _ _ _ _ => (de_op od_sub (de_call G__draw (hr.mono (by decide)) (da_cons (dv 0) (da_cons (de_op od_add (de_op od_mul de_int (de_op od_pow de_int de_int)) de_int) da_nil))) (de_op od_pow de_int de_int)))) da_nil)))) dss_nil)
 (dss_one (ds_ret (de_callTy cd_tuple B.tuple (by decide +kernel) (da_cons (de_lc (own := [("_law_k", 2)]) (wt := wYes) (we := (wOp rSub (wCall sp__draw 2 (wCons (wVar 0) (wCons (wC (.int 21)) wNil))) (wC (.int 10)))) (gt := (wgN 2)) rfl sc.nd (di_r1 B.range (dv 1)) (blkOk_by (N := ["_law_box", "_law_ways", "_law_k"]) (sc := defScope s__spot) (by decide +kernel)) (by decide) (fun _ _ _ _ _ => (dg_name (i := 2) sc.nd rfl (by walk_at "l"))) (fun _ _ _ _ _ => dts_nil) (fun _ _ _ _ _ => (de_op od_sub (de_call G__draw (hr.mono (by decide)) (da_cons (dv 0) (da_cons de_int da_nil))) de_int))) da_nil)))))
theorem ok__spot {f : Addr} {fd : FuncData} (sp : WF) (B : Bl mg) (G__draw : FnD P w K mg base "_law_draw" 1 2 sp__draw) (F : Fun K "_law_spot" "_law_spot" s__spot f fd) (hm : mg "_law_spot" = some (.ref f))
  (hw : ∀ ds M k x, ds.length = 2 → sp ds M k x → (w__spot) (startD ["_law_box", "_law_ways", "_law_k"] ds) M (retE k x)) : FnD P w K mg base "_law_spot" (1 + 1) 2 sp :=
 ⟨_, _, _, rfl, fn_d F sc__spot (fun cdv A outer s H E hr => d__spot B G__draw hr) hw, hm, F.kp, F.binds fun _ _ _ _ _ _ us hl => match us, hl with | [_, _], _ => rfl⟩
theorem sc_Effect___init__ : FnScope ["self", "dimension", "shift", "terms", "term"] ["self", "dimension", "shift", "terms"] (defScope s_Effect___init__) := ⟨rfl, rfl, rfl, by decide +kernel, rfl, by decide +kernel, by decide +kernel⟩
theorem d_Effect___init__ (B : Bl mg) (A_Effect_ground : AtF K "Effect" "ground") (A_Effect_rows : AtF K "Effect" "rows") (A_Effect_way : AtF K "Effect" "way") (hr : Room 0 (A.deeper (envOfC "Effect.__init__" (defScope s_Effect___init__) s.heap.objs.size f cdv))) :
  DSs tkN (cxOf (L2N.CX P w) P w K mg base ["self", "dimension", "shift", "terms", "term"] "Effect.__init__" (defScope s_Effect___init__) f cdv A outer s H E) (defBody s_Effect___init__) (wS (M_Effect___init__)) := by
 have sc := sc_Effect___init__
 exact (mss_cons (ms_setA (i := 0) A_Effect_ground (mv 1))
 (mss_cons (ms_setA (i := 0) A_Effect_way (mv 2))
 (mss_one (ms_setA (i := 0) A_Effect_rows (me_lc (own := [("term", 4)]) (mt := (mTest (mOp (fEq fun b => !b) (mOp fIx (mVar 4) (mC (.int 0))) (mC (.int 0))))) (me := (mVar 4)) (g := (mgN 4)) rfl sc.nd (mi_seq (mv 3)) (blkOk_by (N := ["self", "dimension", "shift", "terms", "term"]) (sc := defScope s_Effect___init__) (by decide +kernel)) (by decide) (fun _ _ _ _ _ => (mg_name (i := 4) sc.nd rfl (by walk_at "l"))) (fun _ _ _ _ _ => (mts_one (mt_cmp (od_ne hr.units) om_ne (me_ix (units65 hr) (mv 4) me_int) me_int))) (fun _ _ _ _ _ => (mv 4)))))))
theorem ok_Effect___init__ {f : Addr} {fd : FuncData} {m : List D → Rs D} (B : Bl mg) (A_Effect_ground : AtF K "Effect" "ground") (A_Effect_rows : AtF K "Effect" "rows") (A_Effect_way : AtF K "Effect" "way") (F : Fun K "__init__" "Effect.__init__" s_Effect___init__ f fd) (hm : Mk K (He.ga K "Effect") f) (hg : mg "Effect" = some (.ref (He.ga K "Effect")))
  (hw : ∀ ds, m ds = initM "Effect" (M_Effect___init__) ["self", "dimension", "shift", "terms", "term"] ds) : MakeD P w K mg base "Effect" (0 + 1) 3 m :=
 ⟨_, _, _, rfl, fn_d F sc_Effect___init__ (fun cdv A outer s H E hr => d_Effect___init__ B A_Effect_ground A_Effect_rows A_Effect_way hr) (fun ds M k x _ h => hw_mI hw ds M k x h), hm, hg, F.binds fun _ _ _ _ _ _ us hl => match us, hl with | [_, _, _, _], _ => rfl⟩
theorem sc_Effect_still : FnScope ["dimension"] ["dimension"] (defScope s_Effect_still) := ⟨rfl, rfl, rfl, by decide +kernel, rfl, by decide +kernel, by decide +kernel⟩
theorem d_Effect_still (B : Bl mg) (G_Effect___init__ : MakeD P w K mg base "Effect" 1 3 m_Effect___init__) (G_origin : FnD P w K mg base "origin" 1 1 (wfOf m_origin)) (hr : Room 2 (A.deeper (envOfC "Effect.still" (defScope s_Effect_still) s.heap.objs.size f cdv))) :
  DSs tkN (cxOf (L2N.CX P w) P w K mg base ["dimension"] "Effect.still" (defScope s_Effect_still) f cdv A outer s H E) (defBody s_Effect_still) (wS (M_Effect_still)) := by
 have sc := sc_Effect_still
 exact (mss_one (ms_ret (me_make G_Effect___init__ (hr.mono (by decide)) (ma_cons (mv 0) (ma_cons (me_call G_origin (hr.mono (by decide)) (ma_cons (mv 0) ma_nil)) (ma_cons (me_lst ma_nil) ma_nil))))))
theorem ok_Effect_still {f : Addr} {fd : FuncData} {m : List D → Rs D} (B : Bl mg) (G_Effect___init__ : MakeD P w K mg base "Effect" 1 3 m_Effect___init__) (G_origin : FnD P w K mg base "origin" 1 1 (wfOf m_origin)) (F : Fun K "still" "Effect.still" s_Effect_still f fd) (hg : mg "Effect" = some (.ref (He.ga K "Effect"))) {p : Addr} (hm : StatF K (He.ga K "Effect") "still" p f)
  (hw : ∀ ds, m ds = callM (M_Effect_still) ["dimension"] ds) : StatD P w K base mg "Effect" "still" (2 + 1) 1 (wfOf m) :=
 ⟨hg, _, _, _, _, rfl, fn_d F sc_Effect_still (fun cdv A outer s H E hr => d_Effect_still B G_Effect___init__ G_origin hr) (hw_mE hw), hm, F.binds fun _ _ _ _ _ _ us hl => match us, hl with | [_], _ => rfl⟩
theorem sc_Effect_mark : FnScope ["place", "number"] ["place", "number"] (defScope s_Effect_mark) := ⟨rfl, rfl, rfl, by decide +kernel, rfl, by decide +kernel, by decide +kernel⟩
theorem d_Effect_mark (B : Bl mg) (G_Effect___init__ : MakeD P w K mg base "Effect" 1 3 m_Effect___init__) (G_origin : FnD P w K mg base "origin" 1 1 (wfOf m_origin)) (hr : Room 2 (A.deeper (envOfC "Effect.mark" (defScope s_Effect_mark) s.heap.objs.size f cdv))) :
  DSs tkN (cxOf (L2N.CX P w) P w K mg base ["place", "number"] "Effect.mark" (defScope s_Effect_mark) f cdv A outer s H E) (defBody s_Effect_mark) (wS (M_Effect_mark)) := by
 have sc := sc_Effect_mark
 exact (mss_one (ms_ret (me_make G_Effect___init__ (hr.mono (by decide)) (ma_cons (me_callB cd_lenX cm_len B.len (by decide +kernel) (ma_cons (mv 0) ma_nil)) (ma_cons (me_call G_origin (hr.mono (by decide)) (ma_cons (me_callB cd_lenX cm_len B.len (by decide +kernel) (ma_cons (mv 0) ma_nil)) ma_nil)) (ma_cons (me_lst (ma_cons (me_tup (ma_cons (mv 1) (ma_cons (mv 0) (ma_cons (me_tup ma_nil) ma_nil)))) ma_nil)) ma_nil))))))
theorem ok_Effect_mark {f : Addr} {fd : FuncData} {m : List D → Rs D} (B : Bl mg) (G_Effect___init__ : MakeD P w K mg base "Effect" 1 3 m_Effect___init__) (G_origin : FnD P w K mg base "origin" 1 1 (wfOf m_origin)) (F : Fun K "mark" "Effect.mark" s_Effect_mark f fd) (hg : mg "Effect" = some (.ref (He.ga K "Effect"))) {p : Addr} (hm : StatF K (He.ga K "Effect") "mark" p f)
  (hw : ∀ ds, m ds = callM (M_Effect_mark) ["place", "number"] ds) : StatD P w K base mg "Effect" "mark" (2 + 1) 2 (wfOf m) :=
 ⟨hg, _, _, _, _, rfl, fn_d F sc_Effect_mark (fun cdv A outer s H E hr => d_Effect_mark B G_Effect___init__ G_origin hr) (hw_mE hw), hm, F.binds fun _ _ _ _ _ _ us hl => match us, hl with | [_, _], _ => rfl⟩
theorem sc_Effect_dimension : FnScope ["self"] ["self"] (defScope s_Effect_dimension) := ⟨rfl, rfl, rfl, by decide +kernel, rfl, by decide +kernel, by decide +kernel⟩
theorem d_Effect_dimension (B : Bl mg) (A_Effect_ground : AtF K "Effect" "ground") (hr : Room 0 (A.deeper (envOfC "Effect.dimension" (defScope s_Effect_dimension) s.heap.objs.size f cdv))) :
  DSs tkN (cxOf (L2N.CX P w) P w K mg base ["self"] "Effect.dimension" (defScope s_Effect_dimension) f cdv A outer s H E) (defBody s_Effect_dimension) (wS (M_Effect_dimension)) := by
 have sc := sc_Effect_dimension
 exact (mss_one (ms_ret (me_fld A_Effect_ground (mv 0))))
theorem ok_Effect_dimension {f : Addr} {fd : FuncData} {m : List D → Rs D} (B : Bl mg) (A_Effect_ground : AtF K "Effect" "ground") (F : Fun K "dimension" "Effect.dimension" s_Effect_dimension f fd) {p : Addr} (hc : Cls K (He.ga K "Effect")) (hm : PropOf K (He.ga K "Effect") "dimension" p f)
  (hw : ∀ ds, m ds = callM (M_Effect_dimension) ["self"] ds) : PropD P w K base mg "Effect" "dimension" (0 + 1) m :=
 ⟨hc, _, _, _, fn_d F sc_Effect_dimension (fun cdv A outer s H E hr => d_Effect_dimension B A_Effect_ground hr) (hw_mE hw), hm, F.binds fun _ _ _ _ _ _ us hl => match us, hl with | [_], _ => rfl⟩
theorem sc_Effect_shift : FnScope ["self"] ["self"] (defScope s_Effect_shift) := ⟨rfl, rfl, rfl, by decide +kernel, rfl, by decide +kernel, by decide +kernel⟩
theorem d_Effect_shift (B : Bl mg) (A_Effect_way : AtF K "Effect" "way") (hr : Room 0 (A.deeper (envOfC "Effect.shift" (defScope s_Effect_shift) s.heap.objs.size f cdv))) :
  DSs tkN (cxOf (L2N.CX P w) P w K mg base ["self"] "Effect.shift" (defScope s_Effect_shift) f cdv A outer s H E) (defBody s_Effect_shift) (wS (M_Effect_shift)) := by
 have sc := sc_Effect_shift
 exact (mss_one (ms_ret (me_fld A_Effect_way (mv 0))))
theorem ok_Effect_shift {f : Addr} {fd : FuncData} {m : List D → Rs D} (B : Bl mg) (A_Effect_way : AtF K "Effect" "way") (F : Fun K "shift" "Effect.shift" s_Effect_shift f fd) {p : Addr} (hc : Cls K (He.ga K "Effect")) (hm : PropOf K (He.ga K "Effect") "shift" p f)
  (hw : ∀ ds, m ds = callM (M_Effect_shift) ["self"] ds) : PropD P w K base mg "Effect" "shift" (0 + 1) m :=
 ⟨hc, _, _, _, fn_d F sc_Effect_shift (fun cdv A outer s H E hr => d_Effect_shift B A_Effect_way hr) (hw_mE hw), hm, F.binds fun _ _ _ _ _ _ us hl => match us, hl with | [_], _ => rfl⟩
theorem sc_Effect_terms : FnScope ["self"] ["self"] (defScope s_Effect_terms) := ⟨rfl, rfl, rfl, by decide +kernel, rfl, by decide +kernel, by decide +kernel⟩
theorem d_Effect_terms (B : Bl mg) (A_Effect_rows : AtF K "Effect" "rows") (hr : Room 0 (A.deeper (envOfC "Effect.terms" (defScope s_Effect_terms) s.heap.objs.size f cdv))) :
  DSs tkN (cxOf (L2N.CX P w) P w K mg base ["self"] "Effect.terms" (defScope s_Effect_terms) f cdv A outer s H E) (defBody s_Effect_terms) (wS (M_Effect_terms)) := by
 have sc := sc_Effect_terms
 exact (mss_one (ms_ret (me_callTy (cd_listX rfl) cm_listX B.list (by decide +kernel) (ma_cons (me_fld A_Effect_rows (mv 0)) ma_nil))))
theorem ok_Effect_terms {f : Addr} {fd : FuncData} {m : List D → Rs D} (B : Bl mg) (A_Effect_rows : AtF K "Effect" "rows") (F : Fun K "terms" "Effect.terms" s_Effect_terms f fd) (hc : Cls K (He.ga K "Effect")) (hm : L2.Meth K (He.ga K "Effect") "terms" f)
  (hw : ∀ ds, m ds = callM (M_Effect_terms) ["self"] ds) : MethD P w K base mg "Effect" "terms" (0 + 1) 1 (wfOf m) :=
 ⟨hc, _, _, _, rfl, fn_d F sc_Effect_terms (fun cdv A outer s H E hr => d_Effect_terms B A_Effect_rows hr) (hw_mE hw), hm, F.binds fun _ _ _ _ _ _ us hl => match us, hl with | [_], _ => rfl⟩
theorem sc_residue_sums : FnScope ["effect", "moduli", "result", "number", "place", "loops", "sums", "loop", "there", "amount"] ["effect", "moduli"] (defScope s_residue_sums) := ⟨rfl, rfl, rfl, by decide +kernel, rfl, by decide +kernel, by decide +kernel⟩
abbrev N_residue_sums : List Str := ["effect", "moduli", "result", "number", "place", "loops", "sums", "loop", "there", "amount"]
def w_residue_sums : WS := (wSeq (wDrop (wCall (wfOf m_check_moduli) 2 (wCons (wProp "Effect" m_Effect_dimension (wVar 0)) (wCons (wVar 1) wNil))))
 (wSeq (wSet 2 wDnewT)
 (wSeq (wFor (wiSeq (wMeth "Effect" "terms" (wfOf m_Effect_terms) 1 (wVar 0) wNil)) (wgTup 3 (wgCons (wgN 3) (wgCons (wgN 4) (wgCons (wgN 5) wgNil)))) (wSeq (wSet 6 (wLckT (wDsp1T (wCall (wfOf m_residue) 2 (wCons (wVar 4) (wCons (wVar 1) wNil))) (wVar 3))))
 (wSeq (wFor (wiSeq (wVar 5)) (wgN 7) (wSet 6 (wCall sp_strewn 3 (wCons (wVar 6) (wCons (wVar 7) (wCons (wVar 1) wNil))))))
 (wFor (wiItemsT (wVar 6)) (wgTup 2 (wgCons (wgN 8) (wgCons (wgN 9) wgNil))) (wDputT (wVar 2) (wVar 8) (wOp rAdd (wDGet2T (wVar 2) (wVar 8) (wC (.int 0))) (wVar 9)))))))
 (wRet (wLc (wiSeq (wCB rSortedDT (wCons (wVar 2) wNil))) (wgN 8) (wTest (wOp rNe (wDgT (wVar 2) (wVar 8)) (wC (.int 0)))) (wTup (wCons (wVar 8) (wCons (wDgT (wVar 2) (wVar 8)) wNil))) [8])))))
theorem d_residue_sums (B : Bl mg) (G_Effect_dimension : PropD P w K base mg "Effect" "dimension" 1 m_Effect_dimension) (G_Effect_terms : MethD P w K base mg "Effect" "terms" 1 1 (wfOf m_Effect_terms)) (G_check_moduli : FnD P w K mg base "check_moduli" 3 2 (wfOf m_check_moduli)) (G_residue : FnD P w K mg base "residue" 1 2 (wfOf m_residue)) (G_strewn : FnD P w K mg base "strewn" 3 3 sp_strewn) (hr : Room 3 (A.deeper (envOfC "residue_sums" (defScope s_residue_sums) s.heap.objs.size f cdv))) :
  DSs tkN (cxOf (L2N.CX P w) P w K mg base ["effect", "moduli", "result", "number", "place", "loops", "sums", "loop", "there", "amount"] "residue_sums" (defScope s_residue_sums) f cdv A outer s H E) (defBody s_residue_sums) (w_residue_sums) := by
 have sc := sc_residue_sums
 exact (dss_cons (ds_expr (de_call G_check_moduli (hr.mono (by decide)) (da_cons (de_prop G_Effect_dimension (hr.mono (by decide)) (dv 0)) (da_cons (dv 1) da_nil))))
 (dss_cons (ds_set (i := 2) sc.nd rfl (by walk_at "l") de_dnewT)
 (dss_cons (ds_for rfl (di_seq (de_meth0 G_Effect_terms (hr.mono (by decide)) (dv 0))) (dg_tup rfl (dgs_cons (dg_name (i := 3) sc.nd rfl (by walk_at "l")) (dgs_cons (dg_name (i := 4) sc.nd rfl (by walk_at "l")) (dgs_cons (dg_name (i := 5) sc.nd rfl (by walk_at "l")) dgs_nil)))) (dss_cons (ds_set (i := 6) sc.nd rfl (by walk_at "l") (de_lckT (de_dsp1T hr.units (de_call G_residue (hr.mono (by decide)) (da_cons (dv 4) (da_cons (dv 1) da_nil))) (dv 3))))
 (dss_cons (ds_for rfl (di_seq (dv 5)) (dg_name (i := 7) sc.nd rfl (by walk_at "l")) (dss_one (ds_set (i := 6) sc.nd rfl (by walk_at "l") (de_call G_strewn (hr.mono (by decide)) (da_cons (dv 6) (da_cons (dv 7) (da_cons (dv 1) da_nil)))))))
 (dss_one (ds_for rfl (di_itemsT (dv 6)) (dg_tup rfl (dgs_cons (dg_name (i := 8) sc.nd rfl (by walk_at "l")) (dgs_cons (dg_name (i := 9) sc.nd rfl (by walk_at "l")) dgs_nil))) (dss_one (ds_dputT hr.units (dv 2) (dv 8) (de_op od_add (de_dget2T hr.units (dv 2) (dv 8) de_int) (dv 9)))))))))
 (dss_one (ds_ret (de_lc (own := [("there", 8)]) (wt := (wTest (wOp rNe (wDgT (wVar 2) (wVar 8)) (wC (.int 0))))) (we := (wTup (wCons (wVar 8) (wCons (wDgT (wVar 2) (wVar 8)) wNil)))) (gt := (wgN 8)) rfl sc.nd (di_seq (de_callB (cd_sortedDT rfl) B.sorted (by decide +kernel) (da_cons (dv 2) da_nil))) (blkOk_by (N := ["effect", "moduli", "result", "number", "place", "loops", "sums", "loop", "there", "amount"]) (sc := defScope s_residue_sums) (by decide +kernel)) (by decide) (fun _ _ _ _ _ => (dg_name (i := 8) sc.nd rfl (by walk_at "l"))) (fun _ _ _ _ _ => (dts_one (dt_cmp (od_ne hr.units) (de_dgT hr.units (dv 2) (dv 8)) de_int))) (fun _ _ _ _ _ => (de_tup (da_cons (dv 8) (da_cons (de_dgT hr.units (dv 2) (dv 8)) da_nil))))))))))
theorem ok_residue_sums {f : Addr} {fd : FuncData} (sp : WF) (B : Bl mg) (G_Effect_dimension : PropD P w K base mg "Effect" "dimension" 1 m_Effect_dimension) (G_Effect_terms : MethD P w K base mg "Effect" "terms" 1 1 (wfOf m_Effect_terms)) (G_check_moduli : FnD P w K mg base "check_moduli" 3 2 (wfOf m_check_moduli)) (G_residue : FnD P w K mg base "residue" 1 2 (wfOf m_residue)) (G_strewn : FnD P w K mg base "strewn" 3 3 sp_strewn) (F : Fun K "residue_sums" "residue_sums" s_residue_sums f fd) (hm : mg "residue_sums" = some (.ref f))
  (hw : ∀ ds M k x, ds.length = 2 → sp ds M k x → (w_residue_sums) (startD ["effect", "moduli", "result", "number", "place", "loops", "sums", "loop", "there", "amount"] ds) M (retE k x)) : FnD P w K mg base "residue_sums" (3 + 1) 2 sp :=
 ⟨_, _, _, rfl, fn_d F sc_residue_sums (fun cdv A outer s H E hr => d_residue_sums B G_Effect_dimension G_Effect_terms G_check_moduli G_residue G_strewn hr) hw, hm, F.kp, F.binds fun _ _ _ _ _ _ us hl => match us, hl with | [_, _], _ => rfl⟩
theorem sc_rotation : FnScope ["one", "other", "size", "mine", "theirs", "turn", "there", "number", "k"] ["one", "other", "size"] (defScope s_rotation) := ⟨rfl, rfl, rfl, by decide +kernel, rfl, by decide +kernel, by decide +kernel⟩
abbrev N_rotation : List Str := ["one", "other", "size", "mine", "theirs", "turn", "there", "number", "k"]
def w_rotation : WS := (wSeq (wSet 3 (wLck (wDcM (wiSeq (wCall sp_residue_sums 2 (wCons (wVar 0) (wCons (wTup (wCons (wVar 2) wNil)) wNil)))) (wgTup 2 (wgCons (wgN 6) (wgCons (wgN 7) wgNil))) wYes (wIx (wVar 6) (wC (.int 0))) (wVar 7) [6, 7])))
 (wSeq (wSet 4 (wLck (wDcM (wiSeq (wCall sp_residue_sums 2 (wCons (wVar 1) (wCons (wTup (wCons (wVar 2) wNil)) wNil)))) (wgTup 2 (wgCons (wgN 6) (wgCons (wgN 7) wgNil))) wYes (wIx (wVar 6) (wC (.int 0))) (wVar 7) [6, 7])))
 (wSeq (wFor (wiR1 (wVar 2)) (wgN 5) (wIfS (wTest (wCB rAll (wCons (wLc (wiR1 (wVar 2)) (wgN 8) wYes (wOp rEq (wDGetI (wVar 4) (wVar 8) (wC (.int 0))) (wDGetI (wVar 3) (wOp rMod (wOp rAdd (wVar 8) (wVar 5)) (wVar 2)) (wC (.int 0)))) [8]) wNil))) (wRet (wVar 5)) wNext))
 (wRet (wC .non)))))
theorem d_rotation (B : Bl mg) (G_residue_sums : FnD P w K mg base "residue_sums" 4 2 sp_residue_sums) (hr : Room 4 (A.deeper (envOfC "rotation" (defScope s_rotation) s.heap.objs.size f cdv))) :
  DSs tkN (cxOf (L2N.CX P w) P w K mg base ["one", "other", "size", "mine", "theirs", "turn", "there", "number", "k"] "rotation" (defScope s_rotation) f cdv A outer s H E) (defBody s_rotation) (w_rotation) := by
 have sc := sc_rotation
 exact (dss_cons (ds_set (i := 3) sc.nd rfl (by walk_at "l") (de_lck (de_dcM (own := [("there", 6), ("number", 7)]) (wt := wYes) (wk := (wIx (wVar 6) (wC (.int 0)))) (wv := (wVar 7)) (gt := (wgTup 2 (wgCons (wgN 6) (wgCons (wgN 7) wgNil)))) rfl sc.nd (di_seq (de_call G_residue_sums (hr.mono (by decide)) (da_cons (dv 0) (da_cons (de_tup (da_cons (dv 2) da_nil)) da_nil)))) (blkOk_by (N := ["one", "other", "size", "mine", "theirs", "turn", "there", "number", "k"]) (sc := defScope s_rotation) (by decide +kernel)) (by decide) (fun _ _ _ _ _ => (dg_tup rfl (dgs_cons (dg_name (i := 6) sc.nd rfl (by walk_at "l")) (dgs_cons (dg_name (i := 7) sc.nd rfl (by walk_at "l")) dgs_nil)))) (fun _ _ _ _ _ => dts_nil) (fun _ _ _ _ _ => (de_ix (dv 6) de_int)) (fun _ _ _ _ _ => (dv 7)))))
 (dss_cons (ds_set (i := 4) sc.nd rfl (by walk_at "l") (de_lck (de_dcM (own := [("there", 6), ("number", 7)]) (wt := wYes) (wk := (wIx (wVar 6) (wC (.int 0)))) (wv := (wVar 7)) (gt := (wgTup 2 (wgCons (wgN 6) (wgCons (wgN 7) wgNil)))) rfl sc.nd (di_seq (de_call G_residue_sums (hr.mono (by decide)) (da_cons (dv 1) (da_cons (de_tup (da_cons (dv 2) da_nil)) da_nil)))) (blkOk_by (N := ["one", "other", "size", "mine", "theirs", "turn", "there", "number", "k"]) (sc := defScope s_rotation) (by decide +kernel)) (by decide) (fun _ _ _ _ _ => (dg_tup rfl (dgs_cons (dg_name (i := 6) sc.nd rfl (by walk_at "l")) (dgs_cons (dg_name (i := 7) sc.nd rfl (by walk_at "l")) dgs_nil)))) (fun _ _ _ _ _ => dts_nil) (fun _ _ _ _ _ => (de_ix (dv 6) de_int)) (fun _ _ _ _ _ => (dv 7)))))
 (dss_cons (ds_for rfl (di_r1 B.range (dv 2)) (dg_name (i := 5) sc.nd rfl (by walk_at "l")) (dss_one (ds_if (dt_val (de_callB (cd_all rfl) B.all (by decide +kernel) (da_cons (de_lc (own := [("k", 8)]) (wt := wYes) (we := (wOp rEq (wDGetI (wVar 4) (wVar 8) (wC (.int 0))) (wDGetI (wVar 3) (wOp rMod (wOp rAdd (wVar 8) (wVar 5)) (wVar 2)) (wC (.int 0))))) (gt := (wgN 8)) rfl sc.nd (di_r1 B.range (dv 2)) (blkOk_by (N := ["one", "other", "size", "mine", "theirs", "turn", "there", "number", "k"]) (sc := defScope s_rotation) (by decide +kernel)) (by decide) (fun _ _ _ _ _ => (dg_name (i := 8) sc.nd rfl (by walk_at "l"))) (fun _ _ _ _ _ => dts_nil) (fun _ _ _ _ _ => (de_cmp (od_eq hr.units) (de_dgetI hr.units (dv 4) (dv 8) de_int) (de_dgetI hr.units (dv 3) (de_op od_mod (de_op od_add (dv 8) (dv 5)) (dv 2)) de_int)))) da_nil))) (dss_one (ds_ret (dv 5))) dss_nil)))
 (dss_one (ds_ret de_non)))))
theorem ok_rotation {f : Addr} {fd : FuncData} (sp : WF) (B : Bl mg) (G_residue_sums : FnD P w K mg base "residue_sums" 4 2 sp_residue_sums) (F : Fun K "rotation" "rotation" s_rotation f fd) (hm : mg "rotation" = some (.ref f))
  (hw : ∀ ds M k x, ds.length = 3 → sp ds M k x → (w_rotation) (startD ["one", "other", "size", "mine", "theirs", "turn", "there", "number", "k"] ds) M (retE k x)) : FnD P w K mg base "rotation" (4 + 1) 3 sp :=
 ⟨_, _, _, rfl, fn_d F sc_rotation (fun cdv A outer s H E hr => d_rotation B G_residue_sums hr) hw, hm, F.kp, F.binds fun _ _ _ _ _ _ us hl => match us, hl with | [_, _, _], _ => rfl⟩
theorem sc_offset : FnScope ["one", "other", "effect", "size", "vector"] ["one", "other"] (defScope s_offset) := ⟨rfl, rfl, rfl, by decide +kernel, rfl, by decide +kernel, by decide +kernel⟩
abbrev N_offset : List Str := ["one", "other", "effect", "size", "vector"]
def w_offset : WS := (wSeq (wFor (wiSeq (wTup (wCons (wVar 0) (wCons (wVar 1) wNil)))) (wgN 2) (wIfS (wTest (wOp rNe (wProp "Effect" m_Effect_dimension (wVar 2)) (wC (.int 1)))) (wRaise "WrongDimension" "given" "WrongDimension" (wProp "Effect" m_Effect_dimension (wVar 2))) wNext))
 (wSeq (wIfS (wTest (wOp rNe (wProp "Effect" m_Effect_shift (wVar 0)) (wProp "Effect" m_Effect_shift (wVar 1)))) (wRet (wC .non)) wNext)
 (wSeq (wSet 3 (wCB rAbs (wCons (wIx (wProp "Effect" m_Effect_shift (wVar 0)) (wC (.int 0))) wNil)))
 (wSeq (wIfS (wTest (wOp rGt (wVar 3) (wC (.int 40)))) (wRaise "TooLong" "limit" "TooLong" (wC (.int 40))) wNext)
 (wSeq (wIfS (wTest (wOp rGt (wVar 3) (wC (.int 0)))) (wRet (wCall sp_rotation 3 (wCons (wVar 0) (wCons (wVar 1) (wCons (wVar 3) wNil))))) wNext)
 (wSeq wDead
 wDead))))))
theorem d_offset (B : Bl mg) (G_Effect_dimension : PropD P w K base mg "Effect" "dimension" 1 m_Effect_dimension) (G_Effect_shift : PropD P w K base mg "Effect" "shift" 1 m_Effect_shift) (G_rotation : FnD P w K mg base "rotation" 5 3 sp_rotation) (X_TooLong : ExD P w K mg base "TooLong" "limit" "TooLong" 1) (X_WrongDimension : ExD P w K mg base "WrongDimension" "given" "WrongDimension" 1) (hr : Room 5 (A.deeper (envOfC "offset" (defScope s_offset) s.heap.objs.size f cdv))) :
  DSs tkN (cxOf (L2N.CX P w) P w K mg base ["one", "other", "effect", "size", "vector"] "offset" (defScope s_offset) f cdv A outer s H E) (defBody s_offset) (w_offset) := by
 have sc := sc_offset
 exact (dss_cons (ds_for rfl (di_seq (de_tup (da_cons (dv 0) (da_cons (dv 1) da_nil)))) (dg_name (i := 2) sc.nd rfl (by walk_at "l")) (dss_one (ds_if (dt_cmp (od_ne hr.units) (de_prop G_Effect_dimension (hr.mono (by decide)) (dv 2)) de_int) (dss_one (ds_raise rfl X_WrongDimension (hr.mono (by decide)) (de_prop G_Effect_dimension (hr.mono (by decide)) (dv 2)))) dss_nil)))
 (dss_cons (ds_if (dt_cmp (od_ne hr.units) (de_prop G_Effect_shift (hr.mono (by decide)) (dv 0)) (de_prop G_Effect_shift (hr.mono (by decide)) (dv 1))) (dss_one (ds_ret de_non)) dss_nil)
 (dss_cons (ds_set (i := 3) sc.nd rfl (by walk_at "l") (de_callB cd_abs B.abs (by decide +kernel) (da_cons (de_ix (de_prop G_Effect_shift (hr.mono (by decide)) (dv 0)) de_int) da_nil)))
 (dss_cons (ds_if (dt_cmp od_gt (dv 3) (de_gint B.c_MAX_CLASSES)) (dss_one (ds_raise rfl X_TooLong (hr.mono (by decide)) (de_gint B.c_MAX_CLASSES))) dss_nil)
 (dss_cons (ds_if (dt_cmp od_gt (dv 3) de_int) (dss_one (ds_ret (de_call G_rotation (hr.mono (by decide)) (da_cons (dv 0) (da_cons (dv 1) (da_cons (dv 3) da_nil)))))) dss_nil)
 (dss_cons ds_dead
 (dss_one ds_dead)))))))
theorem ok_offset {f : Addr} {fd : FuncData} (sp : WF) (B : Bl mg) (G_Effect_dimension : PropD P w K base mg "Effect" "dimension" 1 m_Effect_dimension) (G_Effect_shift : PropD P w K base mg "Effect" "shift" 1 m_Effect_shift) (G_rotation : FnD P w K mg base "rotation" 5 3 sp_rotation) (X_TooLong : ExD P w K mg base "TooLong" "limit" "TooLong" 1) (X_WrongDimension : ExD P w K mg base "WrongDimension" "given" "WrongDimension" 1) (F : Fun K "offset" "offset" s_offset f fd) (hm : mg "offset" = some (.ref f))
  (hw : ∀ ds M k x, ds.length = 2 → sp ds M k x → (w_offset) (startD ["one", "other", "effect", "size", "vector"] ds) M (retE k x)) : FnD P w K mg base "offset" (5 + 1) 2 sp :=
 ⟨_, _, _, rfl, fn_d F sc_offset (fun cdv A outer s H E hr => d_offset B G_Effect_dimension G_Effect_shift G_rotation X_TooLong X_WrongDimension hr) hw, hm, F.kp, F.binds fun _ _ _ _ _ _ us hl => match us, hl with | [_, _], _ => rfl⟩
theorem sc_Trail___init__ : FnScope ["self", "dimension", "beats", "shift", "strewings"] ["self", "dimension", "beats", "shift", "strewings"] (defScope s_Trail___init__) := ⟨rfl, rfl, rfl, by decide +kernel, rfl, by decide +kernel, by decide +kernel⟩
theorem d_Trail___init__ (B : Bl mg) (A_Trail_ground : AtF K "Trail" "ground") (A_Trail_length : AtF K "Trail" "length") (A_Trail_rows : AtF K "Trail" "rows") (A_Trail_way : AtF K "Trail" "way") (hr : Room 0 (A.deeper (envOfC "Trail.__init__" (defScope s_Trail___init__) s.heap.objs.size f cdv))) :
  DSs tkN (cxOf (L2N.CX P w) P w K mg base ["self", "dimension", "beats", "shift", "strewings"] "Trail.__init__" (defScope s_Trail___init__) f cdv A outer s H E) (defBody s_Trail___init__) (wS (M_Trail___init__)) := by
 have sc := sc_Trail___init__
 exact (mss_cons (ms_setA (i := 0) A_Trail_ground (mv 1))
 (mss_cons (ms_setA (i := 0) A_Trail_length (mv 2))
 (mss_cons (ms_setA (i := 0) A_Trail_way (mv 3))
 (mss_one (ms_setA (i := 0) A_Trail_rows (mv 4))))))
theorem ok_Trail___init__ {f : Addr} {fd : FuncData} {m : List D → Rs D} (B : Bl mg) (A_Trail_ground : AtF K "Trail" "ground") (A_Trail_length : AtF K "Trail" "length") (A_Trail_rows : AtF K "Trail" "rows") (A_Trail_way : AtF K "Trail" "way") (F : Fun K "__init__" "Trail.__init__" s_Trail___init__ f fd) (hm : Mk K (He.ga K "Trail") f) (hg : mg "Trail" = some (.ref (He.ga K "Trail")))
  (hw : ∀ ds, m ds = initM "Trail" (M_Trail___init__) ["self", "dimension", "beats", "shift", "strewings"] ds) : MakeD P w K mg base "Trail" (0 + 1) 4 m :=
 ⟨_, _, _, rfl, fn_d F sc_Trail___init__ (fun cdv A outer s H E hr => d_Trail___init__ B A_Trail_ground A_Trail_length A_Trail_rows A_Trail_way hr) (fun ds M k x _ h => hw_mI hw ds M k x h), hm, hg, F.binds fun _ _ _ _ _ _ us hl => match us, hl with | [_, _, _, _, _], _ => rfl⟩
theorem sc_Trail_go : FnScope ["vector"] ["vector"] (defScope s_Trail_go) := ⟨rfl, rfl, rfl, by decide +kernel, rfl, by decide +kernel, by decide +kernel⟩
theorem d_Trail_go (B : Bl mg) (G_Trail___init__ : MakeD P w K mg base "Trail" 1 4 m_Trail___init__) (hr : Room 2 (A.deeper (envOfC "Trail.go" (defScope s_Trail_go) s.heap.objs.size f cdv))) :
  DSs tkN (cxOf (L2N.CX P w) P w K mg base ["vector"] "Trail.go" (defScope s_Trail_go) f cdv A outer s H E) (defBody s_Trail_go) (wS (M_Trail_go)) := by
 have sc := sc_Trail_go
 exact (mss_one (ms_ret (me_make G_Trail___init__ (hr.mono (by decide)) (ma_cons (me_callB cd_lenX cm_len B.len (by decide +kernel) (ma_cons (mv 0) ma_nil)) (ma_cons me_int (ma_cons (mv 0) (ma_cons (me_lst ma_nil) ma_nil)))))))
theorem ok_Trail_go {f : Addr} {fd : FuncData} {m : List D → Rs D} (B : Bl mg) (G_Trail___init__ : MakeD P w K mg base "Trail" 1 4 m_Trail___init__) (F : Fun K "go" "Trail.go" s_Trail_go f fd) (hg : mg "Trail" = some (.ref (He.ga K "Trail"))) {p : Addr} (hm : StatF K (He.ga K "Trail") "go" p f)
  (hw : ∀ ds, m ds = callM (M_Trail_go) ["vector"] ds) : StatD P w K base mg "Trail" "go" (2 + 1) 1 (wfOf m) :=
 ⟨hg, _, _, _, _, rfl, fn_d F sc_Trail_go (fun cdv A outer s H E hr => d_Trail_go B G_Trail___init__ hr) (hw_mE hw), hm, F.binds fun _ _ _ _ _ _ us hl => match us, hl with | [_], _ => rfl⟩
theorem sc_Trail_effect : FnScope ["self", "terms", "number", "place", "beat", "loops", "stride", "times", "length"] ["self"] (defScope s_Trail_effect) := ⟨rfl, rfl, rfl, by decide +kernel, rfl, by decide +kernel, by decide +kernel⟩
theorem d_Trail_effect (B : Bl mg) (G_Effect___init__ : MakeD P w K mg base "Effect" 1 3 m_Effect___init__) (G_term_of : FnD P w K mg base "term_of" 4 3 (wfOf m_term_of)) (A_Trail_ground : AtF K "Trail" "ground") (A_Trail_rows : AtF K "Trail" "rows") (A_Trail_way : AtF K "Trail" "way") (hr : Room 4 (A.deeper (envOfC "Trail.effect" (defScope s_Trail_effect) s.heap.objs.size f cdv))) :
  DSs tkN (cxOf (L2N.CX P w) P w K mg base ["self", "terms", "number", "place", "beat", "loops", "stride", "times", "length"] "Trail.effect" (defScope s_Trail_effect) f cdv A outer s H E) (defBody s_Trail_effect) (wS (M_Trail_effect)) := by
 have sc := sc_Trail_effect
 exact (mss_cons (ms_newL (i := 1) sc.nd rfl (by walk_at "l") ma_nil)
 (mss_cons (ms_for [2, 3, 4, 5] rfl (mi_seq (me_fld A_Trail_rows (mv 0))) (mg_tup rfl (mgs_cons (mg_name (i := 2) sc.nd rfl (by walk_at "l")) (mgs_cons (mg_name (i := 3) sc.nd rfl (by walk_at "l")) (mgs_cons (mg_name (i := 4) sc.nd rfl (by walk_at "l")) (mgs_cons (mg_name (i := 5) sc.nd rfl (by walk_at "l")) mgs_nil))))) (mss_one (ms_app (de_app (dv 1) (me_call G_term_of (hr.mono (by decide)) (ma_cons (mv 2) (ma_cons (mv 3) (ma_cons (me_lc (own := [("stride", 6), ("times", 7), ("length", 8)]) (mt := mYes) (me := (mTup (mCons (mVar 6) (mCons (mVar 7) mNil)))) (g := (mgTup 3 (mgCons (mgN 6) (mgCons (mgN 7) (mgCons (mgN 8) mgNil))))) rfl sc.nd (mi_seq (mv 5)) (blkOk_by (N := ["self", "terms", "number", "place", "beat", "loops", "stride", "times", "length"]) (sc := defScope s_Trail_effect) (by decide +kernel)) (by decide) (fun _ _ _ _ _ => (mg_tup rfl (mgs_cons (mg_name (i := 6) sc.nd rfl (by walk_at "l")) (mgs_cons (mg_name (i := 7) sc.nd rfl (by walk_at "l")) (mgs_cons (mg_name (i := 8) sc.nd rfl (by walk_at "l")) mgs_nil))))) (fun _ _ _ _ _ => mts_nil) (fun _ _ _ _ _ => (me_tup (ma_cons (mv 6) (ma_cons (mv 7) ma_nil))))) ma_nil))))))))
 (mss_frz 1 (mss_one (ms_ret (me_make G_Effect___init__ (hr.mono (by decide)) (ma_cons (me_fld A_Trail_ground (mv 0)) (ma_cons (me_fld A_Trail_way (mv 0)) (ma_cons (mv 1) ma_nil)))))))))
theorem ok_Trail_effect {f : Addr} {fd : FuncData} {m : List D → Rs D} (B : Bl mg) (G_Effect___init__ : MakeD P w K mg base "Effect" 1 3 m_Effect___init__) (G_term_of : FnD P w K mg base "term_of" 4 3 (wfOf m_term_of)) (A_Trail_ground : AtF K "Trail" "ground") (A_Trail_rows : AtF K "Trail" "rows") (A_Trail_way : AtF K "Trail" "way") (F : Fun K "effect" "Trail.effect" s_Trail_effect f fd) (hc : Cls K (He.ga K "Trail")) (hm : L2.Meth K (He.ga K "Trail") "effect" f)
  (hw : ∀ ds, m ds = callM (M_Trail_effect) ["self", "terms", "number", "place", "beat", "loops", "stride", "times", "length"] ds) : MethD P w K base mg "Trail" "effect" (4 + 1) 1 (wfOf m) :=
 ⟨hc, _, _, _, rfl, fn_d F sc_Trail_effect (fun cdv A outer s H E hr => d_Trail_effect B G_Effect___init__ G_term_of A_Trail_ground A_Trail_rows A_Trail_way hr) (hw_mE hw), hm, F.binds fun _ _ _ _ _ _ us hl => match us, hl with | [_], _ => rfl⟩
theorem sc_law : FnScope ["_law_script", "_law_box", "_law_turn", "_law_ways", "_law_some", "_law_moduli", "_law_wrong", "_law_one", "_law_effect", "_law_step", "_law_other", "_law_due", "_law_wide", "_law_asks", "_law_size", "_law_k", "_law_ask", "_law_place", "_law_number"] ["_law_script"] (defScope s_law) := ⟨rfl, rfl, rfl, by decide +kernel, rfl, by decide +kernel, by decide +kernel⟩
abbrev N_law : List Str := ["_law_script", "_law_box", "_law_turn", "_law_ways", "_law_some", "_law_moduli", "_law_wrong", "_law_one", "_law_effect", "_law_step", "_law_other", "_law_due", "_law_wide", "_law_asks", "_law_size", "_law_k", "_law_ask", "_law_place", "_law_number"]
def w_law (PT : Addr) : WS := (wSeq (wSet 1 (wCall sp__a_box 1 (wCons (wVar 0) wNil)))
 (wSeq (wFor (wiR1 (wC (.int 5))) (wgN 2) (wSeq (wSet 3 (wOp rAdd (wC (.int 1)) (wCall sp__draw 2 (wCons (wVar 1) (wCons (wC (.int 3)) wNil)))))
 (wSeq (wSet 4 (wLst (wCons (wC (.int 1)) (wCons (wC (.int 2)) (wCons (wC (.int 3)) (wCons (wC (.int 13)) (wCons (wC (.int 14)) (wCons (wC (.int 20)) (wCons (wC (.int 21)) (wCons (wC (.int 39)) (wCons (wC (.int 40)) (wCons (wC (.int 41)) (wCons (wC (.int 42)) (wCons (wC (.int 0)) (wCons (wUn rNeg (wC (.int 1))) wNil)))))))))))))))
 (wSeq (wSet 5 (wLc (wiR1 (wOp rAdd (wC (.int 1)) (wCall sp__draw 2 (wCons (wVar 1) (wCons (wC (.int 4)) wNil))))) (wgN 15) wYes (wCall sp__any 2 (wCons (wVar 1) (wCons (wVar 4) wNil))) [15]))
 (wSeq (wAsg (wTup (wCons (wTup (wCons (wC (.str "")) (wCons (wC .non) wNil))) (wCons (wC (.int 1)) wNil))) (wgTup 2 (wgCons (wgN 11) (wgCons (wgN 14) wgNil))))
 (wSeq (wSet 6 (wLc (wiSeq (wVar 5)) (wgN 7) (wTest (wOp rLt (wVar 7) (wC (.int 1)))) (wVar 7) [7]))
 (wSeq (wFor (wiSeq (wVar 5)) (wgN 7) (wSet 14 (wOp rMul (wVar 14) (wVar 7))))
 (wSeq (wIfS (wTest (wOp rNe (wCB rLnX (wCons (wVar 5) wNil)) (wVar 3))) (wSet 11 (wTup (wCons (wC (.str "WrongDimension")) (wCons (wCB rLnX (wCons (wVar 5) wNil)) wNil)))) (wIfS (wTest (wOp rNe (wVar 6) (wLst wNil))) (wSet 11 (wTup (wCons (wC (.str "InvalidCount")) (wCons (wIx (wVar 6) (wC (.int 0))) wNil)))) (wIfS (wTest (wOp rGt (wVar 14) (wC (.int 40)))) (wSet 11 (wTup (wCons (wC (.str "TooLong")) (wCons (wC (.int 40)) wNil)))) wNext)))
 (wSeq (wSet 8 (wCall (wfOf m_Effect_mark) 2 (wCons (wCall sp__spot 2 (wCons (wVar 1) (wCons (wVar 3) wNil))) (wCons (wC (.int 3)) wNil))))
 (wSeq (wIfS (wTest (wOp rNe (wAsk PT lamN tbX clX rsX (wCall sp_residue_sums 2 (wCons (wVar 8) (wCons (wCB rTuple (wCons (wVar 5) wNil)) wNil)))) (wVar 11))) (wRet (wC (.bl false))) wNext)
 (wSeq (wIfS (wAnd (wTest (wOp rEq (wVar 11) (wTup (wCons (wC (.str "")) (wCons (wC .non) wNil))))) (wTest (wOp rNe (wLc (wiSeq (wCall sp_residue_sums 2 (wCons (wVar 8) (wCons (wVar 5) wNil)))) (wgTup 2 (wgCons (wgN 17) (wgCons (wgN 18) wgNil))) wYes (wVar 18) [17, 18]) (wLst (wCons (wC (.int 3)) wNil))))) (wRet (wC (.bl false))) wNext)
 (wSeq (wSet 9 (wCall sp__any 2 (wCons (wVar 1) (wCons (wLst (wCons (wC (.int 39)) (wCons (wC (.int 40)) (wCons (wC (.int 41)) (wCons (wC (.int 42)) (wCons (wUn rNeg (wC (.int 40))) (wCons (wUn rNeg (wC (.int 41))) (wCons (wOp rPow (wC (.int 10)) (wC (.int 12))) wNil)))))))) wNil))))
 (wSeq (wSet 7 (wMeth "Trail" "effect" (wfOf m_Trail_effect) 1 (wCall (wfOf m_Trail_go) 1 (wCons (wTup (wCons (wVar 9) wNil)) wNil)) wNil))
 (wSeq (wSet 10 (wMeth "Trail" "effect" (wfOf m_Trail_effect) 1 (wCall (wfOf m_Trail_go) 1 (wCons (wTup (wCons (wCall sp__any 2 (wCons (wVar 1) (wCons (wLst (wCons (wVar 9) (wCons (wOp rSub (wVar 9) (wC (.int 1))) wNil))) wNil))) wNil)) wNil)) wNil))
 (wSeq (wSet 11 (wIf (wAnd (wTest (wOp rEq (wProp "Effect" m_Effect_shift (wVar 7)) (wProp "Effect" m_Effect_shift (wVar 10)))) (wTest (wOp rGt (wCB rAbs (wCons (wVar 9) wNil)) (wC (.int 40))))) (wTup (wCons (wC (.str "TooLong")) (wCons (wC (.int 40)) wNil))) (wTup (wCons (wC (.str "")) (wCons (wC .non) wNil)))))
 (wSeq (wIfS (wTest (wOp rNe (wAsk PT lamN tbX clX rsX (wCall sp_offset 2 (wCons (wVar 7) (wCons (wVar 10) wNil)))) (wVar 11))) (wRet (wC (.bl false))) wNext)
 (wSeq (wIfS (wAnd (wTest (wOp rNe (wProp "Effect" m_Effect_shift (wVar 7)) (wProp "Effect" m_Effect_shift (wVar 10)))) (wTest (wOp rIsNot (wCall sp_offset 2 (wCons (wVar 7) (wCons (wVar 10) wNil))) (wC .non)))) (wRet (wC (.bl false))) wNext)
 (wSeq (wSet 12 (wOp rAdd (wC (.int 2)) (wCall sp__draw 2 (wCons (wVar 1) (wCons (wC (.int 2)) wNil)))))
 (wLams PT lamN 13 (wSeq (wIfS (wTest (wOp rNe (wAskL tbX clX rsX [(wCall sp_offset 2 (wCons (wCall (wfOf m_Effect_still) 1 (wCons (wVar 12) wNil)) (wCons (wVar 7) wNil))), (wCall sp_offset 2 (wCons (wVar 7) (wCons (wCall (wfOf m_Effect_still) 1 (wCons (wVar 12) wNil)) wNil)))]) (wOp rMul (wLst (wCons (wTup (wCons (wC (.str "WrongDimension")) (wCons (wVar 12) wNil))) wNil)) (wC (.int 2))))) (wRet (wC (.bl false))) wNext)
 wNext))))))))))))))))))))
 (wRet (wOp rEq (wC (.int 40)) (wC (.int 40))))))
theorem d_law (B : Bl mg) (G_Effect_mark : StatD P w K base mg "Effect" "mark" 3 2 (wfOf m_Effect_mark)) (G_Effect_shift : PropD P w K base mg "Effect" "shift" 1 m_Effect_shift) (G_Effect_still : StatD P w K base mg "Effect" "still" 3 1 (wfOf m_Effect_still)) (G_Trail_effect : MethD P w K base mg "Trail" "effect" 5 1 (wfOf m_Trail_effect)) (G_Trail_go : StatD P w K base mg "Trail" "go" 3 1 (wfOf m_Trail_go)) (G__a_box : FnD P w K mg base "_law_a_box" 1 1 sp__a_box) (G__any : FnD P w K mg base "_law_any" 2 2 sp__any) (G__draw : FnD P w K mg base "_law_draw" 1 2 sp__draw) (G__spot : FnD P w K mg base "_law_spot" 2 2 sp__spot) (G_offset : FnD P w K mg base "offset" 6 2 sp_offset) (G_residue_sums : FnD P w K mg base "residue_sums" 4 2 sp_residue_sums) {cT PT : Addr} (AF : AskF K mg "_law_refused" "_law_ask" s__refused N__refused tbX clX rsX) (TB : TabB base mg cT PT) (hcode : cdv = .ref cT) (hr : Room 8 (A.deeper (envOfC "law" (defScope s_law) s.heap.objs.size f cdv))) :
  DSs tkN (cxOf (L2N.CX P w) P w K mg base ["_law_script", "_law_box", "_law_turn", "_law_ways", "_law_some", "_law_moduli", "_law_wrong", "_law_one", "_law_effect", "_law_step", "_law_other", "_law_due", "_law_wide", "_law_asks", "_law_size", "_law_k", "_law_ask", "_law_place", "_law_number"] "law" (defScope s_law) f cdv A outer s H E) (defBody s_law) (w_law PT) := by
 have sc := sc_law
 exact (dss_cons (ds_set (i := 1) sc.nd rfl (by walk_at "l") (de_call G__a_box (hr.mono (by decide)) (da_cons (dv 0) da_nil)))
 (dss_cons (ds_for rfl (di_r1 B.range de_int) (dg_name (i := 2) sc.nd rfl (by walk_at "l")) (dss_cons (ds_set (i := 3) sc.nd rfl (by walk_at "l") (de_op od_add de_int (de_call G__draw (hr.mono (by decide)) (da_cons (dv 1) (da_cons de_int da_nil)))))
 (dss_cons (ds_set (i := 4) sc.nd rfl (by walk_at "l") (de_lst (da_cons de_int (da_cons de_int (da_cons de_int (da_cons de_int (da_cons de_int (da_cons de_int (da_cons de_int (da_cons de_int (da_cons de_int (da_cons de_int (da_cons de_int (da_cons de_int (da_cons (de_un ud_neg de_int) da_nil)))))))))))))))
 (dss_cons (ds_set (i := 5) sc.nd rfl (by walk_at "l") (de_lc (own := [("_law_k", 15)]) (wt := wYes) (we := (wCall sp__any 2 (wCons (wVar 1) (wCons (wVar 4) wNil)))) (gt := (wgN 15)) rfl sc.nd (di_r1 B.range (de_op od_add de_int (de_call G__draw (hr.mono (by decide)) (da_cons (dv 1) (da_cons de_int da_nil))))) (blkOk_by (N := ["_law_script", "_law_box", "_law_turn", "_law_ways", "_law_some", "_law_moduli", "_law_wrong", "_law_one", "_law_effect", "_law_step", "_law_other", "_law_due", "_law_wide", "_law_asks", "_law_size", "_law_k", "_law_ask", "_law_place", "_law_number"]) (sc := defScope s_law) (by decide +kernel)) (by decide) (fun _ _ _ _ _ => (dg_name (i := 15) sc.nd rfl (by walk_at "l"))) (fun _ _ _ _ _ => dts_nil) (fun _ _ _ _ _ => (de_call G__any (hr.mono (by decide)) (da_cons (dv 1) (da_cons (dv 4) da_nil))))))
 (dss_cons (ds_asg (de_tup (da_cons (de_tup (da_cons de_str (da_cons de_non da_nil))) (da_cons de_int da_nil))) (dg_tup rfl (dgs_cons (dg_name (i := 11) sc.nd rfl (by walk_at "l")) (dgs_cons (dg_name (i := 14) sc.nd rfl (by walk_at "l")) dgs_nil))))
 (dss_cons (ds_setLc (i := 6) (own := [("_law_one", 7)]) (wt := (wTest (wOp rLt (wVar 7) (wC (.int 1))))) (we := (wVar 7)) (gt := (wgN 7)) rfl sc.nd rfl rfl (sw_true rfl rfl rfl (by decide +kernel)) (di_seq (dv 5)) (blkOk_by (N := ["_law_script", "_law_box", "_law_turn", "_law_ways", "_law_some", "_law_moduli", "_law_wrong", "_law_one", "_law_effect", "_law_step", "_law_other", "_law_due", "_law_wide", "_law_asks", "_law_size", "_law_k", "_law_ask", "_law_place", "_law_number"]) (sc := defScope s_law) (by decide +kernel)) (by decide) (fun _ _ _ _ _ => (dg_name (i := 7) sc.nd rfl (by walk_at "l"))) (fun _ _ _ _ _ => (dts_one (dt_cmp od_lt (dv 7) de_int))) (fun _ _ _ _ _ => (dv 7)))
 (dss_cons (ds_for rfl (di_seq (dv 5)) (dg_name (i := 7) sc.nd rfl (by walk_at "l")) (dss_one (ds_set (i := 14) sc.nd rfl (by walk_at "l") (de_op od_mul (dv 14) (dv 7)))))
 (dss_cons (ds_if (dt_cmp (od_ne hr.units) (de_callB cd_lenX B.len (by decide +kernel) (da_cons (dv 5) da_nil)) (dv 3)) (dss_one (ds_set (i := 11) sc.nd rfl (by walk_at "l") (de_tup (da_cons de_str (da_cons (de_callB cd_lenX B.len (by decide +kernel) (da_cons (dv 5) da_nil)) da_nil))))) (dss_one (ds_if (dt_cmp (od_ne hr.units) (dv 6) (de_lst da_nil)) (dss_one (ds_set (i := 11) sc.nd rfl (by walk_at "l") (de_tup (da_cons de_str (da_cons (de_ix (dv 6) de_int) da_nil))))) (dss_one (ds_if (dt_cmp od_gt (dv 14) de_int) (dss_one (ds_set (i := 11) sc.nd rfl (by walk_at "l") (de_tup (da_cons de_str (da_cons de_int da_nil))))) dss_nil)))))
 (dss_cons (ds_set (i := 8) sc.nd rfl (by walk_at "l") (de_stat G_Effect_mark (hr.mono (by decide)) (da_cons (de_call G__spot (hr.mono (by decide)) (da_cons (dv 1) (da_cons (dv 3) da_nil))) (da_cons de_int da_nil))))
 (dss_cons (ds_if (dt_cmp (od_ne hr.units) (de_askF AF TB hcode (k := 4) (hr.mono (by decide)) (fun A outer s H E f c' hr => (de_call G_residue_sums (hr.mono (by decide)) (da_cons (dv 8) (da_cons (de_callTy cd_tuple B.tuple (by decide +kernel) (da_cons (dv 5) da_nil)) da_nil)))) (L := lamS_by (show lamSB (defScope s_law) _ = true by decide +kernel))) (dv 11)) (dss_one (ds_ret de_bl)) dss_nil)
 (dss_cons (ds_if (DW.dt (dw_and (dt_cmp (od_eq hr.units) (dv 11) (de_tup (da_cons de_str (da_cons de_non da_nil)))) (dw_and1 (dt_cmp (od_ne hr.units) (de_lc (own := [("_law_place", 17), ("_law_number", 18)]) (wt := wYes) (we := (wVar 18)) (gt := (wgTup 2 (wgCons (wgN 17) (wgCons (wgN 18) wgNil)))) rfl sc.nd (di_seq (de_call G_residue_sums (hr.mono (by decide)) (da_cons (dv 8) (da_cons (dv 5) da_nil)))) (blkOk_by (N := ["_law_script", "_law_box", "_law_turn", "_law_ways", "_law_some", "_law_moduli", "_law_wrong", "_law_one", "_law_effect", "_law_step", "_law_other", "_law_due", "_law_wide", "_law_asks", "_law_size", "_law_k", "_law_ask", "_law_place", "_law_number"]) (sc := defScope s_law) (by decide +kernel)) (by decide) (fun _ _ _ _ _ => (dg_tup rfl (dgs_cons (dg_name (i := 17) sc.nd rfl (by walk_at "l")) (dgs_cons (dg_name (i := 18) sc.nd rfl (by walk_at "l")) dgs_nil)))) (fun _ _ _ _ _ => dts_nil) (fun _ _ _ _ _ => (dv 18))) (de_lst (da_cons de_int da_nil)))))) (dss_one (ds_ret de_bl)) dss_nil)
 (dss_cons (ds_set (i := 9) sc.nd rfl (by walk_at "l") (de_call G__any (hr.mono (by decide)) (da_cons (dv 1) (da_cons (de_lst (da_cons de_int (da_cons de_int (da_cons de_int (da_cons de_int (da_cons (de_un ud_neg de_int) (da_cons (de_un ud_neg de_int) (da_cons (de_op od_pow de_int de_int) da_nil)))))))) da_nil))))
 (dss_cons (ds_set (i := 7) sc.nd rfl (by walk_at "l") (de_meth0 G_Trail_effect (hr.mono (by decide)) (de_stat G_Trail_go (hr.mono (by decide)) (da_cons (de_tup (da_cons (dv 9) da_nil)) da_nil))))
 (dss_cons (ds_set (i := 10) sc.nd rfl (by walk_at "l") (de_meth0 G_Trail_effect (hr.mono (by decide)) (de_stat G_Trail_go (hr.mono (by decide)) (da_cons (de_tup (da_cons (de_call G__any (hr.mono (by decide)) (da_cons (dv 1) (da_cons (de_lst (da_cons (dv 9) (da_cons (de_op od_sub (dv 9) de_int) da_nil))) da_nil))) da_nil)) da_nil))))
 (dss_cons (ds_set (i := 11) sc.nd rfl (by walk_at "l") (de_if (DW.dt (dw_and (dt_cmp (od_eq hr.units) (de_prop G_Effect_shift (hr.mono (by decide)) (dv 7)) (de_prop G_Effect_shift (hr.mono (by decide)) (dv 10))) (dw_and1 (dt_cmp od_gt (de_callB cd_abs B.abs (by decide +kernel) (da_cons (dv 9) da_nil)) de_int)))) (de_tup (da_cons de_str (da_cons de_int da_nil))) (de_tup (da_cons de_str (da_cons de_non da_nil)))))
 (dss_cons (ds_if (dt_cmp (od_ne hr.units) (de_askF AF TB hcode (k := 6) (hr.mono (by decide)) (fun A outer s H E f c' hr => (de_call G_offset (hr.mono (by decide)) (da_cons (dv 7) (da_cons (dv 10) da_nil)))) (L := lamS_by (show lamSB (defScope s_law) _ = true by decide +kernel))) (dv 11)) (dss_one (ds_ret de_bl)) dss_nil)
 (dss_cons (ds_if (DW.dt (dw_and (dt_cmp (od_ne hr.units) (de_prop G_Effect_shift (hr.mono (by decide)) (dv 7)) (de_prop G_Effect_shift (hr.mono (by decide)) (dv 10))) (dw_and1 (dt_cmp od_isNot (de_call G_offset (hr.mono (by decide)) (da_cons (dv 7) (da_cons (dv 10) da_nil))) de_non)))) (dss_one (ds_ret de_bl)) dss_nil)
 (dss_cons (ds_set (i := 12) sc.nd rfl (by walk_at "l") (de_op od_add de_int (de_call G__draw (hr.mono (by decide)) (da_cons (dv 1) (da_cons de_int da_nil)))))
 (dss_lams (i := 13) rfl sc.nd rfl (by walk_at "l") (.cons (lamPE0 (wb := (wCall sp_offset 2 (wCons (wCall (wfOf m_Effect_still) 1 (wCons (wVar 12) wNil)) (wCons (wVar 7) wNil)))) TB hcode (lamS3_by (show lamSB3 N_law (defScope s_law) _ = true by decide +kernel))) (.cons (lamPE1 (wb := (wCall sp_offset 2 (wCons (wVar 7) (wCons (wCall (wfOf m_Effect_still) 1 (wCons (wVar 12) wNil)) wNil)))) TB hcode (lamS3_by (show lamSB3 N_law (defScope s_law) _ = true by decide +kernel))) .nil)) (by decide) (dssG_if (dtG_cmp (od_ne hr.units) (deG_asks (i := 13) (j := 16) (k := 6) AF (hr.mono (by decide)) rfl rfl rfl sc.nd rfl (.inl rfl) rfl (blkOk_by (N := ["_law_script", "_law_box", "_law_turn", "_law_ways", "_law_some", "_law_moduli", "_law_wrong", "_law_one", "_law_effect", "_law_step", "_law_other", "_law_due", "_law_wide", "_law_asks", "_law_size", "_law_k", "_law_ask", "_law_place", "_law_number"]) (sc := defScope s_law) (by decide +kernel)) (fun _ _ _ _ _ _ => pg_name (i := 16) sc.nd rfl (by walk_at "l")) (fun _ _ _ _ _ _ => .inl rfl) (fun _ _ _ _ _ _ => rfl) (lamOks_cons ⟨(lamS3_by (show lamSB3 N_law (defScope s_law) _ = true by decide +kernel)), ⟨(fun _ _ _ _ _ _ _ => rfl), (fun z => nomatch z)⟩, fun A outer s H E f c' hr => (de_call G_offset (hr.mono (by decide)) (da_cons (de_stat G_Effect_still (hr.mono (by decide)) (da_cons (dv 12) da_nil)) (da_cons (dv 7) da_nil)))⟩ (lamOks_cons ⟨(lamS3_by (show lamSB3 N_law (defScope s_law) _ = true by decide +kernel)), ⟨(fun z => nomatch z), fun _ => ⟨"_law_a", rfl, fun _ _ _ _ _ _ _ => ⟨_, rfl, fun _ => rfl⟩⟩⟩, fun A outer s H E f c' hr => (de_call G_offset (hr.mono (by decide)) (da_cons (dv 7) (da_cons (de_stat G_Effect_still (hr.mono (by decide)) (da_cons (dv 12) da_nil)) da_nil)))⟩ lamOks_nil))) (de_op od_mul (de_lst (da_cons (de_tup (da_cons de_str (da_cons (dv 12) da_nil))) da_nil)) de_int)) (dss_one (ds_ret de_bl)) dss_nil
 dss_nil))))))))))))))))))))
 (dss_one (ds_ret (de_cmp (od_eq hr.units) (de_gint B.c_MAX_CLASSES) de_int)))))
theorem okl_law {fd : FuncData} {PT : Addr} (sp : WF) (B : Bl mg) (G_Effect_mark : StatD P w K base mg "Effect" "mark" 3 2 (wfOf m_Effect_mark)) (G_Effect_shift : PropD P w K base mg "Effect" "shift" 1 m_Effect_shift) (G_Effect_still : StatD P w K base mg "Effect" "still" 3 1 (wfOf m_Effect_still)) (G_Trail_effect : MethD P w K base mg "Trail" "effect" 5 1 (wfOf m_Trail_effect)) (G_Trail_go : StatD P w K base mg "Trail" "go" 3 1 (wfOf m_Trail_go)) (G__a_box : FnD P w K mg base "_law_a_box" 1 1 sp__a_box) (G__any : FnD P w K mg base "_law_any" 2 2 sp__any) (G__draw : FnD P w K mg base "_law_draw" 1 2 sp__draw) (G__spot : FnD P w K mg base "_law_spot" 2 2 sp__spot) (G_offset : FnD P w K mg base "offset" 6 2 sp_offset) (G_residue_sums : FnD P w K mg base "residue_sums" 4 2 sp_residue_sums) (AF : AskF K mg "_law_refused" "_law_ask" s__refused N__refused tbX clX rsX) (TB : TabB base mg (He.codeOf K ("law", none)) PT) (F : Fun K "law" "law" s_law (He.ga K "law") fd)
  (hw : ∀ ds M k x, ds.length = 1 → sp ds M k x → (w_law PT) (startD ["_law_script", "_law_box", "_law_turn", "_law_ways", "_law_some", "_law_moduli", "_law_wrong", "_law_one", "_law_effect", "_law_step", "_law_other", "_law_due", "_law_wide", "_law_asks", "_law_size", "_law_k", "_law_ask", "_law_place", "_law_number"] ds) M (retE k x)) : FnOk P w K mg base (L2N.CX P w) (8 + 1) (He.ga K "law") fd ["_law_script"] (spD K 1 sp) :=
 fn_dT F sc_law (fun cdv hc A outer s H E hr => d_law B G_Effect_mark G_Effect_shift G_Effect_still G_Trail_effect G_Trail_go G__a_box G__any G__draw G__spot G_offset G_residue_sums AF TB hc hr) hw
end K31
namespace K31
open PySem PySem.Spec PyProof.Rows L2 DL _root_.DM LamX _root_.DP.RsM
open _root_.DP hiding m_residue m_residue_eq M_residue N_residue m_period m_period_eq M_period N_period residue_d per_loop period_d sp_strewn N_strewn w_strewn hw_strewn sp_residue_sums N_residue_sums w_residue_sums hw_residue_sums
local macro_rules | `(tactic| walk_at "w") => `(tactic| try conv => whnf)
theorem kp_refl {M : MH} : Kp M M := fun _ _ h => h
theorem hw_strewn (ds : List D) (M : MH) (k : KD) (x : KE) (hl : ds.length = 3) (h : sp_strewn ds M k x) : w_strewn (startD N_strewn ds) M (retE k x) := h.elim
theorem wrong_ge {W : Nat} {ms : List Int} (h : wrongM W ms = none) : ms.length = W ∧ ∀ m, m ∈ ms → 1 ≤ m := by
 unfold wrongM at h
 split at h
 ·rename_i hl
  refine ⟨hl, fun m hm => ?_⟩
  cases hf : ms.find? (fun m => decide (m < 1)) with
  | some y => rw [hf] at h; cases h
  | none =>
   have := List.find?_eq_none.mp hf m hm
   simp at this
   exact this
 ·cases h
def tmsO : Option (List Int) → List DP.Tm
 | none => []
 | some p => [⟨3, p, []⟩]
theorem efO_eq {W : Nat} {s : List Int} {o : Option (List Int)} : efO W s o = effD W s (tmsO o) := by cases o <;> rfl
theorem kp_put {M M' : MH} {a : Addr} {o : MO} (h : Kp M M') (ha : M a = none) : Kp M (mupd M' a o) := fun c o' e => by
 rw [mupd_ne (fun e2 => by rw [e2, ha] at e; cases e)]
 exact h c o' e
theorem okT {z : List Int} {p : List Int → Prop} (h : p z) : onKey (tI z) p := by
 unfold onKey
 rw [show keyD (tI z) = some z from intsD_map z]
 exact h
def kO (ms : List Int) : Option (List Int) → List (List Int)
 | none => []
 | some q => [resV q ms]
def vO : Option (List Int) → List D
 | none => []
 | some _ => [.int 3]
theorem hw_residue_sums (ds : List D) (M : MH) (k : KD) (x : KE) (hl : ds.length = 2) (h : sp_residue_sums ds M k x) : w_residue_sums (startD N_residue_sums ds) M (retE k x) := by
 obtain ⟨bb, W, ms, s, o, rfl, hW1, hW, hl, hm, hp, hk⟩ := h
 have Lcm : m_check_moduli [.int W, mD bb ms] = _ := moduli_any hm hl
 have Led : m_Effect_dimension [efO W s o] = .ok (.int W) := by rw [m_Effect_dimension_eq]; rfl
 have Let : m_Effect_terms [efO W s o] = .ok (.lst ((tmsO o).map tmD)) := by rw [efO_eq]; exact eterms_d
 have i1 : ∀ M, insC "Effect" (efO W s o) M = true := fun _ => rfl
 have i2 : ∀ M, insB "Effect" "terms" (efO W s o) M = true := fun _ => rfl
 generalize efO W s o = ef at Led Let i1 i2
 walk_at "w"
 rw [i1]
 walk_at "w"
 rw [Led]
 walk_at "w"
 rw [Lcm]
 cases hw : wrongM W ms with
 | some e =>
  rw [hw] at hk
  exact Ltx.now hk
 | none =>
  rw [hw] at hk
  obtain ⟨hlw, h1⟩ := wrong_ge hw
  walk_at "w"
  intro pp hpp
  walk_at "w"
  rw [i2]
  walk_at "w"
  rw [Let]
  walk_at "w"
  have fin : ∀ (M1 : MH) (r : Rh), (∃ x3 x4 x5 x6 x7 x8 x9, r = [some ef, some (mD bb ms), some (.ref pp), x3, x4, x5, x6, x7, x8, x9]) → (∀ a o, M a = some o → M1 a = some o) → M1 pp = some (.dcT (kO ms o) (vO o)) →
    wRet (wLc (wiSeq (wCB rSortedDT (wCons (wVar 2) wNil))) (wgN 8) (wTest (wOp DL.rNe (wDgT (wVar 2) (wVar 8)) (wC (D.int 0)))) (wTup (wCons (wVar 8) (wCons (wDgT (wVar 2) (wVar 8)) wNil))) [8]) r M1 (retE k x) := by
   rintro M1 r ⟨x3, x4, x5, x6, x7, x8, x9, rfl⟩ hK hp1
   have hct : ctD (.ref pp) M1 = some (.dt (kO ms o) (vO o)) := by
    show (match M1 pp with | some m => ctO m | none => none) = _
    rw [hp1]
    rfl
   have hkk := hk M1 hK
   clear hk Let
   walk_at "w"
   rw [hct]
   cases o with
   | none =>
    refine ⟨(fun z hz => by exact absurd (show z ∈ ([] : List (List Int)) from hz) (List.not_mem_nil)), ?_⟩
    exact ⟨trivial, Lt.now hkk⟩
   | some q =>
    have hq := hp q rfl
    have hr : (resV q ms).length = W := by unfold resV; rw [List.length_zipWith, hq, hlw, Nat.min_self]
    refine ⟨fun z hz => ?_, ?_⟩
    ·rw [List.mem_singleton.mp hz]
     refine ⟨fun e => ?_, by omega⟩
     rw [e] at hr
     have : W = 0 := hr.symm
     omega
    refine compD_filter (fun _ => true) (fun d => .tup [d, .int 3]) _ trivial (fun d hd k1 k2 h1 h2 => ?_) ?_
    ·have hd : d ∈ [tI (resV q ms)] := hd
     cases List.mem_singleton.mp hd
     have key : keyD (tI (resV q ms)) = some (resV q ms) := intsD_map _
     walk_at "w"
     refine ⟨pp, _, _, rfl, hp1, ?_⟩
     have g3 : getT (kO ms (some q)) (vO (some q)) (resV q ms) = some (.int 3) := if_pos rfl
     refine okT ?_
     rw [g3]
     walk_at "w"
     refine ⟨pp, _, _, rfl, hp1, ?_⟩
     refine okT ?_
     rw [g3]
     exact h1 rfl
    ·exact Lt.now hkk
  cases o with
  | none =>
   rw [forD_eq]
   refine ⟨trivial, ?_⟩
   exact fin _ _ ⟨_, _, _, _, _, _, _, rfl⟩ (kp_put kp_refl hpp) mupd_same
  | some q =>
   rw [forD_eq]
   refine ⟨trivial, ?_⟩
   walk_at "w"
   rw [residue_d (fun m hm => by have := h1 m hm; omega)]
   have key : keyD (tI (resV q ms)) = some (resV q ms) := intsD_map _
   walk_at "w"
   show (match keyD (tI (resV q ms)) with | some z => _ | none => False)
   rw [key]
   intro a2 h2
   refine ⟨a2, _, _, rfl, mupd_same, ?_⟩
   walk_at "w"
   rw [forD_eq]
   refine ⟨trivial, ?_⟩
   walk_at "w"
   have hq := hp q rfl
   have hr : (resV q ms).length = W := by unfold resV; rw [List.length_zipWith, hq, hlw, Nat.min_self]
   refine ⟨_, _, rfl, fun z hz => by rw [List.mem_singleton.mp hz]; omega, ?_⟩
   have ne : pp ≠ a2 := fun e => by rw [← e, mupd_same] at h2; cases h2
   have hpd : mdel (mupd (mupd M pp (.dcT [] [])) a2 (.dcT [resV q ms] [.int 3])) a2 pp = some (.dcT [] []) := by rw [mdel_ne ne, mupd_ne ne, mupd_same]
   have hKd : ∀ c o, M c = some o → mdel (mupd (mupd M pp (.dcT [] [])) a2 (.dcT [resV q ms] [.int 3])) a2 c = some o := fun c o hc => by
    have c1 : c ≠ pp := fun e => by rw [e, hpp] at hc; cases hc
    have c2 : c ≠ a2 := fun e => by rw [mupd_ne (by rw [← e]; exact c1), ← e, hc] at h2; cases h2
    rw [mdel_ne c2, mupd_ne c2, mupd_ne c1]; exact hc
   have e2 : D.int (DP.Tm.mk 3 q []).n = .int 3 := rfl
   generalize mdel (mupd (mupd M pp (.dcT [] [])) a2 (.dcT [resV q ms] [.int 3])) a2 = M3 at hpd hKd ⊢
   show forD _ _ _ _ _ _ _
   rw [forD_eq]
   refine ⟨trivial, ?_⟩
   walk_at "w"
   refine ⟨pp, [], [], rfl, hpd, ?_⟩
   refine okT ⟨[], [], hpd, ?_⟩
   walk_at "w"
   refine okT ⟨pp, [], [], rfl, hpd, by decide, ?_⟩
   refine ⟨trivial, trivial, ?_⟩
   exact fin _ _ ⟨_, _, _, _, _, _, _, rfl⟩ (fun c o hc => by rw [mupd_ne (fun e => by rw [e, hpp] at hc; cases hc)]; exact hKd c o hc) mupd_same
theorem wrong1 {n : Nat} (h1 : 1 ≤ n) (h2 : n ≤ 40) : wrongM 1 [(n : Int)] = none := by
 unfold wrongM
 rw [if_pos (show [(n : Int)].length = 1 from rfl), List.find?_cons, decide_eq_false (show ¬ ((n : Int) < 1) by omega)]
 show (if prodM [(n : Int)] > 40 then _ else none) = _
 rw [if_neg]
 show ¬ ((n : Int) * 1 > 40)
 omega
theorem hw_rotation (ds : List D) (M : MH) (k : KD) (x : KE) (hl : ds.length = 3) (h : sp_rotation ds M k x) : w_rotation (startD ["one", "other", "size", "mine", "theirs", "turn", "there", "number", "k"] ds) M (retE k x) := by
 obtain ⟨s, s', n, rfl, h1, h2, hk⟩ := h
 generalize he : efO 1 s none = e1
 generalize he' : efO 1 s' none = e2
 walk_at "w"
 refine ⟨false, 1, [(n : Int)], s, none, by rw [← he]; rfl, by decide, (by decide), (by show 1 ≤ 64; decide), (fun m hm => by rw [List.mem_singleton.mp hm]; omega), (fun _ e => nomatch e), ?_⟩
 rw [wrong1 h1 h2]
 intro M1 hM1
 refine ⟨trivial, ?_⟩
 intro a1 ha1
 refine ⟨a1, _, _, rfl, mupd_same, ?_⟩
 walk_at "w"
 refine ⟨false, 1, [(n : Int)], s', none, by rw [← he']; rfl, by decide, by decide, (by show 1 ≤ 64; decide), (fun m hm => by rw [List.mem_singleton.mp hm]; omega), (fun _ e => nomatch e), ?_⟩
 rw [wrong1 h1 h2]
 intro M2 hM2
 walk_at "w"
 refine ⟨trivial, ?_⟩
 intro a2 ha2
 refine ⟨a2, _, _, rfl, mupd_same, ?_⟩
 walk_at "w"
 refine ⟨by omega, by omega, ?_⟩
 obtain ⟨m, rfl⟩ : ∃ m, n = m + 1 := ⟨n - 1, by omega⟩
 have hM : Kp M (mdel (mupd M2 a2 (.dct [] [])) a2) := fun c o hc => by
  have h1 := hM1 c o hc
  have c1 : c ≠ a1 := fun e => by rw [e, ha1] at h1; cases h1
  have h2 : mdel (mupd M1 a1 (.dct [] [])) a1 c = some o := by rw [mdel_ne c1, mupd_ne c1]; exact h1
  have h3 := hM2 c o h2
  have c2 : c ≠ a2 := fun e => by rw [e, ha2] at h3; cases h3
  rw [mdel_ne c2, mupd_ne c2]; exact h3
 generalize mdel (mupd M2 a2 (.dct [] [])) a2 = M4 at hM ⊢
 show forD _ _ _ _ _ _ _
 rw [forD_eq]
 show _ ∧ _
 refine ⟨trivial, ?_⟩
 walk_at "w"
 refine ⟨by omega, by omega, ?_⟩
 refine compD_map (fun _ => .bl true) _ trivial (fun d hd k' hk' => ?_) ?_
 ·obtain ⟨i, rfl⟩ : ∃ i : Int, d = .int i := by
   have : ∀ (n : Nat) (lo : Int), d ∈ intsFrom lo n → ∃ i : Int, d = .int i := fun n => by
    induction n with
    | zero => intro lo h; cases h
    | succ n ih =>
     intro lo h
     rcases List.mem_cons.mp (show d ∈ D.int lo :: intsFrom (lo + 1) n from h) with h | h
     ·exact ⟨lo, h⟩
     ·exact ih _ h
   exact this _ _ hd
  walk_at "w"
  refine ⟨by show ((m + 1 : Nat) : Int) ≠ 0; omega, ?_⟩
  walk_at "w"
  exact hk'
 ·walk_at "w"
  rw [show blsOf ((DL.intsFrom 0 ((m + 1 : Nat) : Int).toNat).map fun _ => D.bl true) = some ((DL.intsFrom 0 ((m + 1 : Nat) : Int).toNat).map fun _ => true) from blsOf_mapG (fun _ : D => true) _]
  walk_at "w"
  rw [show ((DL.intsFrom 0 ((m + 1 : Nat) : Int).toNat).map fun _ => true).all (fun b => b) = true from List.all_eq_true.mpr fun b hb => by obtain ⟨_, _, rfl⟩ := List.mem_map.mp hb; rfl]
  exact Lt.now (hk M4 hM)
theorem eqD_tI {u v : List Int} : eqD (tI u) (tI v) = decide (u = v) := by
 have := DP.eqv_ints u v
 simpa [eqD, pyOf, PyData.eqv] using this
theorem hw_offset (ds : List D) (M : MH) (k : KD) (x : KE) (hl : ds.length = 2) (h : sp_offset ds M k x) : w_offset (startD ["one", "other", "effect", "size", "vector"] ds) M (retE k x) := by
 obtain ⟨W, W', s, s', rfl, hs, hs', hW, hW', hne, hk⟩ := h
 have Led : ∀ W s, m_Effect_dimension [efO W s none] = .ok (.int W) := fun W s => by rw [m_Effect_dimension_eq]; rfl
 have Les : ∀ W s, m_Effect_shift [efO W s none] = .ok (tI s) := fun W s => by rw [m_Effect_shift_eq]; rfl
 have i1 : ∀ W s M, insC "Effect" (efO W s none) M = true := fun _ _ _ => rfl
 walk_at "w"
 rw [forD_eq]
 refine ⟨trivial, ?_⟩
 generalize he1 : efO W s none = e1
 generalize he2 : efO W' s' none = e2
 have j1 : ∀ M, insC "Effect" e1 M = true := fun M => by rw [← he1]; exact i1 W s M
 have j2 : ∀ M, insC "Effect" e2 M = true := fun M => by rw [← he2]; exact i1 W' s' M
 have d1 : m_Effect_dimension [e1] = .ok (.int W) := by rw [← he1]; exact Led W s
 have d2 : m_Effect_dimension [e2] = .ok (.int W') := by rw [← he2]; exact Led W' s'
 have t1 : m_Effect_shift [e1] = .ok (tI s) := by rw [← he1]; exact Les W s
 have t2 : m_Effect_shift [e2] = .ok (tI s') := by rw [← he2]; exact Les W' s'
 walk_at "w"
 rw [j1]
 walk_at "w"
 rw [d1]
 walk_at "w"
 rcases hk with ⟨hW, hk⟩ | ⟨rfl, hW, hk⟩ | ⟨rfl, rfl, hk⟩
 ·rw [decide_eq_false (show ¬ (W : Int) = 1 by omega)]
  walk_at "w"
  rw [j1]
  walk_at "w"
  rw [d1]
  exact Ltx.now hk
 ·walk_at "w"
  refine ⟨trivial, ?_⟩
  walk_at "w"
  rw [j2]
  walk_at "w"
  rw [d2]
  walk_at "w"
  rw [decide_eq_false (show ¬ (W' : Int) = 1 by omega)]
  walk_at "w"
  rw [j2]
  walk_at "w"
  rw [d2]
  exact Ltx.now hk
 ·walk_at "w"
  refine ⟨trivial, ?_⟩
  walk_at "w"
  rw [j2]
  walk_at "w"
  rw [d2]
  walk_at "w"
  refine ⟨trivial, ?_⟩
  walk_at "w"
  rw [j1]
  walk_at "w"
  rw [t1]
  walk_at "w"
  rw [j2]
  walk_at "w"
  rw [t2]
  refine rNeP_lays (lays_ints s) (lays_ints s') ?_ (dep_tI s) (dep_tI s')
  rw [eqD_tI]
  by_cases h : s = s'
  ·subst h
   rw [decide_eq_true rfl]
   rw [if_pos rfl] at hk
   obtain ⟨v, rfl⟩ : ∃ v, s = [v] := by
    cases s with
    | nil => cases hs
    | cons v r => cases r with
     | nil => exact ⟨v, rfl⟩
     | cons _ _ => cases hs
   walk_at "w"
   rw [j1]
   walk_at "w"
   rw [t1]
   walk_at "w"
   have hv : v ≠ 0 := fun e => hne rfl (by rw [e])
   have hk : if v.natAbs > 40 then x "TooLong" [("tag", .str "TooLong"), ("limit", .int 40)] M else ∀ M', Kp M M' → k (.int 0) M' := hk
   by_cases h40 : v.natAbs > 40
   ·rw [if_pos h40] at hk
    rw [decide_eq_true (show 40 < (if v < 0 then -v else v) by split <;> omega)]
    exact Ltx.now hk
   ·rw [if_neg h40] at hk
    obtain ⟨n, hn⟩ : ∃ n : Nat, (if v < 0 then -v else v) = n := ⟨v.natAbs, by split <;> omega⟩
    have h1 : 1 ≤ n ∧ n ≤ 40 := by split at hn <;> omega
    rw [hn, decide_eq_false (show ¬ (40 : Int) < n by omega)]
    walk_at "w"
    rw [decide_eq_true (show (0 : Int) < n by omega)]
    walk_at "w"
    exact ⟨_, _, n, by rw [← he1, ← he2], h1.1, h1.2, fun M' hM => Lt.now (hk M' hM)⟩
  ·rw [decide_eq_false h]
   rw [if_neg h] at hk
   exact Lt.now hk
end K31
namespace K31
open PySem PySem.Spec PyProof.Rows L2 DL _root_.DM LamX _root_.DP.RsM
open _root_.DP hiding m_residue m_residue_eq M_residue N_residue m_period m_period_eq M_period N_period residue_d per_loop period_d sp_strewn N_strewn w_strewn hw_strewn sp_residue_sums N_residue_sums w_residue_sums hw_residue_sums
local macro_rules | `(tactic| walk_at "w") => `(tactic| try conv => whnf)
theorem seq_all {s rest : WS} {ρ : Rh} {M : MH} {E : EndsD} (h : ∀ E' : EndsD, (∀ ρ' M', rest ρ' M' E → E'.nx ρ' M') → E'.ct = E.ct → E'.rt = E.rt → E'.xc = E.xc → s ρ M E') : wSeq s rest ρ M E := h { nx := fun ρ1 M1 => rest ρ1 M1 E, rt := E.rt, bk := E.bk, ct := E.ct, xc := E.xc } (fun _ _ h => h) rfl rfl rfl
theorem ne_same {d : D} {M : MH} {k : KD} (l : lays d = true) (hd : dep d ≤ 64) (hk : k (.bl false) M) : rNeP d d M k := by
 refine rNeP_lays l l ?_ hd hd
 rw [eqD_refl l]
 exact hk
abbrev hitP : List (Str × Str) := [("WrongDimension", "given"), ("InvalidCount", "number"), ("TooLong", "limit")]
theorem hits : ∀ p ∈ hitP, hitC tbX p.1 clX = some (some p.2) ∧ (p.1, some p.2) ∈ rsX := fun p hp => by
 iterate 3
  rcases List.mem_cons.mp hp with rfl | hp
  ·exact ⟨by kernel_rfl, by decide +kernel⟩
 cases hp
theorem hitP_ok : ∀ p ∈ hitP, PyData.strOk p.1 = true ∧ p.1 ≠ ("" : Str) ∧ p.2 ≠ ("tag" : Str) := by decide +kernel
theorem wrong_in {W : Nat} {ms : List Int} {e : DP.XE} (h : wrongM W ms = some e) : (e.nm, e.fl) ∈ hitP ∧ ∃ i : Int, e.d = .int i := by
 unfold wrongM at h
 split at h
 ·split at h
  ·cases h; exact ⟨by simp [hitP], _, rfl⟩
  ·split at h
   ·cases h; exact ⟨by simp [hitP], _, rfl⟩
   ·cases h
 ·cases h; exact ⟨by simp [hitP], _, rfl⟩
theorem look2 {f : Str} {x d : D} (h : f ≠ "tag") : List.lookup f [(("tag" : Str), x), (f, d)] = some d := by
 rw [List.lookup_cons, beq_eq_false_iff_ne.mpr h, List.lookup_cons, beq_self_eq_true]
theorem due_lays {W : Nat} {ms : List Int} : lays (DP.dueD (wrongM W ms)) = true ∧ dep (DP.dueD (wrongM W ms)) ≤ 1 := by
 cases h : wrongM W ms with
 | none => exact ⟨by decide +kernel, by decide⟩
 | some e =>
  obtain ⟨h1, i, h2⟩ := wrong_in h
  obtain ⟨s1, _, _⟩ := hitP_ok _ h1
  obtain ⟨en, ef, ed⟩ := e
  cases h2
  exact ⟨by show (PyData.strOk en && (true && true)) = true; rw [s1]; rfl, by show max 0 (max 0 0) + 1 ≤ 1; decide⟩
abbrev okD : D := .tup [.str "", .non]
section
variable {M M' : MH} {bx PT : Addr} {W : Nat} {ms : List Int} {E : EndsD} {o0 o1 o2 o3 o4 o5 o6 o7 o8 o9 o10 o11 o12 o13 o14 o15 o16 o17 o18 : Option D}
abbrev someL : List Int := [1, 2, 3, 13, 14, 20, 21, 39, 40, 41, 42, 0, -1]
theorem some_le : ∀ m ∈ someL, m.natAbs ≤ 42 := by decide
theorem b2 (hB : BoxAt M bx) (h : ∀ (ms : List Int) M1, ms.length ≤ 4 → (∀ m, m ∈ ms → m.natAbs ≤ 42) → BoxAt M1 bx → DL.Off bx M M1 → E.nx [o0, some (.ref bx), o2, o3, some (.lst (someL.map .int)), some (.lst (ms.map .int)), o6, o7, o8, o9, o10, o11, o12, o13, o14, o15, o16, o17, o18] M1) :
  (wSet 5 (wLc (wiR1 (wOp rAdd (wC (.int 1)) (wCall sp__draw 2 (wCons (wVar 1) (wCons (wC (.int 4)) wNil))))) (wgN 15) wYes (wCall sp__any 2 (wCons (wVar 1) (wCons (wVar 4) wNil))) [15])) [o0, some (.ref bx), o2, o3, some (.lst (someL.map .int)), o5, o6, o7, o8, o9, o10, o11, o12, o13, o14, o15, o16, o17, o18] M E := by
 walk_at "w"
 refine ⟨_, _, rfl, by decide, by decide, hB, fun v M1 v0 v1 hB1 hO1 => ?_⟩
 walk_at "w"
 refine ⟨by omega, by omega, ?_⟩
 refine compD_draw (fun M' => BoxAt M' bx ∧ DL.Off bx M M') (fun d e => ∃ i, e = .int i ∧ i.natAbs ≤ 42) (fun _ _ => trivial) _ ⟨hB1, hO1⟩ (fun d hd M' k' hI hk' => ?_) (fun es M' hA hI => ?_)
 ·walk_at "w"
  refine ⟨_, _, _, rfl, rfl, by simp, by decide, hI.1, fun d M2 hd hB2 hO2 => ?_⟩
  obtain ⟨i, hi, rfl⟩ := List.mem_map.mp (show d ∈ someL.map D.int from hd)
  exact hk' _ _ ⟨_, rfl, some_le i hi⟩ ⟨hB2, hI.2.trans hO2⟩
 ·have key : ∀ {ds es : List D}, All2 (fun d e => ∃ i : Int, e = D.int i ∧ i.natAbs ≤ 42) ds es → ∃ ms : List Int, es = ms.map .int ∧ ms.length = ds.length ∧ ∀ m, m ∈ ms → m.natAbs ≤ 42 := fun h => by
   induction h with
   | nil => exact ⟨[], rfl, rfl, fun _ h => nomatch h⟩
   | cons h _ ih =>
    obtain ⟨i, rfl, hi⟩ := h
    obtain ⟨ms, rfl, hl, hm⟩ := ih
    exact ⟨i :: ms, rfl, by rw [List.length_cons, List.length_cons, hl], fun m hm' => by
     rcases List.mem_cons.mp hm' with rfl | h
     ·exact hi
     ·exact hm m h⟩
  obtain ⟨ms, rfl, hl, hm⟩ := key hA
  rw [intsFrom_len] at hl
  exact h ms _ (by omega) hm hI.1 hI.2
theorem b4 (h : E.nx [o0, o2, o3, o4, o6, some (.lst (ms.map .int)), some (.lst ((ms.filter fun m => decide (m < 1)).map .int)), o7, o8, o9, o10, o11, o12, o13, o14, o15, o16, o17, o18] M) :
  (wSet 6 (wLc (wiSeq (wVar 5)) (wgN 7) (wTest (wOp rLt (wVar 7) (wC (.int 1)))) (wVar 7) [7])) [o0, o2, o3, o4, o6, some (.lst (ms.map .int)), o5, o7, o8, o9, o10, o11, o12, o13, o14, o15, o16, o17, o18] M E := by
 walk_at "w"
 refine compD_filter (fun d => match d with | .int m => decide (m < 1) | _ => false) (fun d => d) _ trivial (fun d hd k1 k2 h1 h2 => ?_) ?_
 ·obtain ⟨m, hm, rfl⟩ := List.mem_map.mp hd
  walk_at "w"
  cases hb : decide (m < 1) with
  | true => exact h1 hb
  | false => exact h2 hb
 ·have e : ((ms.map D.int).filter (fun d => match d with | .int m => decide (m < 1) | _ => false)).map (fun d => d) = (ms.filter fun m => decide (m < 1)).map .int := by rw [List.map_id', List.filter_map]; rfl
  rw [e]
  exact h
theorem prod_snoc : ∀ (ms : List Int) (m c : Int), c * m * prodM ms = c * prodM (m :: ms) := fun ms m c => Int.mul_assoc c m (prodM ms)
theorem b5 (hl : ms.length ≤ 4) (hm : ∀ m, m ∈ ms → m.natAbs ≤ 42) (h : ∀ x7, E.nx [o0, o2, o3, o4, o5, some (.lst (ms.map .int)), o6, x7, o8, o9, o10, o11, o12, o13, some (.int (prodM ms)), o15, o16, o17, o18] M) :
  (wFor (wiSeq (wVar 5)) (wgN 7) (wSet 14 (wOp rMul (wVar 14) (wVar 7)))) [o0, o2, o3, o4, o5, some (.lst (ms.map .int)), o6, o7, o8, o9, o10, o11, o12, o13, some (.int 1), o15, o16, o17, o18] M E := by
 walk_at "w"
 refine forD_inv (fun ds ρ M' => ∃ (ns : List Int) (c : Int) (x7 : Option D), ds = ns.map .int ∧ M' = M ∧ c * prodM ns = prodM ms ∧ ns.length ≤ 4 ∧ (∀ m, m ∈ ns → m.natAbs ≤ 42) ∧ c.natAbs ≤ 42 ^ (4 - ns.length) ∧ ρ = [o0, o2, o3, o4, o5, some (.lst (ms.map .int)), o6, x7, o8, o9, o10, o11, o12, o13, some (.int c), o15, o16, o17, o18]) (fun _ _ _ _ => trivial) ?_ ?_ _ _ _ ⟨ms, 1, o7, rfl, rfl, Int.one_mul _, hl, hm, Nat.one_le_pow _ _ (by decide), rfl⟩
 ·rintro ρ M' ⟨ns, c, x7, hds, rfl, hp, _, _, _, rfl⟩
  cases ns with
  | cons _ _ => cases hds
  | nil =>
   rw [show c * prodM [] = c from Int.mul_one c] at hp
   rw [hp]
   exact h _
 ·rintro d r ρ M' nx ⟨ns, c, x7, hds, rfl, hp, hl, hm, hc, rfl⟩ hnx
  cases ns with
  | nil => cases hds
  | cons n ns =>
   cases hds
   have hn := hm n List.mem_cons_self
   rw [List.length_cons] at hl hc
   have hcn : (c * n).natAbs ≤ 42 ^ (4 - ns.length) := by
    rw [Int.natAbs_mul, show 4 - ns.length = (4 - (ns.length + 1)) + 1 by omega, Nat.pow_succ]
    exact Nat.mul_le_mul hc hn
   have hc4 : c.natAbs ≤ 42 ^ 4 := Nat.le_trans hc (Nat.pow_le_pow_right (by decide) (by omega))
   walk_at "w"
   refine ⟨mulOk_l (by omega) (by omega), ?_⟩
   exact hnx _ _ ⟨ns, c * n, _, rfl, rfl, by rw [prod_snoc]; exact hp, by omega, fun m h => hm m (List.mem_cons_of_mem _ h), hcn, rfl⟩
theorem b6 (hp : ms.length ≤ 4) (h : E.nx [o0, o2, o3, some (.int W), o4, some (.lst (ms.map .int)), some (.lst ((ms.filter fun m => decide (m < 1)).map .int)), o7, o8, o9, o10, some (DP.dueD (wrongM W ms)), o12, o13, some (.int (prodM ms)), o15, o16, o17, o18] M) :
  (wIfS (wTest (wOp rNe (wCB rLnX (wCons (wVar 5) wNil)) (wVar 3))) (wSet 11 (wTup (wCons (wC (.str "WrongDimension")) (wCons (wCB rLnX (wCons (wVar 5) wNil)) wNil)))) (wIfS (wTest (wOp rNe (wVar 6) (wLst wNil))) (wSet 11 (wTup (wCons (wC (.str "InvalidCount")) (wCons (wIx (wVar 6) (wC (.int 0))) wNil)))) (wIfS (wTest (wOp rGt (wVar 14) (wC (.int 40)))) (wSet 11 (wTup (wCons (wC (.str "TooLong")) (wCons (wC (.int 40)) wNil)))) wNext))) [o0, o2, o3, some (.int W), o4, some (.lst (ms.map .int)), some (.lst ((ms.filter fun m => decide (m < 1)).map .int)), o7, o8, o9, o10, some (.tup [.str "", .non]), o12, o13, some (.int (prodM ms)), o15, o16, o17, o18] M E := by
 walk_at "w"
 rw [List.length_map]
 unfold wrongM at h
 by_cases hl : ms.length = W
 ·rw [if_pos hl] at h
  rw [decide_eq_true (show (ms.length : Int) = W by omega)]
  have hf := List.head?_filter (p := fun m : Int => decide (m < 1)) (l := ms)
  cases hF : ms.filter fun m => decide (m < 1) with
  | nil =>
   rw [hF] at hf
   rw [← hf, hF] at h
   have h : E.nx [o0, o2, o3, some (.int W), o4, some (.lst (ms.map .int)), some (.lst (([] : List Int).map .int)), o7, o8, o9, o10, some (DP.dueD (if prodM ms > 40 then some ⟨"TooLong", "limit", .int 40⟩ else none)), o12, o13, some (.int (prodM ms)), o15, o16, o17, o18] M := h
   walk_at "w"
   refine ne_same (d := .lst []) (by decide) (by decide) ?_
   walk_at "w"
   by_cases h40 : prodM ms > 40
   ·rw [if_pos h40] at h
    rw [decide_eq_true (show 40 < prodM ms from h40)]
    exact h
   ·rw [if_neg h40] at h
    rw [decide_eq_false (show ¬ 40 < prodM ms from h40)]
    exact h
  | cons y r =>
   rw [hF] at hf
   rw [← hf, hF] at h
   have h : E.nx [o0, o2, o3, some (.int W), o4, some (.lst (ms.map .int)), some (.lst ((y :: r).map .int)), o7, o8, o9, o10, some (.tup [.str "InvalidCount", .int y]), o12, o13, some (.int (prodM ms)), o15, o16, o17, o18] M := h
   walk_at "w"
   refine rNeP_lays (show lays (D.lst ((y :: r).map .int)) = true from lays_ints _) (show lays (D.lst []) = true from rfl) ?_ (dep_lI _) (by decide)
   rw [eqD_nil]
   walk_at "w"
   rw [show atI ((y :: r).map D.int) 0 = some (.int y) from atI_cons0]
   exact h
 ·rw [if_neg hl] at h
  rw [decide_eq_false (show ¬ (ms.length : Int) = W by omega)]
  walk_at "w"
  rw [List.length_map]
  exact h
theorem b7 (hB : BoxAt M bx) (hW : W ≤ 3) (h : ∀ p M1, p.length = W → BoxAt M1 bx → DL.Off bx M M1 → E.nx [o0, some (.ref bx), o2, some (.int W), o4, o5, o6, o7, some (efO W (vzero W) (some p)), o9, o10, o11, o12, o13, o14, o15, o16, o17, o18] M1) :
  (wSet 8 (wCall (wfOf m_Effect_mark) 2 (wCons (wCall sp__spot 2 (wCons (wVar 1) (wCons (wVar 3) wNil))) (wCons (wC (.int 3)) wNil)))) [o0, some (.ref bx), o2, some (.int W), o4, o5, o6, o7, o8, o9, o10, o11, o12, o13, o14, o15, o16, o17, o18] M E := by
 walk_at "w"
 refine ⟨bx, W, rfl, by omega, by omega, hB, fun p M1 hp hb hB1 hO1 => ?_⟩
 have hp : p.length = W := by omega
 walk_at "w"
 rw [show m_Effect_mark [tI p, .int 3] = .ok (efO W (vzero W) (some p)) from emark_d (i := 3) (by omega) hp]
 exact h p M1 hp hB1 hO1
theorem b8 {p : List Int} (hT : M PT = some (.tab lamN)) (hW1 : 1 ≤ W) (hW : W ≤ 3) (hp : p.length = W) (hl : ms.length ≤ 4) (hm : ∀ m, m ∈ ms → m.natAbs ≤ 42) (h : ∀ M', Kp M M' → E.nx [o0, o2, o3, o4, o6, some (.lst (ms.map .int)), o5, o7, some (efO W (vzero W) (some p)), o9, o10, some (DP.dueD (wrongM W ms)), o12, o13, o14, o15, o16, o17, o18] M') :
  (wIfS (wTest (wOp rNe (wAsk PT lamN tbX clX rsX (wCall sp_residue_sums 2 (wCons (wVar 8) (wCons (wCB rTuple (wCons (wVar 5) wNil)) wNil)))) (wVar 11))) (wRet (wC (.bl false))) wNext) [o0, o2, o3, o4, o6, some (.lst (ms.map .int)), o5, o7, some (efO W (vzero W) (some p)), o9, o10, some (DP.dueD (wrongM W ms)), o12, o13, o14, o15, o16, o17, o18] M E := by
 walk_at "w"
 refine ⟨hT, ?_⟩
 walk_at "w"
 refine ⟨false, W, ms, vzero W, some p, rfl, hW1, by omega, by omega, (fun m h => Nat.le_trans (hm m h) (by decide)), (fun q h => by cases h; exact hp), ?_⟩
 obtain ⟨l1, l2⟩ := due_lays (W := W) (ms := ms)
 cases hw : wrongM W ms with
 | some e =>
  obtain ⟨h1, i, h2⟩ := wrong_in hw
  obtain ⟨e1, e2⟩ := hits _ h1
  rw [hw] at l1 l2 h
  refine ⟨some e.fl, .str e.nm, e.d, e1, e2, rfl, look2 (hitP_ok _ h1).2.2, ?_⟩
  walk_at "w"
  refine ne_same (d := DP.dueD (some e)) l1 (by omega) ?_
  exact h M fun _ _ h => h
 | none =>
  intro M1 hM1
  rw [hw] at l1 l2 h
  walk_at "w"
  refine ne_same (d := DP.dueD none) l1 (by omega) ?_
  exact h M1 hM1
theorem b9 {p : List Int} (hW1 : 1 ≤ W) (hW : W ≤ 3) (hp : p.length = W) (hl : ms.length ≤ 4) (hm : ∀ m, m ∈ ms → m.natAbs ≤ 42) (h : ∀ M', Kp M M' → E.nx [o0, o2, o3, o4, o6, some (.lst (ms.map .int)), o5, o7, some (efO W (vzero W) (some p)), o9, o10, some (DP.dueD (wrongM W ms)), o12, o13, o14, o15, o16, o17, o18] M') :
  (wIfS (wAnd (wTest (wOp rEq (wVar 11) (wTup (wCons (wC (.str "")) (wCons (wC .non) wNil))))) (wTest (wOp rNe (wLc (wiSeq (wCall sp_residue_sums 2 (wCons (wVar 8) (wCons (wVar 5) wNil)))) (wgTup 2 (wgCons (wgN 17) (wgCons (wgN 18) wgNil))) wYes (wVar 18) [17, 18]) (wLst (wCons (wC (.int 3)) wNil))))) (wRet (wC (.bl false))) wNext) [o0, o2, o3, o4, o6, some (.lst (ms.map .int)), o5, o7, some (efO W (vzero W) (some p)), o9, o10, some (DP.dueD (wrongM W ms)), o12, o13, o14, o15, o16, o17, o18] M E := by
 obtain ⟨l1, l2⟩ := due_lays (W := W) (ms := ms)
 have lo : lays okD = true := by decide +kernel
 have do_ : dep okD ≤ 64 := by decide
 walk_at "w"
 cases hw : wrongM W ms with
 | some e =>
  obtain ⟨h1, i, h2⟩ := wrong_in hw
  rw [hw] at l1 l2 h
  refine rEqP_lays l1 lo ?_ (by omega) do_
  have e0 : eqD (DP.dueD (some e)) okD = false := by
   obtain ⟨en, ef, ed⟩ := e
   cases h2
   show eqD (.tup [.str en, .int i]) (.tup [.str "", .non]) = false
   simp [eqD, pyOf, pyOfs, PyData.eqvAll, PyData.eqv]
  rw [e0]
  walk_at "w"
  exact h M fun _ _ h => h
 | none =>
  rw [hw] at l1 l2 h
  refine rEqP_lays l1 lo ?_ (by omega) do_
  rw [show eqD (DP.dueD none) okD = true from eqD_refl lo]
  walk_at "w"
  refine ⟨true, W, ms, vzero W, some p, rfl, hW1, by omega, by omega, (fun m h => Nat.le_trans (hm m h) (by decide)), (fun q h => by cases h; exact hp), ?_⟩
  rw [hw]
  intro M1 hM1
  walk_at "w"
  refine ⟨trivial, ?_⟩
  walk_at "w"
  refine ⟨trivial, ?_⟩
  walk_at "w"
  refine ne_same (d := .lst [.int 3]) (by decide +kernel) (by decide) ?_
  exact h M1 hM1
theorem b10 (hB : BoxAt M bx) (h : ∀ (v : Int) M1, v ≠ 0 → v.natAbs ≤ 10 ^ 12 → BoxAt M1 bx → DL.Off bx M M1 → E.nx [o0, some (.ref bx), o2, o3, o4, o5, o6, o7, o8, some (.int v), o10, o11, o12, o13, o14, o15, o16, o17, o18] M1) :
  (wSet 9 (wCall sp__any 2 (wCons (wVar 1) (wCons (wLst (wCons (wC (.int 39)) (wCons (wC (.int 40)) (wCons (wC (.int 41)) (wCons (wC (.int 42)) (wCons (wUn rNeg (wC (.int 40))) (wCons (wUn rNeg (wC (.int 41))) (wCons (wOp rPow (wC (.int 10)) (wC (.int 12))) wNil)))))))) wNil)))) [o0, some (.ref bx), o2, o3, o4, o5, o6, o7, o8, o9, o10, o11, o12, o13, o14, o15, o16, o17, o18] M E := by
 walk_at "w"
 refine ⟨⟨by decide, by decide, by decide⟩, ?_⟩
 walk_at "w"
 refine ⟨bx, _, _, rfl, rfl, by simp, by decide, hB, fun d M1 hd hB1 hO1 => ?_⟩
 obtain ⟨v, hv, rfl⟩ : ∃ v : Int, v ∈ ([39, 40, 41, 42, -40, -41, 10 ^ 12] : List Int) ∧ d = .int v := by
  have hd : d ∈ ([39, 40, 41, 42, -40, -41, 10 ^ 12] : List Int).map D.int := hd
  obtain ⟨v, hv, e⟩ := List.mem_map.mp hd
  exact ⟨v, hv, e.symm⟩
 have hv := (show ∀ v ∈ ([39, 40, 41, 42, -40, -41, 10 ^ 12] : List Int), v ≠ 0 ∧ v.natAbs ≤ 10 ^ 12 by decide) v hv
 exact h v M1 hv.1 hv.2 hB1 hO1
theorem go_eff {v : Int} : ∃ d, m_Trail_go [tI [v]] = .ok d ∧ (∀ M, insB "Trail" "effect" d M = true) ∧ (v.natAbs ≤ 10 ^ 13 → m_Trail_effect [d] = .ok (efO 1 [v] none)) := by
 refine ⟨_, go_d (W := 1) rfl, fun _ => rfl, fun hv => ?_⟩
 have T : TOk 1 (2 ^ 50) 0 0 ⟨1, [v], []⟩ := ⟨by show 1 ≤ 2 ^ 50; decide, rfl, fun x hx => by
  rw [List.mem_singleton.mp hx]
  exact Nat.le_trans hv (by decide), Nat.le_refl _, fun _ h => nomatch h⟩
 exact effect_d (by decide) (by decide) (by decide) (by decide) T
theorem b11 {v : Int} (hv : v.natAbs ≤ 10 ^ 12) (h : E.nx [o0, o2, o3, o4, o6, o1, o5, some (efO 1 [v] none), o8, some (.int v), o10, o11, o12, o13, o14, o15, o16, o17, o18] M) :
  (wSet 7 (wMeth "Trail" "effect" (wfOf m_Trail_effect) 1 (wCall (wfOf m_Trail_go) 1 (wCons (wTup (wCons (wVar 9) wNil)) wNil)) wNil)) [o0, o2, o3, o4, o6, o1, o5, o7, o8, some (.int v), o10, o11, o12, o13, o14, o15, o16, o17, o18] M E := by
 obtain ⟨d, e1, e2, e3⟩ := go_eff (v := v)
 walk_at "w"
 rw [show m_Trail_go [.tup [.int v]] = .ok d from e1]
 walk_at "w"
 rw [e2]
 walk_at "w"
 rw [e3 (by omega)]
 exact h
theorem b12 {v : Int} (hv : v.natAbs ≤ 10 ^ 12) (hB : BoxAt M bx) (h : ∀ u M1, BoxAt M1 bx → DL.Off bx M M1 → E.nx [o0, some (.ref bx), o3, o4, o6, o1, o5, o7, o8, some (.int v), some (efO 1 [u] none), o11, o12, o13, o14, o15, o16, o17, o18] M1) :
  (wSet 10 (wMeth "Trail" "effect" (wfOf m_Trail_effect) 1 (wCall (wfOf m_Trail_go) 1 (wCons (wTup (wCons (wCall sp__any 2 (wCons (wVar 1) (wCons (wLst (wCons (wVar 9) (wCons (wOp rSub (wVar 9) (wC (.int 1))) wNil))) wNil))) wNil)) wNil)) wNil)) [o0, some (.ref bx), o3, o4, o6, o1, o5, o7, o8, some (.int v), o10, o11, o12, o13, o14, o15, o16, o17, o18] M E := by
 walk_at "w"
 refine ⟨bx, _, _, rfl, rfl, by simp, (by show 2 ≤ 4096; decide), hB, fun d M1 hd hB1 hO1 => ?_⟩
 obtain ⟨u, hu, rfl⟩ : ∃ u : Int, u.natAbs ≤ 10 ^ 13 ∧ d = .int u := by
  rcases List.mem_cons.mp hd with rfl | hd
  ·exact ⟨v, by omega, rfl⟩
  ·rw [List.mem_singleton.mp hd]; exact ⟨v - 1, by omega, rfl⟩
 obtain ⟨t, e1, e2, e3⟩ := go_eff (v := u)
 walk_at "w"
 rw [show m_Trail_go [.tup [.int u]] = .ok t from e1]
 walk_at "w"
 rw [e2]
 walk_at "w"
 rw [e3 hu]
 exact h u M1 hB1 hO1
theorem shf {W : Nat} {s : List Int} {o : Option (List Int)} : m_Effect_shift [efO W s o] = .ok (tI s) ∧ ∀ M, insC "Effect" (efO W s o) M = true := ⟨by rw [m_Effect_shift_eq]; rfl, fun _ => rfl⟩
def dueO (v u : Int) : D := if v = u ∧ v.natAbs > 40 then .tup [.str "TooLong", .int 40] else okD
theorem dueO_lays (v u : Int) : lays (dueO v u) = true ∧ dep (dueO v u) ≤ 64 := by
 unfold dueO
 split
 ·exact ⟨by decide +kernel, by decide⟩
 ·exact ⟨by decide +kernel, by decide⟩
theorem b13 {v u : Int} (h : E.nx [o0, o2, o3, o4, o6, o1, o5, some (efO 1 [v] none), o8, some (.int v), some (efO 1 [u] none), some (dueO v u), o12, o13, o14, o15, o16, o17, o18] M) :
  (wSet 11 (wIf (wAnd (wTest (wOp rEq (wProp "Effect" m_Effect_shift (wVar 7)) (wProp "Effect" m_Effect_shift (wVar 10)))) (wTest (wOp rGt (wCB rAbs (wCons (wVar 9) wNil)) (wC (.int 40))))) (wTup (wCons (wC (.str "TooLong")) (wCons (wC (.int 40)) wNil))) (wTup (wCons (wC (.str "")) (wCons (wC .non) wNil))))) [o0, o2, o3, o4, o6, o1, o5, some (efO 1 [v] none), o8, some (.int v), some (efO 1 [u] none), o11, o12, o13, o14, o15, o16, o17, o18] M E := by
 obtain ⟨s1, i1⟩ := shf (W := 1) (s := [v]) (o := none)
 obtain ⟨s2, i2⟩ := shf (W := 1) (s := [u]) (o := none)
 generalize efO 1 [v] none = e1 at s1 i1 h ⊢
 generalize efO 1 [u] none = e2 at s2 i2 h ⊢
 walk_at "w"
 rw [i1]
 walk_at "w"
 rw [s1]
 walk_at "w"
 rw [i2]
 walk_at "w"
 rw [s2]
 refine rEqP_lays (lays_ints [v]) (lays_ints [u]) ?_ (dep_tI [v]) (dep_tI [u])
 rw [eqD_tI]
 unfold dueO at h
 by_cases hvu : v = u
 ·subst hvu
  rw [decide_eq_true rfl]
  walk_at "w"
  by_cases h40 : v.natAbs > 40
  ·rw [if_pos ⟨rfl, h40⟩] at h
   rw [decide_eq_true (show 40 < (if v < 0 then -v else v) by split <;> omega)]
   exact h
  ·rw [if_neg (fun z => h40 z.2)] at h
   rw [decide_eq_false (show ¬ 40 < (if v < 0 then -v else v) by split <;> omega)]
   exact h
 ·rw [if_neg (fun z => hvu z.1)] at h
  rw [decide_eq_false (fun z => hvu (by injection z))]
  exact h
theorem b14 {v u : Int} (hv : v ≠ 0) (hT : M PT = some (.tab lamN)) (h : ∀ M', Kp M M' → E.nx [o0, o2, o3, o4, o6, o1, o5, some (efO 1 [v] none), o8, o9, some (efO 1 [u] none), some (dueO v u), o12, o13, o14, o15, o16, o17, o18] M') :
  (wIfS (wTest (wOp rNe (wAsk PT lamN tbX clX rsX (wCall sp_offset 2 (wCons (wVar 7) (wCons (wVar 10) wNil)))) (wVar 11))) (wRet (wC (.bl false))) wNext) [o0, o2, o3, o4, o6, o1, o5, some (efO 1 [v] none), o8, o9, some (efO 1 [u] none), some (dueO v u), o12, o13, o14, o15, o16, o17, o18] M E := by
 obtain ⟨l1, l2⟩ := dueO_lays v u
 walk_at "w"
 refine ⟨hT, ?_⟩
 walk_at "w"
 refine ⟨1, 1, [v], [u], rfl, rfl, rfl, by decide, by decide, (fun _ e => hv (by injection e)), .inr (.inr ⟨rfl, rfl, ?_⟩)⟩
 obtain ⟨q1, q2⟩ := hits ("TooLong", "limit") (by decide +kernel)
 by_cases hvu : v = u
 ·subst hvu
  rw [if_pos rfl]
  show if v.natAbs > 40 then _ else _
  by_cases h40 : v.natAbs > 40
  ·rw [if_pos h40]
   have e0 : dueO v v = .tup [.str "TooLong", .int 40] := if_pos ⟨rfl, h40⟩
   rw [e0] at h l1 l2 ⊢
   refine ⟨some "limit", .str "TooLong", .int 40, q1, q2, rfl, rfl, ?_⟩
   walk_at "w"
   refine ne_same (d := .tup [.str "TooLong", .int 40]) l1 l2 ?_
   exact h M fun _ _ h => h
  ·rw [if_neg h40]
   have e0 : dueO v v = okD := if_neg fun z => h40 z.2
   rw [e0] at h l1 l2 ⊢
   intro M1 hM1
   walk_at "w"
   refine ne_same (d := okD) l1 l2 ?_
   exact h M1 hM1
 ·rw [if_neg (fun z => hvu (by injection z))]
  have e0 : dueO v u = okD := if_neg fun z => hvu z.1
  rw [e0] at h l1 l2 ⊢
  walk_at "w"
  refine ne_same (d := okD) l1 l2 ?_
  exact h M fun _ _ h => h
theorem b15 {v u : Int} (hv : v ≠ 0) (h : ∀ M', Kp M M' → E.nx [o0, o2, o3, o4, o6, o1, o5, some (efO 1 [v] none), o8, o9, some (efO 1 [u] none), o11, o12, o13, o14, o15, o16, o17, o18] M') :
  (wIfS (wAnd (wTest (wOp rNe (wProp "Effect" m_Effect_shift (wVar 7)) (wProp "Effect" m_Effect_shift (wVar 10)))) (wTest (wOp rIsNot (wCall sp_offset 2 (wCons (wVar 7) (wCons (wVar 10) wNil))) (wC .non)))) (wRet (wC (.bl false))) wNext) [o0, o2, o3, o4, o6, o1, o5, some (efO 1 [v] none), o8, o9, some (efO 1 [u] none), o11, o12, o13, o14, o15, o16, o17, o18] M E := by
 obtain ⟨s1, i1⟩ := shf (W := 1) (s := [v]) (o := none)
 obtain ⟨s2, i2⟩ := shf (W := 1) (s := [u]) (o := none)
 generalize hE1 : efO 1 [v] none = e1 at s1 i1 h ⊢
 generalize hE2 : efO 1 [u] none = e2 at s2 i2 h ⊢
 walk_at "w"
 rw [i1]
 walk_at "w"
 rw [s1]
 walk_at "w"
 rw [i2]
 walk_at "w"
 rw [s2]
 refine rNeP_lays (lays_ints [v]) (lays_ints [u]) ?_ (dep_tI [v]) (dep_tI [u])
 rw [eqD_tI]
 by_cases hvu : v = u
 ·subst hvu
  rw [decide_eq_true rfl]
  exact h M fun _ _ h => h
 ·rw [decide_eq_false (fun z => hvu (by injection z))]
  walk_at "w"
  refine ⟨1, 1, [v], [u], by rw [hE1, hE2], rfl, rfl, by decide, by decide, (fun _ e => hv (by injection e)), .inr (.inr ⟨rfl, rfl, ?_⟩)⟩
  rw [if_neg (fun z => hvu (by injection z))]
  walk_at "w"
  exact h M fun _ _ h => h
theorem b17 {v : Int} {n : Nat} (h1 : 2 ≤ n) (h2 : n ≤ 3) (hT : M PT = some (.tab lamN)) (h : E.nx [o0, o2, o3, o4, o6, o1, o5, some (efO 1 [v] none), o8, o9, o10, o11, some (.int n), none, o14, o15, o16, o17, o18] M) :
  (wLams PT lamN 13 (wSeq (wIfS (wTest (wOp rNe (wAskL tbX clX rsX [(wCall sp_offset 2 (wCons (wCall (wfOf m_Effect_still) 1 (wCons (wVar 12) wNil)) (wCons (wVar 7) wNil))), (wCall sp_offset 2 (wCons (wVar 7) (wCons (wCall (wfOf m_Effect_still) 1 (wCons (wVar 12) wNil)) wNil)))]) (wOp rMul (wLst (wCons (wTup (wCons (wC (.str "WrongDimension")) (wCons (wVar 12) wNil))) wNil)) (wC (.int 2))))) (wRet (wC (.bl false))) wNext) wNext)) [o0, o2, o3, o4, o6, o1, o5, some (efO 1 [v] none), o8, o9, o10, o11, some (.int n), o13, o14, o15, o16, o17, o18] M E := by
 obtain ⟨q1, q2⟩ := hits ("WrongDimension", "given") (by decide +kernel)
 have es : m_Effect_still [.int n] = .ok (efO n (vzero n) none) := estill_d (by omega)
 have hz : (vzero n).length = n := by simp [vzero]
 walk_at "w"
 refine ⟨hT, ?_⟩
 walk_at "w"
 rw [es]
 walk_at "w"
 refine ⟨n, 1, vzero n, [v], rfl, hz, rfl, by omega, by decide, (fun e => by have := congrArg List.length e; rw [hz] at this; have : n = 1 := this; omega), .inl ⟨by omega, ?_⟩⟩
 refine ⟨some "given", .str "WrongDimension", .int n, q1, q2, rfl, rfl, ?_⟩
 walk_at "w"
 rw [es]
 walk_at "w"
 refine ⟨1, n, [v], vzero n, rfl, rfl, hz, by decide, by omega, (fun e => by have := congrArg List.length e; rw [hz] at this; have : 1 = n := this; omega), .inr (.inl ⟨rfl, by omega, ?_⟩)⟩
 refine ⟨some "given", .str "WrongDimension", .int n, q1, q2, rfl, rfl, ?_⟩
 walk_at "w"
 refine ⟨⟨by decide, by decide, by show 1 ≤ 1000; decide⟩, ?_⟩
 have lt : lays (.tup [.str "WrongDimension", .int n]) = true := by
  show (PyData.strOk "WrongDimension" && (true && true)) = true
  decide +kernel
 refine ne_same (d := .lst [.tup [.str "WrongDimension", .int n], .tup [.str "WrongDimension", .int n]]) (by show (lays _ && (lays _ && true)) = true; rw [lt]; rfl) (by show 2 ≤ 64; decide) ?_
 exact h
theorem box_tab {q : Str} {a : Addr} (hB : BoxAt M bx) (h : M a = some (.tab q)) : a ≠ bx := fun e => by
 obtain ⟨_, _, _, _, h2, _⟩ := hB
 rw [← e, h] at h2
 cases h2
theorem box_kp (h : BoxAt M bx) (hM : ∀ o, M bx = some o → M' bx = some o) : BoxAt M' bx := by
 obtain ⟨q1, q2, q3, q4, q5, q6⟩ := h
 exact ⟨q1, q2, q3, q4, hM _ q5, q6⟩
structure Inv (M : MH) (bx PT : Addr) : Prop where
 box : BoxAt M bx
 tab : M PT = some (.tab lamN)
theorem Inv.kp (I : Inv M bx PT) (h : Kp M M') : Inv M' bx PT := ⟨box_kp I.box (h _), h _ _ I.tab⟩
theorem Inv.off (I : Inv M bx PT) (hB : BoxAt M' bx) (hO : DL.Off bx M M') : Inv M' bx PT := ⟨hB, by rw [hO PT (box_tab I.box I.tab)]; exact I.tab⟩
theorem law_step (I : Inv M bx PT) (h : ∀ M' x3 x4 x5 x6 x7 x8 x9 x10 x11 x12 x13 x14 x15 x16 x17 x18, Inv M' bx PT → E.nx [o0, some (.ref bx), o2, x3, x4, x5, x6, x7, x8, x9, x10, x11, x12, x13, x14, x15, x16, x17, x18] M') :
  (wSeq (wSet 3 (wOp rAdd (wC (.int 1)) (wCall sp__draw 2 (wCons (wVar 1) (wCons (wC (.int 3)) wNil))))) (wSeq (wSet 4 (wLst (wCons (wC (.int 1)) (wCons (wC (.int 2)) (wCons (wC (.int 3)) (wCons (wC (.int 13)) (wCons (wC (.int 14)) (wCons (wC (.int 20)) (wCons (wC (.int 21)) (wCons (wC (.int 39)) (wCons (wC (.int 40)) (wCons (wC (.int 41)) (wCons (wC (.int 42)) (wCons (wC (.int 0)) (wCons (wUn rNeg (wC (.int 1))) wNil))))))))))))))) (wSeq (wSet 5 (wLc (wiR1 (wOp rAdd (wC (.int 1)) (wCall sp__draw 2 (wCons (wVar 1) (wCons (wC (.int 4)) wNil))))) (wgN 15) wYes (wCall sp__any 2 (wCons (wVar 1) (wCons (wVar 4) wNil))) [15])) (wSeq (wAsg (wTup (wCons (wTup (wCons (wC (.str "")) (wCons (wC .non) wNil))) (wCons (wC (.int 1)) wNil))) (wgTup 2 (wgCons (wgN 11) (wgCons (wgN 14) wgNil)))) (wSeq (wSet 6 (wLc (wiSeq (wVar 5)) (wgN 7) (wTest (wOp rLt (wVar 7) (wC (.int 1)))) (wVar 7) [7])) (wSeq (wFor (wiSeq (wVar 5)) (wgN 7) (wSet 14 (wOp rMul (wVar 14) (wVar 7)))) (wSeq (wIfS (wTest (wOp rNe (wCB rLnX (wCons (wVar 5) wNil)) (wVar 3))) (wSet 11 (wTup (wCons (wC (.str "WrongDimension")) (wCons (wCB rLnX (wCons (wVar 5) wNil)) wNil)))) (wIfS (wTest (wOp rNe (wVar 6) (wLst wNil))) (wSet 11 (wTup (wCons (wC (.str "InvalidCount")) (wCons (wIx (wVar 6) (wC (.int 0))) wNil)))) (wIfS (wTest (wOp rGt (wVar 14) (wC (.int 40)))) (wSet 11 (wTup (wCons (wC (.str "TooLong")) (wCons (wC (.int 40)) wNil)))) wNext))) (wSeq (wSet 8 (wCall (wfOf m_Effect_mark) 2 (wCons (wCall sp__spot 2 (wCons (wVar 1) (wCons (wVar 3) wNil))) (wCons (wC (.int 3)) wNil)))) (wSeq (wIfS (wTest (wOp rNe (wAsk PT lamN tbX clX rsX (wCall sp_residue_sums 2 (wCons (wVar 8) (wCons (wCB rTuple (wCons (wVar 5) wNil)) wNil)))) (wVar 11))) (wRet (wC (.bl false))) wNext) (wSeq (wIfS (wAnd (wTest (wOp rEq (wVar 11) (wTup (wCons (wC (.str "")) (wCons (wC .non) wNil))))) (wTest (wOp rNe (wLc (wiSeq (wCall sp_residue_sums 2 (wCons (wVar 8) (wCons (wVar 5) wNil)))) (wgTup 2 (wgCons (wgN 17) (wgCons (wgN 18) wgNil))) wYes (wVar 18) [17, 18]) (wLst (wCons (wC (.int 3)) wNil))))) (wRet (wC (.bl false))) wNext) (wSeq (wSet 9 (wCall sp__any 2 (wCons (wVar 1) (wCons (wLst (wCons (wC (.int 39)) (wCons (wC (.int 40)) (wCons (wC (.int 41)) (wCons (wC (.int 42)) (wCons (wUn rNeg (wC (.int 40))) (wCons (wUn rNeg (wC (.int 41))) (wCons (wOp rPow (wC (.int 10)) (wC (.int 12))) wNil)))))))) wNil)))) (wSeq (wSet 7 (wMeth "Trail" "effect" (wfOf m_Trail_effect) 1 (wCall (wfOf m_Trail_go) 1 (wCons (wTup (wCons (wVar 9) wNil)) wNil)) wNil)) (wSeq (wSet 10 (wMeth "Trail" "effect" (wfOf m_Trail_effect) 1 (wCall (wfOf m_Trail_go) 1 (wCons (wTup (wCons (wCall sp__any 2 (wCons (wVar 1) (wCons (wLst (wCons (wVar 9) (wCons (wOp rSub (wVar 9) (wC (.int 1))) wNil))) wNil))) wNil)) wNil)) wNil)) (wSeq (wSet 11 (wIf (wAnd (wTest (wOp rEq (wProp "Effect" m_Effect_shift (wVar 7)) (wProp "Effect" m_Effect_shift (wVar 10)))) (wTest (wOp rGt (wCB rAbs (wCons (wVar 9) wNil)) (wC (.int 40))))) (wTup (wCons (wC (.str "TooLong")) (wCons (wC (.int 40)) wNil))) (wTup (wCons (wC (.str "")) (wCons (wC .non) wNil))))) (wSeq (wIfS (wTest (wOp rNe (wAsk PT lamN tbX clX rsX (wCall sp_offset 2 (wCons (wVar 7) (wCons (wVar 10) wNil)))) (wVar 11))) (wRet (wC (.bl false))) wNext) (wSeq (wIfS (wAnd (wTest (wOp rNe (wProp "Effect" m_Effect_shift (wVar 7)) (wProp "Effect" m_Effect_shift (wVar 10)))) (wTest (wOp rIsNot (wCall sp_offset 2 (wCons (wVar 7) (wCons (wVar 10) wNil))) (wC .non)))) (wRet (wC (.bl false))) wNext) (wSeq (wSet 12 (wOp rAdd (wC (.int 2)) (wCall sp__draw 2 (wCons (wVar 1) (wCons (wC (.int 2)) wNil))))) (wLams PT lamN 13 (wSeq (wIfS (wTest (wOp rNe (wAskL tbX clX rsX [(wCall sp_offset 2 (wCons (wCall (wfOf m_Effect_still) 1 (wCons (wVar 12) wNil)) (wCons (wVar 7) wNil))), (wCall sp_offset 2 (wCons (wVar 7) (wCons (wCall (wfOf m_Effect_still) 1 (wCons (wVar 12) wNil)) wNil)))]) (wOp rMul (wLst (wCons (wTup (wCons (wC (.str "WrongDimension")) (wCons (wVar 12) wNil))) wNil)) (wC (.int 2))))) (wRet (wC (.bl false))) wNext) wNext))))))))))))))))))) [o0, some (.ref bx), o2, o3, o4, o5, o6, o7, o8, o9, o10, o11, o12, o13, o14, o15, o16, o17, o18] M E := by
 refine seq_all fun n hn _ _ _ => ?_
 walk_at "w"
 refine ⟨_, _, rfl, by decide, by decide, I.box, fun v M1 v0 v1 hB1 hO1 => ?_⟩
 obtain ⟨W, hW⟩ : ∃ W : Nat, (1 : Int) + v = W := ⟨(1 + v).toNat, by omega⟩
 have hW1 : 1 ≤ W := by omega
 have hW3 : W ≤ 3 := by omega
 walk_at "w"
 rw [hW]
 refine hn _ _ ?_
 clear hn
 have I1 := I.off hB1 hO1
 refine seq_all fun n hn _ _ _ => ?_
 walk_at "w"
 refine hn _ _ ?_
 clear hn
 refine seq_all fun n hn _ _ _ => ?_
 refine b2 I1.box fun ms M2 hl hm hB2 hO2 => ?_
 refine hn _ _ ?_
 clear hn
 have I2 := I1.off hB2 hO2
 refine seq_all fun n hn _ _ _ => ?_
 walk_at "w"
 refine hn _ _ ?_
 clear hn
 refine seq_all fun n hn _ _ _ => ?_
 refine b4 ?_
 refine hn _ _ ?_
 clear hn
 refine seq_all fun n hn _ _ _ => ?_
 refine b5 hl hm fun x7 => ?_
 refine hn _ _ ?_
 clear hn
 refine seq_all fun n hn _ _ _ => ?_
 refine b6 hl ?_
 refine hn _ _ ?_
 clear hn
 refine seq_all fun n hn _ _ _ => ?_
 refine b7 I2.box hW3 fun p M3 hp hB3 hO3 => ?_
 refine hn _ _ ?_
 clear hn
 have I3 := I2.off hB3 hO3
 refine seq_all fun n hn _ _ _ => ?_
 refine b8 I3.tab hW1 hW3 hp hl hm fun M4 hK4 => ?_
 refine hn _ _ ?_
 clear hn
 have I4 := I3.kp hK4
 refine seq_all fun n hn _ _ _ => ?_
 refine b9 hW1 hW3 hp hl hm fun M5 hK5 => ?_
 refine hn _ _ ?_
 clear hn
 have I5 := I4.kp hK5
 refine seq_all fun n hn _ _ _ => ?_
 refine b10 I5.box fun v M6 hv hv2 hB6 hO6 => ?_
 refine hn _ _ ?_
 clear hn
 have I6 := I5.off hB6 hO6
 refine seq_all fun n hn _ _ _ => ?_
 refine b11 hv2 ?_
 refine hn _ _ ?_
 clear hn
 refine seq_all fun n hn _ _ _ => ?_
 refine b12 hv2 I6.box fun u M7 hB7 hO7 => ?_
 refine hn _ _ ?_
 clear hn
 have I7 := I6.off hB7 hO7
 refine seq_all fun n hn _ _ _ => ?_
 refine b13 ?_
 refine hn _ _ ?_
 clear hn
 refine seq_all fun n hn _ _ _ => ?_
 refine b14 hv I7.tab fun M8 hK8 => ?_
 refine hn _ _ ?_
 clear hn
 have I8 := I7.kp hK8
 refine seq_all fun n hn _ _ _ => ?_
 refine b15 hv fun M9 hK9 => ?_
 refine hn _ _ ?_
 clear hn
 have I9 := I8.kp hK9
 refine seq_all fun n hn _ _ _ => ?_
 walk_at "w"
 refine ⟨_, _, rfl, by decide, by decide, I9.box, fun w M10 w0 w1 hB10 hO10 => ?_⟩
 obtain ⟨k, hk⟩ : ∃ k : Nat, (2 : Int) + w = k := ⟨(2 + w).toNat, by omega⟩
 walk_at "w"
 rw [hk]
 refine hn _ _ ?_
 clear hn
 have I10 := I9.off hB10 hO10
 exact b17 (by omega) (by omega) I10.tab (h _ _ _ _ _ _ _ _ _ _ _ _ _ _ _ _ _ I10)
end
theorem hw_law (PT : Addr) (ds : List D) (M : MH) (k : KD) (x : KE) (hl : ds.length = 1) (h : sp_lawT PT lamN ds M k x) : w_law PT (startD N_law ds) M (retE k x) := by
 obtain ⟨cells, rfl, hl, hM0, hk⟩ := h
 have hT0 : M PT = some (.tab lamN) := by rw [hM0]; exact if_pos rfl
 unfold w_law
 refine seq_all fun n h _ hrt _ => ?_
 walk_at "w"
 refine ⟨_, rfl, hl, fun bx M1 ha hB hO => ?_⟩
 have hT1 : M1 PT = some (.tab lamN) := by rw [hO PT (fun e => by rw [e, ha] at hT0; cases hT0)]; exact hT0
 refine h _ _ ?_
 clear h
 refine seq_all fun n h _ hrt _ => ?_
 walk_at "w"
 refine ⟨by decide, by decide, ?_⟩
 refine forD_inv (fun ds ρ M' => ∃ o2 x3 x4 x5 x6 x7 x8 x9 x10 x11 x12 x13 x14 x15 x16 x17 x18, Inv M' bx PT ∧ ρ = [some (.scr cells), some (.ref bx), o2, x3, x4, x5, x6, x7, x8, x9, x10, x11, x12, x13, x14, x15, x16, x17, x18])
   (fun _ _ _ _ => trivial) (fun ρ M' hJ => ?_) (fun d r ρ M' nx hJ hn => ?_) _ _ _ ⟨_, _, _, _, _, _, _, _, _, _, _, _, _, _, _, _, _, ⟨hB, hT1⟩, rfl⟩
 ·obtain ⟨o2, x3, x4, x5, x6, x7, x8, x9, x10, x11, x12, x13, x14, x15, x16, x17, x18, I, rfl⟩ := hJ
  refine h _ _ ?_
  walk_at "w"
  exact Lt.now (hk M')
 ·obtain ⟨o2, x3, x4, x5, x6, x7, x8, x9, x10, x11, x12, x13, x14, x15, x16, x17, x18, I, rfl⟩ := hJ
  dsimp only [wgN, List.set_cons_zero, List.set_cons_succ]
  exact law_step I fun M' x3 x4 x5 x6 x7 x8 x9 x10 x11 x12 x13 x14 x15 x16 x17 x18 J => hn _ _ ⟨_, _, _, _, _, _, _, _, _, _, _, _, _, _, _, _, _, J, rfl⟩
end K31
namespace K31
open PySem PySem.Spec PyProof.Rows L2 DL _root_.DM LamX _root_.DP.RsM
open _root_.DP hiding m_residue m_residue_eq M_residue N_residue m_period m_period_eq M_period N_period residue_d per_loop period_d sp_strewn N_strewn w_strewn hw_strewn sp_residue_sums N_residue_sums w_residue_sums hw_residue_sums
theorem sci_InvalidCount : FnScope ["self", "number"] ["self", "number"] (defScope ini_InvalidCount) := ⟨rfl, rfl, rfl, by decide +kernel, rfl, by decide +kernel, by decide +kernel⟩
theorem sci_TooLong : FnScope ["self", "limit"] ["self", "limit"] (defScope ini_TooLong) := ⟨rfl, rfl, rfl, by decide +kernel, rfl, by decide +kernel, by decide +kernel⟩
theorem sci_WrongDimension : FnScope ["self", "given"] ["self", "given"] (defScope ini_WrongDimension) := ⟨rfl, rfl, rfl, by decide +kernel, rfl, by decide +kernel, by decide +kernel⟩
theorem facts {P : Program} {w : World} {K : PySem.W.Frag} {h : Heap} {mg : Str → Option Value} (X : K.In h) (G : h.Ns mainGlobals mg) (c : He.SaysD hfaL hfnL K) (ca : He5.SaysA [] hfpL K) (hx0 : exB K = true) :
  ∃ fd : FuncData, (∀ (s : Shared) (v : Value), BindsTo s fd ⟨[v], []⟩ [("_law_script", v)]) ∧ ∀ (base : Heap) (PT : Addr), K.In base → base.Ns mainGlobals mg → TabB base mg (He.codeOf K ("law", none)) PT → FnOk P w K mg base (L2N.CX P w) 9 (He.ga K "law") fd ["_law_script"] (spD K 1 (sp_lawT PT lamN)) := by
 obtain ⟨hx, hpx⟩ := Bool.and_eq_true_iff.mp hx0
 obtain ⟨hpx, hsx⟩ := Bool.and_eq_true_iff.mp hpx
 obtain ⟨htx, hsx⟩ := Bool.and_eq_true_iff.mp hsx
 obtain ⟨fd_origin, E_origin⟩ := c.def_ 0 (d := dd_origin) rfl
 obtain ⟨fd_add, E_add⟩ := c.def_ 1 (d := dd_add) rfl
 obtain ⟨fd_scale, E_scale⟩ := c.def_ 2 (d := dd_scale) rfl
 obtain ⟨fd_opposite, E_opposite⟩ := c.def_ 3 (d := dd_opposite) rfl
 obtain ⟨fd_is_forward, E_is_forward⟩ := c.def_ 4 (d := dd_is_forward) rfl
 obtain ⟨fd_residue, E_residue⟩ := c.def_ 5 (d := dd_residue) rfl
 obtain ⟨fd_forward_loop, E_forward_loop⟩ := c.def_ 6 (d := dd_forward_loop) rfl
 obtain ⟨fd_term_of, E_term_of⟩ := c.def_ 7 (d := dd_term_of) rfl
 obtain ⟨fd_period, E_period⟩ := c.def_ 8 (d := dd_period) rfl
 obtain ⟨fd_strewn, E_strewn⟩ := c.def_ 9 (d := dd_strewn) rfl
 obtain ⟨fd_check_moduli, E_check_moduli⟩ := c.def_ 10 (d := dd_check_moduli) rfl
 obtain ⟨fd__a_box, E__a_box⟩ := c.def_ 11 (d := dd__a_box) rfl
 obtain ⟨fd__draw, E__draw⟩ := c.def_ 12 (d := dd__draw) rfl
 obtain ⟨fd__any, E__any⟩ := c.def_ 13 (d := dd__any) rfl
 obtain ⟨fd__refused, E__refused⟩ := c.def_ 14 (d := dd__refused) rfl
 obtain ⟨fd__spot, E__spot⟩ := c.def_ 15 (d := dd__spot) rfl
 obtain ⟨fd_Effect___init__, E_Effect___init__⟩ := c.def_ 16 (d := dd_Effect___init__) rfl
 obtain ⟨fd_Effect_still, E_Effect_still⟩ := ca.def_ 0 (d := dd_Effect_still) rfl
 obtain ⟨fd_Effect_mark, E_Effect_mark⟩ := ca.def_ 1 (d := dd_Effect_mark) rfl
 obtain ⟨fd_Effect_dimension, E_Effect_dimension⟩ := ca.def_ 2 (d := dd_Effect_dimension) rfl
 obtain ⟨fd_Effect_shift, E_Effect_shift⟩ := ca.def_ 3 (d := dd_Effect_shift) rfl
 obtain ⟨fd_Effect_terms, E_Effect_terms⟩ := c.def_ 17 (d := dd_Effect_terms) rfl
 obtain ⟨fd_residue_sums, E_residue_sums⟩ := c.def_ 18 (d := dd_residue_sums) rfl
 obtain ⟨fd_rotation, E_rotation⟩ := c.def_ 19 (d := dd_rotation) rfl
 obtain ⟨fd_offset, E_offset⟩ := c.def_ 20 (d := dd_offset) rfl
 obtain ⟨fd_Trail___init__, E_Trail___init__⟩ := c.def_ 21 (d := dd_Trail___init__) rfl
 obtain ⟨fd_Trail_go, E_Trail_go⟩ := ca.def_ 4 (d := dd_Trail_go) rfl
 obtain ⟨fd_Trail_effect, E_Trail_effect⟩ := c.def_ 22 (d := dd_Trail_effect) rfl
 obtain ⟨fd_law, E_law⟩ := c.def_ 23 (d := dd_law) rfl
 obtain ⟨fx_InvalidCount, EX_InvalidCount⟩ := c.def_ 24 (d := dx_InvalidCount) rfl
 obtain ⟨fx_TooLong, EX_TooLong⟩ := c.def_ 25 (d := dx_TooLong) rfl
 obtain ⟨fx_WrongDimension, EX_WrongDimension⟩ := c.def_ 26 (d := dx_WrongDimension) rfl
 have B : Bl mg := ⟨He.free_ok X G (c.fact 35 (f := .free "abs") rfl), He.free_ok X G (c.fact 36 (f := .free "all") rfl), He.free_ok X G (c.fact 37 (f := .free "divmod") rfl), He.free_ok X G (c.fact 38 (f := .free "int") rfl), He.free_ok X G (c.fact 39 (f := .free "len") rfl), He.free_ok X G (c.fact 40 (f := .free "list") rfl), He.free_ok X G (c.fact 41 (f := .free "range") rfl), He.free_ok X G (c.fact 42 (f := .free "sorted") rfl), He.free_ok X G (c.fact 43 (f := .free "tuple") rfl), He.free_ok X G (c.fact 44 (f := .free "zip") rfl), He.int_ok X G (c.fact 45 (f := .int "MAX_CLASSES" 40) rfl)⟩
 have hC : ∀ c ∈ csX, mg c = some (.ref (He.ga K c)) := by
  intro z hz
  simp only [csX, List.mem_cons, List.not_mem_nil, or_false] at hz
  rcases hz with rfl | rfl | rfl | rfl | rfl | rfl | rfl | rfl | rfl | rfl | rfl | rfl | rfl | rfl | rfl | rfl | rfl | rfl | rfl | rfl
  ·exact He.glo_ok X G (c.fact 52 (f := .glo "CapacityExceeded") rfl)
  ·exact He.glo_ok X G (c.fact 53 (f := .glo "Circular") rfl)
  ·exact He.glo_ok X G (c.fact 54 (f := .glo "DuplicateName") rfl)
  ·exact He.glo_ok X G (c.fact 55 (f := .glo "InUse") rfl)
  ·exact He.glo_ok X G (c.fact 56 (f := .glo "InvalidBeat") rfl)
  ·exact He.glo_ok X G (c.fact 57 (f := .glo "InvalidBlock") rfl)
  ·exact He.glo_ok X G (c.fact 58 (f := .glo "InvalidCommand") rfl)
  ·exact He.glo_ok X G (c.fact 46 (f := .glo "InvalidCount") rfl)
  ·exact He.glo_ok X G (c.fact 59 (f := .glo "InvalidName") rfl)
  ·exact He.glo_ok X G (c.fact 60 (f := .glo "InvalidPlace") rfl)
  ·exact He.glo_ok X G (c.fact 61 (f := .glo "NothingLeft") rfl)
  ·exact He.glo_ok X G (c.fact 62 (f := .glo "Overload") rfl)
  ·exact He.glo_ok X G (c.fact 63 (f := .glo "ParseError") rfl)
  ·exact He.glo_ok X G (c.fact 64 (f := .glo "Tangled") rfl)
  ·exact He.glo_ok X G (c.fact 65 (f := .glo "TooDeep") rfl)
  ·exact He.glo_ok X G (c.fact 48 (f := .glo "TooLong") rfl)
  ·exact He.glo_ok X G (c.fact 66 (f := .glo "TooMany") rfl)
  ·exact He.glo_ok X G (c.fact 67 (f := .glo "UnknownName") rfl)
  ·exact He.glo_ok X G (c.fact 68 (f := .glo "UnknownWalker") rfl)
  ·exact He.glo_ok X G (c.fact 50 (f := .glo "WrongDimension") rfl)
 refine ⟨fd_law, fun s v => FunD.bindsA (ps := ["_law_script"]) E_law (fun _ _ _ _ _ _ us hl => match us, hl with | [_], _ => rfl) s [v] rfl, fun base PT _ _ TB => ?_⟩
 have A_Effect_ground : AtF K "Effect" "ground" := ⟨He.cls_ok (c.fact 17 (f := .cls "Effect") rfl), He.noat_ok (c.fact 28 (f := .noat "Effect" "ground") rfl)⟩
 have A_Effect_rows : AtF K "Effect" "rows" := ⟨He.cls_ok (c.fact 17 (f := .cls "Effect") rfl), He.noat_ok (c.fact 29 (f := .noat "Effect" "rows") rfl)⟩
 have A_Effect_way : AtF K "Effect" "way" := ⟨He.cls_ok (c.fact 17 (f := .cls "Effect") rfl), He.noat_ok (c.fact 30 (f := .noat "Effect" "way") rfl)⟩
 have A_Trail_ground : AtF K "Trail" "ground" := ⟨He.cls_ok (c.fact 24 (f := .cls "Trail") rfl), He.noat_ok (c.fact 31 (f := .noat "Trail" "ground") rfl)⟩
 have A_Trail_length : AtF K "Trail" "length" := ⟨He.cls_ok (c.fact 24 (f := .cls "Trail") rfl), He.noat_ok (c.fact 32 (f := .noat "Trail" "length") rfl)⟩
 have A_Trail_rows : AtF K "Trail" "rows" := ⟨He.cls_ok (c.fact 24 (f := .cls "Trail") rfl), He.noat_ok (c.fact 33 (f := .noat "Trail" "rows") rfl)⟩
 have A_Trail_way : AtF K "Trail" "way" := ⟨He.cls_ok (c.fact 24 (f := .cls "Trail") rfl), He.noat_ok (c.fact 34 (f := .noat "Trail" "way") rfl)⟩
 have X_InvalidCount : ExD P w K mg base "InvalidCount" "number" "InvalidCount" 1 := ex_of hx (by decide +kernel) (He.meth_ok (c.fact 47 (f := .meth "InvalidCount" "__init__") rfl)) (He5.fun_of (st := ini_InvalidCount) (kws := []) EX_InvalidCount) sci_InvalidCount rfl ⟨by first | exact Or.inl rfl | exact Or.inr (Or.inl rfl) | exact Or.inr (Or.inr rfl), by first | exact Or.inl rfl | exact Or.inr (Or.inl rfl) | exact Or.inr (Or.inr rfl)⟩ (by decide) (by decide) (He.glo_ok X G (c.fact 46 (f := .glo "InvalidCount") rfl)) (fun _ _ _ _ _ _ us hl => match us, hl with | [_, _], _ => rfl)
 have X_TooLong : ExD P w K mg base "TooLong" "limit" "TooLong" 1 := ex_of hx (by decide +kernel) (He.meth_ok (c.fact 49 (f := .meth "TooLong" "__init__") rfl)) (He5.fun_of (st := ini_TooLong) (kws := []) EX_TooLong) sci_TooLong rfl ⟨by first | exact Or.inl rfl | exact Or.inr (Or.inl rfl) | exact Or.inr (Or.inr rfl), by first | exact Or.inl rfl | exact Or.inr (Or.inl rfl) | exact Or.inr (Or.inr rfl)⟩ (by decide) (by decide) (He.glo_ok X G (c.fact 48 (f := .glo "TooLong") rfl)) (fun _ _ _ _ _ _ us hl => match us, hl with | [_, _], _ => rfl)
 have X_WrongDimension : ExD P w K mg base "WrongDimension" "given" "WrongDimension" 1 := ex_of hx (by decide +kernel) (He.meth_ok (c.fact 51 (f := .meth "WrongDimension" "__init__") rfl)) (He5.fun_of (st := ini_WrongDimension) (kws := []) EX_WrongDimension) sci_WrongDimension rfl ⟨by first | exact Or.inl rfl | exact Or.inr (Or.inl rfl) | exact Or.inr (Or.inr rfl), by first | exact Or.inl rfl | exact Or.inr (Or.inl rfl) | exact Or.inr (Or.inr rfl)⟩ (by decide) (by decide) (He.glo_ok X G (c.fact 50 (f := .glo "WrongDimension") rfl)) (fun _ _ _ _ _ _ us hl => match us, hl with | [_, _], _ => rfl)
 have F_origin : Fun K "origin" "origin" s_origin (He.ga K "origin") fd_origin := He5.fun_of (st := s_origin) (kws := []) E_origin
 have m_origin_ := He.glo_ok X G (c.fact 0 (f := .glo "origin") rfl)
 have G_origin : FnD P w K mg base "origin" 1 1 (wfOf m_origin) := ok_origin B F_origin m_origin_ m_origin_eq
 have F_add : Fun K "add" "add" s_add (He.ga K "add") fd_add := He5.fun_of (st := s_add) (kws := []) E_add
 have m_add_ := He.glo_ok X G (c.fact 1 (f := .glo "add") rfl)
 have G_add : FnV P w K mg base "add" 1 1 (wfOf m_add) := ok_add B F_add m_add_ m_add_eq
 have F_scale : Fun K "scale" "scale" s_scale (He.ga K "scale") fd_scale := He5.fun_of (st := s_scale) (kws := []) E_scale
 have m_scale_ := He.glo_ok X G (c.fact 2 (f := .glo "scale") rfl)
 have G_scale : FnD P w K mg base "scale" 1 2 (wfOf m_scale) := ok_scale B F_scale m_scale_ m_scale_eq
 have F_opposite : Fun K "opposite" "opposite" s_opposite (He.ga K "opposite") fd_opposite := He5.fun_of (st := s_opposite) (kws := []) E_opposite
 have m_opposite_ := He.glo_ok X G (c.fact 3 (f := .glo "opposite") rfl)
 have G_opposite : FnD P w K mg base "opposite" 2 1 (wfOf m_opposite) := ok_opposite B G_scale F_opposite m_opposite_ m_opposite_eq
 have F_is_forward : Fun K "is_forward" "is_forward" s_is_forward (He.ga K "is_forward") fd_is_forward := He5.fun_of (st := s_is_forward) (kws := []) E_is_forward
 have m_is_forward_ := He.glo_ok X G (c.fact 4 (f := .glo "is_forward") rfl)
 have G_is_forward : FnD P w K mg base "is_forward" 1 1 (wfOf m_is_forward) := ok_is_forward B F_is_forward m_is_forward_ m_is_forward_eq
 have F_residue : Fun K "residue" "residue" s_residue (He.ga K "residue") fd_residue := He5.fun_of (st := s_residue) (kws := []) E_residue
 have m_residue_ := He.glo_ok X G (c.fact 5 (f := .glo "residue") rfl)
 have G_residue : FnD P w K mg base "residue" 1 2 (wfOf m_residue) := ok_residue B F_residue m_residue_ m_residue_eq
 have F_forward_loop : Fun K "forward_loop" "forward_loop" s_forward_loop (He.ga K "forward_loop") fd_forward_loop := He5.fun_of (st := s_forward_loop) (kws := []) E_forward_loop
 have m_forward_loop_ := He.glo_ok X G (c.fact 6 (f := .glo "forward_loop") rfl)
 have G_forward_loop : FnD P w K mg base "forward_loop" 3 3 (wfOf m_forward_loop) := ok_forward_loop B G_add G_is_forward G_opposite G_scale F_forward_loop m_forward_loop_ m_forward_loop_eq
 have F_term_of : Fun K "term_of" "term_of" s_term_of (He.ga K "term_of") fd_term_of := He5.fun_of (st := s_term_of) (kws := []) E_term_of
 have m_term_of_ := He.glo_ok X G (c.fact 7 (f := .glo "term_of") rfl)
 have G_term_of : FnD P w K mg base "term_of" 4 3 (wfOf m_term_of) := ok_term_of B G_forward_loop G_origin F_term_of m_term_of_ m_term_of_eq
 have F_period : Fun K "period" "period" s_period (He.ga K "period") fd_period := He5.fun_of (st := s_period) (kws := []) E_period
 have m_period_ := He.glo_ok X G (c.fact 8 (f := .glo "period") rfl)
 have G_period : FnD P w K mg base "period" 2 2 (wfOf m_period) := ok_period B G_origin G_residue G_scale F_period m_period_ m_period_eq
 have F_strewn : Fun K "strewn" "strewn" s_strewn (He.ga K "strewn") fd_strewn := He5.fun_of (st := s_strewn) (kws := []) E_strewn
 have m_strewn_ := He.glo_ok X G (c.fact 9 (f := .glo "strewn") rfl)
 have G_strewn : FnD P w K mg base "strewn" 3 3 sp_strewn := ok_strewn sp_strewn B G_add G_period G_residue G_scale F_strewn m_strewn_ hw_strewn
 have F_check_moduli : Fun K "check_moduli" "check_moduli" s_check_moduli (He.ga K "check_moduli") fd_check_moduli := He5.fun_of (st := s_check_moduli) (kws := []) E_check_moduli
 have m_check_moduli_ := He.glo_ok X G (c.fact 10 (f := .glo "check_moduli") rfl)
 have G_check_moduli : FnD P w K mg base "check_moduli" 3 2 (wfOf m_check_moduli) := ok_check_moduli B X_InvalidCount X_TooLong X_WrongDimension F_check_moduli m_check_moduli_ m_check_moduli_eq
 have F__a_box : Fun K "_law_a_box" "_law_a_box" s__a_box (He.ga K "_law_a_box") fd__a_box := He5.fun_of (st := s__a_box) (kws := []) E__a_box
 have m__a_box_ := He.glo_ok X G (c.fact 11 (f := .glo "_law_a_box") rfl)
 have G__a_box : FnD P w K mg base "_law_a_box" 1 1 sp__a_box := ok__a_box sp__a_box B F__a_box m__a_box_ DL.hw__a_box
 have F__draw : Fun K "_law_draw" "_law_draw" s__draw (He.ga K "_law_draw") fd__draw := He5.fun_of (st := s__draw) (kws := []) E__draw
 have m__draw_ := He.glo_ok X G (c.fact 12 (f := .glo "_law_draw") rfl)
 have G__draw : FnD P w K mg base "_law_draw" 1 2 sp__draw := ok__draw sp__draw B F__draw m__draw_ DL.hw__draw
 have F__any : Fun K "_law_any" "_law_any" s__any (He.ga K "_law_any") fd__any := He5.fun_of (st := s__any) (kws := []) E__any
 have m__any_ := He.glo_ok X G (c.fact 13 (f := .glo "_law_any") rfl)
 have G__any : FnD P w K mg base "_law_any" 2 2 sp__any := ok__any sp__any B G__draw F__any m__any_ DL.hw__any
 have F__refused : Fun K "_law_refused" "_law_refused" s__refused (He.ga K "_law_refused") fd__refused := He5.fun_of (st := s__refused) (kws := []) E__refused
 have m__refused_ := He.glo_ok X G (c.fact 14 (f := .glo "_law_refused") rfl)
 have AF : AskF K mg "_law_refused" "_law_ask" s__refused N__refused tbX clX rsX := ⟨⟨_, _, F__refused, m__refused_⟩, sc__refused, ⟨rfl, Or.inl rfl⟩, (fun _ _ _ _ _ _ us hl => match us, hl with | [_], _ => rfl), (fun X0 g0 cd0 q0 e1 e2 => by subst e1; subst e2; exact gives__refused hx hC), fun p hp => (excsB_one hx hp).2⟩
 have F__spot : Fun K "_law_spot" "_law_spot" s__spot (He.ga K "_law_spot") fd__spot := He5.fun_of (st := s__spot) (kws := []) E__spot
 have m__spot_ := He.glo_ok X G (c.fact 15 (f := .glo "_law_spot") rfl)
 have G__spot : FnD P w K mg base "_law_spot" 2 2 sp__spot := ok__spot sp__spot B G__draw F__spot m__spot_ hw__spot
 have F_Effect___init__ : Fun K "__init__" "Effect.__init__" s_Effect___init__ (He.ma K (He.ga K "Effect") "__init__") fd_Effect___init__ := He5.fun_of (st := s_Effect___init__) (kws := []) E_Effect___init__
 have G_Effect___init__ : MakeD P w K mg base "Effect" 1 3 m_Effect___init__ := ok_Effect___init__ B A_Effect_ground A_Effect_rows A_Effect_way F_Effect___init__ (He.mkr_ok (c.fact 18 (f := .mkr "Effect") rfl)) (He.glo_ok X G (c.fact 16 (f := .glo "Effect") rfl)) m_Effect___init___eq
 have F_Effect_still : Fun K "still" "Effect.still" s_Effect_still (wfS K "Effect" "still") fd_Effect_still := He5.fun_of (st := s_Effect_still) (kws := []) E_Effect_still
 have G_Effect_still : StatD P w K base mg "Effect" "still" 3 1 (wfOf m_Effect_still) := ok_Effect_still B G_Effect___init__ G_origin F_Effect_still (He.glo_ok X G (c.fact 16 (f := .glo "Effect") rfl)) (statsB_one htx (by decide +kernel)) m_Effect_still_eq
 have F_Effect_mark : Fun K "mark" "Effect.mark" s_Effect_mark (wfS K "Effect" "mark") fd_Effect_mark := He5.fun_of (st := s_Effect_mark) (kws := []) E_Effect_mark
 have G_Effect_mark : StatD P w K base mg "Effect" "mark" 3 2 (wfOf m_Effect_mark) := ok_Effect_mark B G_Effect___init__ G_origin F_Effect_mark (He.glo_ok X G (c.fact 16 (f := .glo "Effect") rfl)) (statsB_one htx (by decide +kernel)) m_Effect_mark_eq
 have F_Effect_dimension : Fun K "dimension" "Effect.dimension" s_Effect_dimension (wfP K "Effect" "dimension") fd_Effect_dimension := He5.fun_of (st := s_Effect_dimension) (kws := []) E_Effect_dimension
 have G_Effect_dimension : PropD P w K base mg "Effect" "dimension" 1 m_Effect_dimension := ok_Effect_dimension B A_Effect_ground F_Effect_dimension (He.cls_ok (c.fact 17 (f := .cls "Effect") rfl)) (propsB_one hpx (by decide +kernel)) m_Effect_dimension_eq
 have F_Effect_shift : Fun K "shift" "Effect.shift" s_Effect_shift (wfP K "Effect" "shift") fd_Effect_shift := He5.fun_of (st := s_Effect_shift) (kws := []) E_Effect_shift
 have G_Effect_shift : PropD P w K base mg "Effect" "shift" 1 m_Effect_shift := ok_Effect_shift B A_Effect_way F_Effect_shift (He.cls_ok (c.fact 17 (f := .cls "Effect") rfl)) (propsB_one hpx (by decide +kernel)) m_Effect_shift_eq
 have F_Effect_terms : Fun K "terms" "Effect.terms" s_Effect_terms (He.ma K (He.ga K "Effect") "terms") fd_Effect_terms := He5.fun_of (st := s_Effect_terms) (kws := []) E_Effect_terms
 have G_Effect_terms : MethD P w K base mg "Effect" "terms" 1 1 (wfOf m_Effect_terms) := ok_Effect_terms B A_Effect_rows F_Effect_terms (He.cls_ok (c.fact 17 (f := .cls "Effect") rfl)) (He.meth_ok (c.fact 19 (f := .meth "Effect" "terms") rfl)) m_Effect_terms_eq
 have F_residue_sums : Fun K "residue_sums" "residue_sums" s_residue_sums (He.ga K "residue_sums") fd_residue_sums := He5.fun_of (st := s_residue_sums) (kws := []) E_residue_sums
 have m_residue_sums_ := He.glo_ok X G (c.fact 20 (f := .glo "residue_sums") rfl)
 have G_residue_sums : FnD P w K mg base "residue_sums" 4 2 sp_residue_sums := ok_residue_sums sp_residue_sums B G_Effect_dimension G_Effect_terms G_check_moduli G_residue G_strewn F_residue_sums m_residue_sums_ hw_residue_sums
 have F_rotation : Fun K "rotation" "rotation" s_rotation (He.ga K "rotation") fd_rotation := He5.fun_of (st := s_rotation) (kws := []) E_rotation
 have m_rotation_ := He.glo_ok X G (c.fact 21 (f := .glo "rotation") rfl)
 have G_rotation : FnD P w K mg base "rotation" 5 3 sp_rotation := ok_rotation sp_rotation B G_residue_sums F_rotation m_rotation_ hw_rotation
 have F_offset : Fun K "offset" "offset" s_offset (He.ga K "offset") fd_offset := He5.fun_of (st := s_offset) (kws := []) E_offset
 have m_offset_ := He.glo_ok X G (c.fact 22 (f := .glo "offset") rfl)
 have G_offset : FnD P w K mg base "offset" 6 2 sp_offset := ok_offset sp_offset B G_Effect_dimension G_Effect_shift G_rotation X_TooLong X_WrongDimension F_offset m_offset_ hw_offset
 have F_Trail___init__ : Fun K "__init__" "Trail.__init__" s_Trail___init__ (He.ma K (He.ga K "Trail") "__init__") fd_Trail___init__ := He5.fun_of (st := s_Trail___init__) (kws := []) E_Trail___init__
 have G_Trail___init__ : MakeD P w K mg base "Trail" 1 4 m_Trail___init__ := ok_Trail___init__ B A_Trail_ground A_Trail_length A_Trail_rows A_Trail_way F_Trail___init__ (He.mkr_ok (c.fact 25 (f := .mkr "Trail") rfl)) (He.glo_ok X G (c.fact 23 (f := .glo "Trail") rfl)) m_Trail___init___eq
 have F_Trail_go : Fun K "go" "Trail.go" s_Trail_go (wfS K "Trail" "go") fd_Trail_go := He5.fun_of (st := s_Trail_go) (kws := []) E_Trail_go
 have G_Trail_go : StatD P w K base mg "Trail" "go" 3 1 (wfOf m_Trail_go) := ok_Trail_go B G_Trail___init__ F_Trail_go (He.glo_ok X G (c.fact 23 (f := .glo "Trail") rfl)) (statsB_one htx (by decide +kernel)) m_Trail_go_eq
 have F_Trail_effect : Fun K "effect" "Trail.effect" s_Trail_effect (He.ma K (He.ga K "Trail") "effect") fd_Trail_effect := He5.fun_of (st := s_Trail_effect) (kws := []) E_Trail_effect
 have G_Trail_effect : MethD P w K base mg "Trail" "effect" 5 1 (wfOf m_Trail_effect) := ok_Trail_effect B G_Effect___init__ G_term_of A_Trail_ground A_Trail_rows A_Trail_way F_Trail_effect (He.cls_ok (c.fact 24 (f := .cls "Trail") rfl)) (He.meth_ok (c.fact 26 (f := .meth "Trail" "effect") rfl)) m_Trail_effect_eq
 have F_law : Fun K "law" "law" s_law (He.ga K "law") fd_law := He5.fun_of (st := s_law) (kws := []) E_law
 have m_law_ := He.glo_ok X G (c.fact 27 (f := .glo "law") rfl)
 exact okl_law (sp_lawT PT lamN) B G_Effect_mark G_Effect_shift G_Effect_still G_Trail_effect G_Trail_go G__a_box G__any G__draw G__spot G_offset G_residue_sums AF TB F_law (hw_law PT)
end K31
open PySem PySem.W PySem.Calls PyProof.Rows
theorem PySem.Challenge.cw_strewfar_k31_residues_refused_holds : PySem.Challenge.rw_strewfar_k31_residues_refused.Holds := by
 w_on; o_law
 refine HandSHeadRun.head_any (r := OpenLaw.row PySem.Challenge.rw_strewfar_k31_residues_refused) (q := view (OpenLaw.row PySem.Challenge.rw_strewfar_k31_residues_refused).prog [78]) (H := K31.hk) (ob := K31.ob) (M := 12000) (loose := K31.loose) (d := HandSHeadRun.topDef (OpenLaw.row PySem.Challenge.rw_strewfar_k31_residues_refused).prog 78) (kwd := []) K31.ob_eq
  (by kernel_rfl) (fun s => by kernel_rfl) K31.run (by kernel_rfl) (by kernel_rfl) (by kernel_rfl) (by rfl) (by first | assumption | decide +kernel) (by decide +kernel) ⟨rfl, rfl, rfl, rfl, rfl, by decide +kernel⟩ ?hw ?hc
 case hw => w_witness2
 case hc =>
  refine DL.walk_ofTT (l := PySem.Challenge.rw_strewfar_k31_residues_refused) (k := 9) (x := "_law_script") rfl (by kernel_rfl) ⟨rfl, by decide, by decide⟩ ?F
  intro w mg fa h Y G hmg0
  obtain ⟨K, KX, c0⟩ := Y
  have c := c0.x
  have hmg : mg ("law" : PySem.Str) = some (.ref fa) := by
   have e : (HandSHeadRun.topDef (OpenLaw.row PySem.Challenge.rw_strewfar_k31_residues_refused).prog 78).name = ("law" : PySem.Str) := by kernel_rfl
   rw [← e]
   exact hmg0
  have e2 := hmg.symm.trans (He.glo_ok KX G (c.t.d.fact 27 (f := .glo "law") rfl))
  cases e2
  obtain ⟨fd, hb, hF⟩ := K31.facts (P := (PySem.Challenge.rw_strewfar_k31_residues_refused).prog) (w := w) KX G c.t.d c0.a c.more
  exact ⟨K, fd, (He.cT K ("law", none)).1, (He.cT K ("law", none)).2, K31.lamN, KX, c.empty _ List.mem_cons_self, c.out _ List.mem_cons_self, c.hd _ List.mem_cons_self, hb, fun base h1 h2 h3 => hF base _ h1 h2 h3⟩

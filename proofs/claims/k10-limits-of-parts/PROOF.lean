import PyProof.Rows.All
import Wide.All
import OpenK.AllK
import Wide.FinOn
import HandS.ForMost
import HandS.Exc
import HandS.ExcOwn
import HandS.ExcInit
import HandS.TryOnly
import HandS.TryMany
import HandS.WordsExc
import HandS.Wide
import HandS.Walk
import HandS.IsInst
import HandS.TupAny
import HandS.TupMul
import HandS.Star
import HandS.Zip
import HandS.Lambda
import HandS.HeadHook1
import HandS.NoneIn
import HandS.Style
import HandS.Sort
import HandS.Text
import KE.KStateDown
import HandS.Head0
import HandS.Head1
import HandS.Head2
import HandS.HeadEnd
import HandS.HeadHook2
import HandS.HeadNt
import HandS.Deep
import PyProof.Rows.MatchSeqLen
import PyProof.SliceList
import HandS.Dict
import PyProof.WalkInts
import PyProof.MinMaxWalk
import HandS.SortKw
import HandS.ExcField
import KE.KTryMore
import HandS.HeadWalk
import HandS.HeadHook4
import HandS.Iter
import HandS.WordsDict
import HandS.TupLen
import HandS.More
import HandS.Zip0
import HandS.Property
import HandS.DictComp
import HandS.Conv
import PySem.Challenge.RW_strewfar_k10_limits_of_parts
set_option Elab.async false
set_option linter.all false
set_option maxRecDepth 100000
set_option maxHeartbeats 8000000
/-! A data layer over the hand layer: values as data, a frozen part F and a mutable part M of the heap; each construct a transformer of wishes. -/
namespace DL
open PySem PySem.Spec PyProof.Rows L2

/-- built-in classes -/
inductive Ty where
  | int | bool | str | tuple | list | dict
def Ty.name : Ty → String
  | .int => "int" | .bool => "bool" | .str => "str" | .tuple => "tuple" | .list => "list" | .dict => "dict"
/-- data -/
inductive D where
  | non | bl (b : Bool) | int (i : Int) | str (x : Str) | ref (a : Addr) | ty (n : Ty)
  | tup (xs : List D) | lst (xs : List D)
  /-- the script: a list of ints that is only read -/
  | scr (ns : List Int)
  /-- a dict whose keys are texts, or tuples of ints; an instance of the class named C: none is written any more -/
  | dct (ks : List Str) (xs : List D) | dcT (ks : List (List Int)) (xs : List D) | obj (C : Str) (ks : List Str) (xs : List D)
  /-- a dict whose keys are texts and that is locked: it may be walked -/
  | dcl (ks : List Str) (xs : List D)

def kvz (ks : List Str) (xs : List V) : List (Key × V) := (ks.zip xs).map fun p => (Sum.inr p.1, p.2)
def kvt (ks : List (List Int)) (xs : List V) : List (List Key × V) := (ks.zip xs).map fun p => (p.1.map Sum.inl, p.2)
mutual
inductive Rep (K : PySem.W.Frag) (F : Hp) : V → D → Prop
  | non : Rep K F .non .non
  | bl (b : Bool) : Rep K F (.bl b) (.bl b)
  | int (i : Int) : Rep K F (.int i) (.int i)
  | str (x : Str) : Rep K F (.str x) (.str x)
  | ref (a : Addr) : Rep K F (.ref a) (.ref a)
  | ty (n : Ty) : Rep K F (.ty n.name) (.ty n)
  | tup {a : Addr} {xs : List V} {ds : List D} : SqT K F a xs → Reps K F xs ds → ds.length ≤ sizeLine → Rep K F (.ref a) (.tup ds)
  | lst {a : Addr} {xs : List V} {ds : List D} : F a = some (.lst xs) → Reps K F xs ds → ds.length ≤ sizeLine → Rep K F (.ref a) (.lst ds)
  | scr {a : Addr} {ns : List Int} : SqL K F a (ns.map V.int) → Rep K F (.ref a) (.scr ns)
  | dct {a : Addr} {ks : List Str} {xs : List V} {ds : List D} : F a = some (.dK (kvz ks xs)) → Reps K F xs ds → ks.length = ds.length → ds.length ≤ sizeLine → Rep K F (.ref a) (.dct ks ds)
  | dcl {a : Addr} {o : Obj} {ks : List Str} {xs : List V} {ds : List D} : F a = some (.frz o (.dK (kvz ks xs))) → Reps K F xs ds → ks.length = ds.length → ds.length ≤ sizeLine → Rep K F (.ref a) (.dcl ks ds)
  | dcT {a : Addr} {ks : List (List Int)} {xs : List V} {ds : List D} : F a = some (.dT (kvt ks xs)) → Reps K F xs ds → ks.length = ds.length → ds.length ≤ sizeLine → Rep K F (.ref a) (.dcT ks ds)
  | obj {a dx : Addr} {C : Str} {ks : List Str} {xs : List V} {ds : List D} : F a = some (.ins (He.ga K C) dx (ks.zip xs)) → Reps K F xs ds → ks.length = ds.length → Rep K F (.ref a) (.obj C ks ds)
inductive Reps (K : PySem.W.Frag) (F : Hp) : List V → List D → Prop
  | nil : Reps K F [] []
  | cons {v : V} {vs : List V} {d : D} {ds : List D} : Rep K F v d → Reps K F vs ds → Reps K F (v :: vs) (d :: ds)
end

theorem seqT {K : PySem.W.Frag} {H H' : Hp} {a : Addr} {xs : List V} (e : Same H H') (h : SqT K H a xs) : SqT K H' a xs := by
  rcases h with (h | ⟨o, h⟩) | h
  · exact .inl (.inl (e _ _ h))
  · exact .inl (.inr ⟨o, e _ _ h⟩)
  · exact .inr h

section
variable {K : PySem.W.Frag} {F F' : Hp}
mutual
theorem Rep.mono (e : Same F F') : ∀ {v : V} {d : D}, Rep K F v d → Rep K F' v d
  | _, _, .non => .non
  | _, _, .bl b => .bl b
  | _, _, .int i => .int i
  | _, _, .str x => .str x
  | _, _, .ref a => .ref a
  | _, _, .ty n => .ty n
  | _, _, .tup h r l => .tup (seqT e h) (Reps.mono e r) l
  | _, _, .lst h r l => .lst (e _ _ h) (Reps.mono e r) l
  | _, _, .scr h => .scr (e.seq h)
  | _, _, .dct h r l z => .dct (e _ _ h) (Reps.mono e r) l z
  | _, _, .dcT h r l z => .dcT (e _ _ h) (Reps.mono e r) l z
  | _, _, .dcl h r l z => .dcl (e _ _ h) (Reps.mono e r) l z
  | _, _, .obj h r l => .obj (e _ _ h) (Reps.mono e r) l
theorem Reps.mono (e : Same F F') : ∀ {vs : List V} {ds : List D}, Reps K F vs ds → Reps K F' vs ds
  | _, _, .nil => .nil
  | _, _, .cons h r => .cons (Rep.mono e h) (Reps.mono e r)
end
theorem Reps.length : ∀ {vs : List V} {ds : List D}, Reps K F vs ds → vs.length = ds.length
  | _, _, .nil => rfl
  | _, _, .cons _ r => congrArg (· + 1) (Reps.length r)
theorem Reps.get : ∀ {vs : List V} {ds : List D} {i : Nat} {d : D}, Reps K F vs ds → ds[i]? = some d → ∃ v, vs[i]? = some v ∧ Rep K F v d
  | _, _, _, _, .nil, e => by simp at e
  | _, _, 0, _, .cons h _, e => by simp at e; subst e; exact ⟨_, rfl, h⟩
  | _, _, i + 1, _, .cons _ r, e => by
    obtain ⟨v, h1, h2⟩ := Reps.get (i := i) r (by simpa using e)
    exact ⟨v, by simpa using h1, h2⟩
theorem Reps.getV : ∀ {vs : List V} {ds : List D} {i : Nat} {v : V}, Reps K F vs ds → vs[i]? = some v → ∃ d, ds[i]? = some d ∧ Rep K F v d
  | _, _, _, _, .nil, e => by simp at e
  | _, _, 0, _, .cons h _, e => by simp at e; subst e; exact ⟨_, rfl, h⟩
  | _, _, i + 1, _, .cons _ r, e => by
    obtain ⟨v, h1, h2⟩ := Reps.getV (i := i) r (by simpa using e)
    exact ⟨v, by simpa using h1, h2⟩
theorem Reps.append : ∀ {vs ws : List V} {ds es : List D}, Reps K F vs ds → Reps K F ws es → Reps K F (vs ++ ws) (ds ++ es)
  | _, _, _, _, .nil, q => q
  | _, _, _, _, .cons h r, q => .cons h (Reps.append r q)
theorem Reps.snoc {vs : List V} {v : V} {ds : List D} {d : D} (h : Reps K F vs ds) (q : Rep K F v d) : Reps K F (vs ++ [v]) (ds ++ [d]) := h.append (.cons q .nil)
theorem Reps.take : ∀ (n : Nat) {vs : List V} {ds : List D}, Reps K F vs ds → Reps K F (vs.take n) (ds.take n)
  | 0, _, _, _ => .nil
  | _ + 1, _, _, .nil => .nil
  | n + 1, _, _, .cons h r => .cons h (Reps.take n r)
theorem Reps.drop : ∀ (n : Nat) {vs : List V} {ds : List D}, Reps K F vs ds → Reps K F (vs.drop n) (ds.drop n)
  | 0, _, _, r => r
  | _ + 1, _, _, .nil => .nil
  | n + 1, _, _, .cons _ r => Reps.drop n r
theorem Reps.reverse : ∀ {vs : List V} {ds : List D}, Reps K F vs ds → Reps K F vs.reverse ds.reverse
  | _, _, .nil => .nil
  | _, _, .cons h r => by
    rw [List.reverse_cons, List.reverse_cons]
    exact (Reps.reverse r).snoc h
theorem Reps.set : ∀ {vs : List V} {ds : List D} {v : V} {d : D} (i : Nat), Reps K F vs ds → Rep K F v d → Reps K F (vs.set i v) (ds.set i d)
  | _, _, _, _, _, .nil, _ => .nil
  | _, _, _, _, 0, .cons _ r, q => .cons q r
  | _, _, _, _, i + 1, .cons h r, q => .cons h (Reps.set i r q)
theorem Reps.rep : ∀ (n : Nat) {vs : List V} {ds : List D}, Reps K F vs ds → Reps K F (List.replicate n vs).flatten (List.replicate n ds).flatten
  | 0, _, _, _ => .nil
  | n + 1, _, _, r => by
    rw [List.replicate_succ, List.replicate_succ, List.flatten_cons, List.flatten_cons]
    exact r.append (Reps.rep n r)
theorem Reps.ints : ∀ {vs : List V} {ns : List Int}, Reps K F vs (ns.map D.int) → vs = ns.map V.int
  | _, [], .nil => rfl
  | _, n :: ns, .cons h r => by
    cases h
    rw [Reps.ints r]
    rfl
theorem Reps.bls : ∀ {vs : List V} {ns : List Bool}, Reps K F vs (ns.map D.bl) → vs = ns.map V.bl
  | _, [], .nil => rfl
  | _, n :: ns, .cons h r => by
    cases h
    rw [Reps.bls r]
    rfl
theorem Reps.strs : ∀ {vs : List V} {ns : List Str}, Reps K F vs (ns.map D.str) → vs = ns.map V.str
  | _, [], .nil => rfl
  | _, n :: ns, .cons h r => by
    cases h
    rw [Reps.strs r]
    rfl
theorem Reps.of_ints : ∀ (ns : List Int), Reps K F (ns.map V.int) (ns.map D.int)
  | [] => .nil
  | n :: ns => .cons (.int n) (Reps.of_ints ns)
theorem Reps.of_strs : ∀ (ns : List Str), Reps K F (ns.map V.str) (ns.map D.str)
  | [] => .nil
  | n :: ns => .cons (.str n) (Reps.of_strs ns)
end

/-! ### the mutable part -/
inductive MO where
  | lst (ds : List D)
  /-- a dict whose keys are texts; an instance; a table of code objects -/
  | dct (ks : List Str) (ds : List D) | dcT (ks : List (List Int)) (ds : List D) | ins (C : Str) (ks : List Str) (ds : List D) | tab (q : Str)
abbrev MH := Addr → Option MO
def mupd (M : MH) (a : Addr) (o : MO) : MH := fun b => if b = a then some o else M b
def mdel (M : MH) (a : Addr) : MH := fun b => if b = a then none else M b
theorem mupd_same {M : MH} {a : Addr} {o : MO} : mupd M a o a = some o := if_pos rfl
theorem mupd_ne {M : MH} {a b : Addr} {o : MO} (h : b ≠ a) : mupd M a o b = M b := if_neg h
theorem mdel_same {M : MH} {a : Addr} : mdel M a a = none := if_pos rfl
theorem mdel_ne {M : MH} {a b : Addr} (h : b ≠ a) : mdel M a b = M b := if_neg h
/-- a part of it -/
def Sub (M M' : MH) : Prop := ∀ a o, M a = some o → M' a = some o
theorem Sub.refl (M : MH) : Sub M M := fun _ _ h => h
theorem Sub.trans {M M1 M2 : MH} (a : Sub M M1) (b : Sub M1 M2) : Sub M M2 := fun c o h => b c o (a c o h)

def RepO (K : PySem.W.Frag) (F : Hp) : MO → HO → Prop
  | .lst ds, o => ∃ xs, o = .lst xs ∧ Reps K F xs ds ∧ ds.length ≤ sizeLine
  | .dct ks ds, o => ∃ xs, o = .dK (kvz ks xs) ∧ Reps K F xs ds ∧ ks.length = ds.length ∧ ds.length ≤ sizeLine
  | .dcT ks ds, o => ∃ xs, o = .dT (kvt ks xs) ∧ Reps K F xs ds ∧ ks.length = ds.length ∧ ds.length ≤ sizeLine
  | .ins C ks ds, o => ∃ dx xs, o = .ins (He.ga K C) dx (ks.zip xs) ∧ Reps K F xs ds ∧ ks.length = ds.length
  | .tab q, o => ∃ ps : Array Value, o = .tbl ps ∧ TriplesOk ps.toList ∧ ∀ (pos : Pos) (cv : Value), codeAmong pos ps.toList = some cv → ∃ c, cv = .ref c ∧ F c = some (LamX.CodeO c q)
theorem RepO.mono {K : PySem.W.Frag} {F F' : Hp} (e : Same F F') : ∀ {m : MO} {o : HO}, RepO K F m o → RepO K F' m o
  | .lst _, _, ⟨xs, h, r, l⟩ => ⟨xs, h, r.mono e, l⟩
  | .dct _ _, _, ⟨xs, h, r, l, z⟩ => ⟨xs, h, r.mono e, l, z⟩
  | .dcT _ _, _, ⟨xs, h, r, l, z⟩ => ⟨xs, h, r.mono e, l, z⟩
  | .ins _ _ _, _, ⟨dx, xs, h, r, l⟩ => ⟨dx, xs, h, r.mono e, l⟩
  | .tab _, _, ⟨ps, h, t, c⟩ => ⟨ps, h, t, fun p v q => let ⟨a, h1, h2⟩ := c p v q; ⟨a, h1, e _ _ h2⟩⟩
/-- what a mutable thing is, frozen -/
def frzD : MO → Option D
  | .lst ds => some (.lst ds) | .dct ks ds => some (.dct ks ds) | .dcT ks ds => some (.dcT ks ds) | .ins C ks ds => some (.obj C ks ds) | .tab _ => none
theorem RepO.frz {K : PySem.W.Frag} {F F' : Hp} {a : Addr} {o : HO} {d : D} : ∀ {m : MO}, frzD m = some d → RepO K F m o → Same F F' → F' a = some o → Rep K F' (.ref a) d
  | .lst _, e, ⟨xs, h, r, l⟩, s, g => by cases e; subst h; exact .lst g (r.mono s) l
  | .dct _ _, e, ⟨xs, h, r, l, z⟩, s, g => by cases e; subst h; exact .dct g (r.mono s) l z
  | .dcT _ _, e, ⟨xs, h, r, l, z⟩, s, g => by cases e; subst h; exact .dcT g (r.mono s) l z
  | .ins _ _ _, e, ⟨dx, xs, h, r, l⟩, s, g => by cases e; subst h; exact .obj g (r.mono s) l
  | .tab _, e, _, _, _ => by cases e

structure RepS (K : PySem.W.Frag) (H F : Hp) (M : MH) : Prop where
  fz : Same F H
  mu : ∀ a m, M a = some m → F a = none ∧ ∃ o, H a = some o ∧ RepO K F m o
/-- from one state to a later one: what is frozen stays, what is neither frozen nor told of stays untouched -/
structure Ext (H F : Hp) (M : MH) (H' F' : Hp) (M' : MH) : Prop where
  sm : Same F F'
  fr : ∀ a o, H a = some o → F a = none → M a = none → H' a = some o ∧ F' a = none ∧ M' a = none
theorem Ext.refl (H F : Hp) (M : MH) : Ext H F M H F M := ⟨Same.refl F, fun _ _ a b c => ⟨a, b, c⟩⟩
theorem Ext.trans {H F : Hp} {M : MH} {H1 F1 : Hp} {M1 : MH} {H2 F2 : Hp} {M2 : MH} (a : Ext H F M H1 F1 M1) (b : Ext H1 F1 M1 H2 F2 M2) : Ext H F M H2 F2 M2 :=
  ⟨a.sm.trans b.sm, fun c o h1 h2 h3 => let ⟨q1, q2, q3⟩ := a.fr c o h1 h2 h3; b.fr c o q1 q2 q3⟩

section
variable {K : PySem.W.Frag} {H F : Hp} {M : MH} {a : Addr}
theorem RepS.fno (S : RepS K H F M) (h : H a = none) : F a = none := S.fz.free h
theorem RepS.mno (S : RepS K H F M) (h : H a = none) : M a = none := by
  cases e : M a with
  | none => rfl
  | some m =>
    obtain ⟨_, o, q, _⟩ := S.mu a m e
    rw [h] at q
    cases q
/-- a new frozen object -/
theorem RepS.lay (S : RepS K H F M) (h : H a = none) (o : HO) : RepS K (upd H a o) (upd F a o) M ∧ Ext H F M (upd H a o) (upd F a o) M := by
  have hf := S.fno h
  have hm := S.mno h
  have sF : Same F (upd F a o) := fun b u q => by rw [upd_ne (ne_of_none q hf)]; exact q
  refine ⟨⟨fun b u q => ?_, fun b m q => ?_⟩, sF, fun b u q1 q2 q3 => ?_⟩
  · by_cases hb : b = a
    · subst hb; rw [upd_same] at q ⊢; exact q
    · rw [upd_ne hb] at q ⊢; exact S.fz b u q
  · have hb : b ≠ a := fun z => by rw [z, hm] at q; cases q
    obtain ⟨q1, u, q2, q3⟩ := S.mu b m q
    exact ⟨by rw [upd_ne hb]; exact q1, u, by rw [upd_ne hb]; exact q2, q3.mono sF⟩
  · have hb : b ≠ a := fun z => by rw [z, h] at q1; cases q1
    exact ⟨by rw [upd_ne hb]; exact q1, by rw [upd_ne hb]; exact q2, q3⟩
/-- a new mutable object -/
theorem RepS.layM (S : RepS K H F M) (h : H a = none) {o : HO} {m : MO} (r : RepO K F m o) : RepS K (upd H a o) F (mupd M a m) ∧ Ext H F M (upd H a o) F (mupd M a m) := by
  have hf := S.fno h
  have hm := S.mno h
  refine ⟨⟨fun b u q => ?_, fun b n q => ?_⟩, Same.refl F, fun b u q1 q2 q3 => ?_⟩
  · rw [upd_ne (ne_of_none q hf)]; exact S.fz b u q
  · by_cases hb : b = a
    · subst hb; rw [mupd_same] at q; cases q
      exact ⟨hf, o, upd_same, r⟩
    · rw [mupd_ne hb] at q
      obtain ⟨q1, u, q2, q3⟩ := S.mu b n q
      exact ⟨q1, u, by rw [upd_ne hb]; exact q2, q3⟩
  · have hb : b ≠ a := fun z => by rw [z, h] at q1; cases q1
    exact ⟨by rw [upd_ne hb]; exact q1, q2, by rw [mupd_ne hb]; exact q3⟩
/-- a mutable object is written -/
theorem RepS.write (S : RepS K H F M) {m0 m : MO} (h : M a = some m0) {o : HO} (r : RepO K F m o) : RepS K (upd H a o) F (mupd M a m) ∧ Ext H F M (upd H a o) F (mupd M a m) := by
  obtain ⟨hf, _⟩ := S.mu a m0 h
  refine ⟨⟨fun b u q => ?_, fun b n q => ?_⟩, Same.refl F, fun b u q1 q2 q3 => ?_⟩
  · rw [upd_ne (ne_of_none q hf)]; exact S.fz b u q
  · by_cases hb : b = a
    · subst hb; rw [mupd_same] at q; cases q
      exact ⟨hf, o, upd_same, r⟩
    · rw [mupd_ne hb] at q
      obtain ⟨q1, u, q2, q3⟩ := S.mu b n q
      exact ⟨q1, u, by rw [upd_ne hb]; exact q2, q3⟩
  · have hb : b ≠ a := fun z => by rw [z, h] at q3; cases q3
    exact ⟨by rw [upd_ne hb]; exact q1, q2, by rw [mupd_ne hb]; exact q3⟩
/-- a mutable object is frozen -/
theorem RepS.freeze (S : RepS K H F M) {m : MO} {o : HO} (h : M a = some m) (ho : H a = some o) : RepS K H (upd F a o) (mdel M a) ∧ Ext H F M H (upd F a o) (mdel M a) := by
  obtain ⟨hf, _⟩ := S.mu a m h
  have sF : Same F (upd F a o) := fun b u q => by rw [upd_ne (ne_of_none q hf)]; exact q
  refine ⟨⟨fun b u q => ?_, fun b n q => ?_⟩, sF, fun b u q1 q2 q3 => ?_⟩
  · by_cases hb : b = a
    · subst hb; rw [upd_same] at q; cases q; exact ho
    · rw [upd_ne hb] at q; exact S.fz b u q
  · have hb : b ≠ a := fun z => by rw [z, mdel_same] at q; cases q
    rw [mdel_ne hb] at q
    obtain ⟨q1, u, q2, q3⟩ := S.mu b n q
    exact ⟨by rw [upd_ne hb]; exact q1, u, q2, q3.mono sF⟩
  · have hb : b ≠ a := fun z => by rw [z, h] at q3; cases q3
    exact ⟨q1, by rw [upd_ne hb]; exact q2, by rw [mdel_ne hb]; exact q3⟩
/-- some of it is told no more -/
theorem RepS.forget {M' : MH} (S : RepS K H F M) (s : Sub M' M) : RepS K H F M' ∧ Ext H F M H F M' :=
  ⟨⟨S.fz, fun b n q => S.mu b n (s b n q)⟩, Same.refl F, fun b u q1 q2 q3 => ⟨q1, q2, by
    cases e : M' b with
    | none => rfl
    | some n => rw [s b n e] at q3; cases q3⟩⟩
theorem RepS.mlst (S : RepS K H F M) {ds : List D} (h : M a = some (.lst ds)) : F a = none ∧ ds.length ≤ sizeLine ∧ ∃ xs, H a = some (.lst xs) ∧ Reps K F xs ds := by
  obtain ⟨hf, o, ho, xs, e, r, l⟩ := S.mu a _ h
  subst e
  exact ⟨hf, l, xs, ho, r⟩
end

/-! ### the slots -/
abbrev Rh := List (Option D)
inductive RepE (K : PySem.W.Frag) (F : Hp) : L2.St → Rh → Prop
  | nil : RepE K F [] []
  | no {x : Option V} {σ : L2.St} {ρ : Rh} : RepE K F σ ρ → RepE K F (x :: σ) (none :: ρ)
  | yes {v : V} {d : D} {σ : L2.St} {ρ : Rh} : Rep K F v d → RepE K F σ ρ → RepE K F (some v :: σ) (some d :: ρ)
section
variable {K : PySem.W.Frag} {F F' : Hp}
theorem RepE.mono (e : Same F F') : ∀ {σ : L2.St} {ρ : Rh}, RepE K F σ ρ → RepE K F' σ ρ
  | _, _, .nil => .nil
  | _, _, .no r => .no (RepE.mono e r)
  | _, _, .yes h r => .yes (h.mono e) (RepE.mono e r)
theorem RepE.get : ∀ {σ : L2.St} {ρ : Rh} {i : Nat} {d : D}, RepE K F σ ρ → ρ[i]? = some (some d) → ∃ v, σ[i]? = some (some v) ∧ Rep K F v d
  | _, _, _, _, .nil, e => by simp at e
  | _, _, 0, _, .no _, e => by simp at e
  | _, _, 0, _, .yes h _, e => by simp at e; subst e; exact ⟨_, rfl, h⟩
  | _, _, i + 1, _, .no r, e => by
    obtain ⟨v, h1, h2⟩ := RepE.get (i := i) r (by simpa using e)
    exact ⟨v, by simpa using h1, h2⟩
  | _, _, i + 1, _, .yes _ r, e => by
    obtain ⟨v, h1, h2⟩ := RepE.get (i := i) r (by simpa using e)
    exact ⟨v, by simpa using h1, h2⟩
theorem RepE.set : ∀ {σ : L2.St} {ρ : Rh} {v : V} {d : D} (i : Nat), RepE K F σ ρ → Rep K F v d → RepE K F (σ.set i (some v)) (ρ.set i (some d))
  | _, _, _, _, _, .nil, _ => .nil
  | _, _, _, _, 0, .no r, q => .yes q r
  | _, _, _, _, 0, .yes _ r, q => .yes q r
  | _, _, _, _, i + 1, .no r, q => .no (RepE.set i r q)
  | _, _, _, _, i + 1, .yes h r, q => .yes h (RepE.set i r q)
theorem RepE.setNo : ∀ {σ : L2.St} {ρ : Rh} {x : Option V} (i : Nat), RepE K F σ ρ → RepE K F (σ.set i x) (ρ.set i none)
  | _, _, _, _, .nil => .nil
  | _, _, _, 0, .no r => .no r
  | _, _, _, 0, .yes _ r => .no r
  | _, _, _, i + 1, .no r => .no (RepE.setNo i r)
  | _, _, _, i + 1, .yes h r => .yes h (RepE.setNo i r)
theorem RepE.setD : ∀ {σ : L2.St} {ρ : Rh} {v : V} {d : D} (i : Nat), RepE K F σ ρ → σ[i]? = some (some v) → Rep K F v d → RepE K F σ (ρ.set i (some d))
  | _, _, _, _, _, .nil, _, _ => .nil
  | _, _, _, _, 0, .no r, e, q => by simp at e; subst e; exact .yes q r
  | _, _, _, _, 0, .yes _ r, e, q => by simp at e; subst e; exact .yes q r
  | _, _, _, _, i + 1, .no r, e, q => .no (RepE.setD i r (by simpa using e) q)
  | _, _, _, _, i + 1, .yes h r, e, q => .yes h (RepE.setD i r (by simpa using e) q)
theorem RepE.length : ∀ {σ : L2.St} {ρ : Rh}, RepE K F σ ρ → σ.length = ρ.length
  | _, _, .nil => rfl
  | _, _, .no r => congrArg (· + 1) (RepE.length r)
  | _, _, .yes _ r => congrArg (· + 1) (RepE.length r)
end
def wipeD (ρ : Rh) : List Nat → Rh
  | [] => ρ
  | v :: vs => (wipeD ρ vs).set v none
theorem RepE.wipe {K : PySem.W.Frag} {F : Hp} {σ : L2.St} {ρ : Rh} (r : RepE K F σ ρ) : ∀ vs : List Nat, RepE K F (L2.wipe σ vs) (wipeD ρ vs)
  | [] => r
  | v :: vs => (r.wipe vs).setNo v
def startD (N : List Str) (ds : List D) : Rh := ds.map some ++ List.replicate (N.length - ds.length) none
theorem RepE.start {K : PySem.W.Frag} {F : Hp} {N : List Str} {vs : List V} {ds : List D} (r : Reps K F vs ds) : RepE K F (L2.start N vs) (startD N ds) := by
  unfold L2.start startD
  have tail : ∀ n : Nat, RepE K F (List.replicate n (none : Option V)) (List.replicate n (none : Option D)) := fun n => by
    induction n with
    | zero => exact .nil
    | succ n ih => exact .no ih
  rw [r.length]
  have go : ∀ {vs : List V} {ds : List D} {σ : L2.St} {ρ : Rh}, Reps K F vs ds → RepE K F σ ρ → RepE K F (vs.map some ++ σ) (ds.map some ++ ρ) := fun {vs ds σ ρ} r q => by
    induction ds generalizing vs with
    | nil => cases r; exact q
    | cons d ds ih =>
      cases r with
      | cons h t => exact .yes h (ih t)
  exact go r (tail _)
end DL

namespace DL
open PySem PySem.Spec PyProof.Rows L2

/-! ### wishes -/
abbrev KD := D → MH → Prop
/-- of an exception: its class's name, its fields -/
abbrev KE := Str → List (Str × D) → MH → Prop
inductive RepF (K : PySem.W.Frag) (F : Hp) : List (Str × V) → List (Str × D) → Prop
  | nil : RepF K F [] []
  | cons {n : Str} {v : V} {d : D} {vs : List (Str × V)} {ds : List (Str × D)} : Rep K F v d → RepF K F vs ds → RepF K F ((n, v) :: vs) ((n, d) :: ds)
def PostV (K : PySem.W.Frag) (H F : Hp) (M : MH) (k : KD) (Q : VK) : Prop := ∀ v d H' F' M', Ext H F M H' F' M' → RepS K H' F' M' → Rep K F' v d → k d M' → Q v H'
def PostB (K : PySem.W.Frag) (H F : Hp) (M : MH) (k : Bool → MH → Prop) (Q : Bool → Hp → Prop) : Prop := ∀ b H' F' M', Ext H F M H' F' M' → RepS K H' F' M' → k b M' → Q b H'
def PostA (K : PySem.W.Frag) (H F : Hp) (M : MH) (k : List D → MH → Prop) (Q : List V → Hp → Prop) : Prop := ∀ vs ds H' F' M', Ext H F M H' F' M' → RepS K H' F' M' → Reps K F' vs ds → k ds M' → Q vs H'
def PostX (K : PySem.W.Frag) (H F : Hp) (M : MH) (x : KE) (w : XK) : Prop := ∀ nm dd vfs fs H' F' M', Ext H F M H' F' M' → RepS K H' F' M' → H' dd = some (.xd vfs) → RepF K F' vfs fs → x nm fs M' → w (.ref (He.ga K nm)) (some dd) H'
section
variable {K : PySem.W.Frag} {H F : Hp} {M : MH} {H' F' : Hp} {M' : MH}
theorem PostV.on {k : KD} {Q : VK} (p : PostV K H F M k Q) (e : Ext H F M H' F' M') : PostV K H' F' M' k Q := fun v d H2 F2 M2 e2 => p v d H2 F2 M2 (e.trans e2)
theorem PostB.on {k : Bool → MH → Prop} {Q : Bool → Hp → Prop} (p : PostB K H F M k Q) (e : Ext H F M H' F' M') : PostB K H' F' M' k Q := fun b H2 F2 M2 e2 => p b H2 F2 M2 (e.trans e2)
theorem PostA.on {k : List D → MH → Prop} {Q : List V → Hp → Prop} (p : PostA K H F M k Q) (e : Ext H F M H' F' M') : PostA K H' F' M' k Q := fun v d H2 F2 M2 e2 => p v d H2 F2 M2 (e.trans e2)
theorem PostX.on {x : KE} {w : XK} (p : PostX K H F M x w) (e : Ext H F M H' F' M') : PostX K H' F' M' x w := fun C dd vfs fs H2 F2 M2 e2 => p C dd vfs fs H2 F2 M2 (e.trans e2)
/-- the value at hand -/
theorem PostV.at {k : KD} {Q : VK} (p : PostV K H F M k Q) (S : RepS K H F M) {v : V} {d : D} (r : Rep K F v d) (h : k d M) : Q v H := p v d H F M (Ext.refl _ _ _) S r h
end

/-! ### judgements -/
abbrev WE := Rh → MH → KD → KE → Prop
abbrev WT := Rh → MH → (Bool → MH → Prop) → KE → Prop
abbrev WA := Rh → MH → (List D → MH → Prop) → KE → Prop
def tOf (K : PySem.W.Frag) (W : WX) (w : WE) : TE := fun σ H Q => ∃ F M ρ k x, RepS K H F M ∧ RepE K F σ ρ ∧ w ρ M k x ∧ PostV K H F M k Q ∧ PostX K H F M x (fun c d => W c d σ)
def tOfT (K : PySem.W.Frag) (W : WX) (w : WT) : TT := fun σ H Q => ∃ F M ρ k x, RepS K H F M ∧ RepE K F σ ρ ∧ w ρ M k x ∧ PostB K H F M k Q ∧ PostX K H F M x (fun c d => W c d σ)
def tOfA (K : PySem.W.Frag) (W : WX) (w : WA) : TA := fun σ H Q => ∃ F M ρ k x, RepS K H F M ∧ RepE K F σ ρ ∧ w ρ M k x ∧ PostA K H F M k Q ∧ PostX K H F M x (fun c d => W c d σ)
structure DE (X : Cx) (e : Expr) (w : WE) : Prop where
  pe : ∀ W, Takes X W → PE X e (tOf X.K W w)
structure DT (X : Cx) (e : Expr) (w : WT) : Prop where
  pt : ∀ W, Takes X W → PT X e (tOfT X.K W w)
structure DW (X : Cx) (e : Expr) (w : WT) : Prop where
  pw : ∀ W, Takes X W → PW X e (tOfT X.K W w)
structure DA (X : Cx) (es : List Expr) (w : WA) : Prop where
  pa : ∀ W, Takes X W → PA X es (tOfA X.K W w)
section
variable {X : Cx}
theorem pe_imp {e : Expr} {t t' : TE} (h : PE X e t) (i : ∀ σ H Q, t' σ H Q → t σ H Q) : PE X e t' := ⟨fun pins s σ H Q I q => h.run pins s σ H Q I (i σ H Q q)⟩
theorem pt_imp {e : Expr} {t t' : TT} (h : PT X e t) (i : ∀ σ H Q, t' σ H Q → t σ H Q) : PT X e t' := ⟨fun pins s σ H Q I q => h.run pins s σ H Q I (i σ H Q q)⟩
theorem pw_imp {e : Expr} {t t' : TT} (h : PW X e t) (i : ∀ σ H Q, t' σ H Q → t σ H Q) : PW X e t' := ⟨fun wh pins s σ H Q I q => h.run wh pins s σ H Q I (i σ H Q q)⟩
theorem pa_imp {e : List Expr} {t t' : TA} (h : PA X e t) (i : ∀ σ H Q, t' σ H Q → t σ H Q) : PA X e t' := ⟨fun pos pins s σ H Q I q => h.run pos pins s σ H Q I (i σ H Q q)⟩
theorem ps_imp {st : Stmt} {t t' : TS} (h : PS X st t) (i : ∀ E σ H, t' E σ H → t E σ H) : PS X st t' := ⟨fun pins s σ H E I q => h.run pins s σ H E I (i E σ H q)⟩
theorem pss_imp {st : List Stmt} {t t' : TS} (h : PSs X st t) (i : ∀ E σ H, t' E σ H → t E σ H) : PSs X st t' := ⟨fun pins s σ H E I q => h.run pins s σ H E I (i E σ H q)⟩
theorem pi_imp {tg iter : Expr} {t t' : TI} (h : PI X tg iter t) (i : ∀ σ H R, t' σ H R → t σ H R) : PI X tg iter t' := ⟨fun pins s σ H R I q => h.run pins s σ H R I (i σ H R q)⟩
theorem pg_imp {tg : Expr} {t t' : TG} (h : PG X tg t) (i : ∀ v σ H Q, t' v σ H Q → t v σ H Q) : PG X tg t' := ⟨fun pins s σ H v u Q I r q => h.run pins s σ H v u Q I r (i v σ H Q q)⟩
end

/-- a condition that is reckoned -/
def gd (b : Bool) (p : Prop) : Prop := match b with
  | true => p
  | false => False
theorem gd_of {b : Bool} {p : Prop} (h : gd b p) : b = true ∧ p := by
  cases b with
  | true => exact ⟨rfl, h⟩
  | false => exact h.elim
theorem gd_mk {b : Bool} {p : Prop} (h : b = true) (q : p) : gd b p := by subst h; exact q

/-! ### names, constants -/
def wVar (i : Nat) : WE := fun ρ M k _ => match ρ[i]? with
  | some (some d) => k d M
  | _ => False
def wC (d : D) : WE := fun _ M k _ => k d M
section
variable {X : Cx} {pos : Pos}
theorem de_var {i : Nat} {x : Str} (h : PE X (.Name x pos) (tVar i)) : DE X (.Name x pos) (wVar i) := by
  refine ⟨fun W _ => pe_imp h fun σ H Q q => ?_⟩
  obtain ⟨F, M, ρ, k, x, S, E, w, pv, px⟩ := q
  unfold wVar at w
  split at w
  · rename_i d e
    obtain ⟨v, h1, h2⟩ := E.get e
    exact ⟨v, h1, pv.at S h2 w⟩
  · exact w.elim
theorem dv (i : Nat) {x : Str} (hN : X.N[i]? = some x := by rfl) (hv : Vis X.env.scope x := by first | exact Or.inl rfl | exact Or.inr (Or.inl rfl) | exact Or.inr (Or.inr rfl)) (hd : (x == ("__debug__" : Str)) = false := by decide)
    (hcd : (x == ("__classdict__" : Str)) = false := by decide) : DE X (.Name x pos) (wVar i) := de_var (pe_var hN hv hd hcd)
theorem de_c {e : Expr} {v : V} {d : D} (h : PE X e (tC v)) (r : ∀ F, Rep X.K F v d) : DE X e (wC d) := by
  refine ⟨fun W _ => pe_imp h fun σ H Q q => ?_⟩
  obtain ⟨F, M, ρ, k, x, S, E, w, pv, px⟩ := q
  exact pv.at S (r F) w
theorem de_int {i : Int} {j} : DE X (.Constant (.int i) j pos) (wC (.int i)) := de_c pe_int fun _ => .int i
theorem de_bl {b : Bool} {j} : DE X (.Constant (.bool b) j pos) (wC (.bl b)) := de_c pe_bl fun _ => .bl b
theorem de_non {j} : DE X (.Constant .none j pos) (wC .non) := de_c pe_non fun _ => .non
theorem de_str {x : Str} {j} : DE X (.Constant (.str x) j pos) (wC (.str x)) := de_c pe_str fun _ => .str x
/-- a module's constant -/
theorem de_glob {x : Str} {v : V} {u : Value} {d : D} (hm : X.mg x = some u) (r : RelV v u) (rd : ∀ F, Rep X.K F v d) (hg : Gl X x := by rfl) (hd : (x == ("__debug__" : Str)) = false := by decide) : DE X (.Name x pos) (wC d) := de_c (pe_glob hg hm r hd) rd
theorem de_ty {x : Str} {n : Ty} (hm : X.mg x = none) (hv : bootBuiltins x = some (.type n.name)) (hg : Gl X x := by rfl) (hn : x ≠ "__name__" := by decide) (hd : (x == ("__debug__" : Str)) = false := by decide) : DE X (.Name x pos) (wC (.ty n)) :=
  de_c (pe_bltn (v := .ty n.name) hg hm hv rfl hn hd) fun _ => .ty n
end

/-! ### operators -/
def wOp (r : D → D → MH → KD → Prop) (wa wb : WE) : WE := fun ρ M k x => wa ρ M (fun d M1 => wb ρ M1 (fun e M2 => r d e M2 k) x) x
def wUn (r : D → MH → KD → Prop) (wa : WE) : WE := fun ρ M k x => wa ρ M (fun d M1 => r d M1 k) x
def OpD (X : Cx) (f : Value → Value → Sem Value) (r : D → D → MH → KD → Prop) : Prop :=
  ∃ r2 : R2, OpR X f r2 ∧ ∀ d e v u H F M k Q, RepS X.K H F M → Rep X.K F v d → Rep X.K F u e → r d e M k → PostV X.K H F M k Q → r2 v u H Q
def UnD (X : Cx) (f : Value → Sem Value) (r : D → MH → KD → Prop) : Prop :=
  ∃ r2 : V → Hp → VK → Prop, UnR X f r2 ∧ ∀ d v H F M k Q, RepS X.K H F M → Rep X.K F v d → r d M k → PostV X.K H F M k Q → r2 v H Q
section
variable {X : Cx} {a b : Expr} {wa wb : WE} {pos : Pos}
theorem two {W : WX} {σ : L2.St} {H F : Hp} {M : MH} {ρ : Rh} {k : D → D → MH → Prop} {x : KE} {Q : V → V → Hp → Prop} (S : RepS X.K H F M) (E : RepE X.K F σ ρ)
    (w : wa ρ M (fun d M1 => wb ρ M1 (fun e M2 => k d e M2) x) x) (px : PostX X.K H F M x (fun c d => W c d σ))
    (h : ∀ v u d e H2 F2 M2, Ext H F M H2 F2 M2 → RepS X.K H2 F2 M2 → Rep X.K F2 v d → Rep X.K F2 u e → k d e M2 → Q v u H2) : tOf X.K W wa σ H fun v H1 => tOf X.K W wb σ H1 fun u H2 => Q v u H2 := by
  refine ⟨F, M, ρ, _, x, S, E, w, fun v d H1 F1 M1 e1 S1 r1 w1 => ?_, px⟩
  refine ⟨F1, M1, ρ, _, x, S1, E.mono e1.sm, w1, fun u e H2 F2 M2 e2 S2 r2 w2 => ?_, px.on e1⟩
  exact h v u d e H2 F2 M2 (e1.trans e2) S2 (r1.mono e2.sm) r2 w2
theorem de_op {op : Operator} {r : D → D → MH → KD → Prop} (ho : OpD X (binaryOp op) r) (ha : DE X a wa) (hb : DE X b wb) : DE X (.BinOp a op b pos) (wOp r wa wb) := by
  obtain ⟨r2, h, s⟩ := ho
  refine ⟨fun W tk => pe_imp (pe_op h (ha.pe W tk) (hb.pe W tk)) fun σ H Q q => ?_⟩
  obtain ⟨F, M, ρ, k, x, S, E, w, pv, px⟩ := q
  exact two S E w px fun v u d e H2 F2 M2 e2 S2 r1 r2 w2 => s d e v u H2 F2 M2 k Q S2 r1 r2 w2 (pv.on e2)
theorem de_un {op : UnaryOp} {r : D → MH → KD → Prop} (ho : UnD X (unaryOp op) r) (ha : DE X a wa) : DE X (.UnaryOp op a pos) (wUn r wa) := by
  obtain ⟨r2, h, s⟩ := ho
  refine ⟨fun W tk => pe_imp (pe_un h (ha.pe W tk)) fun σ H Q q => ?_⟩
  obtain ⟨F, M, ρ, k, x, S, E, w, pv, px⟩ := q
  exact ⟨F, M, ρ, _, x, S, E, w, fun v d H1 F1 M1 e1 S1 r1 w1 => s d v H1 F1 M1 k Q S1 r1 w1 (pv.on e1), px⟩
theorem de_cmp {op : CmpOp} {r : D → D → MH → KD → Prop} (ho : OpD X (compareOp op) r) (ha : DE X a wa) (hb : DE X b wb) (hm : behindInMarks op b = false := by first | exact nomark _ | rfl) : DE X (.Compare a [op] [b] pos) (wOp r wa wb) := by
  obtain ⟨r2, h, s⟩ := ho
  refine ⟨fun W tk => pe_imp (pe_cmpR h (ha.pe W tk) (hb.pe W tk) hm) fun σ H Q q => ?_⟩
  obtain ⟨F, M, ρ, k, x, S, E, w, pv, px⟩ := q
  exact two S E w px fun v u d e H2 F2 M2 e2 S2 r1 r2 w2 => s d e v u H2 F2 M2 k Q S2 r1 r2 w2 (pv.on e2)
/-- a test by a value that is a truth value -/
def onBl (d : D) (p : Bool → Prop) : Prop := match d with
  | .bl b => p b
  | _ => False
def wTest (w : WE) : WT := fun ρ M k x => w ρ M (fun d M1 => onBl d fun b => k b M1) x
theorem bl_of {K : PySem.W.Frag} {F : Hp} {v : V} {d : D} {p : Bool → Prop} (r : Rep K F v d) (h : onBl d p) : ∃ b, v = .bl b ∧ p b := by
  cases d with
  | bl b => cases r; exact ⟨b, rfl, h⟩
  | _ => exact h.elim
theorem dt_cmp {op : CmpOp} {r : D → D → MH → KD → Prop} (ho : OpD X (compareOp op) r) (ha : DE X a wa) (hb : DE X b wb) (hm : behindInMarks op b = false := by first | exact nomark _ | rfl) : DT X (.Compare a [op] [b] pos) (wTest (wOp r wa wb)) := by
  obtain ⟨r2, h, s⟩ := ho
  refine ⟨fun W tk => pt_imp (pt_cmpR h (ha.pe W tk) (hb.pe W tk) hm) fun σ H Q q => ?_⟩
  obtain ⟨F, M, ρ, k, x, S, E, w, pv, px⟩ := q
  refine two S E w px fun v u d e H2 F2 M2 e2 S2 r1 r2 w2 => s d e v u H2 F2 M2 _ _ S2 r1 r2 w2 fun v' d' H3 F3 M3 e3 S3 r3 w3 => ?_
  obtain ⟨b, rfl, w4⟩ := bl_of r3 w3
  exact ⟨b, rfl, pv b H3 F3 M3 (e2.trans e3) S3 w4⟩
theorem dt_val {e : Expr} {w : WE} (h : DE X e w) (he : ∀ whole, isTrue e X.env whole = (do let v ← whole; standAt e.pos; holding [v] (truthy v)) := by intro _; rfl) : DT X e (wTest w) := by
  refine ⟨fun W tk => pt_imp (pt_val (h.pe W tk) he) fun σ H Q q => ?_⟩
  obtain ⟨F, M, ρ, k, x, S, E, w, pv, px⟩ := q
  refine ⟨F, M, ρ, _, x, S, E, w, fun v' d' H3 F3 M3 e3 S3 r3 w3 => ?_, px⟩
  obtain ⟨b, rfl, w4⟩ := bl_of r3 w3
  exact ⟨b, rfl, pv b H3 F3 M3 e3 S3 w4⟩
def wNot (w : WT) : WT := fun ρ M k x => w ρ M (fun b M1 => k (!b) M1) x
theorem dt_not {w : WT} (h : DT X a w) : DT X (.UnaryOp .Not a pos) (wNot w) := by
  refine ⟨fun W tk => pt_imp (pt_not (h.pt W tk)) fun σ H Q q => ?_⟩
  obtain ⟨F, M, ρ, k, x, S, E, w, pv, px⟩ := q
  exact ⟨F, M, ρ, _, x, S, E, w, fun b H3 F3 M3 e3 S3 w3 => pv _ H3 F3 M3 e3 S3 w3, px⟩
theorem DW.dt {w : WT} {e : Expr} (h : DW X e w) : DT X e w := ⟨fun W tk => (h.pw W tk).pt⟩
def wAnd (w u : WT) : WT := fun ρ M k x => w ρ M (fun b M1 => match b with
  | true => u ρ M1 k x
  | false => k false M1) x
def wOr (w u : WT) : WT := fun ρ M k x => w ρ M (fun b M1 => match b with
  | true => k true M1
  | false => u ρ M1 k x) x
variable {rest : List Expr} {wt wu : WT}
theorem dw_and1 (ha : DT X a wt) : DW X (.BoolOp .And [a] pos) wt := ⟨fun W tk => pw_and1 (ha.pt W tk)⟩
theorem dw_or1 (ha : DT X a wt) : DW X (.BoolOp .Or [a] pos) wt := ⟨fun W tk => pw_or1 (ha.pt W tk)⟩
theorem dw_and (ha : DT X a wt) (hb : DW X (.BoolOp .And (b :: rest) pos) wu) : DW X (.BoolOp .And (a :: b :: rest) pos) (wAnd wt wu) := by
  refine ⟨fun W tk => pw_imp (pw_and (ha.pt W tk) (hb.pw W tk)) fun σ H Q q => ?_⟩
  obtain ⟨F, M, ρ, k, x, S, E, w, pv, px⟩ := q
  refine ⟨F, M, ρ, _, x, S, E, w, fun c H3 F3 M3 e3 S3 w3 => ?_, px⟩
  cases c with
  | true => rw [if_pos rfl]; exact ⟨F3, M3, ρ, k, x, S3, E.mono e3.sm, w3, pv.on e3, px.on e3⟩
  | false => rw [if_neg Bool.false_ne_true]; exact pv _ H3 F3 M3 e3 S3 w3
theorem dw_or (ha : DT X a wt) (hb : DW X (.BoolOp .Or (b :: rest) pos) wu) : DW X (.BoolOp .Or (a :: b :: rest) pos) (wOr wt wu) := by
  refine ⟨fun W tk => pw_imp (pw_or (ha.pt W tk) (hb.pw W tk)) fun σ H Q q => ?_⟩
  obtain ⟨F, M, ρ, k, x, S, E, w, pv, px⟩ := q
  refine ⟨F, M, ρ, _, x, S, E, w, fun c H3 F3 M3 e3 S3 w3 => ?_, px⟩
  cases c with
  | true => rw [if_pos rfl]; exact pv _ H3 F3 M3 e3 S3 w3
  | false => rw [if_neg Bool.false_ne_true]; exact ⟨F3, M3, ρ, k, x, S3, E.mono e3.sm, w3, pv.on e3, px.on e3⟩
/-- as values: all but the last truth values -/
def wAndV (wa wb : WE) : WE := fun ρ M k x => wa ρ M (fun d M1 => onBl d fun b => match b with
  | true => wb ρ M1 k x
  | false => k (.bl false) M1) x
def wOrV (wa wb : WE) : WE := fun ρ M k x => wa ρ M (fun d M1 => onBl d fun b => match b with
  | true => k (.bl true) M1
  | false => wb ρ M1 k x) x
def wNotV (wa : WE) : WE := fun ρ M k x => wa ρ M (fun d M1 => onBl d fun b => k (.bl (!b)) M1) x
theorem de_one {op} (h : DE X a wa) : DE X (.BoolOp op [a] pos) wa := ⟨fun W tk => pe_one (h.pe W tk)⟩
theorem de_and (ha : DE X a wa) (hb : DE X (.BoolOp .And (b :: rest) pos) wb) : DE X (.BoolOp .And (a :: b :: rest) pos) (wAndV wa wb) := by
  refine ⟨fun W tk => pe_imp (pe_and (ha.pe W tk) (hb.pe W tk)) fun σ H Q q => ?_⟩
  obtain ⟨F, M, ρ, k, x, S, E, w, pv, px⟩ := q
  refine ⟨F, M, ρ, _, x, S, E, w, fun v d H3 F3 M3 e3 S3 r3 w3 => ?_, px⟩
  obtain ⟨b, rfl, w4⟩ := bl_of r3 w3
  cases b with
  | true => exact ⟨true, rfl, by rw [if_pos rfl]; exact ⟨F3, M3, ρ, k, x, S3, E.mono e3.sm, w4, pv.on e3, px.on e3⟩⟩
  | false => exact ⟨false, rfl, by rw [if_neg Bool.false_ne_true]; exact pv _ _ H3 F3 M3 e3 S3 (.bl false) w4⟩
theorem de_or (ha : DE X a wa) (hb : DE X (.BoolOp .Or (b :: rest) pos) wb) : DE X (.BoolOp .Or (a :: b :: rest) pos) (wOrV wa wb) := by
  refine ⟨fun W tk => pe_imp (pe_or (ha.pe W tk) (hb.pe W tk)) fun σ H Q q => ?_⟩
  obtain ⟨F, M, ρ, k, x, S, E, w, pv, px⟩ := q
  refine ⟨F, M, ρ, _, x, S, E, w, fun v d H3 F3 M3 e3 S3 r3 w3 => ?_, px⟩
  obtain ⟨b, rfl, w4⟩ := bl_of r3 w3
  cases b with
  | true => exact ⟨true, rfl, by rw [if_pos rfl]; exact pv _ _ H3 F3 M3 e3 S3 (.bl true) w4⟩
  | false => exact ⟨false, rfl, by rw [if_neg Bool.false_ne_true]; exact ⟨F3, M3, ρ, k, x, S3, E.mono e3.sm, w4, pv.on e3, px.on e3⟩⟩
theorem de_not (ha : DE X a wa) : DE X (.UnaryOp .Not a pos) (wNotV wa) := by
  refine ⟨fun W tk => pe_imp (pe_not (ha.pe W tk)) fun σ H Q q => ?_⟩
  obtain ⟨F, M, ρ, k, x, S, E, w, pv, px⟩ := q
  refine ⟨F, M, ρ, _, x, S, E, w, fun v d H3 F3 M3 e3 S3 r3 w3 => ?_, px⟩
  obtain ⟨b, rfl, w4⟩ := bl_of r3 w3
  exact ⟨_, rfl, pv _ _ H3 F3 M3 e3 S3 (.bl _) w4⟩
def wIf (wt : WT) (wa wb : WE) : WE := fun ρ M k x => wt ρ M (fun b M1 => match b with
  | true => wa ρ M1 k x
  | false => wb ρ M1 k x) x
theorem de_if {c : Expr} (hc : DT X c wt) (ha : DE X a wa) (hb : DE X b wb) : DE X (.IfExp c a b pos) (wIf wt wa wb) := by
  refine ⟨fun W tk => pe_imp (pe_ifExp (hc.pt W tk) (ha.pe W tk) (hb.pe W tk)) fun σ H Q q => ?_⟩
  obtain ⟨F, M, ρ, k, x, S, E, w, pv, px⟩ := q
  refine ⟨F, M, ρ, _, x, S, E, w, fun c H3 F3 M3 e3 S3 w3 => ?_, px⟩
  cases c with
  | true => rw [if_pos rfl]; exact ⟨F3, M3, ρ, k, x, S3, E.mono e3.sm, w3, pv.on e3, px.on e3⟩
  | false => rw [if_neg Bool.false_ne_true]; exact ⟨F3, M3, ρ, k, x, S3, E.mono e3.sm, w3, pv.on e3, px.on e3⟩
/-- a < b < c -/
def wChain (r r' : D → D → MH → KD → Prop) (wa wb wc : WE) : WE := fun ρ M k x => wa ρ M (fun d M1 => wb ρ M1 (fun e M2 => r d e M2 (fun z M3 => onBl z fun b => match b with
  | true => wc ρ M3 (fun f M4 => r' e f M4 k) x
  | false => k (.bl false) M3)) x) x
theorem chain_in {c : Expr} {wc : WE} {r r' : D → D → MH → KD → Prop} {r2 r2' : R2} {W : WX} (s : ∀ d e v u H F M k Q, RepS X.K H F M → Rep X.K F v d → Rep X.K F u e → r d e M k → PostV X.K H F M k Q → r2 v u H Q)
    (s' : ∀ d e v u H F M k Q, RepS X.K H F M → Rep X.K F v d → Rep X.K F u e → r' d e M k → PostV X.K H F M k Q → r2' v u H Q) {σ : L2.St} {H : Hp} {Q : VK} (q : tOf X.K W (wChain r r' wa wb wc) σ H Q) :
    tChain r2 r2' (tOf X.K W wa) (tOf X.K W wb) (tOf X.K W wc) σ H Q := by
  obtain ⟨F, M, ρ, k, x, S, E, w, pv, px⟩ := q
  refine two S E w px fun v u d e H2 F2 M2 e2 S2 q1 q2 w2 => s d e v u H2 F2 M2 _ _ S2 q1 q2 w2 fun v' d' H3 F3 M3 e3 S3 q3 w3 => ?_
  have e23 := e2.trans e3
  obtain ⟨b, rfl, w5⟩ := bl_of q3 w3
  cases b with
  | true =>
    refine ⟨true, rfl, ?_⟩
    rw [if_pos rfl]
    refine ⟨F3, M3, ρ, _, x, S3, E.mono e23.sm, w5, fun t f H4 F4 M4 e4 S4 q4 w4 => ?_, px.on e23⟩
    exact s' e f u t H4 F4 M4 k Q S4 (q2.mono (e3.trans e4).sm) q4 w4 (pv.on (e23.trans e4))
  | false =>
    refine ⟨false, rfl, ?_⟩
    rw [if_neg Bool.false_ne_true]
    exact pv _ _ H3 F3 M3 e23 S3 (.bl false) w5
theorem de_chain {c : Expr} {wc : WE} {op op' : CmpOp} {r r' : D → D → MH → KD → Prop} (ho : OpD X (compareOp op) r) (ho' : OpD X (compareOp op') r') (ha : DE X a wa) (hb : DE X b wb) (hc : DE X c wc) (hm : lastMarks [op, op'] [b, c] = false := by with_unfolding_all rfl) : DE X (.Compare a [op, op'] [b, c] pos) (wChain r r' wa wb wc) := by
  obtain ⟨r2, h, s⟩ := ho
  obtain ⟨r2', h', s'⟩ := ho'
  exact ⟨fun W tk => pe_imp (pe_chain h h' (ha.pe W tk) (hb.pe W tk) (hc.pe W tk) hm) fun σ H Q q => chain_in (c := c) s s' q⟩
theorem dt_chain {c : Expr} {wc : WE} {op op' : CmpOp} {r r' : D → D → MH → KD → Prop} (ho : OpD X (compareOp op) r) (ho' : OpD X (compareOp op') r') (ha : DE X a wa) (hb : DE X b wb) (hc : DE X c wc) (hm : lastMarks [op, op'] [b, c] = false := by with_unfolding_all rfl) : DT X (.Compare a [op, op'] [b, c] pos) (wTest (wChain r r' wa wb wc)) := by
  obtain ⟨r2, h, s⟩ := ho
  obtain ⟨r2', h', s'⟩ := ho'
  refine ⟨fun W tk => pt_imp (pt_chain h h' (ha.pe W tk) (hb.pe W tk) (hc.pe W tk) hm) fun σ H Q q => ?_⟩
  refine chain_in (c := c) s s' ?_
  obtain ⟨F, M, ρ, k, x, S, E, w, pv, px⟩ := q
  refine ⟨F, M, ρ, _, x, S, E, w, fun v' d' H3 F3 M3 e3 S3 r3 w3 => ?_, px⟩
  obtain ⟨b, rfl, w4⟩ := bl_of r3 w3
  exact ⟨b, rfl, pv b H3 F3 M3 e3 S3 w4⟩
end

/-! ### argument lists, displays -/
def wNil : WA := fun _ M k _ => k [] M
def wCons (wa : WE) (wr : WA) : WA := fun ρ M k x => wa ρ M (fun d M1 => wr ρ M1 (fun ds M2 => k (d :: ds) M2) x) x
/-- *e -/
def onSeq (d : D) (p : List D → Prop) : Prop := match d with
  | .tup ds => p ds
  | .lst ds => p ds
  | _ => False
theorem seq_of {K : PySem.W.Frag} {F : Hp} {v : V} {d : D} {p : List D → Prop} (r : Rep K F v d) (h : onSeq d p) : ∃ a xs ds, v = .ref a ∧ (SqT K F a xs ∨ SqL K F a xs) ∧ Reps K F xs ds ∧ ds.length ≤ sizeLine ∧ p ds := by
  cases d with
  | tup ds => cases r with | tup a b c => exact ⟨_, _, _, rfl, .inl a, b, c, h⟩
  | lst ds => cases r with | lst a b c => exact ⟨_, _, _, rfl, .inr (SqL.of a), b, c, h⟩
  | _ => exact h.elim
def wStar (wa : WE) (wr : WA) : WA := fun ρ M k x => wa ρ M (fun d M1 => onSeq d fun ds => wr ρ M1 (fun es M2 => k (ds ++ es) M2) x) x
/-- a tuple; a frozen list; a list that may be changed -/
def wTup (wa : WA) : WE := fun ρ M k x => wa ρ M (fun ds M1 => gd (Nat.ble ds.length 4096) (k (.tup ds) M1)) x
def wLst (wa : WA) : WE := fun ρ M k x => wa ρ M (fun ds M1 => gd (Nat.ble ds.length 4096) (k (.lst ds) M1)) x
def wLstM (wa : WA) : WE := fun ρ M k x => wa ρ M (fun ds M1 => gd (Nat.ble ds.length 4096) (∀ a, M1 a = none → k (.ref a) (mupd M1 a (.lst ds)))) x
theorem le_line {n : Nat} (h : n ≤ 4096) : n ≤ sizeLine := by rw [sizeLine_eq]; omega
section
variable {X : Cx} {e : Expr} {es : List Expr} {we : WE} {wa : WA} {pos : Pos}
theorem da_nil : DA X [] wNil := by
  refine ⟨fun W _ => pa_imp pa_nil fun σ H Q q => ?_⟩
  obtain ⟨F, M, ρ, k, x, S, E, w, pv, px⟩ := q
  exact pv _ _ H F M (Ext.refl _ _ _) S .nil w
theorem da_cons (he : DE X e we) (hr : DA X es wa) (hs : starEach (e :: es) X.env = (false, eval e X.env) :: starEach es X.env := by rfl) : DA X (e :: es) (wCons we wa) := by
  refine ⟨fun W tk => pa_imp (pa_cons (he.pe W tk) (hr.pa W tk) hs) fun σ H Q q => ?_⟩
  obtain ⟨F, M, ρ, k, x, S, E, w, pv, px⟩ := q
  refine ⟨F, M, ρ, _, x, S, E, w, fun v d H1 F1 M1 e1 S1 r1 w1 => ?_, px⟩
  refine ⟨F1, M1, ρ, _, x, S1, E.mono e1.sm, w1, fun us es H2 F2 M2 e2 S2 r2 w2 => ?_, px.on e1⟩
  exact pv _ _ H2 F2 M2 (e1.trans e2) S2 (.cons (r1.mono e2.sm) r2) w2
theorem da_star {p : Pos} (he : DE X e we) (hr : DA X es wa) (hs : starEach (.Starred e p :: es) X.env = (true, eval e X.env) :: starEach es X.env := by rfl) : DA X (.Starred e p :: es) (wStar we wa) := by
  refine ⟨fun W tk => pa_imp (StX.pa_star (he.pe W tk) (hr.pa W tk) hs) fun σ H Q q => ?_⟩
  obtain ⟨F, M, ρ, k, x, S, E, w, pv, px⟩ := q
  refine ⟨F, M, ρ, _, x, S, E, w, fun v d H1 F1 M1 e1 S1 r1 w1 => ?_, px⟩
  obtain ⟨a, xs, ds, rfl, hq, hr, _, w3⟩ := seq_of r1 w1
  exact ⟨_, _, rfl, hq.imp (seqT S1.fz) S1.fz.seq, F1, M1, ρ, _, x, S1, E.mono e1.sm, w3, fun us es H2 F2 M2 e2 S2 r2 w2 => pv _ _ H2 F2 M2 (e1.trans e2) S2 ((hr.mono e2.sm).append r2) w2, px.on e1⟩
theorem de_tup {x1} (h : DA X es wa) : DE X (.Tuple es x1 pos) (wTup wa) := by
  refine ⟨fun W tk => pe_imp (pe_tup (h.pa W tk)) fun σ H Q q => ?_⟩
  obtain ⟨F, M, ρ, k, x, S, E, w, pv, px⟩ := q
  refine ⟨F, M, ρ, _, x, S, E, w, fun vs ds H1 F1 M1 e1 S1 r1 w1 => ?_, px⟩
  obtain ⟨hb, w1⟩ := gd_of w1
  have hl : ds.length ≤ sizeLine := le_line (Nat.le_of_ble_eq_true hb)
  refine ⟨by rw [r1.length]; exact hl, fun p hp => ?_⟩
  obtain ⟨S2, e2⟩ := S1.lay hp (.tup vs)
  exact pv _ _ _ _ _ (e1.trans e2) S2 (.tup (SqT.of upd_same) (r1.mono e2.sm) hl) w1
theorem de_lst (h : DA X es wa) : DE X (.List es pos) (wLst wa) := by
  refine ⟨fun W tk => pe_imp (pe_lst (h.pa W tk)) fun σ H Q q => ?_⟩
  obtain ⟨F, M, ρ, k, x, S, E, w, pv, px⟩ := q
  refine ⟨F, M, ρ, _, x, S, E, w, fun vs ds H1 F1 M1 e1 S1 r1 w1 => ?_, px⟩
  obtain ⟨hb, w1⟩ := gd_of w1
  have hl : ds.length ≤ sizeLine := le_line (Nat.le_of_ble_eq_true hb)
  refine ⟨by rw [r1.length]; exact hl, fun p hp => ?_⟩
  obtain ⟨S2, e2⟩ := S1.lay hp (.lst vs)
  exact pv _ _ _ _ _ (e1.trans e2) S2 (.lst upd_same (r1.mono e2.sm) hl) w1
theorem de_lstM (h : DA X es wa) : DE X (.List es pos) (wLstM wa) := by
  refine ⟨fun W tk => pe_imp (pe_lst (h.pa W tk)) fun σ H Q q => ?_⟩
  obtain ⟨F, M, ρ, k, x, S, E, w, pv, px⟩ := q
  refine ⟨F, M, ρ, _, x, S, E, w, fun vs ds H1 F1 M1 e1 S1 r1 w1 => ?_, px⟩
  obtain ⟨hb, w1⟩ := gd_of w1
  have hl : ds.length ≤ sizeLine := le_line (Nat.le_of_ble_eq_true hb)
  refine ⟨by rw [r1.length]; exact hl, fun p hp => ?_⟩
  obtain ⟨S2, e2⟩ := S1.layM hp (o := .lst vs) (m := .lst ds) ⟨vs, rfl, r1, hl⟩
  exact pv _ _ _ _ _ (e1.trans e2) S2 (.ref p) (w1 p (S1.mno hp))
end
end DL

namespace DL
open PySem PySem.Spec PyProof.Rows L2

/-! ### statements -/
structure EndsD where
  nx : Rh → MH → Prop
  rt : KD
  bk : Rh → MH → Prop
  ct : Rh → MH → Prop
  xc : KE
abbrev WS := Rh → MH → EndsD → Prop
def PostS (K : PySem.W.Frag) (H F : Hp) (M : MH) (k : Rh → MH → Prop) (Q : L2.St → Hp → Prop) : Prop := ∀ σ ρ H' F' M', Ext H F M H' F' M' → RepS K H' F' M' → RepE K F' σ ρ → k ρ M' → Q σ H'
theorem PostS.on {K : PySem.W.Frag} {H F : Hp} {M : MH} {H' F' : Hp} {M' : MH} {k : Rh → MH → Prop} {Q : L2.St → Hp → Prop} (p : PostS K H F M k Q) (e : Ext H F M H' F' M') : PostS K H' F' M' k Q := fun v d H2 F2 M2 e2 => p v d H2 F2 M2 (e.trans e2)
structure FinD (K : PySem.W.Frag) (W : WX) (H F : Hp) (M : MH) (E : EndsD) (D : Ends) : Prop where
  nx : PostS K H F M E.nx D.nx
  rt : PostV K H F M E.rt D.rt
  bk : PostS K H F M E.bk D.bk
  ct : PostS K H F M E.ct D.ct
  xc : ∀ σ, PostX K H F M E.xc (fun c d => W c d σ)
theorem FinD.on {K : PySem.W.Frag} {W : WX} {H F : Hp} {M : MH} {H' F' : Hp} {M' : MH} {E : EndsD} {D : Ends} (f : FinD K W H F M E D) (e : Ext H F M H' F' M') : FinD K W H' F' M' E D := ⟨f.nx.on e, f.rt.on e, f.bk.on e, f.ct.on e, fun σ => (f.xc σ).on e⟩
def tOfS (K : PySem.W.Frag) (W : WX) (w : WS) : TS := fun D σ H => ∃ F M ρ E, RepS K H F M ∧ RepE K F σ ρ ∧ w ρ M E ∧ FinD K W H F M E D
abbrev Pss (X : Cx) : Prop := PassesOwn (model X.prog X.w) X.A X.env X.xe
structure DS (X : Cx) (st : Stmt) (w : WS) : Prop where
  ps : ∀ W, Takes X W → Pss X → PS X st (tOfS X.K W w)
structure DSs (X : Cx) (st : List Stmt) (w : WS) : Prop where
  ps : ∀ W, Takes X W → Pss X → PSs X st (tOfS X.K W w)
def wNext : WS := fun ρ M E => E.nx ρ M
def wSeq (w u : WS) : WS := fun ρ M E => w ρ M { E with nx := fun ρ1 M1 => u ρ1 M1 E }
def wRet (w : WE) : WS := fun ρ M E => w ρ M E.rt E.xc
def wRetN : WS := fun _ M E => E.rt .non M
def wDrop (w : WE) : WS := fun ρ M E => w ρ M (fun _ M1 => E.nx ρ M1) E.xc
def wSet (i : Nat) (w : WE) : WS := fun ρ M E => w ρ M (fun d M1 => E.nx (ρ.set i (some d)) M1) E.xc
def wIfS (c : WT) (w u : WS) : WS := fun ρ M E => c ρ M (fun b M1 => match b with
  | true => w ρ M1 E
  | false => u ρ M1 E) E.xc
def wBreak : WS := fun ρ M E => E.bk ρ M
def wCont : WS := fun ρ M E => E.ct ρ M
def wNever : WS := fun _ _ _ => False
/-- a list that has been filled is frozen -/
def wFrz (i : Nat) (w : WS) : WS := fun ρ M E => ∃ a ds, ρ[i]? = some (some (.ref a)) ∧ M a = some (.lst ds) ∧ w (ρ.set i (some (.lst ds))) (mdel M a) E
/-- the same of a dict, an instance -/
def wFrzD (i : Nat) (w : WS) : WS := fun ρ M E => ∃ a m e, ρ[i]? = some (some (.ref a)) ∧ M a = some m ∧ frzD m = some e ∧ w (ρ.set i (some e)) (mdel M a) E
section
variable {X : Cx} {st : Stmt} {rest : List Stmt} {w u : WS} {e : Expr} {we : WE} {pos : Pos}
theorem dss_nil : DSs X [] wNext := by
  refine ⟨fun W _ _ => pss_imp pss_nil fun D σ H q => ?_⟩
  obtain ⟨F, M, ρ, E, S, R, w, f⟩ := q
  exact f.nx _ _ H F M (Ext.refl _ _ _) S R w
theorem dss_cons (h1 : DS X st w) (h2 : DSs X rest u) : DSs X (st :: rest) (wSeq w u) := by
  refine ⟨fun W tk hp => pss_imp (pss_cons (h1.ps W tk hp) (h2.ps W tk hp)) fun D σ H q => ?_⟩
  obtain ⟨F, M, ρ, E, S, R, w, f⟩ := q
  exact ⟨F, M, ρ, _, S, R, w, fun σ' ρ' H' F' M' e' S' R' w' => ⟨F', M', ρ', E, S', R', w', f.on e'⟩, f.rt, f.bk, f.ct, f.xc⟩
theorem dss_one (h1 : DS X st w) : DSs X [st] w := ⟨fun W tk hp => pss_one (h1.ps W tk hp)⟩
theorem dss_frz (i : Nat) (h : DSs X rest w) : DSs X rest (wFrz i w) := by
  refine ⟨fun W tk hp => pss_imp (h.ps W tk hp) fun D σ H q => ?_⟩
  obtain ⟨F, M, ρ, E, S, R, ⟨a, ds, h1, h2, w⟩, f⟩ := q
  obtain ⟨hf, hl, xs, ho, hr⟩ := S.mlst h2
  obtain ⟨S2, e2⟩ := S.freeze h2 ho
  obtain ⟨v, hv, rv⟩ := R.get h1
  cases rv
  exact ⟨_, _, _, E, S2, (R.mono e2.sm).setD i hv (.lst upd_same (hr.mono e2.sm) hl), w, f.on e2⟩
theorem dss_frzD (i : Nat) (h : DSs X rest w) : DSs X rest (wFrzD i w) := by
  refine ⟨fun W tk hp => pss_imp (h.ps W tk hp) fun D σ H q => ?_⟩
  obtain ⟨F, M, ρ, E, S, R, ⟨a, m, e, h1, h2, h0, w⟩, f⟩ := q
  obtain ⟨_, o, ho, hr⟩ := S.mu a m h2
  obtain ⟨S2, e2⟩ := S.freeze h2 ho
  obtain ⟨v, hv, rv⟩ := R.get h1
  cases rv
  exact ⟨_, _, _, E, S2, (R.mono e2.sm).setD i hv (hr.frz h0 e2.sm upd_same), w, f.on e2⟩
theorem ds_pass : DS X (.Pass pos) wNext := by
  refine ⟨fun W _ _ => ps_imp ps_pass fun D σ H q => ?_⟩
  obtain ⟨F, M, ρ, E, S, R, w, f⟩ := q
  exact f.nx _ _ H F M (Ext.refl _ _ _) S R w
theorem ds_break : DS X (.Break pos) wBreak := by
  refine ⟨fun W _ _ => ps_imp ps_break fun D σ H q => ?_⟩
  obtain ⟨F, M, ρ, E, S, R, w, f⟩ := q
  exact f.bk _ _ H F M (Ext.refl _ _ _) S R w
theorem ds_cont : DS X (.Continue pos) wCont := by
  refine ⟨fun W _ _ => ps_imp ps_continue fun D σ H q => ?_⟩
  obtain ⟨F, M, ρ, E, S, R, w, f⟩ := q
  exact f.ct _ _ H F M (Ext.refl _ _ _) S R w
theorem ds_never : DS X st wNever := ⟨fun W _ _ => ps_imp ps_never fun D σ H q => by
  obtain ⟨F, M, ρ, E, S, R, w, f⟩ := q
  exact w⟩
theorem dss_never {sts : List Stmt} : DSs X sts wNever := ⟨fun W _ _ => pss_imp pss_never fun D σ H q => by
  obtain ⟨F, M, ρ, E, S, R, w, f⟩ := q
  exact w⟩
theorem ds_expr (he : DE X e we) (hs : swapsWith e none pos.line X.env = pure false := by rfl) : DS X (.Expr e pos) (wDrop we) := by
  refine ⟨fun W tk _ => ps_imp (ps_expr (he.pe W tk) hs) fun D σ H q => ?_⟩
  obtain ⟨F, M, ρ, E, S, R, w, f⟩ := q
  exact ⟨F, M, ρ, _, _, S, R, w, fun v d H1 F1 M1 e1 S1 r1 w1 => f.nx _ _ H1 F1 M1 e1 S1 (R.mono e1.sm) w1, f.xc σ⟩
theorem ds_ret (he : DE X e we) : DS X (.Return (some e) pos) (wRet we) := by
  refine ⟨fun W tk _ => ps_imp (ps_ret (he.pe W tk)) fun D σ H q => ?_⟩
  obtain ⟨F, M, ρ, E, S, R, w, f⟩ := q
  exact ⟨F, M, ρ, _, _, S, R, w, f.rt, f.xc σ⟩
theorem ds_retN : DS X (.Return none pos) wRetN := by
  refine ⟨fun W _ _ => ps_imp ps_retN fun D σ H q => ?_⟩
  obtain ⟨F, M, ρ, E, S, R, w, f⟩ := q
  exact f.rt.at S .non w
theorem ds_if {c : Expr} {a b : List Stmt} {wc : WT} (hc : DT X c wc) (ha : DSs X a w) (hb : DSs X b u) : DS X (.If c a b pos) (wIfS wc w u) := by
  refine ⟨fun W tk hp => ps_imp (ps_if (hc.pt W tk) (ha.ps W tk hp) (hb.ps W tk hp)) fun D σ H q => ?_⟩
  obtain ⟨F, M, ρ, E, S, R, w, f⟩ := q
  refine ⟨F, M, ρ, _, _, S, R, w, fun b H1 F1 M1 e1 S1 w1 => ?_, f.xc σ⟩
  cases b with
  | true => rw [if_pos rfl]; exact ⟨F1, M1, ρ, E, S1, R.mono e1.sm, w1, f.on e1⟩
  | false => rw [if_neg Bool.false_ne_true]; exact ⟨F1, M1, ρ, E, S1, R.mono e1.sm, w1, f.on e1⟩
theorem set_in {W : WX} {i : Nat} {σ : L2.St} {H : Hp} {D : Ends} (q : tOfS X.K W (wSet i we) D σ H) : tAsg (tOf X.K W we) (gName i) D σ H := by
  obtain ⟨F, M, ρ, E, S, R, w, f⟩ := q
  exact ⟨F, M, ρ, _, _, S, R, w, fun v d H1 F1 M1 e1 S1 r1 w1 => f.nx _ _ H1 F1 M1 e1 S1 ((R.mono e1.sm).set i r1) w1, f.xc σ⟩
theorem ds_set {i : Nat} {x : Str} {pos' : Pos} (hN : X.N.Nodup) (hi : X.N[i]? = some x) (hx : Loc X.env.scope x) (he : DE X e we) (hs : swapsWith e (some (.Name x pos')) pos.line X.env = pure false := by rfl) (hf : X.fn x = true ∨ X.env.scope.names.lookup x = some .local := by first | exact .inl rfl | exact .inr rfl | assumption) :
    DS X (.Assign [.Name x pos'] e pos) (wSet i we) := ⟨fun W tk _ => ps_imp (ps_set hN hi hx (he.pe W tk) hs hf) fun D σ H q => set_in q⟩
end

/-! ### targets -/
abbrev WG := D → Rh → MH → (Rh → MH → Prop) → Prop
abbrev WGs := List D → Rh → MH → (Rh → MH → Prop) → Prop
/-- all but some slots are as they were -/
structure Chg (is : List Nat) (σ σ' : L2.St) : Prop where
  len : σ'.length = σ.length
  at_ : ∀ j, j ∉ is → σ'[j]? = σ[j]?
theorem Chg.refl (is : List Nat) (σ : L2.St) : Chg is σ σ := ⟨rfl, fun _ _ => rfl⟩
theorem Chg.wipe {is vs : List Nat} {σ σ' : L2.St} (c : Chg is σ σ') (h : ∀ i ∈ is, i ∈ vs) : L2.wipe σ' vs = L2.wipe σ vs := by
  have look : ∀ (τ : L2.St) (ws : List Nat) (j : Nat), (L2.wipe τ ws)[j]? = if j < τ.length then (if j ∈ ws then some none else τ[j]?) else none := fun τ ws j => by
    induction ws with
    | nil =>
      show τ[j]? = _
      by_cases hj : j < τ.length
      · rw [if_pos hj]; simp
      · rw [if_neg hj]; exact List.getElem?_eq_none (Nat.not_lt.mp hj)
    | cons w ws ih =>
      show ((L2.wipe τ ws).set w none)[j]? = _
      by_cases hj : j < τ.length
      · rw [if_pos hj] at ih ⊢
        by_cases e : w = j
        · subst e
          rw [List.getElem?_set_self (by rw [L2.wipe_length]; exact hj), if_pos List.mem_cons_self]
        · rw [List.getElem?_set_ne e, ih]
          by_cases hm : j ∈ ws
          · rw [if_pos hm, if_pos (List.mem_cons_of_mem _ hm)]
          · rw [if_neg hm, if_neg (fun z => (List.mem_cons.mp z).elim (fun z => e z.symm) hm)]
      · rw [if_neg hj]
        exact List.getElem?_eq_none (by rw [List.length_set, L2.wipe_length]; exact Nat.not_lt.mp hj)
  refine List.ext_getElem? fun j => ?_
  rw [look, look, c.len]
  by_cases hj : j < σ.length
  · rw [if_pos hj, if_pos hj]
    by_cases hm : j ∈ vs
    · rw [if_pos hm, if_pos hm]
    · rw [if_neg hm, if_neg hm]
      exact c.at_ j fun z => hm (h j z)
  · rw [if_neg hj, if_neg hj]
def PostG (K : PySem.W.Frag) (H F : Hp) (M : MH) (is : List Nat) (σ : L2.St) (k : Rh → MH → Prop) (Q : L2.St → Hp → Prop) : Prop := ∀ σ' ρ H' F' M', Ext H F M H' F' M' → RepS K H' F' M' → RepE K F' σ' ρ → Chg is σ σ' → k ρ M' → Q σ' H'
def gOf (K : PySem.W.Frag) (is : List Nat) (w : WG) : TG := fun v σ H Q => ∃ d F M ρ k, RepS K H F M ∧ RepE K F σ ρ ∧ Rep K F v d ∧ w d ρ M k ∧ PostG K H F M is σ k Q
def gsOf (K : PySem.W.Frag) (is : List Nat) (w : WGs) : TGs := fun vs σ H Q => ∃ ds F M ρ k, RepS K H F M ∧ RepE K F σ ρ ∧ Reps K F vs ds ∧ w ds ρ M k ∧ PostG K H F M is σ k Q
structure DG (X : Cx) (tg : Expr) (is : List Nat) (w : WG) : Prop where
  pg : PG X tg (gOf X.K is w)
structure DGs (X : Cx) (ts : List Expr) (is : List Nat) (w : WGs) : Prop where
  pg : PGs X ts (gsOf X.K is w)
def wgN (i : Nat) : WG := fun d ρ M k => k (ρ.set i (some d)) M
def wgNil : WGs := fun ds ρ M k => match ds with
  | [] => k ρ M
  | _ => False
def wgCons (w : WG) (u : WGs) : WGs := fun ds ρ M k => match ds with
  | d :: r => w d ρ M fun ρ1 M1 => u r ρ1 M1 k
  | [] => False
def wgTup (n : Nat) (w : WGs) : WG := fun d ρ M k => onSeq d fun ds => gd (Nat.beq ds.length n) (w ds ρ M k)
section
variable {X : Cx} {pos : Pos}
theorem dg_name {i : Nat} {x : Str} (hN : X.N.Nodup) (hi : X.N[i]? = some x) (hx : Loc X.env.scope x) (hf : X.fn x = true ∨ X.env.scope.names.lookup x = some .local := by first | exact .inl rfl | exact .inr rfl | assumption) : DG X (.Name x pos) [i] (wgN i) := by
  refine ⟨pg_imp (pg_name hN hi hx hf) fun v σ H Q q => ?_⟩
  obtain ⟨d, F, M, ρ, k, S, R, r, w, f⟩ := q
  exact f _ _ H F M (Ext.refl _ _ _) S (R.set i r) ⟨List.length_set, fun j hj => List.getElem?_set_ne fun z => hj (by simp [z])⟩ w
theorem pgs_imp {ts : List Expr} {t t' : TGs} (h : PGs X ts t) (i : ∀ v σ H Q, t' v σ H Q → t v σ H Q) : PGs X ts t' := ⟨fun pins s σ H v u Q I r q => h.run pins s σ H v u Q I r (i v σ H Q q)⟩
theorem dgs_nil : DGs X [] [] wgNil := by
  refine ⟨pgs_imp pgs_nil fun v σ H Q q => ?_⟩
  obtain ⟨ds, F, M, ρ, k, S, R, r, w, f⟩ := q
  cases ds with
  | nil => cases r; exact ⟨rfl, f _ _ H F M (Ext.refl _ _ _) S R (Chg.refl _ _) w⟩
  | cons d ds => exact w.elim
theorem dgs_cons {e : Expr} {es : List Expr} {is js : List Nat} {w : WG} {u : WGs} (h1 : DG X e is w) (h2 : DGs X es js u)
    (hs : (assignEach (e :: es) X.env).map (·.2) = assign e X.env :: (assignEach es X.env).map (·.2) := by rfl) : DGs X (e :: es) (is ++ js) (wgCons w u) := by
  refine ⟨pgs_imp (pgs_cons h1.pg h2.pg hs) fun v σ H Q q => ?_⟩
  obtain ⟨ds, F, M, ρ, k, S, R, r, w, f⟩ := q
  cases ds with
  | nil => exact w.elim
  | cons d ds =>
    cases r with
    | cons r1 r2 =>
      exact ⟨_, _, rfl, d, F, M, ρ, _, S, R, r1, w, fun σ' ρ' H' F' M' e' S' R' c' w' => ⟨ds, F', M', ρ', k, S', R', r2.mono e'.sm, w', fun σ2 ρ2 H2 F2 M2 e2 S2 R2 c2 w2 =>
        f σ2 ρ2 H2 F2 M2 (e'.trans e2) S2 R2 ⟨c2.len.trans c'.len, fun j hj => (c2.at_ j fun z => hj (List.mem_append_right _ z)).trans (c'.at_ j fun z => hj (List.mem_append_left _ z))⟩ w2⟩⟩
theorem dg_tup {es : List Expr} {k : Nat} {is : List Nat} {w : WGs} {n : Nat} (hc : X.calm = true) (h : DGs X es is w)
    (hn : (assignEach es X.env).length = n := by rfl) (hst : (assignEach es X.env).findIdx? (·.1) = none := by rfl) : DG X (.Tuple es k pos) is (wgTup n w) := by
  refine ⟨⟨fun pins s σ H v u Q I rv q => ?_⟩⟩
  obtain ⟨d, F, M, ρ, k, S, R, r, w, f⟩ := q
  obtain ⟨a, xs, ds, rfl, hq, hr, hl, w⟩ := seq_of r w
  obtain ⟨hb, w⟩ := gd_of w
  have hlen : ds.length = n := Nat.eq_of_beq_eq_true hb
  have hx : xs.length = n := hr.length.trans hlen
  have inner : gsOf X.K is _ xs σ H Q := ⟨ds, F, M, ρ, k, S, R, hr, w, f⟩
  rcases hq with hq | hq
  · exact (pg_tup hc h.pg hn hst).run pins s σ H _ u Q I rv ⟨a, xs, rfl, seqT S.fz hq, hx, inner⟩
  · exact (pg_lst hc h.pg hn hst).run pins s σ H _ u Q I rv ⟨a, xs, rfl, S.fz.seq hq, hx, inner⟩
/-- target = value -/
def wAsg (we : WE) (g : WG) : WS := fun ρ M E => we ρ M (fun d M1 => g d ρ M1 E.nx) E.xc
theorem ds_asg {tg e : Expr} {we : WE} {is : List Nat} {g : WG} (he : DE X e we) (hg : DG X tg is g) (hs : swapsWithSole [tg] e pos.line X.env = pure false := by rfl) (hw : swappedStores [tg] e X.env = pure none := by rfl)
    (h1 : (assignEach [tg] X.env).map (·.2) = [assign tg X.env] := by rfl) : DS X (.Assign [tg] e pos) (wAsg we g) := by
  refine ⟨fun W tk _ => ps_imp (ps_asg (he.pe W tk) hg.pg hs hw h1) fun D σ H q => ?_⟩
  obtain ⟨F, M, ρ, E, S, R, w, f⟩ := q
  exact ⟨F, M, ρ, _, _, S, R, w, fun v d H1 F1 M1 e1 S1 r1 w1 => ⟨d, F1, M1, ρ, _, S1, R.mono e1.sm, r1, w1, fun σ2 ρ2 H2 F2 M2 e2 S2 R2 _ w2 => f.nx σ2 ρ2 H2 F2 M2 (e1.trans e2) S2 R2 w2⟩, f.xc σ⟩
/-- o[i] = e: a list that may be changed -/
def wPut (wo wi we : WE) : WS := fun ρ M E => we ρ M (fun d M1 => wo ρ M1 (fun o M2 => wi ρ M2 (fun i M3 => ∃ a ds n j, o = .ref a ∧ i = .int n ∧ M3 a = some (.lst ds) ∧ ixN ds.length n = some j ∧ E.nx ρ (mupd M3 a (.lst (ds.set j d)))) E.xc) E.xc) E.xc
theorem ds_put {o i e : Expr} {wo wi we : WE} {pt : Pos} (ho : DE X o wo) (hi : DE X i wi) (he : DE X e we)
    (ha : ∀ v, assign (.Subscript o i pt) X.env v = (do
      let ov ← holding [v] (eval o X.env)
      let iv ← holding [v, ov] (eval i X.env)
      standAt pt
      holding [v, ov, iv] (setItem ov iv v)
      release [v, ov, iv] []) := by intro _; rfl)
    (hs : swapsWithSole [.Subscript o i pt] e pos.line X.env = pure false := by rfl) (hw : swappedStores [.Subscript o i pt] e X.env = pure none := by rfl)
    (h1 : (assignEach [.Subscript o i pt] X.env).map (·.2) = [assign (.Subscript o i pt) X.env] := by rfl) : DS X (.Assign [.Subscript o i pt] e pos) (wPut wo wi we) := by
  refine ⟨fun W tk _ => ps_imp (ps_asg (he.pe W tk) (pg_sub (ho.pe W tk) (hi.pe W tk) set_list ha) hs hw h1) fun D σ H q => ?_⟩
  obtain ⟨F, M, ρ, E, S, R, w, f⟩ := q
  refine ⟨F, M, ρ, _, _, S, R, w, fun v d H1 F1 M1 e1 S1 r1 w1 => ?_, f.xc σ⟩
  refine ⟨F1, M1, ρ, _, _, S1, R.mono e1.sm, w1, fun vo o H2 F2 M2 e2 S2 r2 w2 => ?_, (f.xc σ).on e1⟩
  have e12 := e1.trans e2
  refine ⟨F2, M2, ρ, _, _, S2, R.mono e12.sm, w2, fun vi i H3 F3 M3 e3 S3 r3 w3 => ?_, (f.xc σ).on e12⟩
  obtain ⟨a, ds, n, j, rfl, rfl, hm, hj, w4⟩ := w3
  cases r2
  cases r3
  obtain ⟨_, hl, xs, hx, hr⟩ := S3.mlst hm
  obtain ⟨S4, e4⟩ := S3.write hm (o := .lst (xs.set j v)) (m := .lst (ds.set j d)) ⟨_, rfl, hr.set j (r1.mono (e2.trans e3).sm), by rw [List.length_set]; exact hl⟩
  have e := (e12.trans e3).trans e4
  exact ⟨a, xs, n, j, rfl, rfl, hx, by rw [hr.length]; exact hj, f.nx _ _ _ _ _ e S4 (R.mono e.sm) w4⟩
end

/-! ### what is walked -/
structure Wks (K : PySem.W.Frag) (F : Hp) (J : It) (ds : List D) (g : MH → Prop) : Prop where
  sz : ds.length ≤ sizeLine
  go : ∀ i H F' M, i < ds.length → Same F F' → RepS K H F' M → g M → J.go i H
  stop : ∀ H F' M, Same F F' → RepS K H F' M → g M → J.stop ds.length H
  yld : ∀ i H v H3 F' M, i < ds.length → Same F F' → RepS K H F' M → g M → J.yld i H v H3 → ∃ F3 d, Ext H F' M H3 F3 M ∧ RepS K H3 F3 M ∧ ds[i]? = some d ∧ Rep K F3 v d
abbrev WI := Rh → MH → (List D → (MH → Prop) → MH → Prop) → KE → Prop
def iOf (K : PySem.W.Frag) (W : WX) (w : WI) : TI := fun σ H R => ∃ F M ρ k x, RepS K H F M ∧ RepE K F σ ρ ∧ w ρ M k x ∧
  (∀ J ds g H' F' M', Ext H F M H' F' M' → RepS K H' F' M' → Wks K F' J ds g → k ds g M' → R J H') ∧ PostX K H F M x (fun c d => W c d σ)
structure DI (X : Cx) (tg iter : Expr) (w : WI) : Prop where
  pi : ∀ W, Takes X W → PI X tg iter (iOf X.K W w)
/-- a list or a tuple -/
def wiSeq (w : WE) : WI := fun ρ M k x => w ρ M (fun d M1 => onSeq d fun ds => k ds (fun _ => True) M1) x
/-- a list that may be changed, but is not while it is walked -/
def wiLstM (w : WE) : WI := fun ρ M k x => w ρ M (fun d M1 => ∃ a ds, d = .ref a ∧ M1 a = some (.lst ds) ∧ k ds (fun M' => M' a = some (.lst ds)) M1) x
def intsFrom (lo : Int) : Nat → List D
  | 0 => []
  | n + 1 => .int lo :: intsFrom (lo + 1) n
theorem intsFrom_len : ∀ (n : Nat) (lo : Int), (intsFrom lo n).length = n
  | 0, _ => rfl
  | n + 1, lo => congrArg (· + 1) (intsFrom_len n (lo + 1))
theorem intsFrom_get : ∀ (n : Nat) (lo : Int) (i : Nat), i < n → (intsFrom lo n)[i]? = some (.int (lo + i))
  | 0, _, _, h => absurd h (Nat.not_lt_zero _)
  | n + 1, lo, 0, _ => by simp [intsFrom]
  | n + 1, lo, i + 1, h => by
    have q := intsFrom_get n (lo + 1) i (Nat.lt_of_succ_lt_succ h)
    show (intsFrom (lo + 1) n)[i]? = _
    rw [q]
    congr 2
    omega
def onInt (d : D) (p : Int → Prop) : Prop := match d with
  | .int i => p i
  | _ => False
theorem int_of {K : PySem.W.Frag} {F : Hp} {v : V} {d : D} {p : Int → Prop} (r : Rep K F v d) (h : onInt d p) : ∃ b, v = .int b ∧ p b := by
  cases d with
  | int b => cases r; exact ⟨b, rfl, h⟩
  | _ => exact h.elim
/-- range(n), range(a, b) -/
def wiR1 (w : WE) : WI := fun ρ M k x => w ρ M (fun d M1 => onInt d fun n => n ≤ 16777216 ∧ -(2 ^ 62) ≤ n ∧ k (intsFrom 0 n.toNat) (fun _ => True) M1) x
def wiR2 (wa wb : WE) : WI := fun ρ M k x => wa ρ M (fun d M1 => wb ρ M1 (fun e M2 => onInt d fun a => onInt e fun b => (-(2 ^ 62) ≤ a ∧ a < 2 ^ 62 ∧ -(2 ^ 62) ≤ b ∧ b < 2 ^ 62 ∧ b - a ≤ 16777216) ∧ k (intsFrom a (b - a).toNat) (fun _ => True) M2) x) x
section
variable {X : Cx} {tg : Expr}
theorem wks_list {K : PySem.W.Frag} {F : Hp} {a : Addr} {xs : List V} {ds : List D} (h : SqL K F a xs) (r : Reps K F xs ds) (hl : ds.length ≤ sizeLine) : Wks K F (Itl K a) ds (fun _ => True) where
  sz := hl
  go := fun i H F' M hi s S _ => by
    have h' := S.fz.seq (s.seq h)
    have hi' : i < xs.length := by rw [r.length]; exact hi
    exact ⟨xs, xs[i], h', by simp [hi']⟩
  stop := fun H F' M s S _ => ⟨xs, S.fz.seq (s.seq h), by rw [r.length]; exact Nat.le_refl _⟩
  yld := fun i H v H3 F' M hi s S _ y => by
    obtain ⟨e, y⟩ := y
    subst e
    obtain ⟨d, h1, h2⟩ := r.getV (y xs (S.fz.seq (s.seq h)))
    exact ⟨F', d, Ext.refl _ _ _, S, h1, h2.mono s⟩
theorem wks_tup {K : PySem.W.Frag} {F : Hp} {a : Addr} {xs : List V} {ds : List D} (h : SqT K F a xs) (r : Reps K F xs ds) (hl : ds.length ≤ sizeLine) : Wks K F (Itt K a) ds (fun _ => True) where
  sz := hl
  go := fun i H F' M hi s S _ => by
    have h' := seqT S.fz (seqT s h)
    have hi' : i < xs.length := by rw [r.length]; exact hi
    exact ⟨xs, xs[i], h', by simp [hi']⟩
  stop := fun H F' M s S _ => ⟨xs, seqT S.fz (seqT s h), by rw [r.length]; exact Nat.le_refl _⟩
  yld := fun i H v H3 F' M hi s S _ y => by
    obtain ⟨e, y⟩ := y
    subst e
    obtain ⟨d, h1, h2⟩ := r.getV (y xs (seqT S.fz (seqT s h)))
    exact ⟨F', d, Ext.refl _ _ _, S, h1, h2.mono s⟩
theorem wks_mlst {K : PySem.W.Frag} {F : Hp} {a : Addr} {ds : List D} (hl : ds.length ≤ sizeLine) : Wks K F (Itl K a) ds (fun M' => M' a = some (.lst ds)) where
  sz := hl
  go := fun i H F' M hi s S g => by
    obtain ⟨_, _, xs, h1, h2⟩ := S.mlst g
    have hi' : i < xs.length := by rw [h2.length]; exact hi
    exact ⟨xs, xs[i], SqL.of h1, by simp [hi']⟩
  stop := fun H F' M s S g => by
    obtain ⟨_, _, xs, h1, h2⟩ := S.mlst g
    exact ⟨xs, SqL.of h1, by rw [h2.length]; exact Nat.le_refl _⟩
  yld := fun i H v H3 F' M hi s S g y => by
    obtain ⟨e, y⟩ := y
    subst e
    obtain ⟨_, _, xs, h1, h2⟩ := S.mlst g
    obtain ⟨d, h3, h4⟩ := h2.getV (y xs (SqL.of h1))
    exact ⟨F', d, Ext.refl _ _ _, S, h3, h4⟩
theorem wks_range {K : PySem.W.Frag} {F : Hp} {lo : Int} {n : Nat} (hl : n ≤ sizeLine) : Wks K F (Itr lo n) (intsFrom lo n) (fun _ => True) where
  sz := by rw [intsFrom_len]; exact hl
  go := fun i H F' M hi s S _ => by rw [intsFrom_len] at hi; exact hi
  stop := fun H F' M s S _ => by rw [intsFrom_len]; exact Nat.le_refl _
  yld := fun i H v H3 F' M hi s S _ y => by
    obtain ⟨e, y⟩ := y
    subst e
    rw [intsFrom_len] at hi
    subst y
    exact ⟨F', _, Ext.refl _ _ _, S, intsFrom_get n lo i hi, .int _⟩
/-- by the value's kind -/
theorem di_seq {e : Expr} {w : WE} (h : DE X e w) : DI X tg e (wiSeq w) := by
  refine ⟨fun W tk => ⟨fun pins s σ H R I q => ?_⟩⟩
  obtain ⟨F, M, ρ, k, x, S, E, w, f, px⟩ := q
  refine thn ((h.pe W tk).run pins s σ H (fun v H1 => ∃ d F1 M1, Ext H F M H1 F1 M1 ∧ RepS X.K H1 F1 M1 ∧ Rep X.K F1 v d ∧ onSeq d fun ds => k ds (fun _ => True) M1) I ⟨F, M, ρ, _, x, S, E, w, fun v d H1 F1 M1 e1 S1 r1 w1 => ⟨d, F1, M1, e1, S1, r1, w1⟩, px⟩) fun u s1 ⟨v, H1, I1, rv, d, F1, M1, e1, S1, r1, w1⟩ => ?_
  obtain ⟨a, xs, ds, rfl, hq, hr, hl, w1⟩ := seq_of r1 w1
  cases rv
  rcases hq with hq | hq
  · obtain ⟨its, rv, p, hz⟩ := I1.tuple (seqT S1.fz hq)
    refine wpAny_pyIter_tuple (show s1.heap.IsTuple a its.toArray from p) ?_
    refine ⟨s1.heap.objs.size, [s1.heap.objs.size], _, _, H1, rfl, I1.kept (t' := s1.toks) fun b o e => Heap.get?_push_of_some _ e, turn_tuple a _, ⟨_, Heap.get?_push_size _ rfl, rfl, rfl⟩, fun b hb => ?_, f _ _ _ _ _ _ e1 S1 (wks_tup hq hr hl) w1⟩
    have e : b = s1.heap.objs.size := by simpa using hb
    subst e
    exact I1.fpOk (Nat.le_refl _) (I1.hok.fresh (Nat.le_refl _))
  · obtain ⟨its, rv, p, hz⟩ := I1.list (S1.fz.seq hq)
    refine wpAny_pyIter_list p.isList ?_
    refine ⟨s1.heap.objs.size, [s1.heap.objs.size], _, _, H1, rfl, I1.kept (t' := s1.toks) fun b o e => Heap.get?_push_of_some _ e, turn_list a _, ⟨_, Heap.get?_push_size _ rfl, rfl, rfl⟩, fun b hb => ?_, f _ _ _ _ _ _ e1 S1 (wks_list hq hr hl) w1⟩
    have e : b = s1.heap.objs.size := by simpa using hb
    subst e
    exact I1.fpOk (Nat.le_refl _) (I1.hok.fresh (Nat.le_refl _))
theorem di_lstM {e : Expr} {w : WE} (h : DE X e w) : DI X tg e (wiLstM w) := by
  refine ⟨fun W tk => pi_imp (pi_list (h.pe W tk)) fun σ H R q => ?_⟩
  obtain ⟨F, M, ρ, k, x, S, E, w, f, px⟩ := q
  refine ⟨F, M, ρ, _, x, S, E, w, fun v d H1 F1 M1 e1 S1 r1 w1 => ?_, px⟩
  obtain ⟨a, ds, rfl, hm, w2⟩ := w1
  cases r1
  obtain ⟨_, hl, xs, h1, h2⟩ := S1.mlst hm
  exact ⟨a, rfl, ⟨xs, SqL.of h1⟩, f _ _ _ _ _ _ e1 S1 (wks_mlst hl) w2⟩
theorem di_r1 {a : Expr} {w : WE} {p pos : Pos} (hm : X.mg "range" = none) (ha : DE X a w) (hg : Gl X "range" := by rfl) (hs : starEach [a] X.env = [(false, eval a X.env)] := by rfl) (h0 : starEach (a :: []) X.env = (false, eval a X.env) :: starEach [] X.env := by rfl) : DI X tg (.Call (.Name "range" p) [a] [] pos) (wiR1 w) := by
  refine ⟨fun W tk => pi_imp (pi_range1 hg hm (pa_cons (ha.pe W tk) pa_nil h0) hs) fun σ H R q => ?_⟩
  obtain ⟨F, M, ρ, k, x, S, E, w, f, px⟩ := q
  refine ⟨F, M, ρ, _, x, S, E, w, fun v d H1 F1 M1 e1 S1 r1 w1 => ?_, px⟩
  obtain ⟨n, rfl, h1, h2, w2⟩ := int_of r1 w1
  exact ⟨n, rfl, h2, by omega, f _ _ _ _ _ _ e1 S1 (wks_range (by rw [sizeLine_eq]; omega)) w2⟩
theorem di_r2 {a b : Expr} {wa wb : WE} {p pos : Pos} (hm : X.mg "range" = none) (ha : DE X a wa) (hb : DE X b wb) (hg : Gl X "range" := by rfl) (hs : starEach [a, b] X.env = [(false, eval a X.env), (false, eval b X.env)] := by rfl) (hs2 : starEach [b] X.env = [(false, eval b X.env)] := by rfl)
    (h0 : starEach (a :: [b]) X.env = (false, eval a X.env) :: starEach [b] X.env := by rfl) (h00 : starEach (b :: []) X.env = (false, eval b X.env) :: starEach [] X.env := by rfl) : DI X tg (.Call (.Name "range" p) [a, b] [] pos) (wiR2 wa wb) := by
  refine ⟨fun W tk => pi_imp (pi_range2 hg hm (pa_cons (ha.pe W tk) (pa_cons (hb.pe W tk) pa_nil h00) h0) hs hs2) fun σ H R q => ?_⟩
  obtain ⟨F, M, ρ, k, x, S, E, w, f, px⟩ := q
  refine ⟨F, M, ρ, _, x, S, E, w, fun v d H1 F1 M1 e1 S1 r1 w1 => ?_, px⟩
  refine ⟨F1, M1, ρ, _, x, S1, E.mono e1.sm, w1, fun u e H2 F2 M2 e2 S2 r2 w2 => ?_, px.on e1⟩
  obtain ⟨i, rfl, w3⟩ := int_of r1 w2
  obtain ⟨j, rfl, ⟨h1, h2, h3, h4, h5⟩, w4⟩ := int_of r2 w3
  exact ⟨i, j, rfl, ⟨h1, h2, h3, h4⟩, f _ _ _ _ _ _ (e1.trans e2) S2 (wks_range (by rw [sizeLine_eq]; omega)) w4⟩
end

/-! ### for, while -/
def forD0 (gt : WG) (wb : WS) (g : MH → Prop) (E : EndsD) : List D → Rh → MH → Prop
  | [], ρ, M => g M ∧ E.nx ρ M
  | d :: r, ρ, M => g M ∧ gt d ρ M fun ρ1 M1 => wb ρ1 M1 { nx := forD0 gt wb g E r, rt := E.rt, bk := E.nx, ct := forD0 gt wb g E r, xc := E.xc }
/-- not to be unrolled unasked -/
@[irreducible] def forD (gt : WG) (wb : WS) (g : MH → Prop) (E : EndsD) (ds : List D) (ρ : Rh) (M : MH) : Prop := forD0 gt wb g E ds ρ M
theorem forD_eq {gt : WG} {wb : WS} {g : MH → Prop} {E : EndsD} {ds : List D} {ρ : Rh} {M : MH} : forD gt wb g E ds ρ M = forD0 gt wb g E ds ρ M := by unfold forD; rfl
def wFor (wi : WI) (gt : WG) (wb : WS) : WS := fun ρ M E => wi ρ M (fun ds g M1 => forD gt wb g E ds ρ M1) E.xc
def whD (wt : WT) (wb : WS) (E : EndsD) : Nat → Rh → MH → Prop
  | 0, _, _ => False
  | n + 1, ρ, M => wt ρ M (fun b M1 => match b with
    | true => wb ρ M1 { nx := whD wt wb E n, rt := E.rt, bk := E.nx, ct := whD wt wb E n, xc := E.xc }
    | false => E.nx ρ M1) E.xc
def wWhile (wt : WT) (wb : WS) : WS := fun ρ M E => ∃ n, whD wt wb E n ρ M
theorem drop_cons {α : Type} {l : List α} {i : Nat} {d : α} (h : l[i]? = some d) : l.drop i = d :: l.drop (i + 1) := by
  obtain ⟨h1, h2⟩ := List.getElem?_eq_some_iff.mp h
  rw [List.drop_eq_getElem_cons h1, h2]
section
variable {X : Cx} {pos : Pos}
theorem ds_for {tg iter : Expr} {body : List Stmt} {wi : WI} {is : List Nat} {gt : WG} {wb : WS} (hc : X.calm = true) (hi : DI X tg iter wi) (hg : DG X tg is gt) (hb : DSs X body wb)
    (hs : ∀ x, foldedSetIterable iter X.env x = pure x := by intro _; rfl) : DS X (.For tg iter body [] pos) (wFor wi gt wb) := by
  refine ⟨fun W tk hp => ps_imp (ps_for hp hc (hi.pi W tk) hg.pg (hb.ps W tk hp) hs) fun D σ H q => ?_⟩
  obtain ⟨F, M, ρ, E, S, R, w, f⟩ := q
  refine ⟨F, M, ρ, _, _, S, R, w, fun J ds g H1 F1 M1 e1 S1 wk w1 => ?_, f.xc σ⟩
  have w1 : forD0 gt wb g E ds ρ M1 := forD_eq ▸ w1
  refine ⟨fun i m σ' H' => m = ds.length - i ∧ i ≤ ds.length ∧ ∃ F' M' ρ', Ext H1 F1 M1 H' F' M' ∧ RepS X.K H' F' M' ∧ RepE X.K F' σ' ρ' ∧ forD0 gt wb g E (ds.drop i) ρ' M', ⟨_, rfl, Nat.zero_le _, F1, M1, ρ, Ext.refl _ _ _, S1, R.mono e1.sm, w1⟩, ?_⟩
  rintro i m σ' H' ⟨rfl, hi, F', M', ρ', e', S', R', w'⟩
  by_cases hlt : i < ds.length
  · obtain ⟨d, hd⟩ : ∃ d, ds[i]? = some d := ⟨ds[i], by simp [hlt]⟩
    rw [drop_cons hd] at w'
    obtain ⟨gm, w'⟩ := w'
    refine .inr ⟨wk.go i H' F' M' hlt e'.sm S' gm, fun σ2 H2 => ∃ F2 M2 ρ2, Ext H1 F1 M1 H2 F2 M2 ∧ RepS X.K H2 F2 M2 ∧ RepE X.K F2 σ2 ρ2 ∧ forD0 gt wb g E (ds.drop (i + 1)) ρ2 M2, fun σ2 H2 n2 => ⟨_, by omega, rfl, hlt, n2⟩, fun v H3 y => ?_⟩
    obtain ⟨F3, d', e3, S3, hd', r3⟩ := wk.yld i H' v H3 F' M' hlt e'.sm S' gm y
    rw [hd] at hd'
    cases hd'
    refine ⟨d, F3, M', ρ', _, S3, R'.mono e3.sm, r3, w', fun σ4 ρ4 H4 F4 M4 e4 S4 R4 _ w4 => ?_⟩
    have e14 := (e'.trans e3).trans e4
    have f4 := f.on (e1.trans e14)
    refine ⟨F4, M4, ρ4, _, S4, R4, w4, fun σ5 ρ5 H5 F5 M5 e5 S5 R5 w5 => ⟨F5, M5, ρ5, e14.trans e5, S5, R5, w5⟩, f4.rt, f4.nx, fun σ5 ρ5 H5 F5 M5 e5 S5 R5 w5 => ⟨F5, M5, ρ5, e14.trans e5, S5, R5, w5⟩, f4.xc⟩
  · have e : i = ds.length := by omega
    subst e
    rw [List.drop_length] at w'
    exact .inl ⟨wk.stop H' F' M' e'.sm S' w'.1, f.nx _ _ H' F' M' (e1.trans e') S' R' w'.2⟩
theorem ds_while {c : Expr} {body : List Stmt} {wt : WT} {wb : WS} (hc : DT X c wt) (hb : DSs X body wb) : DS X (.While c body [] pos) (wWhile wt wb) := by
  refine ⟨fun W tk hp => ps_imp (ps_while hp (hc.pt W tk) (hb.ps W tk hp)) fun D σ H q => ?_⟩
  obtain ⟨F, M, ρ, E, S, R, ⟨n, w⟩, f⟩ := q
  refine ⟨fun m σ' H' => ∃ F' M' ρ', Ext H F M H' F' M' ∧ RepS X.K H' F' M' ∧ RepE X.K F' σ' ρ' ∧ whD wt wb E m ρ' M', ⟨n, F, M, ρ, Ext.refl _ _ _, S, R, w⟩, ?_⟩
  rintro m σ' H' ⟨F', M', ρ', e', S', R', w'⟩
  cases m with
  | zero => exact w'.elim
  | succ m =>
    refine ⟨F', M', ρ', _, _, S', R', w', fun b H1 F1 M1 e1 S1 w1 => ?_, (f.xc σ').on e'⟩
    have e01 := e'.trans e1
    have f1 := f.on e01
    cases b with
    | true =>
      refine iteT ?_
      have more : ∀ {σ2 : L2.St} {H2 F2 : Hp} {M2 : MH} {ρ2 : Rh}, Ext H1 F1 M1 H2 F2 M2 → RepS X.K H2 F2 M2 → RepE X.K F2 σ2 ρ2 → whD wt wb E m ρ2 M2 → ∃ F' M' ρ', Ext H F M H2 F' M' ∧ RepS X.K H2 F' M' ∧ RepE X.K F' σ2 ρ' ∧ whD wt wb E m ρ' M' := fun {σ2 H2 F2 M2 ρ2} e2 S2 R2 w2 => ⟨F2, M2, ρ2, e01.trans e2, S2, R2, w2⟩
      exact ⟨fun σ2 H2 => ∃ F' M' ρ', Ext H F M H2 F' M' ∧ RepS X.K H2 F' M' ∧ RepE X.K F' σ2 ρ' ∧ whD wt wb E m ρ' M', fun σ2 H2 n2 => ⟨m, Nat.lt_succ_self m, n2⟩,
        F1, M1, ρ', _, S1, R'.mono e1.sm, w1, fun σ5 ρ5 H5 F5 M5 e5 S5 R5 w5 => more e5 S5 R5 w5, f1.rt, f1.nx, fun σ5 ρ5 H5 F5 M5 e5 S5 R5 w5 => more e5 S5 R5 w5, f1.xc⟩
    | false =>
      refine iteF ?_
      exact f.nx _ _ H1 F1 M1 e01 S1 (R'.mono e1.sm) w1
end

/-! ### comprehensions (nothing is raised within) -/
def noX : KE := fun _ _ _ => False
theorem noX_post {K : PySem.W.Frag} {H F : Hp} {M : MH} {w : XK} : PostX K H F M noX w := fun _ _ _ _ _ _ _ _ _ _ _ z => z.elim
abbrev noW : WX := fun _ _ _ _ => False
structure DTs (X : Cx) (ifs : List Expr) (w : WT) : Prop where
  pt : ∀ W, Takes X W → PTs X ifs (tOfT X.K W w)
def wYes : WT := fun _ M k _ => k true M
/-- the items that are made, from the walked ones -/
def compD (gt : WG) (wt : WT) (we : WE) (g : MH → Prop) (ρ : Rh) : List D → MH → (List D → MH → Prop) → Prop
  | [], M, k => g M ∧ k [] M
  | d :: r, M, k => g M ∧ gt d ρ M fun ρ1 M1 => wt ρ1 M1 (fun b M2 => match b with
    | true => we ρ1 M2 (fun e M3 => compD gt wt we g ρ r M3 fun es M4 => k (e :: es) M4) noX
    | false => compD gt wt we g ρ r M2 k) noX
def wLc (wi : WI) (gt : WG) (wt : WT) (we : WE) (own : List Nat) : WE := fun ρ M k x => wi ρ M (fun ds g M1 => compD gt wt we g (wipeD ρ own) ds M1 fun es M2 => k (.lst es) M2) x
def wLcM (wi : WI) (gt : WG) (wt : WT) (we : WE) (own : List Nat) : WE := fun ρ M k x => wi ρ M (fun ds g M1 => compD gt wt we g (wipeD ρ own) ds M1 fun es M2 => ∀ a, M2 a = none → k (.ref a) (mupd M2 a (.lst es))) x
section
variable {X : Cx}
theorem dts_nil : DTs X [] wYes := by
  refine ⟨fun W _ => ⟨fun pins s σ H Q I q => ?_⟩⟩
  obtain ⟨F, M, ρ, k, x, S, E, w, pv, px⟩ := q
  exact pts_nil.run pins s σ H Q I (pv true H F M (Ext.refl _ _ _) S w)
theorem dts_one {c : Expr} {w : WT} (h : DT X c w) : DTs X [c] w := ⟨fun W tk => pts_one (h.pt W tk)⟩
theorem RepS.untold {K : PySem.W.Frag} {H F : Hp} {M : MH} {a : Addr} (S : RepS K H F M) (hf : F a = none) (hm : M a = none) (o : HO) : RepS K (upd H a o) F M :=
  ⟨fun b u q => by rw [upd_ne (ne_of_none q hf)]; exact S.fz b u q, fun b m q => by
    obtain ⟨q1, u, q2, q3⟩ := S.mu b m q
    have hb : b ≠ a := fun z => by rw [z, hm] at q; cases q
    exact ⟨q1, u, by rw [upd_ne hb]; exact q2, q3⟩⟩
theorem Ext.at_new {H F : Hp} {M : MH} {H' F' : Hp} {M' : MH} {a : Addr} (e : Ext H F M H' F' M') (h : H a = none) (o : HO) : Ext H F M (upd H' a o) F' M' :=
  ⟨e.sm, fun b u q1 q2 q3 => by
    have hb : b ≠ a := fun z => by rw [z, h] at q1; cases q1
    rw [upd_ne hb]
    exact e.fr b u q1 q2 q3⟩
theorem wipe_wipe (σ : L2.St) (vs : List Nat) : L2.wipe (L2.wipe σ vs) vs = L2.wipe σ vs := by
  have c : Chg vs σ (L2.wipe σ vs) := ⟨L2.wipe_length σ vs, fun j hj => by
    induction vs with
    | nil => rfl
    | cons w ws ih =>
      show ((L2.wipe σ ws).set w none)[j]? = _
      rw [List.getElem?_set_ne fun z => hj (by simp [z])]
      exact ih fun z => hj (List.mem_cons_of_mem _ z)⟩
  exact c.wipe fun i h => h
/-- the core: the new list's address D stays untold until its end -/
theorem lc_in {K : PySem.W.Frag} {wi : WI} {is : List Nat} {gt : WG} {wt : WT} {we : WE} {own : List Nat} (hsub : ∀ i ∈ is, i ∈ own) {W : WX} {σ : L2.St} {H : Hp} {Q : VK} {F : Hp} {M : MH} {ρ : Rh} {x : KE} {k : List D → MH → Prop}
    (S : RepS K H F M) (R : RepE K F σ ρ) (w : wi ρ M (fun ds g M1 => compD gt wt we g (wipeD ρ own) ds M1 k) x) (px : PostX K H F M x (fun c d => W c d σ))
    (fin : ∀ (H1 F1 : Hp) (M1 : MH) (D : Addr) vs es H' F' M', Ext H F M H1 F1 M1 → H1 D = none → Ext H1 F1 M1 H' F' M' → RepS K H' F' M' → H' D = some (.lst vs) → F' D = none → M' D = none → Reps K F' vs es → es.length ≤ sizeLine → k es M' → Q (.ref D) H') :
    tLc (iOf K W wi) (gOf K is gt) (tOfT K noW wt) (tOf K noW we) own σ H Q := by
  refine ⟨F, M, ρ, _, x, S, R, w, fun J ds g H1 F1 M1 e1 S1 wk w1 => ?_, px⟩
  intro D hD
  have R1 : RepE K F1 (L2.wipe σ own) (wipeD ρ own) := (R.mono e1.sm).wipe own
  refine ⟨fun i m H' => m = ds.length - i ∧ i ≤ ds.length ∧ ∃ F' M' vs acc, Ext H1 F1 M1 H' F' M' ∧ RepS K H' F' M' ∧ H' D = some (.lst vs) ∧ F' D = none ∧ M' D = none ∧ Reps K F' vs acc ∧ acc.length ≤ i ∧
      compD gt wt we g (wipeD ρ own) (ds.drop i) M' (fun es M'' => k (acc ++ es) M''),
    ⟨_, rfl, Nat.zero_le _, F1, M1, [], [], (Ext.refl _ _ _).at_new hD _, S1.untold (S1.fno hD) (S1.mno hD) _, upd_same, S1.fno hD, S1.mno hD, .nil, Nat.le_refl _, w1⟩, ?_⟩
  rintro i m H' ⟨rfl, hi, F', M', vs, acc, e', S', hD', fD, mD, ra, la, w'⟩
  by_cases hlt : i < ds.length
  · obtain ⟨d, hd⟩ : ∃ d, ds[i]? = some d := ⟨ds[i], by simp [hlt]⟩
    rw [drop_cons hd] at w'
    obtain ⟨gm, w'⟩ := w'
    refine .inr ⟨wk.go i H' F' M' hlt e'.sm S' gm, fun H2 => ∃ F2 M2 vs acc, Ext H1 F1 M1 H2 F2 M2 ∧ RepS K H2 F2 M2 ∧ H2 D = some (.lst vs) ∧ F2 D = none ∧ M2 D = none ∧ Reps K F2 vs acc ∧ acc.length ≤ i + 1 ∧
      compD gt wt we g (wipeD ρ own) (ds.drop (i + 1)) M2 (fun es M'' => k (acc ++ es) M''), fun H2 n2 => ⟨_, by omega, rfl, hlt, n2⟩, fun v H3 y => ?_⟩
    obtain ⟨F3, d', e3, S3, hd', r3⟩ := wk.yld i H' v H3 F' M' hlt e'.sm S' gm y
    rw [hd] at hd'
    cases hd'
    obtain ⟨hD3, fD3, mD3⟩ := e3.fr D _ hD' fD mD
    refine ⟨d, F3, M', _, _, S3, R1.mono (e'.trans e3).sm, r3, w', fun σ4 ρ4 H4 F4 M4 e4 S4 R4 c4 w4 => ⟨c4.wipe hsub |>.trans ?_, ?_⟩⟩
    · exact wipe_wipe σ own
    obtain ⟨hD4, fD4, mD4⟩ := e4.fr D _ hD3 fD3 mD3
    refine ⟨F4, M4, ρ4, _, noX, S4, R4, w4, fun b H5 F5 M5 e5 S5 w5 => ?_, noX_post⟩
    obtain ⟨hD5, fD5, mD5⟩ := e5.fr D _ hD4 fD4 mD4
    have e05 := ((e'.trans e3).trans e4).trans e5
    have e35 := (e3.trans e4).trans e5
    cases b with
    | true =>
      refine iteT ?_
      refine ⟨F5, M5, ρ4, _, noX, S5, R4.mono e5.sm, w5, fun u e H6 F6 M6 e6 S6 r6 w6 => ?_, noX_post⟩
      obtain ⟨hD6, fD6, mD6⟩ := e6.fr D _ hD5 fD5 mD5
      have rv := ra.mono (e35.trans e6).sm
      refine ⟨vs, hD6, by rw [rv.length]; have := wk.sz; omega, F6, M6, _, acc ++ [e], (e05.trans e6).at_new hD _, S6.untold fD6 mD6 _, upd_same, fD6, mD6, rv.snoc r6, by rw [List.length_append, List.length_singleton]; omega, ?_⟩
      have q : (fun es M'' => k (acc ++ [e] ++ es) M'') = (fun es M'' => k (acc ++ (e :: es)) M'') := by
        funext es M''
        rw [List.append_assoc]
        rfl
      rw [q]
      exact w6
    | false =>
      refine iteF ?_
      exact ⟨F5, M5, vs, acc, e05, S5, hD5, fD5, mD5, ra.mono e35.sm, Nat.le_succ_of_le la, w5⟩
  · have e : i = ds.length := by omega
    subst e
    rw [List.drop_length] at w'
    refine .inl ⟨wk.stop H' F' M' e'.sm S' w'.1, ?_⟩
    have w2 : k (acc ++ []) M' := w'.2
    rw [List.append_nil] at w2
    exact fin H1 F1 M1 D vs acc H' F' M' e1 hD e' S' hD' fD mD ra (Nat.le_trans la wk.sz) w2
section
variable {elt tg iter : Expr} {ifs : List Expr} {scope : Scope} {own : List (Str × Nat)} {pos : Pos} {wi : WI} {is : List Nat} {gt : WG} {wt : WT} {we : WE}
theorem fin_frz {K : PySem.W.Frag} {H F : Hp} {M : MH} {k : KD} {Q : VK} (pv : PostV K H F M k Q) (H1 F1 : Hp) (M1 : MH) (L : Addr) (vs : List V) (es : List D) (H' F' : Hp) (M' : MH) (e1 : Ext H F M H1 F1 M1) (hD : H1 L = none) (e' : Ext H1 F1 M1 H' F' M')
    (S' : RepS K H' F' M') (hD' : H' L = some (.lst vs)) (fD : F' L = none) (mD : M' L = none) (r : Reps K F' vs es) (hl : es.length ≤ sizeLine) (w : k (.lst es) M') : Q (.ref L) H' := by
  have sF : Same F' (upd F' L (.lst vs)) := fun b u q => by rw [upd_ne (ne_of_none q fD)]; exact q
  have S2 : RepS K H' (upd F' L (.lst vs)) M' := ⟨fun b u q => by
    by_cases hb : b = L
    · subst hb; rw [upd_same] at q; cases q; exact hD'
    · rw [upd_ne hb] at q; exact S'.fz b u q, fun b m q => by
    have hb : b ≠ L := fun z => by rw [z, mD] at q; cases q
    obtain ⟨q1, u, q2, q3⟩ := S'.mu b m q
    exact ⟨by rw [upd_ne hb]; exact q1, u, q2, q3.mono sF⟩⟩
  have e2 : Ext H1 F1 M1 H' (upd F' L (.lst vs)) M' := ⟨e'.sm.trans sF, fun b u q1 q2 q3 => by
    have hb : b ≠ L := fun z => by rw [z, hD] at q1; cases q1
    rw [upd_ne hb]
    exact e'.fr b u q1 q2 q3⟩
  exact pv _ _ _ _ _ (e1.trans e2) S2 (.lst upd_same (r.mono sF) hl) w
theorem fin_mut {K : PySem.W.Frag} {H F : Hp} {M : MH} {k : KD} {Q : VK} (pv : PostV K H F M k Q) (H1 F1 : Hp) (M1 : MH) (L : Addr) (vs : List V) (es : List D) (H' F' : Hp) (M' : MH) (e1 : Ext H F M H1 F1 M1) (hD : H1 L = none) (e' : Ext H1 F1 M1 H' F' M')
    (S' : RepS K H' F' M') (hD' : H' L = some (.lst vs)) (fD : F' L = none) (mD : M' L = none) (r : Reps K F' vs es) (hl : es.length ≤ sizeLine) (w : ∀ a, M' a = none → k (.ref a) (mupd M' a (.lst es))) : Q (.ref L) H' := by
  have S2 : RepS K H' F' (mupd M' L (.lst es)) := ⟨S'.fz, fun b m q => by
    by_cases hb : b = L
    · subst hb; rw [mupd_same] at q; cases q; exact ⟨fD, _, hD', vs, rfl, r, hl⟩
    · rw [mupd_ne hb] at q; exact S'.mu b m q⟩
  have e2 : Ext H1 F1 M1 H' F' (mupd M' L (.lst es)) := ⟨e'.sm, fun b u q1 q2 q3 => by
    have hb : b ≠ L := fun z => by rw [z, hD] at q1; cases q1
    rw [mupd_ne hb]
    exact e'.fr b u q1 q2 q3⟩
  exact pv _ _ _ _ _ (e1.trans e2) S2 (.ref L) (w L mD)
theorem de_lc (hc : X.calm = true) (hN : X.N.Nodup) (hi : DI X tg iter wi) (ok : BlkOk X.N X.env.scope scope own) (hsub : ∀ i ∈ is, i ∈ own.map (·.2))
    (hg : ∀ (s : Shared) (H : Hp) (C : Addr) (cl : List (Str × Addr)) (fp : List Addr), DG (X.blk s H scope (compEnvC scope cl C X.env) fp) tg is gt) (ht : ∀ (s : Shared) (H : Hp) (C : Addr) (cl : List (Str × Addr)) (fp : List Addr), DTs (X.blk s H scope (compEnvC scope cl C X.env) fp) ifs wt)
    (he : ∀ (s : Shared) (H : Hp) (C : Addr) (cl : List (Str × Addr)) (fp : List Addr), DE (X.blk s H scope (compEnvC scope cl C X.env) fp) elt we) (hs : ∀ x, foldedSetIterable iter X.env x = pure x := by intro _; rfl) :
    DE X (.ListComp elt [⟨tg, iter, ifs, 0⟩] scope pos) (wLc wi gt wt we (own.map (·.2))) := by
  refine ⟨fun W tk => pe_imp (pe_lc (te := tOf X.K noW we) (tt := tOfT X.K noW wt) (g := gOf X.K is gt) hc hN (hi.pi W tk) ok (fun s H C cl fp => (hg s H C cl fp).pg) (fun s H C cl fp => (ht s H C cl fp).pt noW takes0) (fun s H C cl fp => (he s H C cl fp).pe noW takes0) hs) fun σ H Q q => ?_⟩
  obtain ⟨F, M, ρ, k, x, S, R, w, pv, px⟩ := q
  exact lc_in hsub S R w px (fin_frz pv)
theorem de_lcM (hc : X.calm = true) (hN : X.N.Nodup) (hi : DI X tg iter wi) (ok : BlkOk X.N X.env.scope scope own) (hsub : ∀ i ∈ is, i ∈ own.map (·.2))
    (hg : ∀ (s : Shared) (H : Hp) (C : Addr) (cl : List (Str × Addr)) (fp : List Addr), DG (X.blk s H scope (compEnvC scope cl C X.env) fp) tg is gt) (ht : ∀ (s : Shared) (H : Hp) (C : Addr) (cl : List (Str × Addr)) (fp : List Addr), DTs (X.blk s H scope (compEnvC scope cl C X.env) fp) ifs wt)
    (he : ∀ (s : Shared) (H : Hp) (C : Addr) (cl : List (Str × Addr)) (fp : List Addr), DE (X.blk s H scope (compEnvC scope cl C X.env) fp) elt we) (hs : ∀ x, foldedSetIterable iter X.env x = pure x := by intro _; rfl) :
    DE X (.ListComp elt [⟨tg, iter, ifs, 0⟩] scope pos) (wLcM wi gt wt we (own.map (·.2))) := by
  refine ⟨fun W tk => pe_imp (pe_lc (te := tOf X.K noW we) (tt := tOfT X.K noW wt) (g := gOf X.K is gt) hc hN (hi.pi W tk) ok (fun s H C cl fp => (hg s H C cl fp).pg) (fun s H C cl fp => (ht s H C cl fp).pt noW takes0) (fun s H C cl fp => (he s H C cl fp).pe noW takes0) hs) fun σ H Q q => ?_⟩
  obtain ⟨F, M, ρ, k, x, S, R, w, pv, px⟩ := q
  exact lc_in hsub S R w px (fin_mut pv)
/-- y = [..], y a local -/
theorem ds_setLc {i : Nat} {y : Str} {py spos : Pos} (hc : X.calm = true) (hN : X.N.Nodup) (hy : X.N[i]? = some y) (hyl : X.env.scope.names.lookup y = some .local) (hsw : swapsWith (.ListComp elt [⟨tg, iter, ifs, 0⟩] scope pos) (some (.Name y py)) spos.line X.env = pure true)
    (hi : DI X tg iter wi) (ok : BlkOk X.N X.env.scope scope own) (hsub : ∀ i ∈ is, i ∈ own.map (·.2))
    (hg : ∀ (s : Shared) (H : Hp) (C : Addr) (cl : List (Str × Addr)) (fp : List Addr), DG (X.blk s H scope (compEnvC scope cl C X.env) fp) tg is gt) (ht : ∀ (s : Shared) (H : Hp) (C : Addr) (cl : List (Str × Addr)) (fp : List Addr), DTs (X.blk s H scope (compEnvC scope cl C X.env) fp) ifs wt)
    (he : ∀ (s : Shared) (H : Hp) (C : Addr) (cl : List (Str × Addr)) (fp : List Addr), DE (X.blk s H scope (compEnvC scope cl C X.env) fp) elt we) (hs : ∀ x, foldedSetIterable iter X.env x = pure x := by intro _; rfl) :
    DS X (.Assign [.Name y py] (.ListComp elt [⟨tg, iter, ifs, 0⟩] scope pos) spos) (wSet i (wLc wi gt wt we (own.map (·.2)))) := by
  refine ⟨fun W tk _ => ps_imp (ps_setLc (te := tOf X.K noW we) (tt := tOfT X.K noW wt) (g := gOf X.K is gt) hc hN hy hyl hsw (hi.pi W tk) ok (fun s H C cl fp => (hg s H C cl fp).pg) (fun s H C cl fp => (ht s H C cl fp).pt noW takes0) (fun s H C cl fp => (he s H C cl fp).pe noW takes0) hs) fun D σ H q => ?_⟩
  obtain ⟨F, M, ρ, k, x, S, R, w, pv, px⟩ := set_in (X := X) q
  exact lc_in hsub S R w px (fin_frz pv)
theorem ds_setLcM {i : Nat} {y : Str} {py spos : Pos} (hc : X.calm = true) (hN : X.N.Nodup) (hy : X.N[i]? = some y) (hyl : X.env.scope.names.lookup y = some .local) (hsw : swapsWith (.ListComp elt [⟨tg, iter, ifs, 0⟩] scope pos) (some (.Name y py)) spos.line X.env = pure true)
    (hi : DI X tg iter wi) (ok : BlkOk X.N X.env.scope scope own) (hsub : ∀ i ∈ is, i ∈ own.map (·.2))
    (hg : ∀ (s : Shared) (H : Hp) (C : Addr) (cl : List (Str × Addr)) (fp : List Addr), DG (X.blk s H scope (compEnvC scope cl C X.env) fp) tg is gt) (ht : ∀ (s : Shared) (H : Hp) (C : Addr) (cl : List (Str × Addr)) (fp : List Addr), DTs (X.blk s H scope (compEnvC scope cl C X.env) fp) ifs wt)
    (he : ∀ (s : Shared) (H : Hp) (C : Addr) (cl : List (Str × Addr)) (fp : List Addr), DE (X.blk s H scope (compEnvC scope cl C X.env) fp) elt we) (hs : ∀ x, foldedSetIterable iter X.env x = pure x := by intro _; rfl) :
    DS X (.Assign [.Name y py] (.ListComp elt [⟨tg, iter, ifs, 0⟩] scope pos) spos) (wSet i (wLcM wi gt wt we (own.map (·.2)))) := by
  refine ⟨fun W tk _ => ps_imp (ps_setLc (te := tOf X.K noW we) (tt := tOfT X.K noW wt) (g := gOf X.K is gt) hc hN hy hyl hsw (hi.pi W tk) ok (fun s H C cl fp => (hg s H C cl fp).pg) (fun s H C cl fp => (ht s H C cl fp).pt noW takes0) (fun s H C cl fp => (he s H C cl fp).pe noW takes0) hs) fun D σ H q => ?_⟩
  obtain ⟨F, M, ρ, k, x, S, R, w, pv, px⟩ := set_in (X := X) q
  exact lc_in hsub S R w px (fin_mut pv)
end
end

/-! ### defs -/
abbrev WF := List D → MH → KD → KE → Prop
/-- a def's promise in terms of data -/
def spD (K : PySem.W.Frag) (n : Nat) (wf : WF) : Sp := fun vs H Q E => ∃ F M ds k x, RepS K H F M ∧ Reps K F vs ds ∧ ds.length = n ∧ wf ds M k x ∧ PostV K H F M k Q ∧ PostX K H F M x E
structure FnD (P : Program) (w : World) (K : PySem.W.Frag) (mg : Str → Option Value) (base : Heap) (f : Str) (k n : Nat) (wf : WF) : Prop where
  ex : ∃ (a : Addr) (fd : FuncData) (ps : List Str), ps.length = n ∧ FnOk P w K mg base (L2.CX P w) k a fd ps (spD K n wf) ∧ mg f = some (.ref a) ∧ PySem.W.keepIn K (.ref a) = true ∧ Binds K fd ps []
def wCall (wf : WF) (n : Nat) (wa : WA) : WE := fun ρ M k x => wa ρ M (fun ds M1 => gd (Nat.beq ds.length n) (wf ds M1 k x)) x
section
variable {X : Cx} {pos p : Pos} {f : Str} {e : Expr} {es : List Expr} {k n : Nat} {wf : WF} {wa : WA}
theorem de_call (F : FnD X.prog X.w X.K X.mg X.base f k n wf) (hr : Room k X.A) (ha : DA X (e :: es) wa) (hg : Gl X f := by rfl) (hd : (f == ("__debug__" : Str)) = false := by decide)
    (he : starEach (e :: es) X.env = (false, eval e X.env) :: starEach es X.env := by rfl) (hpl : (backTo pos (starEach es X.env)).any (·.1) = false := by rfl) : DE X (.Call (.Name f p) (e :: es) [] pos) (wCall wf n wa) := by
  obtain ⟨a, fd, ps, hn, G, hm, hk, hb⟩ := F.ex
  refine ⟨fun W tk => pe_imp (pe_callS G hr hg hm hk hb (fun σ => passAt tk σ) (ha.pa W tk) hd he hpl) fun σ H Q q => ?_⟩
  obtain ⟨F, M, ρ, k, x, S, R, w, pv, px⟩ := q
  refine ⟨F, M, ρ, _, x, S, R, w, fun vs ds H1 F1 M1 e1 S1 r1 w1 => ?_, px⟩
  obtain ⟨hl, w1⟩ := gd_of w1
  exact ⟨F1, M1, ds, k, x, S1, r1, Nat.eq_of_beq_eq_true hl, w1, pv.on e1, px.on e1⟩
end
/-- at a def's end: what is told no more is dropped; a list that was filled is handed back frozen -/
def Lt (k : KD) : KD := fun d M => ∃ M', Sub M' M ∧ (k d M' ∨ ∃ a m e, d = .ref a ∧ M a = some m ∧ frzD m = some e ∧ M' a = none ∧ k e M')
theorem Lt.now {k : KD} {d : D} {M : MH} (h : k d M) : Lt k d M := ⟨M, Sub.refl M, .inl h⟩
theorem Lt.drop {k : KD} {d : D} {M M' : MH} (s : Sub M' M) (h : k d M') : Lt k d M := ⟨M', s, .inl h⟩
theorem Lt.frzM {k : KD} {a : Addr} {m : MO} {e : D} {M M' : MH} (s : Sub M' M) (h1 : M a = some m) (h0 : frzD m = some e) (h2 : M' a = none) (h : k e M') : Lt k (.ref a) M := ⟨M', s, .inr ⟨a, m, e, rfl, h1, h0, h2, h⟩⟩
theorem Lt.frz {k : KD} {a : Addr} {ds : List D} {M M' : MH} (s : Sub M' M) (h1 : M a = some (.lst ds)) (h2 : M' a = none) (h : k (.lst ds) M') : Lt k (.ref a) M := Lt.frzM s h1 rfl h2 h
def Ltx (x : KE) : KE := fun C fs M => ∃ M', Sub M' M ∧ x C fs M'
theorem Ltx.now {x : KE} {C : Str} {fs : List (Str × D)} {M : MH} (h : x C fs M) : Ltx x C fs M := ⟨M, Sub.refl M, h⟩
def retE (k : KD) (x : KE) : EndsD := { nx := fun _ M => Lt k .non M, rt := Lt k, bk := fun _ _ => False, ct := fun _ _ => False, xc := Ltx x }
theorem PostV.lt {K : PySem.W.Frag} {H F : Hp} {M : MH} {k : KD} {Q : VK} (pv : PostV K H F M k Q) : PostV K H F M (Lt k) Q := fun v d H' F' M' e S r h => by
  obtain ⟨M2, s, h | ⟨a, m, d2, rfl, h1, h0, h2, h⟩⟩ := h
  · obtain ⟨S2, e2⟩ := S.forget s
    exact pv v d _ _ _ (e.trans e2) S2 r h
  · cases r
    obtain ⟨_, o, ho, hr⟩ := S.mu a m h1
    obtain ⟨S2, e2⟩ := S.freeze h1 ho
    have s2 : Sub M2 (mdel M' a) := fun b o q => by
      have hb : b ≠ a := fun z => by rw [z, h2] at q; cases q
      rw [mdel_ne hb]
      exact s b o q
    obtain ⟨S3, e3⟩ := S2.forget s2
    exact pv _ _ _ _ _ ((e.trans e2).trans e3) S3 (hr.frz h0 e2.sm upd_same) h
theorem PostX.lt {K : PySem.W.Frag} {H F : Hp} {M : MH} {x : KE} {w : XK} (px : PostX K H F M x w) : PostX K H F M (Ltx x) w := fun C dd vfs fs H' F' M' e S hd r h => by
  obtain ⟨M2, s, h⟩ := h
  obtain ⟨S2, e2⟩ := S.forget s
  exact px C dd vfs fs _ _ _ (e.trans e2) S2 hd r h
section
variable {P : Program} {w : World} {K : PySem.W.Frag} {mg : Str → Option Value} {base : Heap}
/-- THE RULE for a def -/
theorem fn_d {x qual : Str} {st : Stmt} {f : Addr} {fd : FuncData} {N ps : List Str} {k : Nat} {wf : WF} {wb : WS} (G : Fun K x qual st f fd) (S : FnScope N ps (defScope st))
    (hb : ∀ (cdv : Value) (A : Around) (outer : List Env) (s : Shared) (H : Hp) (E : XK), Room k (A.deeper (envOfC qual (defScope st) s.heap.objs.size f cdv)) → DSs (cxOf (L2.CX P w) P w K mg base N qual (defScope st) f cdv A outer s H E) (defBody st) wb)
    (hw : ∀ ds M k x, ds.length = ps.length → wf ds M k x → wb (startD N ds) M (retE k x)) : FnOk P w K mg base (L2.CX P w) (k + 1) f fd ps (spD K ps.length wf) := by
  refine G.okX S (fun vs H Q E h => ?_) (fun cdv A outer s H vs Q E hr h => ?_)
  · obtain ⟨F, M, ds, k, x, S, r, hl, _⟩ := h
    exact r.length.trans hl
  · have d := hb cdv A outer s H E hr
    refine ⟨_, d.ps (fun cls d _ H => E cls d H) (takes_of rfl rfl rfl rfl) (passes_of rfl), ?_⟩
    obtain ⟨F, M, ds, k, x, S1, r, hl, q, pv, px⟩ := h
    exact ⟨F, M, startD N ds, retE k x, S1, RepE.start r, hw ds M k x hl q, fun σ' ρ' H' F' M' e' S' R' w' => pv.lt _ _ _ _ _ e' S' .non w', pv.lt, fun _ _ _ _ _ _ _ _ z => z.elim, fun _ _ _ _ _ _ _ _ z => z.elim, fun σ => px.lt⟩
end
end DL

namespace DL
open PySem PySem.Spec PyProof.Rows L2

/-! ### tuple * int, any int -/
theorem tuple_mul1 (l : Addr) (items : Array Value) (n : Nat) (dd : Option Addr) (sl : Array (Option Value)) (x : Int) (u : Tok) (c0 : (decide (x < -(2 ^ 63)) || decide (x ≥ 2 ^ 63)) = false) (c1 : (items.isEmpty || x == 1) = true) :
    Meets (Builtin.«tuple.__mul__» ⟨[.ref l, .int x u], []⟩) (fun _ R s => s.heap.get? l = some { cls := .type "tuple", dict := dd, data := .seq items n, slots := sl } ∧ R (.ok (.ret (Value.ref l))) s) :=
  .of_wp fun prog w A R s h => by
    obtain ⟨hp, g, d, tk, os⟩ := s
    obtain ⟨hl, h⟩ := h
    have f1 := AutoSeq1.idx_int
    wp_walk using wpAny_loadPart' hl
    repeat (first
      | (refine wpAny_ite_false (decide_eq_false (by rw [c0]; exact Bool.false_ne_true)) ?_; wp_walk using wpAny_loadPart' hl)
      | (refine wpAny_ite_true (decide_eq_true (by rw [c1])) ?_; wp_walk using wpAny_loadPart' hl))
    exact ⟨_, rfl, h⟩
theorem tuple_mul0 (l : Addr) (items : Array Value) (n : Nat) (dd : Option Addr) (sl : Array (Option Value)) (x : Int) (u : Tok) (c0 : (decide (x < -(2 ^ 63)) || decide (x ≥ 2 ^ 63)) = false) (c1 : (items.isEmpty || x == 1) = false) (c2 : (decide (x ≤ 0) || items.isEmpty) = true) :
    Meets (Builtin.«tuple.__mul__» ⟨[.ref l, .int x u], []⟩) (fun _ R s => s.heap.get? l = some { cls := .type "tuple", dict := dd, data := .seq items n, slots := sl } ∧
      R (.ok (.ret (Value.ref s.heap.objs.size))) { s with heap := s.heap.push { cls := Value.type "tuple", data := Data.seq #[] }, toks := s.toks }) :=
  .of_wp fun prog w A R s h => by
    obtain ⟨hp, g, d, tk, os⟩ := s
    obtain ⟨hl, h⟩ := h
    have f1 := AutoSeq1.idx_int
    wp_walk using wpAny_loadPart' hl
    repeat (first
      | (refine wpAny_ite_false (decide_eq_false (by rw [c0]; exact Bool.false_ne_true)) ?_; wp_walk using wpAny_loadPart' hl)
      | (refine wpAny_ite_false (decide_eq_false (by rw [c1]; exact Bool.false_ne_true)) ?_; wp_walk using wpAny_loadPart' hl)
      | (refine wpAny_ite_true (decide_eq_true (by rw [c2])) ?_; wp_walk using wpAny_loadPart' hl))
    exact ⟨_, rfl, h⟩

theorem flat_len {α : Type} (n : Nat) (xs : List α) : (List.replicate n xs).flatten.length = n * xs.length := by
  induction n with
  | zero => simp
  | succ n ih => rw [List.replicate_succ, List.flatten_cons, List.length_append, ih, Nat.succ_mul, Nat.add_comm]
theorem flat_nil {α : Type} (n : Nat) : (List.replicate n ([] : List α)).flatten = [] := by
  induction n with
  | zero => rfl
  | succ n ih => rw [List.replicate_succ, List.flatten_cons, ih]; rfl
/-- t * k -/
def rRepA (K : PySem.W.Frag) : R2 := fun x y H Q => ∃ l k xs, x = .ref l ∧ y = .int k ∧ SqT K H l xs ∧ k ≤ 1000 ∧ -1000000 ≤ k ∧ xs.length ≤ 1000 ∧
  ((xs = [] ∨ k = 1) → Q (.ref l) H) ∧ (xs ≠ [] → k ≠ 1 → ∀ p, H p = none → Q (.ref p) (upd H p (.tup (List.replicate k.toNat xs).flatten)))
theorem op_repA {X : Cx} : OpR X (binaryOp .Mult) (rRepA X.K) := by
  intro pins s σ H x y v u Q I rx ry h
  obtain ⟨l, k, xs, rfl, rfl, hT, h1, h2, hz, q1, q2⟩ := h
  by_cases hk : xs ≠ [] ∧ 2 ≤ k
  · exact op_repT pins s σ H _ _ v u Q I rx ry ⟨l, k, xs, rfl, rfl, hT, hk.1, hk.2, h1, hz, q2 hk.1 (by omega)⟩
  cases rx
  obtain ⟨t, rfl⟩ := ry
  obtain ⟨its, r, ⟨⟨cls, dd, data, sl⟩, ho, hc, n, hd⟩, hs⟩ := I.tuple hT
  simp only at hc hd
  subst hc hd
  have hle : its.length = xs.length := r.length.symm
  have c0 : (decide (k < -(2 ^ 63)) || decide (k ≥ 2 ^ 63)) = false := by
    rw [decide_eq_false (by omega), decide_eq_false (by omega)] <;> rfl
  by_cases hs1 : xs = [] ∨ k = 1
  · have c1 : (its.toArray.isEmpty || k == 1) = true := by
      rcases hs1 with e | e
      · subst e
        have : its = [] := List.eq_nil_of_length_eq_zero (by rw [hle]; rfl)
        subst this
        rfl
      · subst e
        simp
    exact wpAny_binaryOp_repeat_ref (T := "tuple") (U := "int") (by decide) ⟨_, ho, rfl⟩ (fun s' => typeIs_int s' k t) noFill_tuple_mul F.fills_int_mul F.slot_int_rmul repeat_tuple F.slot_int_index.lookup
      (call_meets F.slot_int_rmul (typeIs_int s k t) F.entry_int_rmul (F.args_int_rmul_2 _ _) (int_rmul_tuple k t l its.toArray n dd sl)
        ⟨ho, rfl, ⟨_, ho, rfl⟩, call_meets F.slot_tuple_mul ⟨_, ho, rfl⟩ F.entry_tuple_mul (F.args_tuple_mul_2 _ _) (tuple_mul1 l its.toArray n dd sl k t c0 c1) ⟨ho, ⟨.ref l, H, I, rfl, q1 hs1⟩⟩⟩)
  · have hx : xs ≠ [] := fun e => hs1 (.inl e)
    have hk1 : k ≠ 1 := fun e => hs1 (.inr e)
    have hk0 : k ≤ 0 := Int.not_lt.mp fun z => hk ⟨hx, by omega⟩
    have hi : its.toArray.isEmpty = false := by
      cases its with
      | nil => exact absurd (List.eq_nil_of_length_eq_zero hle.symm) hx
      | cons a b => rfl
    have c1 : (its.toArray.isEmpty || k == 1) = false := by
      rw [hi, Bool.false_or]
      exact beq_eq_false_iff_ne.mpr hk1
    have c2 : (decide (k ≤ 0) || its.toArray.isEmpty) = true := by rw [decide_eq_true hk0]; rfl
    refine wpAny_binaryOp_repeat_ref (T := "tuple") (U := "int") (by decide) ⟨_, ho, rfl⟩ (fun s' => typeIs_int s' k t) noFill_tuple_mul F.fills_int_mul F.slot_int_rmul repeat_tuple F.slot_int_index.lookup
      (call_meets F.slot_int_rmul (typeIs_int s k t) F.entry_int_rmul (F.args_int_rmul_2 _ _) (int_rmul_tuple k t l its.toArray n dd sl)
        ⟨ho, rfl, ⟨_, ho, rfl⟩, call_meets F.slot_tuple_mul ⟨_, ho, rfl⟩ F.entry_tuple_mul (F.args_tuple_mul_2 _ _) (tuple_mul0 l its.toArray n dd sl k t c0 c1 c2) ⟨ho, ?_⟩⟩)
    have q := q2 hx hk1
    have e0 : k.toNat = 0 := by omega
    rw [e0] at q
    refine ⟨.ref s.heap.objs.size, _, I.laid (t' := s.toks) (o := .tup []) (fun b ob q => Heap.get?_push_of_some _ q) (Nat.le_refl _) ?_, rfl, q _ (I.hok.fresh (Nat.le_refl _))⟩
    exact ⟨Nat.zero_le _, [], .nil, ⟨_, Heap.get?_push_size _ rfl, rfl, 0, rfl⟩⟩

/-! ### operators by data -/
section
variable {X : Cx}
abbrev RD := D → D → MH → KD → Prop
def rAdd : RD := fun d e M k => match d, e with
  | .int i, .int j => k (.int (i + j)) M
  | .str a, .str b => a.length + b.length ≤ sizeLine ∧ k (.str (a ++ b)) M
  | .tup a, .tup b => a.length + b.length ≤ sizeLine ∧ k (.tup (a ++ b)) M
  | .lst a, .lst b => a.length + b.length ≤ sizeLine ∧ k (.lst (a ++ b)) M
  | _, _ => False
theorem od_add : OpD X (binaryOp .Add) rAdd := by
  refine ⟨_, op_add.or (op_add_str.or (op_catA.or op_cat)), fun d e v u H F M k Q S rd re h pv => ?_⟩
  cases d <;> cases e <;> try exact h.elim
  · cases rd; cases re
    exact .inl ⟨_, _, rfl, rfl, pv.at S (.int _) h⟩
  · cases rd; cases re
    exact .inr (.inl ⟨_, _, rfl, rfl, h.1, pv.at S (.str _) h.2⟩)
  · rename_i ds es
    cases rd with
    | @tup a xs _ ha ra la =>
    cases re with
    | @tup b ys _ hb rb lb =>
    have hz : xs.length + ys.length ≤ sizeLine := by rw [ra.length, rb.length]; exact h.1
    refine .inr (.inr (.inl ⟨a, b, xs, ys, rfl, rfl, seqT S.fz ha, seqT S.fz hb, hz, fun ex => ?_, fun _ ey => ?_, fun _ _ p hp => ?_⟩))
    · subst ex
      cases ra
      exact pv.at S (.tup hb rb lb) h.2
    · subst ey
      cases rb
      have h2 := h.2
      rw [List.append_nil] at h2
      exact pv.at S (.tup ha ra la) h2
    · obtain ⟨S2, e2⟩ := S.lay hp (.tup (xs ++ ys))
      exact pv _ _ _ _ _ e2 S2 (.tup (SqT.of upd_same) ((ra.append rb).mono e2.sm) (by rw [List.length_append]; exact h.1)) h.2
  · rename_i ds es
    cases rd with
    | @lst a xs _ ha ra la =>
    cases re with
    | @lst b ys _ hb rb lb =>
    have hz : xs.length + ys.length ≤ sizeLine := by rw [ra.length, rb.length]; exact h.1
    refine .inr (.inr (.inr ⟨a, b, xs, ys, rfl, rfl, S.fz _ _ ha, S.fz _ _ hb, hz, fun p hp => ?_⟩))
    obtain ⟨S2, e2⟩ := S.lay hp (.lst (xs ++ ys))
    exact pv _ _ _ _ _ e2 S2 (.lst upd_same ((ra.append rb).mono e2.sm) (by rw [List.length_append]; exact h.1)) h.2
def onII (d e : D) (p : Int → Int → Prop) : Prop := match d, e with
  | .int i, .int j => p i j
  | _, _ => False
theorem ii_of {K : PySem.W.Frag} {F : Hp} {v u : V} {d e : D} {p : Int → Int → Prop} (r : Rep K F v d) (q : Rep K F u e) (h : onII d e p) : ∃ i j, v = .int i ∧ u = .int j ∧ p i j := by
  cases d <;> cases e <;> first | exact h.elim | skip
  cases r; cases q
  exact ⟨_, _, rfl, rfl, h⟩
def rInt (C : Int → Int → Prop) (g : Int → Int → D) : RD := fun d e M k => onII d e fun i j => C i j ∧ k (g i j) M
def rInt0 (g : Int → Int → D) : RD := fun d e M k => onII d e fun i j => k (g i j) M
theorem od_int {f : Value → Value → Sem Value} {C : Int → Int → Prop} {g : Int → Int → V} {gd : Int → Int → D} (h : OpR X f (rI C g)) (r : ∀ K F i j, Rep K F (g i j) (gd i j)) : OpD X f (rInt C gd) :=
  ⟨_, h, fun d e v u H F M k Q S rd re h pv => by
    obtain ⟨i, j, rfl, rfl, c, w⟩ := ii_of rd re h
    exact ⟨i, j, rfl, rfl, c, pv.at S (r _ _ i j) w⟩⟩
theorem od_int0 {f : Value → Value → Sem Value} {g : Int → Int → V} {gd : Int → Int → D} (h : OpR X f (rI0 g)) (r : ∀ K F i j, Rep K F (g i j) (gd i j)) : OpD X f (rInt0 gd) :=
  ⟨_, h, fun d e v u H F M k Q S rd re h pv => by
    obtain ⟨i, j, rfl, rfl, w⟩ := ii_of rd re h
    exact ⟨i, j, rfl, rfl, pv.at S (r _ _ i j) w⟩⟩
def rSub : RD := rInt0 fun i j => .int (i - j)
theorem od_sub : OpD X (binaryOp .Sub) rSub := od_int0 op_sub fun _ _ _ _ => .int _
def CFd (_ j : Int) : Prop := j ≠ 0 ∧ j.natAbs.log2 < 9000
theorem op_fdivA : OpR X (binaryOp .FloorDiv) (rI CFd fun i j => .int (i.fdiv j)) := opI fun _ _ _ _ _ _ _ hc q => floordiv_int hc.1 q (.inl (PyProof.noPylong_of_log2 hc.2))
def rFdiv : RD := rInt CFd fun i j => .int (i.fdiv j)
theorem od_fdiv : OpD X (binaryOp .FloorDiv) rFdiv := od_int op_fdivA fun _ _ _ _ => .int _
def rMod : RD := rInt (fun _ j => j ≠ 0) fun i j => .int (i.fmod j)
theorem od_mod : OpD X (binaryOp .Mod) rMod := od_int op_modN fun _ _ _ _ => .int _
def rPow : RD := rInt CPow fun i j => .int (i ^ j.toNat)
theorem od_pow : OpD X (binaryOp .Pow) rPow := od_int op_pow fun _ _ _ _ => .int _
theorem op_mulA : OpR X (binaryOp .Mult) (rI IntMulOk fun i j => .int (i * j)) := opI fun _ _ _ _ _ _ _ hc q => mul_int q hc
def rMul0 : RD := fun d e M k => match d, e with
  | .int i, .int j => IntMulOk i j ∧ k (.int (i * j)) M
  | .tup a, .int n => (n ≤ 1000 ∧ -1000000 ≤ n ∧ a.length ≤ 1000) ∧ k (.tup (List.replicate n.toNat a).flatten) M
  | _, _ => False
theorem od_mul0 : OpD X (binaryOp .Mult) rMul0 := by
  refine ⟨_, op_mulA.or op_repA, fun d e v u H F M k Q S rd re h pv => ?_⟩
  cases d <;> cases e <;> try exact h.elim
  · cases rd; cases re
    exact .inl ⟨_, _, rfl, rfl, h.1, pv.at S (.int _) h.2⟩
  · rename_i ds n
    cases re
    cases rd with
    | @tup a xs _ ha ra la =>
    obtain ⟨⟨h1, h2, h3⟩, h4⟩ := h
    refine .inr ⟨a, n, xs, rfl, rfl, seqT S.fz ha, h1, h2, by rw [ra.length]; exact h3, fun hs => ?_, fun hx hn p hp => ?_⟩
    · rcases hs with ex | en
      · subst ex
        cases ra
        rw [flat_nil] at h4
        exact pv.at S (.tup ha .nil la) h4
      · subst en
        have e1 : (List.replicate (1 : Int).toNat ds).flatten = ds := by show (List.replicate 1 ds).flatten = ds; simp
        rw [e1] at h4
        exact pv.at S (.tup ha ra la) h4
    · obtain ⟨S2, e2⟩ := S.lay hp (.tup (List.replicate n.toNat xs).flatten)
      have hl : (List.replicate n.toNat ds).flatten.length ≤ sizeLine := by
        rw [flat_len, sizeLine_eq]
        have a1 : n.toNat * ds.length ≤ 1000 * 1000 := Nat.mul_le_mul (by omega) h3
        omega
      exact pv _ _ _ _ _ e2 S2 (.tup (SqT.of upd_same) ((ra.rep _).mono e2.sm) hl) h4

def strRep (z : Str) (n : Int) : Str := ⟨(List.replicate n.toNat z.cps).foldl (· ++ ·) #[]⟩
theorem foldl_app (xs : List (Array Nat)) (acc : Array Nat) : (xs.foldl (· ++ ·) acc).toList = acc.toList ++ (xs.map (·.toList)).flatten := by
  induction xs generalizing acc with
  | nil => simp
  | cons a r ih => rw [List.foldl_cons, ih]; simp
theorem strRep_list (z : Str) (n : Int) : (strRep z n).cps.toList = (List.replicate n.toNat z.cps.toList).flatten := by
  unfold strRep
  rw [foldl_app]
  simp
theorem strRep_len (z : Str) (n : Int) : (strRep z n).length = n.toNat * z.length := by
  show (strRep z n).cps.size = _
  rw [← Array.length_toList, strRep_list, flat_len, Array.length_toList]
  rfl
theorem strRep_one (z : Str) : strRep z 1 = z := by
  show (⟨(List.replicate 1 z.cps).foldl (· ++ ·) #[]⟩ : Str) = z
  simp [List.replicate]
theorem strRep_nil (z : Str) (n : Int) (h : z.length = 0) : strRep z n = z := by
  have h1 : (strRep z n).cps.size = 0 := by
    have := strRep_len z n
    rw [h, Nat.mul_zero] at this
    exact this
  have h2 : z.cps.size = 0 := h
  show (⟨(strRep z n).cps⟩ : Str) = ⟨z.cps⟩
  rw [Array.eq_empty_of_size_eq_zero h1, Array.eq_empty_of_size_eq_zero h2]
theorem op_mulS {X : Cx} : OpR X (binaryOp .Mult) (fun x y H Q => ∃ z n, x = .str z ∧ y = .int n ∧ -1000000 ≤ n ∧ n ≤ 1000 ∧ z.length ≤ 1000 ∧ Q (.str (strRep z n)) H) := by
  intro pins s σ H x y v u Q I rx ry h
  obtain ⟨z, n, rfl, rfl, h1, h2, h3, q⟩ := h
  obtain ⟨t, rfl⟩ := rx
  obtain ⟨t', rfl⟩ := ry
  have hl : z.length * n.toNat ≤ 1000 * 1000 := Nat.mul_le_mul h3 (by omega)
  refine PySem.P.mul_str (by rw [decide_eq_false (by omega), decide_eq_false (by omega)]; rfl) (fun hn _ => ?_) (fun _ _ => decide_eq_false (Nat.not_lt.mpr (by rw [sizeLine_eq]; omega))) ?_
  · have hn' : 1 ≤ n := by omega
    have : (1000 : Int) ≤ (2 ^ 63 - 1) / n := by
      rw [Int.le_ediv_iff_mul_le (by omega)]
      omega
    omega
  · by_cases hn : n < 1
    · rw [if_pos hn]
      have e : strRep z n = Str.empty := by
        have e0 : n.toNat = 0 := by omega
        unfold strRep
        rw [e0]
        rfl
      rw [e] at q
      exact ⟨by decide, .str _, H, I.tok _, ⟨_, rfl⟩, q⟩
    · rw [if_neg hn]
      by_cases hc : (n == 1 || z.length == 0) = true
      · rw [if_pos hc]
        have e : strRep z n = z := by
          rcases Bool.or_eq_true_iff.mp hc with a | a
          · have : n = 1 := by simpa using a
            subst this
            exact strRep_one z
          · exact strRep_nil z n (by simpa using a)
        rw [e] at q
        exact ⟨.str _, H, I, ⟨_, rfl⟩, q⟩
      · rw [if_neg hc]
        exact ⟨by show (strRep z n).length ≤ _; rw [strRep_len, sizeLine_eq, Nat.mul_comm]; omega, .str _, H, I.tok _, ⟨_, rfl⟩, q⟩
def rMul : RD := fun d e M k => match d, e with
  | .str z, .int n => (-1000000 ≤ n ∧ n ≤ 1000 ∧ z.length ≤ 1000) ∧ k (.str (strRep z n)) M
  | .lst a, .int n => (n ≤ 1000 ∧ -1000000 ≤ n ∧ a.length ≤ 1000) ∧ k (.lst (List.replicate n.toNat a).flatten) M
  | .lst a, .bl b => k (.lst (if b then a else [])) M
  | _, _ => rMul0 d e M k
theorem od_mul {X : Cx} : OpD X (binaryOp .Mult) rMul := by
  obtain ⟨r0, h0, s0⟩ := od_mul0 (X := X)
  refine ⟨_, op_mulS.or (op_rep.or (op_mul_lb.or h0)), fun d e v u H F M k Q S rd re h pv => ?_⟩
  have old : rMul0 d e M k → r0 v u H Q := fun h => s0 d e v u H F M k Q S rd re h pv
  cases d with
  | str z =>
    cases e with
    | int n =>
      cases rd; cases re
      exact .inl ⟨z, n, rfl, rfl, h.1.1, h.1.2.1, h.1.2.2, pv.at S (.str _) h.2⟩
    | _ => exact .inr (.inr (.inr (old h)))
  | lst ds =>
    cases e with
    | int n =>
      cases re
      cases rd with
      | @lst a xs _ ha ra la =>
      obtain ⟨⟨h1, h2, h3⟩, h4⟩ := h
      have hm : xs.length * n.toNat ≤ 1000 * 1000 := Nat.mul_le_mul (by rw [ra.length]; exact h3) (by omega)
      refine .inr (.inl ⟨a, n, xs, rfl, rfl, S.fz _ _ ha, by omega, by omega, by rw [sizeLine_eq]; omega, fun p hp => ?_⟩)
      obtain ⟨S2, e2⟩ := S.lay hp (.lst (List.replicate n.toNat xs).flatten)
      have hl : (List.replicate n.toNat ds).flatten.length ≤ sizeLine := by
        rw [flat_len, sizeLine_eq, Nat.mul_comm, ← ra.length]
        omega
      exact pv _ _ _ _ _ e2 S2 (.lst upd_same ((ra.rep _).mono e2.sm) hl) h4
    | bl b =>
      cases re
      cases rd with
      | @lst a xs _ ha ra la =>
      refine .inr (.inr (.inl ⟨a, xs, b, rfl, rfl, SqL.of (S.fz _ _ ha), fun p hp => ?_⟩))
      cases b with
      | true =>
        obtain ⟨S2, e2⟩ := S.lay hp (.lst xs)
        exact pv _ _ _ _ _ e2 S2 (.lst upd_same (ra.mono e2.sm) la) h
      | false =>
        obtain ⟨S2, e2⟩ := S.lay hp (.lst [])
        exact pv _ _ _ _ _ e2 S2 (.lst upd_same .nil (Nat.zero_le _)) h
    | _ => exact .inr (.inr (.inr (old h)))
  | _ => exact .inr (.inr (.inr (old (by cases e <;> exact h))))
theorem mulOk_l {i j : Int} (h1 : -(2 ^ 64) < i) (h2 : i < 2 ^ 64) : IntMulOk i j := .of_left (intBits_le_64 h1 h2)
theorem mulOk_r {i j : Int} (h1 : -(2 ^ 64) < j) (h2 : j < 2 ^ 64) : IntMulOk i j := .of_right (intBits_le_64 h1 h2)
theorem mulOk_w {i j : Int} {a b : Nat} (ha : i.natAbs < 2 ^ a) (hb : j.natAbs < 2 ^ b) (h0 : 0 < a := by decide) (h1 : 0 < b := by decide) (h : a + b ≤ 1000000 := by decide) : IntMulOk i j := (wide_mul ha hb h0 h1 h).ok
/-- comparisons -/
def rLt : RD := fun d e M k => match d, e with
  | .int i, .int j => k (.bl (decide (i < j))) M
  | .str i, .str j => k (.bl (decide (i.cps.toList < j.cps.toList))) M
  | _, _ => False
theorem od_lt : OpD X (compareOp .Lt) rLt := by
  refine ⟨_, op_lt.or op_lt_str, fun d e v u H F M k Q S rd re h pv => ?_⟩
  cases d <;> cases e <;> try exact h.elim
  · cases rd; cases re
    exact .inl ⟨_, _, rfl, rfl, pv.at S (.bl _) h⟩
  · cases rd; cases re
    exact .inr ⟨_, _, rfl, rfl, pv.at S (.bl _) h⟩
def rLe : RD := rInt0 fun i j => .bl (decide (i ≤ j))
theorem od_le : OpD X (compareOp .LtE) rLe := od_int0 op_le fun _ _ _ _ => .bl _
def rGt : RD := rInt0 fun i j => .bl (decide (j < i))
theorem od_gt : OpD X (compareOp .Gt) rGt := od_int0 op_gt fun _ _ _ _ => .bl _
def rGe : RD := rInt0 fun i j => .bl (decide (j ≤ i))
theorem od_ge : OpD X (compareOp .GtE) rGe := od_int0 op_ge fun _ _ _ _ => .bl _
/-- is None -/
def isNon : D → Bool
  | .non => true
  | _ => false
theorem non_of {K : PySem.W.Frag} {F : Hp} {v : V} {d : D} (r : Rep K F v d) : decide (v = .non) = isNon d := by
  cases r <;> rfl
def rIs : RD := fun d e M k => match e with
  | .non => k (.bl (isNon d)) M
  | _ => False
def rIsNot : RD := fun d e M k => match e with
  | .non => k (.bl (!isNon d)) M
  | _ => False
theorem od_is : OpD X (compareOp .Is) rIs := ⟨_, op_isN, fun d e v u H F M k Q S rd re h pv => by
  cases e <;> try exact h.elim
  cases re
  rw [non_of rd]
  exact ⟨rfl, pv.at S (.bl _) h⟩⟩
theorem od_isNot : OpD X (compareOp .IsNot) rIsNot := ⟨_, op_notN, fun d e v u H F M k Q S rd re h pv => by
  cases e <;> try exact h.elim
  cases re
  rw [non_of rd]
  exact ⟨rfl, pv.at S (.bl _) h⟩⟩
/-! == of data -/
mutual
def toPy : D → Option PyData
  | .non => some .none
  | .bl b => some (.bool b)
  | .int i => some (.int i)
  | .str x => some (.str x)
  | .tup ds => (toPys ds).map .tuple
  | .lst ds => (toPys ds).map .list
  | .ref _ => none
  | .ty _ => none
  | .scr _ => none
  | .dct _ _ => none
  | .dcT _ _ => none
  | .dcl _ _ => none
  | .obj _ _ _ => none
def toPys : List D → Option (List PyData)
  | [] => some []
  | d :: ds => (toPy d).bind fun p => (toPys ds).map (p :: ·)
end
mutual
theorem dp_of {K : PySem.W.Frag} {F H : Hp} (s : Same F H) : ∀ {v : V} {d : D} {p : PyData}, Rep K F v d → toPy d = some p → Dp K H v p
  | _, _, _, .non, e => by cases e; exact .non
  | _, _, _, .bl b, e => by cases e; exact .bl b
  | _, _, _, .int i, e => by cases e; exact .int i
  | _, _, _, .str x, e => by cases e; exact .str x
  | _, _, _, .ref a, e => by cases e
  | _, _, _, .ty n, e => by cases e
  | _, _, _, .scr h, e => by cases e
  | _, _, _, .dct _ _ _ _, e => by cases e
  | _, _, _, .dcT _ _ _ _, e => by cases e
  | _, _, _, .dcl _ _ _ _, e => by cases e
  | _, _, _, .obj _ _ _, e => by cases e
  | _, _, _, .tup h r _, e => by
    obtain ⟨ps, e1, rfl⟩ := Option.map_eq_some_iff.mp e
    exact .tup (seqT s h) (dps_of s r e1)
  | _, _, _, .lst h r _, e => by
    obtain ⟨ps, e1, rfl⟩ := Option.map_eq_some_iff.mp e
    exact .lst (SqL.of (s _ _ h)) (dps_of s r e1)
theorem dps_of {K : PySem.W.Frag} {F H : Hp} (s : Same F H) : ∀ {vs : List V} {ds : List D} {ps : List PyData}, Reps K F vs ds → toPys ds = some ps → DpAll K H vs ps
  | _, _, _, .nil, e => by cases e; exact .nil
  | _, _, _, .cons h r, e => by
    obtain ⟨p, e1, e2⟩ := Option.bind_eq_some_iff.mp e
    obtain ⟨qs, e3, rfl⟩ := Option.map_eq_some_iff.mp e2
    exact .cons (dp_of s h e1) (dps_of s r e3)
end
/-- the scalars that == tells apart -/
def scalD : D → D → Option Bool
  | .non, .non => some true | .non, .int _ => some false | .int _, .non => some false | .non, .bl _ => some false | .bl _, .non => some false | .non, .str _ => some false | .str _, .non => some false
  | .int i, .int j => some (decide (i = j)) | .bl i, .bl j => some (decide (i = j)) | .str i, .str j => some (decide (i = j))
  | .int _, .str _ => some false | .str _, .int _ => some false | .bl _, .str _ => some false | .str _, .bl _ => some false
  | _, _ => none
theorem scal_of {K : PySem.W.Frag} {F : Hp} {v u : V} {d e : D} {b : Bool} (r : Rep K F v d) (q : Rep K F u e) (h : scalD d e = some b) : scal v u = true ∧ decide (v = u) = b := by
  cases d <;> cases e <;> first | (cases h; done) | skip
  all_goals (cases r; cases q; refine ⟨rfl, ?_⟩; have h' := Option.some.inj h; rw [← h']; first | rfl | (rw [Bool.eq_iff_iff]; simp))
def onO {α : Type} (o : Option α) (p : α → Prop) : Prop := match o with
  | some a => p a
  | none => False
theorem onO_of {α : Type} {o : Option α} {p : α → Prop} (h : onO o p) : ∃ a, o = some a ∧ p a := by
  cases o with
  | some a => exact ⟨a, rfl, h⟩
  | none => exact h.elim
def rEqS : RD := fun d e M k => onO (scalD d e) fun b => k (.bl b) M
def rNeS : RD := fun d e M k => onO (scalD d e) fun b => k (.bl (!b)) M
theorem od_eqS : OpD X (compareOp .Eq) rEqS := ⟨_, op_eq, fun d e v u H F M k Q S rd re h pv => by
  obtain ⟨b, h1, h2⟩ := onO_of h
  obtain ⟨h3, h4⟩ := scal_of rd re h1
  exact ⟨h3, by rw [h4]; exact pv.at S (.bl _) h2⟩⟩
theorem od_neS : OpD X (compareOp .NotEq) rNeS := ⟨_, op_ne, fun d e v u H F M k Q S rd re h pv => by
  obtain ⟨b, h1, h2⟩ := onO_of h
  obtain ⟨h3, h4⟩ := scal_of rd re h1
  exact ⟨h3, by rw [h4]; exact pv.at S (.bl _) h2⟩⟩
/-- == of nested data -/
@[irreducible] def rEqP : RD := fun d e M k => ∃ p q, toPy d = some p ∧ toPy e = some q ∧ SeqAt.shaped p = true ∧ SeqAt.shaped q = true ∧ k (.bl (PyData.eqv p q)) M
@[irreducible] def rNeP : RD := fun d e M k => ∃ p q, toPy d = some p ∧ toPy e = some q ∧ SeqAt.shaped p = true ∧ SeqAt.shaped q = true ∧ k (.bl (!PyData.eqv p q)) M
theorem od_eqP (hu : X.A.units + 64 < cLine) : OpD X (compareOp .Eq) rEqP := ⟨_, op_eqD hu, fun d e v u H F M k Q S rd re h pv => by
  unfold rEqP at h
  obtain ⟨p, q, h1, h2, h3, h4, h5⟩ := h
  exact ⟨p, q, dp_of S.fz rd h1, dp_of S.fz re h2, h3, h4, pv.at S (.bl _) h5⟩⟩
theorem od_neP (hu : X.A.units + 64 < cLine) : OpD X (compareOp .NotEq) rNeP := ⟨_, op_neD hu, fun d e v u H F M k Q S rd re h pv => by
  unfold rNeP at h
  obtain ⟨p, q, h1, h2, h3, h4, h5⟩ := h
  exact ⟨p, q, dp_of S.fz rd h1, dp_of S.fz re h2, h3, h4, pv.at S (.bl _) h5⟩⟩
/-- the negative -/
def rNeg : D → MH → KD → Prop := fun d M k => onInt d fun i => k (.int (-i)) M
theorem ud_neg : UnD X (unaryOp .USub) rNeg := ⟨_, un_neg, fun d v H F M k Q S rd h pv => by
  obtain ⟨i, rfl, w⟩ := int_of rd h
  exact ⟨i, rfl, pv.at S (.int _) w⟩⟩
end

/-! ### subscripts, slices -/
section
variable {X : Cx} {a b e : Expr} {wa wb we : WE} {pos : Pos}
def wIx (wa wb : WE) : WE := fun ρ M k x => wa ρ M (fun d M1 => wb ρ M1 (fun e M2 => match d, e with
  | .tup ds, .int i => onO (atI ds i) fun y => k y M2
  | .lst ds, .int i => onO (atI ds i) fun y => k y M2
  | .ref l, .int i => ∃ ds, M2 l = some (.lst ds) ∧ onO (atI ds i) fun y => k y M2
  | .str z, .int i => z.length ≤ sizeLine ∧ onO (atI z.cps.toList i) fun c => k (.str ⟨#[c]⟩) M2
  | _, _ => False) x) x
theorem Reps.atI {K : PySem.W.Frag} {F : Hp} {vs : List V} {ds : List D} {i : Int} {d : D} (r : Reps K F vs ds) (h : L2.atI ds i = some d) : ∃ v, L2.atI vs i = some v ∧ Rep K F v d := by
  unfold L2.atI at h ⊢
  rw [r.length]
  cases q : ixN ds.length i with
  | none => rw [q] at h; cases h
  | some j =>
    rw [q] at h
    exact r.get h
theorem de_ix (ha : DE X a wa) (hb : DE X b wb) (hs : PlainIx b := by intro _ _; rfl) : DE X (.Subscript a b pos) (wIx wa wb) := by
  refine ⟨fun W tk => pe_imp (pe_ix ix_seq (ha.pe W tk) (hb.pe W tk) hs) fun σ H Q q => ?_⟩
  obtain ⟨F, M, ρ, k, x, S, E, w, pv, px⟩ := q
  refine two S E w px fun v u d e H2 F2 M2 e2 S2 r1 r2 w2 => ?_
  have pv2 := pv.on e2
  cases e with
  | int n =>
    cases r2
    cases d with
    | ref l =>
      cases r1
      obtain ⟨ds, hm, w3⟩ := w2
      obtain ⟨y, h1, h2⟩ := onO_of w3
      obtain ⟨_, _, xs, hx, hr⟩ := S2.mlst hm
      obtain ⟨z, h3, h4⟩ := hr.atI h1
      exact .inl ⟨_, xs, _, z, rfl, rfl, SqL.of hx, h3, pv2.at S2 h4 h2⟩
    | str z =>
      cases r1
      obtain ⟨hz, w3⟩ := w2
      obtain ⟨y, h1, h2⟩ := onO_of w3
      exact .inr (.inr ⟨_, _, y, rfl, rfl, hz, h1, pv2.at S2 (.str _) h2⟩)
    | tup ds =>
      cases r1 with
      | tup hq hr hl =>
      obtain ⟨y, h1, h2⟩ := onO_of w2
      obtain ⟨z, h3, h4⟩ := hr.atI h1
      exact .inr (.inl ⟨_, _, _, z, rfl, rfl, seqT S2.fz hq, h3, pv2.at S2 h4 h2⟩)
    | lst ds =>
      cases r1 with
      | lst hq hr hl =>
      obtain ⟨y, h1, h2⟩ := onO_of w2
      obtain ⟨z, h3, h4⟩ := hr.atI h1
      exact .inl ⟨_, _, _, z, rfl, rfl, SqL.of (S2.fz _ _ hq), h3, pv2.at S2 h4 h2⟩
    | _ => exact w2.elim
  | _ => cases d <;> exact w2.elim
/-- the parts of a slice -/
abbrev WO := Rh → MH → (Option Int → MH → Prop) → KE → Prop
def tOfO (K : PySem.W.Frag) (W : WX) (w : WO) : TO := fun σ H Q => ∃ F M ρ k x, RepS K H F M ∧ RepE K F σ ρ ∧ w ρ M k x ∧ (∀ o H' F' M', Ext H F M H' F' M' → RepS K H' F' M' → k o M' → Q o H') ∧ PostX K H F M x (fun c d => W c d σ)
structure DO (X : Cx) (e : Option Expr) (w : WO) : Prop where
  po : ∀ W, Takes X W → PO X e (tOfO X.K W w)
def wNoPart : WO := fun _ M k _ => k none M
def wPart (w : WE) : WO := fun ρ M k x => w ρ M (fun d M1 => onInt d fun i => k (some i) M1) x
theorem po_imp {e : Option Expr} {t t' : TO} (h : PO X e t) (i : ∀ σ H Q, t' σ H Q → t σ H Q) : PO X e t' := ⟨fun pins s σ H Q I q => h.run pins s σ H Q I (i σ H Q q)⟩
theorem do_none : DO X none wNoPart := by
  refine ⟨fun W _ => po_imp po_none fun σ H Q q => ?_⟩
  obtain ⟨F, M, ρ, k, x, S, E, w, pv, px⟩ := q
  exact pv _ H F M (Ext.refl _ _ _) S w
theorem do_some (h : DE X e we) : DO X (some e) (wPart we) := by
  refine ⟨fun W tk => po_imp (po_some (h.pe W tk)) fun σ H Q q => ?_⟩
  obtain ⟨F, M, ρ, k, x, S, E, w, pv, px⟩ := q
  refine ⟨F, M, ρ, _, x, S, E, w, fun v d H1 F1 M1 e1 S1 r1 w1 => ?_, px⟩
  obtain ⟨i, rfl, w2⟩ := int_of r1 w1
  exact ⟨i, rfl, pv _ H1 F1 M1 e1 S1 w2⟩
def cutD {α : Type} (xs : List α) (lo hi : Option Int) : List α := (xs.drop (HT.sIx xs.length 0 lo)).take (HT.sIx xs.length xs.length hi - HT.sIx xs.length 0 lo)
theorem cutD_len {α : Type} (xs : List α) (lo hi : Option Int) : (cutD xs lo hi).length ≤ xs.length := by
  unfold cutD
  rw [List.length_take, List.length_drop]
  omega
theorem Reps.cut {K : PySem.W.Frag} {F : Hp} {vs : List V} {ds : List D} (r : Reps K F vs ds) (lo hi : Option Int) : Reps K F (cutV vs lo hi) (cutD ds lo hi) := by
  unfold cutV cutD
  rw [r.length]
  exact (r.drop _).take _
theorem cutD_all {α : Type} {xs : List α} {lo hi : Option Int} (h : HT.sIx xs.length 0 lo = 0 ∧ HT.sIx xs.length xs.length hi = xs.length) : cutD xs lo hi = xs := by
  unfold cutD
  rw [h.1, h.2, List.drop_zero, Nat.sub_zero, List.take_length]
theorem cutV_ints (ns : List Int) (lo hi : Option Int) : cutV (ns.map V.int) lo hi = (cutD ns lo hi).map V.int := by
  unfold cutV cutD
  rw [List.length_map, List.map_take, List.map_drop]
def wSl (wa : WE) (wl wh : WO) : WE := fun ρ M k x => wa ρ M (fun d M1 => wl ρ M1 (fun lo M2 => wh ρ M2 (fun hi M3 => match d with
  | .tup ds => k (.tup (cutD ds lo hi)) M3
  | .lst ds => k (.lst (cutD ds lo hi)) M3
  | .scr ns => k (.scr (cutD ns lo hi)) M3
  | .ref l => ∃ ds, M3 l = some (.lst ds) ∧ k (.lst (cutD ds lo hi)) M3
  | .str z => z.length ≤ sizeLine ∧ k (.str (cutS z lo hi)) M3
  | _ => False) x) x) x
theorem de_sl {lo hi : Option Expr} {wl wh : WO} {p2 : Pos} (ha : DE X a wa) (hl : DO X lo wl) (hh : DO X hi wh) : DE X (.Subscript a (.Slice lo hi none p2) pos) (wSl wa wl wh) := by
  refine ⟨fun W tk => pe_imp (pe_slice (sl_list.or (sl_tupA.or sl_str)) (ha.pe W tk) (hl.po W tk) (hh.po W tk)) fun σ H Q q => ?_⟩
  obtain ⟨F, M, ρ, k, x, S, E, w, pv, px⟩ := q
  refine ⟨F, M, ρ, _, x, S, E, w, fun v d H1 F1 M1 e1 S1 r1 w1 => ?_, px⟩
  refine ⟨F1, M1, ρ, _, x, S1, E.mono e1.sm, w1, fun l H2 F2 M2 e2 S2 w2 => ?_, px.on e1⟩
  have e12 := e1.trans e2
  refine ⟨F2, M2, ρ, _, x, S2, E.mono e12.sm, w2, fun u H3 F3 M3 e3 S3 w3 => ?_, px.on e12⟩
  have e13 := e12.trans e3
  have pv3 := pv.on e13
  have r3 := r1.mono (e2.trans e3).sm
  cases d with
  | ref q =>
    cases r3
    obtain ⟨ds, hm, w4⟩ := w3
    obtain ⟨_, hl, xs, hx, hr⟩ := S3.mlst hm
    refine .inl ⟨_, xs, rfl, SqL.of hx, fun p hp => ?_⟩
    obtain ⟨S4, e4⟩ := S3.lay hp (.lst (cutV xs l u))
    exact pv3 _ _ _ _ _ e4 S4 (.lst upd_same ((hr.cut l u).mono e4.sm) (Nat.le_trans (cutD_len _ _ _) hl)) w4
  | str z =>
    cases r3
    obtain ⟨hz, w4⟩ := w3
    exact .inr (.inr ⟨_, rfl, hz, pv3.at S3 (.str _) w4⟩)
  | tup ds =>
    have w4 : k (.tup (cutD ds l u)) M3 := w3
    cases r3 with
    | @tup p xs _ hq hr hl =>
    refine .inr (.inl ⟨p, xs, rfl, seqT S3.fz hq, fun hw => ?_, fun _ p hp => ?_⟩)
    · rw [hr.length] at hw
      rw [cutD_all hw] at w4
      exact pv3.at S3 (.tup hq hr hl) w4
    · obtain ⟨S4, e4⟩ := S3.lay hp (.tup (cutV xs l u))
      exact pv3 _ _ _ _ _ e4 S4 (.tup (SqT.of upd_same) ((hr.cut l u).mono e4.sm) (Nat.le_trans (cutD_len _ _ _) hl)) w4
  | lst ds =>
    have w4 : k (.lst (cutD ds l u)) M3 := w3
    cases r3 with
    | @lst p xs _ hq hr hl =>
    refine .inl ⟨p, xs, rfl, SqL.of (S3.fz _ _ hq), fun p hp => ?_⟩
    obtain ⟨S4, e4⟩ := S3.lay hp (.lst (cutV xs l u))
    exact pv3 _ _ _ _ _ e4 S4 (.lst upd_same ((hr.cut l u).mono e4.sm) (Nat.le_trans (cutD_len _ _ _) hl)) w4
  | scr ns =>
    have w4 : k (.scr (cutD ns l u)) M3 := w3
    cases r3 with
    | @scr p _ hq =>
    refine .inl ⟨p, ns.map V.int, rfl, S3.fz.seq hq, fun p hp => ?_⟩
    obtain ⟨S4, e4⟩ := S3.lay hp (.lst (cutV (ns.map V.int) l u))
    exact pv3 _ _ _ _ _ e4 S4 (.scr (by rw [← cutV_ints]; exact SqL.of upd_same)) w4
  | _ => exact w3.elim
end

/-! ### built-in functions and classes -/
section
variable {X : Cx} {x : Str} {p pos : Pos} {e : Expr} {es : List Expr} {wa : WA} {id T : String}
abbrev RB := List D → MH → KD → Prop
def CallD (X : Cx) (f : Value) (r : RB) : Prop := ∃ r2, CallR X f r2 ∧ ∀ ds vs H F M k Q, RepS X.K H F M → Reps X.K F vs ds → r ds M k → PostV X.K H F M k Q → r2 vs H Q
def wCB (r : RB) (wa : WA) : WE := fun ρ M k x => wa ρ M (fun ds M1 => r ds M1 k) x
theorem de_callB {r : RB} (hc : CallD X (.builtin id) r) (hm : X.mg x = none) (hv : bootBuiltins x = some (.builtin id)) (ha : DA X (e :: es) wa) (hg : Gl X x := by rfl) (hn : x ≠ "__name__" := by decide) (hdb : (x == ("__debug__" : Str)) = false := by decide)
    (he : starEach (e :: es) X.env = (false, eval e X.env) :: starEach es X.env := by rfl) (hpl : (backTo pos (starEach es X.env)).any (·.1) = false := by rfl) : DE X (.Call (.Name x p) (e :: es) [] pos) (wCB r wa) := by
  obtain ⟨r2, h, s⟩ := hc
  refine ⟨fun W tk => pe_imp (pe_callB h hg hm hv (ha.pa W tk) hn hdb he hpl) fun σ H Q q => ?_⟩
  obtain ⟨F, M, ρ, k, x, S, E, w, pv, px⟩ := q
  exact ⟨F, M, ρ, _, x, S, E, w, fun vs ds H1 F1 M1 e1 S1 r1 w1 => s ds vs H1 F1 M1 k Q S1 r1 w1 (pv.on e1), px⟩
theorem de_callTy {r : RB} (hc : CallD X (.type T) r) (hm : X.mg x = none) (hv : bootBuiltins x = some (.type T)) (ha : DA X (e :: es) wa) (hg : Gl X x := by rfl) (hn : x ≠ "__name__" := by decide) (hdb : (x == ("__debug__" : Str)) = false := by decide)
    (he : starEach (e :: es) X.env = (false, eval e X.env) :: starEach es X.env := by rfl) (hpl : (backTo pos (starEach es X.env)).any (·.1) = false := by rfl) : DE X (.Call (.Name x p) (e :: es) [] pos) (wCB r wa) := by
  obtain ⟨r2, h, s⟩ := hc
  refine ⟨fun W tk => pe_imp (pe_callTy h hg hm hv (ha.pa W tk) hn hdb he hpl) fun σ H Q q => ?_⟩
  obtain ⟨F, M, ρ, k, x, S, E, w, pv, px⟩ := q
  exact ⟨F, M, ρ, _, x, S, E, w, fun vs ds H1 F1 M1 e1 S1 r1 w1 => s ds vs H1 F1 M1 k Q S1 r1 w1 (pv.on e1), px⟩
/-- one argument -/
def on1 (ds : List D) (p : D → Prop) : Prop := match ds with
  | [d] => p d
  | _ => False
theorem on1_of {ds : List D} {p : D → Prop} (h : on1 ds p) : ∃ d, ds = [d] ∧ p d := by
  match ds, h with
  | [d], h => exact ⟨d, rfl, h⟩
def on2 (ds : List D) (p : D → D → Prop) : Prop := match ds with
  | [d, e] => p d e
  | _ => False
theorem on2_of {ds : List D} {p : D → D → Prop} (h : on2 ds p) : ∃ d e, ds = [d, e] ∧ p d e := by
  match ds, h with
  | [d, e], h => exact ⟨d, e, rfl, h⟩
theorem reps1 {K : PySem.W.Frag} {F : Hp} {vs : List V} {d : D} (r : Reps K F vs [d]) : ∃ v, vs = [v] ∧ Rep K F v d := by
  cases r with
  | cons h t => cases t; exact ⟨_, rfl, h⟩
theorem reps2 {K : PySem.W.Frag} {F : Hp} {vs : List V} {d e : D} (r : Reps K F vs [d, e]) : ∃ v u, vs = [v, u] ∧ Rep K F v d ∧ Rep K F u e := by
  cases r with
  | cons h t => cases t with
    | cons h2 t2 => cases t2; exact ⟨_, _, rfl, h, h2⟩
def lenD (d : D) (M : MH) (k : Nat → Prop) : Prop := match d with
  | .tup xs => k xs.length
  | .lst xs => k xs.length
  | .ref a => ∃ xs, M a = some (.lst xs) ∧ k xs.length
  | .str z => z.length ≤ sizeLine ∧ k z.length
  | _ => False
def rLn : RB := fun ds M k => on1 ds fun d => lenD d M fun n => k (.int n) M
theorem cd_len : CallD X (.builtin "len") rLn := by
  refine ⟨_, call_len, fun ds vs H F M k Q S r0 h0 pv => ?_⟩
  obtain ⟨d, rfl, h⟩ := on1_of h0
  obtain ⟨v, rfl, r⟩ := reps1 r0
  cases d with
  | ref a =>
    cases r
    obtain ⟨xs, hm, w⟩ := h
    obtain ⟨_, _, ys, hx, hr⟩ := S.mlst hm
    exact ⟨_, _, rfl, .inl ⟨ys, SqL.of hx, hr.length.symm⟩, pv.at S (.int _) w⟩
  | str z =>
    cases r
    obtain ⟨hz, w⟩ := h
    exact ⟨_, _, rfl, ⟨hz, rfl⟩, pv.at S (.int _) w⟩
  | tup ds =>
    cases r with
    | tup hq hr hl => exact ⟨_, _, rfl, .inr ⟨_, seqT S.fz hq, hr.length.symm⟩, pv.at S (.int _) h⟩
  | lst ds =>
    cases r with
    | lst hq hr hl => exact ⟨_, _, rfl, .inl ⟨_, SqL.of (S.fz _ _ hq), hr.length.symm⟩, pv.at S (.int _) h⟩
  | _ => exact h.elim
/-- list(x): a new list, frozen; the items of a list, a tuple, the script -/
def itemsD (d : D) (M : MH) (k : List D → Prop) : Prop := match d with
  | .tup xs => k xs
  | .lst xs => k xs
  | .scr ns => ns.length ≤ 100 ∧ k (ns.map .int)
  | .ref a => ∃ xs, M a = some (.lst xs) ∧ k xs
  | _ => False
theorem items_of {K : PySem.W.Frag} {H F : Hp} {M : MH} {v : V} {d : D} {k : List D → Prop} (S : RepS K H F M) (r : Rep K F v d) (h : itemsD d M k) : ∃ a xs ds, v = .ref a ∧ (SqL K H a xs ∨ SqT K H a xs) ∧ Reps K F xs ds ∧ ds.length ≤ sizeLine ∧ k ds := by
  cases d with
  | ref a =>
    cases r
    obtain ⟨xs, hm, w⟩ := h
    obtain ⟨_, hl, ys, hx, hr⟩ := S.mlst hm
    exact ⟨_, _, _, rfl, .inl (SqL.of hx), hr, hl, w⟩
  | tup ds =>
    cases r with
    | tup hq hr hl => exact ⟨_, _, _, rfl, .inr (seqT S.fz hq), hr, hl, h⟩
  | lst ds =>
    cases r with
    | lst hq hr hl => exact ⟨_, _, _, rfl, .inl (SqL.of (S.fz _ _ hq)), hr, hl, h⟩
  | scr ns =>
    cases r with
    | scr hq => exact ⟨_, _, _, rfl, .inl (S.fz.seq hq), Reps.of_ints _, by rw [List.length_map, sizeLine_eq]; have := h.1; omega, h.2⟩
  | _ => exact h.elim
def rList : RB := fun ds M k => on1 ds fun d => itemsD d M fun xs => k (.lst xs) M
def rListM : RB := fun ds M k => on1 ds fun d => itemsD d M fun xs => ∀ a, M a = none → k (.ref a) (mupd M a (.lst xs))
theorem cd_list : CallD X (.type "list") rList := by
  refine ⟨_, call_list_of, fun ds vs H F M k Q S r0 h0 pv => ?_⟩
  obtain ⟨d, rfl, h⟩ := on1_of h0
  obtain ⟨v, rfl, r⟩ := reps1 r0
  obtain ⟨a, xs, ds, rfl, hq, hr, hl, w⟩ := items_of S r h
  refine ⟨a, xs, rfl, hq, fun l hn => ?_⟩
  obtain ⟨S2, e2⟩ := S.lay hn (.lst xs)
  exact pv _ _ _ _ _ e2 S2 (.lst upd_same (hr.mono e2.sm) hl) w
theorem cd_listM : CallD X (.type "list") rListM := by
  refine ⟨_, call_list_of, fun ds vs H F M k Q S r0 h0 pv => ?_⟩
  obtain ⟨d, rfl, h⟩ := on1_of h0
  obtain ⟨v, rfl, r⟩ := reps1 r0
  obtain ⟨a, xs, ds, rfl, hq, hr, hl, w⟩ := items_of S r h
  refine ⟨a, xs, rfl, hq, fun l hn => ?_⟩
  obtain ⟨S2, e2⟩ := S.layM hn (o := .lst xs) (m := .lst ds) ⟨xs, rfl, hr, hl⟩
  exact pv _ _ _ _ _ e2 S2 (.ref l) (w l (S.mno hn))
def rTuple : RB := fun ds M k => on1 ds fun d => itemsD d M fun xs => k (.tup xs) M
theorem cd_tuple : CallD X (.type "tuple") rTuple := by
  refine ⟨_, call_tuple_of, fun ds vs H F M k Q S r0 h0 pv => ?_⟩
  obtain ⟨d, rfl, h⟩ := on1_of h0
  obtain ⟨v, rfl, r⟩ := reps1 r0
  have mk : ∀ {a : Addr} {xs : List V} {es : List D}, Reps X.K F xs es → es.length ≤ sizeLine → k (.tup es) M → ∀ l, H l = none → Q (.ref l) (upd H l (.tup xs)) := fun hr hl w l hn => by
    obtain ⟨S2, e2⟩ := S.lay hn (.tup _)
    exact pv _ _ _ _ _ e2 S2 (.tup (SqT.of upd_same) (hr.mono e2.sm) hl) w
  cases d with
  | ref a =>
    cases r
    obtain ⟨xs', hm, w'⟩ := h
    obtain ⟨_, hl', ys, hx, hr'⟩ := S.mlst hm
    exact ⟨_, _, rfl, .inl ⟨SqL.of hx, mk (a := a) hr' hl' w'⟩⟩
  | tup ds =>
    cases r with
    | tup hq hr hl => exact ⟨_, _, rfl, .inr ⟨seqT S.fz hq, pv.at S (.tup hq hr hl) h⟩⟩
  | lst ds =>
    cases r with
    | @lst a _ _ hq hr hl => exact ⟨_, _, rfl, .inl ⟨SqL.of (S.fz _ _ hq), mk (a := a) hr hl h⟩⟩
  | scr ns =>
    cases r with
    | @scr a _ hq => exact ⟨_, _, rfl, .inl ⟨S.fz.seq hq, mk (a := a) (Reps.of_ints _) (by rw [List.length_map, sizeLine_eq]; have := h.1; omega) h.2⟩⟩
  | _ => exact h.elim
def rInt1 : RB := fun ds M k => on1 ds fun d => match d with
  | .int i => k (.int i) M
  | .bl b => k (.int (if b then 1 else 0)) M
  | _ => False
theorem cd_int : CallD X (.type "int") rInt1 := by
  refine ⟨_, call_int1, fun ds vs H F M k Q S r0 h0 pv => ?_⟩
  obtain ⟨d, rfl, h⟩ := on1_of h0
  obtain ⟨v, rfl, r⟩ := reps1 r0
  cases d with
  | bl b => cases r; exact .inr ⟨_, rfl, pv.at S (.int _) h⟩
  | int i => cases r; exact .inl ⟨_, rfl, pv.at S (.int _) h⟩
  | _ => exact h.elim
def rAbs : RB := fun ds M k => on1 ds fun d => onInt d fun i => k (.int (if i < 0 then -i else i)) M
theorem cd_abs : CallD X (.builtin "abs") rAbs := by
  refine ⟨_, call_abs, fun ds vs H F M k Q S r0 h0 pv => ?_⟩
  obtain ⟨d, rfl, h⟩ := on1_of h0
  obtain ⟨v, rfl, r⟩ := reps1 r0
  obtain ⟨i, rfl, w⟩ := int_of r h
  exact ⟨i, rfl, pv.at S (.int _) w⟩
def rMax2 : RB := fun ds M k => on2 ds fun d e => onII d e fun i j => k (.int (if j > i then j else i)) M
theorem cd_max2 (hc : X.calm = true) : CallD X (.builtin "max") rMax2 := by
  refine ⟨_, call_max2 hc, fun ds vs H F M k Q S r0 h0 pv => ?_⟩
  obtain ⟨d, e, rfl, h⟩ := on2_of h0
  obtain ⟨v, u, rfl, r, r'⟩ := reps2 r0
  obtain ⟨i, j, rfl, rfl, w⟩ := ii_of r r' h
  exact ⟨i, j, rfl, pv.at S (.int _) w⟩
def rMin2 : RB := fun ds M k => on2 ds fun d e => onII d e fun i j => k (.int (if j < i then j else i)) M
theorem cd_min2 (hc : X.calm = true) : CallD X (.builtin "min") rMin2 := by
  refine ⟨_, call_min2 hc, fun ds vs H F M k Q S r0 h0 pv => ?_⟩
  obtain ⟨d, e, rfl, h⟩ := on2_of h0
  obtain ⟨v, u, rfl, r, r'⟩ := reps2 r0
  obtain ⟨i, j, rfl, rfl, w⟩ := ii_of r r' h
  exact ⟨i, j, rfl, pv.at S (.int _) w⟩
/-- the ints, the truth values of a list -/
def intsOf : List D → Option (List Int)
  | [] => some []
  | .int i :: r => (intsOf r).map (i :: ·)
  | _ => none
def blsOf : List D → Option (List Bool)
  | [] => some []
  | .bl i :: r => (blsOf r).map (i :: ·)
  | _ => none
theorem intsOf_eq : ∀ {ds : List D} {ns : List Int}, intsOf ds = some ns → ds = ns.map .int
  | [], ns, h => by cases h; rfl
  | .int i :: r, ns, h => by
    obtain ⟨ms, h1, rfl⟩ := Option.map_eq_some_iff.mp (show (intsOf r).map (i :: ·) = some ns from h)
    rw [intsOf_eq h1]
    rfl
theorem blsOf_eq : ∀ {ds : List D} {ns : List Bool}, blsOf ds = some ns → ds = ns.map .bl
  | [], ns, h => by cases h; rfl
  | .bl i :: r, ns, h => by
    obtain ⟨ms, h1, rfl⟩ := Option.map_eq_some_iff.mp (show (blsOf r).map (i :: ·) = some ns from h)
    rw [blsOf_eq h1]
    rfl
theorem intsOf_map : ∀ ns : List Int, intsOf (ns.map .int) = some ns
  | [] => rfl
  | n :: ns => by show (intsOf (ns.map .int)).map (n :: ·) = _; rw [intsOf_map ns]; rfl
theorem blsOf_map : ∀ ns : List Bool, blsOf (ns.map .bl) = some ns
  | [] => rfl
  | n :: ns => by show (blsOf (ns.map .bl)).map (n :: ·) = _; rw [blsOf_map ns]; rfl
def onLst (d : D) (p : List D → Prop) : Prop := match d with
  | .lst ds => p ds
  | _ => False
theorem lst_of {K : PySem.W.Frag} {F : Hp} {v : V} {d : D} {p : List D → Prop} (r : Rep K F v d) (h : onLst d p) : ∃ a xs ds, v = .ref a ∧ F a = some (.lst xs) ∧ Reps K F xs ds ∧ ds.length ≤ sizeLine ∧ p ds := by
  cases d with
  | lst ds => cases r with | lst a b c => exact ⟨_, _, _, rfl, a, b, c, h⟩
  | _ => exact h.elim
def rSum : RB := fun ds M k => on1 ds fun d => onLst d fun es => onO (intsOf es) fun ns => k (.int ns.sum) M
theorem cd_sum (hc : X.calm = true) : CallD X (.builtin "sum") rSum := by
  refine ⟨_, cr_sum hc, fun ds vs H F M k Q S r0 h0 pv => ?_⟩
  obtain ⟨d, rfl, h⟩ := on1_of h0
  obtain ⟨v, rfl, r⟩ := reps1 r0
  obtain ⟨a, xs, es, rfl, hq, hr, hl, w⟩ := lst_of r h
  obtain ⟨ns, h1, w⟩ := onO_of w
  rw [intsOf_eq h1] at hr
  have e := hr.ints
  subst e
  exact ⟨a, ns, rfl, SqL.of (S.fz _ _ hq), pv.at S (.int _) w⟩
def rAll : RB := fun ds M k => on1 ds fun d => onLst d fun es => onO (blsOf es) fun ns => k (.bl (ns.all (fun b => b))) M
theorem cd_all (hc : X.calm = true) : CallD X (.builtin "all") rAll := by
  refine ⟨_, cr_all hc, fun ds vs H F M k Q S r0 h0 pv => ?_⟩
  obtain ⟨d, rfl, h⟩ := on1_of h0
  obtain ⟨v, rfl, r⟩ := reps1 r0
  obtain ⟨a, xs, es, rfl, hq, hr, hl, w⟩ := lst_of r h
  obtain ⟨ns, h1, w⟩ := onO_of w
  rw [blsOf_eq h1] at hr
  have e := hr.bls
  subst e
  exact ⟨a, ns, rfl, SqL.of (S.fz _ _ hq), pv.at S (.bl _) w⟩
def rAny : RB := fun ds M k => on1 ds fun d => onLst d fun es => onO (blsOf es) fun ns => k (.bl (ns.any (fun b => b))) M
theorem cd_any (hc : X.calm = true) : CallD X (.builtin "any") rAny := by
  refine ⟨_, cr_any hc, fun ds vs H F M k Q S r0 h0 pv => ?_⟩
  obtain ⟨d, rfl, h⟩ := on1_of h0
  obtain ⟨v, rfl, r⟩ := reps1 r0
  obtain ⟨a, xs, es, rfl, hq, hr, hl, w⟩ := lst_of r h
  obtain ⟨ns, h1, w⟩ := onO_of w
  rw [blsOf_eq h1] at hr
  have e := hr.bls
  subst e
  exact ⟨a, ns, rfl, SqL.of (S.fz _ _ hq), pv.at S (.bl _) w⟩
/-- isinstance of a built-in class -/
inductive Kd where
  | non | bl | int | str | tup | lst
def Kd.name : Kd → String
  | .non => "NoneType" | .bl => "bool" | .int => "int" | .str => "str" | .tup => "tuple" | .lst => "list"
def kdOf : D → Option Kd
  | .non => some .non | .bl _ => some .bl | .int _ => some .int | .str _ => some .str | .tup _ => some .tup | .lst _ => some .lst
  | _ => none
def isiK : Kd → Ty → Bool
  | .bl, .bool => true | .bl, .int => true | .int, .int => true | .str, .str => true | .tup, .tuple => true | .lst, .list => true
  | _, _ => false
theorem isiK_ok (k : Kd) (t : Ty) : kitB k.name t.name = some (isiK k t) := by
  cases k <;> cases t <;> decide +kernel
def rIsi : RB := fun ds M k => on2 ds fun d e => match e with
  | .ty t => onO (kdOf d) fun q => k (.bl (isiK q t)) M
  | _ => False
theorem tyT {K : PySem.W.Frag} {H : Hp} {a : Addr} {xs : List V} (h : SqT K H a xs) : TyX K H (.ref a) (.type "tuple") := by
  rcases h with (h | ⟨o, h⟩) | ⟨o, its, n, h, hc, _⟩
  · exact .base (.tup h)
  · exact .fTuple h
  · exact .kTuple h hc
theorem cd_isi : CallD X (.builtin "isinstance") rIsi := by
  refine ⟨_, call_isi, fun ds vs H F M k Q S r0 h0 pv => ?_⟩
  obtain ⟨d, e, rfl, h⟩ := on2_of h0
  obtain ⟨v, u, rfl, r, r'⟩ := reps2 r0
  cases e <;> try exact h.elim
  rename_i t
  cases r'
  obtain ⟨q, hb, w⟩ := onO_of h
  have fin : TyX X.K H v (.type q.name) → ∃ (x c : V) (t' u : Value) (b : Bool), [v, V.ty t.name] = [x, c] ∧ ClsV c u ∧ TyX X.K H x t' ∧ PySem.W.kitOne X.K t' u = some b ∧ Q (.bl b) H :=
    fun ty => ⟨_, _, _, _, isiK q t, rfl, .ty _, ty, kit_ty (isiK_ok q t), pv.at S (.bl _) w⟩
  cases d with
  | non => cases hb; cases r; exact fin (.base .non)
  | bl b => cases hb; cases r; exact fin (.base (.bl _))
  | int b => cases hb; cases r; exact fin (.base (.int _))
  | str b => cases hb; cases r; exact fin (.base (.str _))
  | tup b => cases hb; cases r with | tup hq hr hl => exact fin (tyT (seqT S.fz hq))
  | lst b => cases hb; cases r with | lst hq hr hl => exact fin (.base (.lst (S.fz _ _ hq)))
  | _ => cases hb
end

/-! ### xs.append(e) -/
def wApp (wo we : WE) : WE := fun ρ M k x => wo ρ M (fun o M1 => ∃ a ds0, o = .ref a ∧ M1 a = some (.lst ds0) ∧ we ρ M1 (fun d M2 => ∃ ds, M2 a = some (.lst ds) ∧ ds.length < sizeLine ∧ k .non (mupd M2 a (.lst (ds ++ [d])))) x) x
section
variable {X : Cx} {o e : Expr} {wo we : WE} {apos cpos : Pos}
theorem de_app (ho : DE X o wo) (he : DE X e we) (hs : starEach (e :: []) X.env = (false, eval e X.env) :: starEach [] X.env := by rfl)
    (hbase : attributeBase o "append" X.env (eval o X.env) = eval o X.env := by rfl)
    (hfew : ((backTo cpos (starEach (e :: []) X.env)).all (fun x => !x.1) && (backToKw cpos (keywordEach [] X.env)).all (fun x => x.1.isSome)
      && decide ((e :: []).length + ([] : List Keyword).length + (if ([] : List Keyword).isEmpty then 0 else 1) < 30)) = true := by rfl)
    (hline : (apos.endLine == cpos.line) = true := by rfl) (hplain : (backTo cpos (starEach [] X.env)).any (·.1) = false := by rfl) :
    DE X (.Call (.Attribute o "append" apos) [e] [] cpos) (wApp wo we) := by
  refine ⟨fun W tk => pe_imp (pe_bm PySem.F.plainAttrs_list PySem.F.slot_list_append PySem.F.type_list_append mt_append (ho.pe W tk) (pa_cons (he.pe W tk) pa_nil hs) hbase hfew hline hs hplain) fun σ H Q q => ?_⟩
  obtain ⟨F, M, ρ, k, x, S, R, w, pv, px⟩ := q
  refine ⟨F, M, ρ, _, x, S, R, w, fun v d H1 F1 M1 e1 S1 r1 w1 => ?_, px⟩
  obtain ⟨a, ds0, rfl, hm0, w2⟩ := w1
  cases r1
  obtain ⟨_, _, xs0, hx0, _⟩ := S1.mlst hm0
  refine ⟨Or.inl ⟨rfl, _, SqL.of hx0⟩, F1, M1, ρ, _, x, S1, R.mono e1.sm, w2, fun u e H2 F2 M2 e2 S2 r2 w3 => ?_, px.on e1⟩
  obtain ⟨ds, hm, hl, w4⟩ := w3
  obtain ⟨_, _, xs, hx, hr⟩ := S2.mlst hm
  obtain ⟨S3, e3⟩ := S2.write hm (o := .lst (xs ++ [u])) (m := .lst (ds ++ [e])) ⟨_, rfl, hr.snoc r2, by rw [List.length_append]; exact hl⟩
  exact ⟨a, xs, u, rfl, rfl, hx, by rw [hr.length]; exact hl, pv _ _ _ _ _ ((e1.trans e2).trans e3) S3 .non w4⟩
end
end DL

namespace DL
open PySem PySem.Spec PyProof.Rows L2

/-! ### zip, enumerate -/
def zipD : List D → List D → List D
  | a :: as, b :: bs => .tup [a, b] :: zipD as bs
  | _, _ => []
theorem zipD_len : ∀ as bs : List D, (zipD as bs).length = min as.length bs.length
  | [], _ => by simp [zipD]
  | _ :: _, [] => by simp [zipD]
  | a :: as, b :: bs => by
    show (zipD as bs).length + 1 = min (as.length + 1) (bs.length + 1)
    rw [zipD_len as bs]
    omega
theorem zipD_get : ∀ (as bs : List D) (i : Nat) (a b : D), as[i]? = some a → bs[i]? = some b → (zipD as bs)[i]? = some (.tup [a, b])
  | [], _, _, _, _, h, _ => by simp at h
  | _ :: _, [], _, _, _, _, h => by simp at h
  | a :: as, b :: bs, 0, _, _, h1, h2 => by simp at h1 h2; subst h1 h2; rfl
  | a :: as, b :: bs, i + 1, _, _, h1, h2 => zipD_get as bs i _ _ (by simpa using h1) (by simpa using h2)
def enumD (lo : Int) : List D → List D
  | a :: as => .tup [.int lo, a] :: enumD (lo + 1) as
  | [] => []
theorem enumD_len : ∀ (as : List D) (lo : Int), (enumD lo as).length = as.length
  | [], _ => rfl
  | a :: as, lo => congrArg (· + 1) (enumD_len as (lo + 1))
theorem enumD_get : ∀ (as : List D) (lo : Int) (i : Nat) (a : D), as[i]? = some a → (enumD lo as)[i]? = some (.tup [.int (lo + i), a])
  | [], _, _, _, h => by simp at h
  | a :: as, lo, 0, _, h => by simp at h; subst h; simp [enumD]
  | a :: as, lo, i + 1, _, h => by
    have q := enumD_get as (lo + 1) i _ (by simpa using h)
    show (enumD (lo + 1) as)[i]? = _
    rw [q]
    congr 3
    congr 1
    omega
/-- two walked things that give a new pair each turn -/
theorem pair_yld {K : PySem.W.Frag} {H F : Hp} {M : MH} {T : Addr} {x y : V} {a b : D} (S : RepS K H F M) (hT : H T = none) (r1 : Rep K F x a) (r2 : Rep K F y b) :
    ∃ F3, Ext H F M (upd H T (.tup [x, y])) F3 M ∧ RepS K (upd H T (.tup [x, y])) F3 M ∧ Rep K F3 (.ref T) (.tup [a, b]) := by
  obtain ⟨S2, e2⟩ := S.lay hT (.tup [x, y])
  exact ⟨_, e2, S2, .tup (SqT.of upd_same) (.cons (r1.mono e2.sm) (.cons (r2.mono e2.sm) .nil)) (le_line (by show 2 ≤ 4096; decide))⟩
section
variable {K : PySem.W.Frag} {F : Hp} {a b : Addr} {xs ys : List V} {as bs : List D}
theorem wks_zip (h1 : F a = some (.lst xs)) (r1 : Reps K F xs as) (l1 : as.length ≤ sizeLine) (h2 : F b = some (.lst ys)) (r2 : Reps K F ys bs) : Wks K F (Itz K a b) (zipD as bs) (fun _ => True) where
  sz := by rw [zipD_len]; omega
  go := fun i H F' M hi s S _ => by
    rw [zipD_len] at hi
    have hx : i < xs.length := by rw [r1.length]; omega
    have hy : i < ys.length := by rw [r2.length]; omega
    exact ⟨xs, ys, xs[i], ys[i], SqL.of (S.fz _ _ (s _ _ h1)), SqL.of (S.fz _ _ (s _ _ h2)), by simp [hx], by simp [hy]⟩
  stop := fun H F' M s S _ => ⟨xs, ys, SqL.of (S.fz _ _ (s _ _ h1)), SqL.of (S.fz _ _ (s _ _ h2)), by rw [zipD_len, r1.length, r2.length]; omega⟩
  yld := fun i H v H3 F' M hi s S _ y => by
    obtain ⟨T, x, z, rfl, hT, rfl, q1, q2⟩ := y
    obtain ⟨d, g1, g2⟩ := r1.getV (q1 xs (SqL.of (S.fz _ _ (s _ _ h1))))
    obtain ⟨e, g3, g4⟩ := r2.getV (q2 ys (SqL.of (S.fz _ _ (s _ _ h2))))
    obtain ⟨F3, e3, S3, r3⟩ := pair_yld S hT (g2.mono s) (g4.mono s)
    exact ⟨F3, _, e3, S3, zipD_get as bs i d e g1 g3, r3⟩
theorem wks_zipT (h1 : SqT K F a xs) (r1 : Reps K F xs as) (l1 : as.length ≤ sizeLine) (h2 : SqT K F b ys) (r2 : Reps K F ys bs) : Wks K F (RZ.ItzT K a b) (zipD as bs) (fun _ => True) where
  sz := by rw [zipD_len]; omega
  go := fun i H F' M hi s S _ => by
    rw [zipD_len] at hi
    have hx : i < xs.length := by rw [r1.length]; omega
    have hy : i < ys.length := by rw [r2.length]; omega
    exact ⟨xs, ys, xs[i], ys[i], seqT S.fz (seqT s h1), seqT S.fz (seqT s h2), by simp [hx], by simp [hy]⟩
  stop := fun H F' M s S _ => ⟨xs, ys, seqT S.fz (seqT s h1), seqT S.fz (seqT s h2), by rw [zipD_len, r1.length, r2.length]; omega⟩
  yld := fun i H v H3 F' M hi s S _ y => by
    obtain ⟨T, x, z, rfl, hT, rfl, q1, q2⟩ := y
    obtain ⟨d, g1, g2⟩ := r1.getV (q1 xs (seqT S.fz (seqT s h1)))
    obtain ⟨e, g3, g4⟩ := r2.getV (q2 ys (seqT S.fz (seqT s h2)))
    obtain ⟨F3, e3, S3, r3⟩ := pair_yld S hT (g2.mono s) (g4.mono s)
    exact ⟨F3, _, e3, S3, zipD_get as bs i d e g1 g3, r3⟩
theorem wks_enum (h1 : F a = some (.lst xs)) (r1 : Reps K F xs as) (l1 : as.length ≤ sizeLine) : Wks K F (Ite K a) (enumD 0 as) (fun _ => True) where
  sz := by rw [enumD_len]; exact l1
  go := fun i H F' M hi s S _ => by
    rw [enumD_len] at hi
    have hx : i < xs.length := by rw [r1.length]; omega
    exact ⟨xs, xs[i], SqL.of (S.fz _ _ (s _ _ h1)), by simp [hx]⟩
  stop := fun H F' M s S _ => ⟨xs, SqL.of (S.fz _ _ (s _ _ h1)), by rw [enumD_len, r1.length]; omega⟩
  yld := fun i H v H3 F' M hi s S _ y => by
    obtain ⟨T, x, rfl, hT, rfl, q1⟩ := y
    obtain ⟨d, g1, g2⟩ := r1.getV (q1 xs (SqL.of (S.fz _ _ (s _ _ h1))))
    obtain ⟨F3, e3, S3, r3⟩ := pair_yld S hT (Rep.int (K := K) (F := F') (i : Nat)) (g2.mono s)
    refine ⟨F3, _, e3, S3, enumD_get as 0 i d g1, ?_⟩
    rw [Int.zero_add]
    exact r3
end
def wiZip (wa wb : WE) : WI := fun ρ M k x => wa ρ M (fun d M1 => wb ρ M1 (fun e M2 => match d, e with
  | .tup xs, .tup ys => k (zipD xs ys) (fun _ => True) M2
  | .lst xs, .lst ys => k (zipD xs ys) (fun _ => True) M2
  | _, _ => False) x) x
def wiEnum (wa : WE) : WI := fun ρ M k x => wa ρ M (fun d M1 => onLst d fun xs => k (enumD 0 xs) (fun _ => True) M1) x
section
variable {X : Cx} {a b : Expr} {wa wb : WE} {p pos tpos : Pos} {elts : List Expr} {kk : Nat}
theorem di_zip (hm : X.mg "zip" = none) (ha : DE X a wa) (hb : DE X b wb) (hg : Gl X "zip" := by rfl) (hs : starEach [a, b] X.env = (false, eval a X.env) :: starEach [b] X.env := by rfl) (hpl : (backTo pos (starEach [b] X.env)).any (·.1) = false := by rfl)
    (h00 : starEach (b :: []) X.env = (false, eval b X.env) :: starEach [] X.env := by rfl) : DI X (.Tuple elts kk tpos) (.Call (.Name "zip" p) [a, b] [] pos) (wiZip wa wb) := by
  refine ⟨fun W tk => pi_imp (RZ.pi_zipA hg hm (pa_cons (ha.pe W tk) (pa_cons (hb.pe W tk) pa_nil h00) hs) hs hpl) fun σ H R q => ?_⟩
  obtain ⟨F, M, ρ, k, x, S, E, w, f, px⟩ := q
  refine ⟨F, M, ρ, _, x, S, E, w, fun v d H1 F1 M1 e1 S1 r1 w1 => ?_, px⟩
  refine ⟨F1, M1, ρ, _, x, S1, E.mono e1.sm, w1, fun u e H2 F2 M2 e2 S2 r2 w2 => ?_, px.on e1⟩
  have r1' := r1.mono e2.sm
  have e12 := e1.trans e2
  cases d with
  | tup xs =>
    cases e with
    | tup ys =>
      cases r1' with
      | tup q1 q2 q3 =>
      cases r2 with
      | tup s1 s2 s3 => exact ⟨_, _, _, _, rfl, .inr ⟨seqT S2.fz q1, seqT S2.fz s1, f _ _ _ _ _ _ e12 S2 (wks_zipT q1 q2 q3 s1 s2) w2⟩⟩
    | _ => exact w2.elim
  | lst xs =>
    cases e with
    | lst ys =>
      cases r1' with
      | lst q1 q2 q3 =>
      cases r2 with
      | lst s1 s2 s3 => exact ⟨_, _, _, _, rfl, .inl ⟨SqL.of (S2.fz _ _ q1), SqL.of (S2.fz _ _ s1), f _ _ _ _ _ _ e12 S2 (wks_zip q1 q2 q3 s1 s2) w2⟩⟩
    | _ => exact w2.elim
  | _ => cases e <;> exact w2.elim
theorem di_enum (hm : X.mg "enumerate" = none) (ha : DE X a wa) (hg : Gl X "enumerate" := by rfl) (hs : starEach [a] X.env = [(false, eval a X.env)] := by rfl) (h00 : starEach (a :: []) X.env = (false, eval a X.env) :: starEach [] X.env := by rfl) :
    DI X (.Tuple elts kk tpos) (.Call (.Name "enumerate" p) [a] [] pos) (wiEnum wa) := by
  refine ⟨fun W tk => pi_imp (pi_enum hg hm (pa_cons (ha.pe W tk) pa_nil h00) hs) fun σ H R q => ?_⟩
  obtain ⟨F, M, ρ, k, x, S, E, w, f, px⟩ := q
  refine ⟨F, M, ρ, _, x, S, E, w, fun v d H1 F1 M1 e1 S1 r1 w1 => ?_, px⟩
  obtain ⟨q, xs, ds, rfl, h1, h2, h3, w2⟩ := lst_of r1 w1
  exact ⟨q, xs, rfl, SqL.of (S1.fz _ _ h1), f _ _ _ _ _ _ e1 S1 (wks_enum h1 h2 h3) w2⟩
end

/-! ### name op= e; a, b = x, y -/
def wAug (i : Nat) (r : RD) (we : WE) : WS := fun ρ M E => ∃ d, ρ[i]? = some (some d) ∧ we ρ M (fun e M1 => r d e M1 fun z M2 => E.nx (ρ.set i (some z)) M2) E.xc
def IpD (X : Cx) (op : Operator) (r : RD) : Prop := ∃ r2 : TIp, PIp X op r2 ∧ ∀ d e v u H F M k Q, RepS X.K H F M → Rep X.K F v d → Rep X.K F u e → r d e M k → PostV X.K H F M k Q → r2 v u H Q
section
variable {X : Cx} {e : Expr} {we : WE} {pos : Pos}
theorem ds_aug {i : Nat} {x : Str} {op : Operator} {r : RD} {pos' : Pos} (hN : X.N.Nodup) (hi : X.N[i]? = some x) (hx : Loc X.env.scope x) (ho : IpD X op r) (he : DE X e we) (hf : X.fn x = true ∨ X.env.scope.names.lookup x = some .local := by first | exact .inl rfl | exact .inr rfl | assumption) :
    DS X (.AugAssign (.Name x pos') op e pos) (wAug i r we) := by
  obtain ⟨r2, h, s⟩ := ho
  refine ⟨fun W tk _ => ps_imp (ps_aug hN hi hx (he.pe W tk) h hf) fun D σ H q => ?_⟩
  obtain ⟨F, M, ρ, E, S, R, ⟨d, h1, w⟩, f⟩ := q
  obtain ⟨v, hv, rv⟩ := R.get h1
  refine ⟨v, hv, F, M, ρ, _, _, S, R, w, fun u e H1 F1 M1 e1 S1 r1 w1 => ?_, f.xc σ⟩
  refine s d e v u H1 F1 M1 _ _ S1 (rv.mono e1.sm) r1 w1 fun z y H2 F2 M2 e2 S2 r2 w2 => ?_
  have e12 := e1.trans e2
  exact f.nx _ _ _ _ _ e12 S2 ((R.mono e12.sm).set i r2) w2
theorem ip_intD {op : Operator} {f : Int → Int → Int} (h : PIp X op (ipI f)) : IpD X op (rInt0 fun i j => .int (f i j)) :=
  ⟨_, h, fun d e v u H F M k Q S rd re h pv => by
    obtain ⟨i, j, rfl, rfl, w⟩ := ii_of rd re h
    exact ⟨i, j, rfl, rfl, pv.at S (.int _) w⟩⟩
def rIadd : RD := rInt0 fun i j => .int (i + j)
theorem id_add : IpD X .Add rIadd := ip_intD ip_add
def rIsub : RD := rInt0 fun i j => .int (i - j)
theorem id_sub : IpD X .Sub rIsub := ip_intD ip_sub
def wPar (i j : Nat) (wa : WA) : WS := fun ρ M E => wa ρ M (fun ds M1 => on2 ds fun d e => E.nx ((ρ.set i (some d)).set j (some e)) M1) E.xc
theorem ds_par {i j : Nat} {x y : Str} {a b : Expr} {wa : WA} {px py pt : Pos} {kt k2 pt2} (hc : X.calm = true) (hN : X.N.Nodup) (hi : X.N[i]? = some x) (hj : X.N[j]? = some y) (hij : i ≠ j)
    (hx : X.env.scope.names.lookup x = some .local) (hy : X.env.scope.names.lookup y = some .local) (ha : DA X [a, b] wa)
    (hw : swappedStores [.Tuple [.Name x px, .Name y py] kt pt] (.Tuple [a, b] k2 pt2) X.env = pure (some [x, y]) := by rfl)
    (hs : swapsWithSole [.Tuple [.Name x px, .Name y py] kt pt] (.Tuple [a, b] k2 pt2) pos.line X.env = pure false := by rfl) :
    DS X (.Assign [.Tuple [.Name x px, .Name y py] kt pt] (.Tuple [a, b] k2 pt2) pos) (wPar i j wa) := by
  refine ⟨fun W tk _ => ps_imp (ps_par hc hN hi hj hij hx hy (ha.pa W tk) hw hs) fun D σ H q => ?_⟩
  obtain ⟨F, M, ρ, E, S, R, w, f⟩ := q
  refine ⟨F, M, ρ, _, _, S, R, w, fun vs ds H1 F1 M1 e1 S1 r1 w1 => ?_, f.xc σ⟩
  obtain ⟨d, e, rfl, w2⟩ := on2_of w1
  obtain ⟨v, u, rfl, q1, q2⟩ := reps2 r1
  exact ⟨v, u, rfl, f.nx _ _ _ _ _ e1 S1 (((R.mono e1.sm).set i q1).set j q2) w2⟩
/-- == , != of anything told -/
def rEq : RD := fun d e M k => match d with
  | .ref a => ∃ ds, M a = some (.lst ds) ∧ rEqP (.lst ds) e M k
  | _ => match scalD d e with
    | some b => k (.bl b) M
    | none => rEqP d e M k
def rNe : RD := fun d e M k => match d with
  | .ref a => ∃ ds, M a = some (.lst ds) ∧ rNeP (.lst ds) e M k
  | _ => match scalD d e with
    | some b => k (.bl (!b)) M
    | none => rNeP d e M k
def rEq0 : RD := fun d e M k => match scalD d e with
    | some b => k (.bl b) M
    | none => rEqP d e M k
def rNe0 : RD := fun d e M k => match scalD d e with
    | some b => k (.bl (!b)) M
    | none => rNeP d e M k
theorem rEq_cases {d e : D} {M : MH} {k : KD} (h : rEq d e M k) : (∃ a ds, d = .ref a ∧ M a = some (.lst ds) ∧ rEqP (.lst ds) e M k) ∨ rEq0 d e M k := by
  cases d with
  | ref a =>
    obtain ⟨ds, h1, h2⟩ := h
    exact .inl ⟨a, ds, rfl, h1, h2⟩
  | _ => exact .inr h
theorem rNe_cases {d e : D} {M : MH} {k : KD} (h : rNe d e M k) : (∃ a ds, d = .ref a ∧ M a = some (.lst ds) ∧ rNeP (.lst ds) e M k) ∨ rNe0 d e M k := by
  cases d with
  | ref a =>
    obtain ⟨ds, h1, h2⟩ := h
    exact .inl ⟨a, ds, rfl, h1, h2⟩
  | _ => exact .inr h
theorem dp_ref {K : PySem.W.Frag} {H F : Hp} {M : MH} {a : Addr} {ds : List D} {p : PyData} (S : RepS K H F M) (h : M a = some (.lst ds)) (e : toPy (.lst ds) = some p) : Dp K H (.ref a) p := by
  obtain ⟨ps, e1, rfl⟩ := Option.map_eq_some_iff.mp e
  obtain ⟨_, _, xs, hx, hr⟩ := S.mlst h
  exact .lst (SqL.of hx) (dps_of S.fz hr e1)
theorem od_eq (hu : X.A.units + 64 < cLine) : OpD X (compareOp .Eq) rEq := by
  refine ⟨_, op_eq.or (op_eqD hu), fun d e v u H F M k Q S rd re h0 pv => ?_⟩
  rcases rEq_cases h0 with ⟨a, ds, rfl, hm, h⟩ | h
  · unfold rEqP at h
    obtain ⟨p, q, h1, h2, h3, h4, h5⟩ := h
    cases rd
    exact .inr ⟨p, q, dp_ref S hm h1, dp_of S.fz re h2, h3, h4, pv.at S (.bl _) h5⟩
  unfold rEq0 at h
  split at h
  · rename_i b hb
    obtain ⟨h3, h4⟩ := scal_of rd re hb
    exact .inl ⟨h3, by rw [h4]; exact pv.at S (.bl _) h⟩
  · unfold rEqP at h
    obtain ⟨p, q, h1, h2, h3, h4, h5⟩ := h
    exact .inr ⟨p, q, dp_of S.fz rd h1, dp_of S.fz re h2, h3, h4, pv.at S (.bl _) h5⟩
theorem od_ne (hu : X.A.units + 64 < cLine) : OpD X (compareOp .NotEq) rNe := by
  refine ⟨_, op_ne.or (op_neD hu), fun d e v u H F M k Q S rd re h0 pv => ?_⟩
  rcases rNe_cases h0 with ⟨a, ds, rfl, hm, h⟩ | h
  · unfold rNeP at h
    obtain ⟨p, q, h1, h2, h3, h4, h5⟩ := h
    cases rd
    exact .inr ⟨p, q, dp_ref S hm h1, dp_of S.fz re h2, h3, h4, pv.at S (.bl _) h5⟩
  unfold rNe0 at h
  split at h
  · rename_i b hb
    obtain ⟨h3, h4⟩ := scal_of rd re hb
    exact .inl ⟨h3, by rw [h4]; exact pv.at S (.bl _) h⟩
  · unfold rNeP at h
    obtain ⟨p, q, h1, h2, h3, h4, h5⟩ := h
    exact .inr ⟨p, q, dp_of S.fz rd h1, dp_of S.fz re h2, h3, h4, pv.at S (.bl _) h5⟩
end
end DL

namespace DL
open PySem PySem.Spec PyProof.Rows L2
/-! ### comprehensions and loops, told -/
section
variable {gt : WG} {wt : WT} {we : WE} {g : MH → Prop} {ρ : Rh}
/-- elements that change nothing -/
theorem compD_map (f : D → D) : ∀ (ds : List D) {M : MH} {k : List D → MH → Prop}, g M → (∀ d, d ∈ ds → ∀ k' : KD, k' (f d) M → gt d ρ M fun ρ1 M1 => we ρ1 M1 k' noX) → k (ds.map f) M → compD gt wYes we g ρ ds M k
  | [], _, _, hg, _, hk => ⟨hg, hk⟩
  | d :: r, M, k, hg, h, hk => ⟨hg, h d List.mem_cons_self _ (compD_map f r hg (fun e he => h e (List.mem_cons_of_mem _ he)) hk)⟩
/-- with a test -/
theorem compD_filter (p : D → Bool) (f : D → D) : ∀ (ds : List D) {M : MH} {k : List D → MH → Prop}, g M →
    (∀ d, d ∈ ds → ∀ (k1 : KD) (k2 : MH → Prop), (p d = true → k1 (f d) M) → (p d = false → k2 M) → gt d ρ M fun ρ1 M1 => wt ρ1 M1 (fun b M2 => match b with
      | true => we ρ1 M2 k1 noX
      | false => k2 M2) noX) → k ((ds.filter p).map f) M → compD gt wt we g ρ ds M k
  | [], _, _, hg, _, hk => ⟨hg, hk⟩
  | d :: r, M, k, hg, h, hk => by
    refine ⟨hg, h d List.mem_cons_self _ _ (fun hp => ?_) fun hp => ?_⟩
    · refine compD_filter p f r hg (fun e he => h e (List.mem_cons_of_mem _ he)) ?_
      rw [List.filter_cons, if_pos hp] at hk
      exact hk
    · refine compD_filter p f r hg (fun e he => h e (List.mem_cons_of_mem _ he)) ?_
      rw [List.filter_cons, if_neg (by rw [hp]; exact Bool.false_ne_true)] at hk
      exact hk
/-- elements that are drawn: each is such as R says of its item -/
inductive All2 (R : D → D → Prop) : List D → List D → Prop
  | nil : All2 R [] []
  | cons {a b : D} {as bs : List D} : R a b → All2 R as bs → All2 R (a :: as) (b :: bs)
theorem All2.len {R : D → D → Prop} : ∀ {as bs : List D}, All2 R as bs → bs.length = as.length
  | _, _, .nil => rfl
  | _, _, .cons _ r => congrArg (· + 1) (All2.len r)
theorem All2.all {R : D → D → Prop} {P : D → Prop} : ∀ {as bs : List D}, All2 R as bs → (∀ a b, R a b → P b) → ∀ b, b ∈ bs → P b
  | _, _, .nil, _, _, h => nomatch h
  | _, _, .cons q r, f, b, h => by
    rcases List.mem_cons.mp h with e | h
    · subst e; exact f _ _ q
    · exact All2.all r f b h
theorem compD_draw (I : MH → Prop) (R : D → D → Prop) (hI : ∀ M, I M → g M) : ∀ (ds : List D) {M : MH} {k : List D → MH → Prop}, I M →
    (∀ d, d ∈ ds → ∀ M (k' : KD), I M → (∀ e M', R d e → I M' → k' e M') → gt d ρ M fun ρ1 M1 => we ρ1 M1 k' noX) → (∀ es M', All2 R ds es → I M' → k es M') → compD gt wYes we g ρ ds M k
  | [], M, _, hi, _, hk => ⟨hI M hi, hk [] M .nil hi⟩
  | d :: r, M, k, hi, h, hk => ⟨hI M hi, h d List.mem_cons_self M _ hi fun e M' he hi' => compD_draw I R hI r hi' (fun a ha => h a (List.mem_cons_of_mem _ ha)) fun es M2 hs hi2 => hk _ _ (.cons he hs) hi2⟩
end
/-- a for whose turns keep I, told of what is still to be walked -/
theorem forD0_inv {gt : WG} {wb : WS} {g : MH → Prop} {E : EndsD} (I : List D → Rh → MH → Prop) (hg : ∀ ds ρ M, I ds ρ M → g M) (hnil : ∀ ρ M, I [] ρ M → E.nx ρ M)
    (hs : ∀ d r ρ M (nx : Rh → MH → Prop), I (d :: r) ρ M → (∀ ρ' M', I r ρ' M' → nx ρ' M') → gt d ρ M fun ρ1 M1 => wb ρ1 M1 { nx := nx, rt := E.rt, bk := E.nx, ct := nx, xc := E.xc }) : ∀ (ds : List D) (ρ : Rh) (M : MH), I ds ρ M → forD0 gt wb g E ds ρ M
  | [], ρ, M, h => ⟨hg _ _ _ h, hnil ρ M h⟩
  | d :: r, ρ, M, h => ⟨hg _ _ _ h, hs d r ρ M _ h fun ρ' M' h' => forD0_inv I hg hnil hs r ρ' M' h'⟩
theorem forD_inv {gt : WG} {wb : WS} {g : MH → Prop} {E : EndsD} (I : List D → Rh → MH → Prop) (hg : ∀ ds ρ M, I ds ρ M → g M) (hnil : ∀ ρ M, I [] ρ M → E.nx ρ M)
    (hs : ∀ d r ρ M (nx : Rh → MH → Prop), I (d :: r) ρ M → (∀ ρ' M', I r ρ' M' → nx ρ' M') → gt d ρ M fun ρ1 M1 => wb ρ1 M1 { nx := nx, rt := E.rt, bk := E.nx, ct := nx, xc := E.xc }) : ∀ (ds : List D) (ρ : Rh) (M : MH), I ds ρ M → forD gt wb g E ds ρ M := fun ds ρ M h => forD_eq ▸ forD0_inv I hg hnil hs ds ρ M h
/-- a while with a measure -/
theorem whD_inv {wt : WT} {wb : WS} {E : EndsD} (I : Rh → MH → Prop) (μ : Rh → MH → Nat)
    (hs : ∀ ρ M (nx : Rh → MH → Prop), I ρ M → (∀ ρ' M', I ρ' M' → μ ρ' M' < μ ρ M → nx ρ' M') → wt ρ M (fun b M1 => match b with
      | true => wb ρ M1 { nx := nx, rt := E.rt, bk := E.nx, ct := nx, xc := E.xc }
      | false => E.nx ρ M1) E.xc) : ∀ (n : Nat) (ρ : Rh) (M : MH), I ρ M → μ ρ M < n → whD wt wb E n ρ M
  | 0, _, _, _, h => absurd h (Nat.not_lt_zero _)
  | n + 1, ρ, M, h, hn => hs ρ M _ h fun ρ' M' h' hl => whD_inv I μ hs n ρ' M' h' (by omega)

/-! ### what the laws draw from -/
/-- the box: the script's cells, the turn, the rest of a great number, the mark -/
def BoxAt (M : MH) (a : Addr) : Prop := ∃ (cs : List Int) (i s m : Int), M a = some (.lst [.lst (cs.map .int), .int i, .int s, .int m]) ∧ cs.length ≤ 63 ∧ 0 ≤ i
/-- the same but at a -/
def Off (a : Addr) (M M' : MH) : Prop := ∀ b, b ≠ a → M' b = M b
theorem Off.refl (a : Addr) (M : MH) : Off a M M := fun _ _ => rfl
theorem Off.trans {a : Addr} {M M1 M2 : MH} (h : Off a M M1) (h' : Off a M1 M2) : Off a M M2 := fun b hb => (h' b hb).trans (h b hb)
theorem Off.upd (a : Addr) (M : MH) (o : MO) : Off a M (mupd M a o) := fun b hb => mupd_ne hb
theorem Off.upd2 {a : Addr} {M M' : MH} (h : Off a M M') (o : MO) : Off a M (mupd M' a o) := fun b hb => (mupd_ne hb).trans (h b hb)
def sp__law_a_box : WF := fun ds M k _ => ∃ ns, ds = [.scr ns] ∧ ns.length ≤ 63 ∧ ∀ a M', M a = none → BoxAt M' a → Off a M M' → k (.ref a) M'
def sp__law_draw : WF := fun ds M k _ => ∃ a n, ds = [.ref a, .int n] ∧ 0 < n ∧ n.natAbs.log2 < 9000 ∧ BoxAt M a ∧ ∀ v M', 0 ≤ v → v < n → BoxAt M' a → Off a M M' → k (.int v) M'
/-- what may be chosen from -/
def pickD : D → Option (List D)
  | .lst ds => some ds
  | .tup ds => some ds
  | .str z => some (z.cps.toList.map fun c => .str ⟨#[c]⟩)
  | _ => none
def sp__law_any : WF := fun ds M k _ => ∃ a row its, ds = [.ref a, row] ∧ pickD row = some its ∧ its ≠ [] ∧ its.length ≤ 4096 ∧ BoxAt M a ∧ ∀ d M', d ∈ its → BoxAt M' a → Off a M M' → k d M'
def isInt : D → Bool
  | .int _ => true
  | _ => false
def sp__law_whole : WF := fun ds M k _ => ∃ d q, ds = [d] ∧ kdOf d = some q ∧ k (.bl (isInt d)) M
/-! plain data, and how deep it is -/
mutual
def plain : D → Bool
  | .non => true | .bl _ => true | .int _ => true | .str _ => true
  | .tup ds => plains ds | .lst ds => plains ds
  | _ => false
def plains : List D → Bool
  | [] => true
  | d :: ds => plain d && plains ds
end
mutual
def dep : D → Nat
  | .tup ds => deps ds + 1
  | .lst ds => deps ds + 1
  | _ => 0
def deps : List D → Nat
  | [] => 0
  | d :: ds => max (dep d) (deps ds)
end
def sp__law_same (n : Nat) : WF := fun ds M k _ => ∃ d, ds = [d, d] ∧ plain d = true ∧ dep d ≤ n ∧ k (.bl true) M
/-- the promise of nothing -/
def noSp : WF := fun _ _ _ _ => False
theorem fn_no {P : Program} {w : World} {K : PySem.W.Frag} {mg : Str → Option Value} {base : Heap} {x qual : Str} {st : Stmt} {f : Addr} {fd : FuncData} {N ps : List Str} {k : Nat} (G : Fun K x qual st f fd) (S : FnScope N ps (defScope st)) : FnOk P w K mg base (L2.CX P w) (k + 1) f fd ps (spD K ps.length noSp) := by
  refine G.okX S (fun vs H Q E h => ?_) (fun cdv A outer s H vs Q E hr h => ?_)
  · obtain ⟨F, M, ds, k, x, S, r, hl, q, _⟩ := h
    exact q.elim
  · obtain ⟨F, M, ds, k, x, S, r, hl, q, _⟩ := h
    exact q.elim
end DL

namespace DL
open PySem PySem.Spec PyProof.Rows L2
/-! ### the end -/
theorem walk_ofEW {l : PySem.W.OpenLaw} {n k : Nat} {q : Program} {loose : List Str} {XP : (Str → Option Value) → Heap → Prop} {YP : World → Heap → Prop} {d : DefRec} {x : Str}
    (hn : l.most = some n) (hn2 : n ≤ sizeLine) (hdf : d.params.defaults = []) (hr : Room k callerA)
    (F : ∀ (w : World) (mg : Str → Option Value) (fa : Addr) (h : Heap), YP w h → h.Ns mainGlobals mg → mg d.name = some (.ref fa) →
      ∃ (K : PySem.W.Frag) (fd : FuncData) (sp : Sp), K.In h ∧ (∀ (s : Shared) (u : Value), BindsTo s fd ⟨[u], []⟩ [(x, u)]) ∧
        (∀ (H : Hp) (a : Addr) (ns : List Int), ns.length ≤ n → Only H → SqL K H a (ns.map V.int) → sp [.ref a] H (fun v _ => v = .bl true) fun _ _ _ => False) ∧
        ∀ base : Heap, K.In base → base.Ns mainGlobals mg → FnOk l.prog w K mg base (L2.CX l.prog w) k fa fd [x] sp) :
    PySem.W.WalkO q loose XP YP l.row.toRowW d [] (fun f vs => PySem.call f vs) := by
  refine Att.attach_call hn hdf fun w s₀ s₁ mg mb fa o pm cd doc a vs ns G Y ho hd hcd hmg hobj hints hlen hg => ?_
  obtain ⟨K, fd, sp, KX, hb, hsp, hF⟩ := F w mg fa _ Y G.T.g hmg
  exact law_call KX G.T.g G.T.b G.T.builtins G.T.nolimit hg hobj hints (Nat.le_trans hlen hn2) hr hF hb (fun H hO hS => hsp H a ns hlen hO hS) fun H e s' h => by
    obtain ⟨_, _, _, _, _, _, _, _, _, _, _, _, z⟩ := h
    exact z.elim
/-- the law's promise -/
def sp_law : WF := fun ds M k _ => ∃ ns, ds = [.scr ns] ∧ ns.length ≤ 63 ∧ ∀ M', k (.bl true) M'
theorem sp_law_in {K : PySem.W.Frag} {H : Hp} {a : Addr} {ns : List Int} (hl : ns.length ≤ 63) (hS : SqL K H a (ns.map V.int)) : spD K 1 sp_law [.ref a] H (fun v _ => v = .bl true) fun _ _ _ => False :=
  ⟨H, fun _ => none, [.scr ns], fun d _ => d = .bl true, fun _ _ _ => False, ⟨Same.refl H, fun _ _ h => nomatch h⟩, .cons (.scr hS) .nil, rfl, ⟨ns, rfl, hl, fun _ => rfl⟩,
    fun v d H' F' M' _ _ r h => by subst h; cases r; rfl, fun _ _ _ _ _ _ _ _ _ _ _ z => z.elim⟩

local macro_rules | `(tactic| walk_at "w") => `(tactic| try conv => whnf)
local macro_rules | `(tactic| walk_at "m") => `(tactic| (refine ⟨_, (by first | assumption | exact mupd_same : _ = some (MO.lst _)), ?_⟩; try conv => whnf))
local macro_rules | `(tactic| walk_at "p") => `(tactic| (refine ⟨_, _, _, _, rfl, rfl, (by first | assumption | exact mupd_same : _ = some (MO.lst _)), rfl, ?_⟩; try conv => whnf))
local macro_rules | `(tactic| walk_at "*") => `(tactic| (refine ⟨(by first | exact mulOk_r (by decide) (by decide) | exact mulOk_l (by decide) (by decide) | exact mulOk_l (by omega) (by omega) | exact mulOk_r (by omega) (by omega) : IntMulOk _ _), ?_⟩; try conv => whnf))
local macro_rules | `(tactic| walk_at "/") => `(tactic| (refine ⟨by first | decide | omega | exact ⟨by decide, by decide⟩, ?_⟩; try conv => whnf))
local macro_rules | `(tactic| walk_at "go") => `(tactic| ((try conv => whnf); repeat (first | walk_at "m" | walk_at "p" | walk_at "*")))

/-! ### lists, numbers -/
theorem atI_map {α β : Type} {f : α → β} {xs : List α} {i : Int} (h0 : 0 ≤ i) (h1 : i < xs.length) : ∃ c, atI (xs.map f) i = some (f c) := by
  have hl : i.toNat < xs.length := by omega
  refine ⟨xs[i.toNat], ?_⟩
  unfold atI ixN
  rw [if_pos h0, List.length_map, if_pos h1]
  show (xs.map f)[i.toNat]? = _
  rw [List.getElem?_map, List.getElem?_eq_getElem hl]
  rfl
theorem atI_mem {α : Type} {xs : List α} {i : Int} (h0 : 0 ≤ i) (h1 : i < xs.length) : ∃ c, c ∈ xs ∧ atI xs i = some c := by
  have hl : i.toNat < xs.length := by omega
  refine ⟨xs[i.toNat], List.getElem_mem hl, ?_⟩
  unfold atI ixN
  rw [if_pos h0, if_pos h1]
  show xs[i.toNat]? = _
  rw [List.getElem?_eq_getElem hl]
theorem atI_cons0 {α : Type} {a : α} {r : List α} : atI (a :: r) 0 = some a := by
  unfold atI ixN
  rw [if_pos (by decide), if_pos (by rw [List.length_cons]; omega)]
  rfl
theorem onO_mk {α : Type} {o : Option α} {p : α → Prop} {a : α} (h : o = some a) (q : p a) : onO o p := by subst h; exact q
theorem fmod_lo {a b : Int} (h : 0 < b) : 0 ≤ a.fmod b := Int.fmod_nonneg_of_pos a h
theorem fmod_hi {a b : Int} (h : 0 < b) : a.fmod b < b := Int.fmod_lt_of_pos a h
theorem flat1 {α : Type} (n : Nat) (a : α) : (List.replicate n [a]).flatten = List.replicate n a := by
  induction n with
  | zero => rfl
  | succ n ih => rw [List.replicate_succ, List.flatten_cons, ih]; rfl
/-- the walked list's wish, told by each item and its element -/
theorem compD_all2 {gt : WG} {we : WE} {g : MH → Prop} {ρ : Rh} (R : D → D → Prop) : ∀ (ds es : List D) {M : MH} {k : List D → MH → Prop}, All2 R ds es → g M → (∀ d e, R d e → ∀ k' : KD, k' e M → gt d ρ M fun ρ1 M1 => we ρ1 M1 k' noX) → k es M → compD gt wYes we g ρ ds M k
  | _, _, _, _, .nil, hg, _, hk => ⟨hg, hk⟩
  | _, _, M, k, .cons r rs, hg, h, hk => ⟨hg, h _ _ r _ (compD_all2 R _ _ rs hg h hk)⟩
theorem blsOf_rep : ∀ n, blsOf (List.replicate n (.bl true)) = some (List.replicate n true)
  | 0 => rfl
  | n + 1 => by
    show (blsOf (List.replicate n (.bl true))).map (true :: ·) = _
    rw [blsOf_rep n]
    rfl
theorem all_rep : ∀ n, (List.replicate n true).all (fun b => b) = true
  | 0 => rfl
  | n + 1 => by rw [List.replicate_succ, List.all_cons, all_rep n]; rfl
theorem Lt.as {k : KD} {d e : D} {M : MH} (h : k d M) (q : e = d) : Lt k e M := by subst q; exact Lt.now h

/-! ### == of plain data -/
mutual
def pyOf : D → PyData
  | .non => .none
  | .bl b => .bool b
  | .int i => .int i
  | .str x => .str x
  | .tup ds => .tuple (pyOfs ds)
  | .lst ds => .list (pyOfs ds)
  | .ref _ => .none
  | .ty _ => .none
  | .scr _ => .none
  | .dct _ _ => .none
  | .dcT _ _ => .none
  | .dcl _ _ => .none
  | .obj _ _ _ => .none
def pyOfs : List D → List PyData
  | [] => []
  | d :: ds => pyOf d :: pyOfs ds
end
mutual
def lays : D → Bool
  | .non => true | .bl _ => true | .int _ => true
  | .str x => PyData.strOk x
  | .tup ds => layss ds | .lst ds => layss ds
  | _ => false
def layss : List D → Bool
  | [] => true
  | d :: ds => lays d && layss ds
end
mutual
theorem lays_py : ∀ {d : D}, lays d = true → toPy d = some (pyOf d) ∧ (pyOf d).canLay0 = true ∧ (pyOf d).depth = dep d
  | .non, _ => ⟨rfl, rfl, rfl⟩
  | .bl _, _ => ⟨rfl, rfl, rfl⟩
  | .int _, _ => ⟨rfl, rfl, rfl⟩
  | .str x, h => ⟨rfl, h, rfl⟩
  | .tup ds, h => by
    obtain ⟨h1, h2, h3⟩ := layss_py (ds := ds) h
    refine ⟨?_, h2, ?_⟩
    · show (toPys ds).map PyData.tuple = _
      rw [h1]
      rfl
    · show PyData.depthAll (pyOfs ds) + 1 = deps ds + 1
      rw [h3]
  | .lst ds, h => by
    obtain ⟨h1, h2, h3⟩ := layss_py (ds := ds) h
    refine ⟨?_, h2, ?_⟩
    · show (toPys ds).map PyData.list = _
      rw [h1]
      rfl
    · show PyData.depthAll (pyOfs ds) + 1 = deps ds + 1
      rw [h3]
  | .ref _, h => by cases h
  | .ty _, h => by cases h
  | .scr _, h => by cases h
  | .dct _ _, h => by cases h
  | .dcT _ _, h => by cases h
  | .dcl _ _, h => by cases h
  | .obj _ _ _, h => by cases h
theorem layss_py : ∀ {ds : List D}, layss ds = true → toPys ds = some (pyOfs ds) ∧ PyData.canLayAll0 (pyOfs ds) = true ∧ PyData.depthAll (pyOfs ds) = deps ds
  | [], _ => ⟨rfl, rfl, rfl⟩
  | d :: ds, h => by
    have h' : lays d = true ∧ layss ds = true := Bool.and_eq_true_iff.mp h
    obtain ⟨a1, a2, a3⟩ := lays_py h'.1
    obtain ⟨b1, b2, b3⟩ := layss_py h'.2
    refine ⟨?_, ?_, ?_⟩
    · show (toPy d).bind (fun p => (toPys ds).map (p :: ·)) = _
      rw [a1, b1]
      rfl
    · show ((pyOf d).canLay0 && PyData.canLayAll0 (pyOfs ds)) = true
      rw [a2, b2]
      rfl
    · show max (pyOf d).depth (PyData.depthAll (pyOfs ds)) = max (dep d) (deps ds)
      rw [a3, b3]
end
def eqD (d e : D) : Bool := PyData.eqv (pyOf d) (pyOf e)
theorem scal_eqv {d e : D} {b : Bool} (h : scalD d e = some b) : eqD d e = b := by
  cases d <;> cases e <;> first | (cases h; done) | skip
  all_goals (have h' := Option.some.inj h; rw [← h']; first | rfl | (show (_ == _) = decide (_ = _); rw [Bool.eq_iff_iff]; simp))
theorem rEqP_lays {d e : D} {M : MH} {k : KD} (h1 : lays d = true) (h2 : lays e = true) (q : k (.bl (eqD d e)) M) (h3 : dep d ≤ 64 := by decide) (h4 : dep e ≤ 64 := by decide) : rEqP d e M k := by
  unfold rEqP
  obtain ⟨a1, a2, a3⟩ := lays_py h1
  obtain ⟨b1, b2, b3⟩ := lays_py h2
  exact ⟨_, _, a1, b1, by unfold SeqAt.shaped; rw [a2, a3, decide_eq_true h3]; rfl, by unfold SeqAt.shaped; rw [b2, b3, decide_eq_true h4]; rfl, q⟩
theorem rNeP_lays {d e : D} {M : MH} {k : KD} (h1 : lays d = true) (h2 : lays e = true) (q : k (.bl (!eqD d e)) M) (h3 : dep d ≤ 64 := by decide) (h4 : dep e ≤ 64 := by decide) : rNeP d e M k := by
  unfold rNeP
  obtain ⟨a1, a2, a3⟩ := lays_py h1
  obtain ⟨b1, b2, b3⟩ := lays_py h2
  exact ⟨_, _, a1, b1, by unfold SeqAt.shaped; rw [a2, a3, decide_eq_true h3]; rfl, by unfold SeqAt.shaped; rw [b2, b3, decide_eq_true h4]; rfl, q⟩
theorem eqD_nil (xs : List D) : eqD (.lst xs) (.lst []) = xs.isEmpty := by
  cases xs <;> simp [eqD, pyOf, pyOfs, PyData.eqv, PyData.eqvAll]
theorem layss_mem : ∀ {ds : List D}, (∀ d, d ∈ ds → lays d = true) → layss ds = true
  | [], _ => rfl
  | d :: ds, h => by show (lays d && layss ds) = true; rw [h d List.mem_cons_self, layss_mem fun e he => h e (List.mem_cons_of_mem _ he)]; rfl
theorem deps_le {n : Nat} : ∀ {ds : List D}, (∀ d, d ∈ ds → dep d ≤ n) → deps ds ≤ n
  | [], _ => Nat.zero_le _
  | d :: ds, h => by show max (dep d) (deps ds) ≤ n; have := h d List.mem_cons_self; have := deps_le fun e he => h e (List.mem_cons_of_mem _ he); omega
/-- the same but at a and b -/
def Off2 (a b : Addr) (M M' : MH) : Prop := ∀ c, c ≠ a → c ≠ b → M' c = M c
theorem Off.two {a b : Addr} {M M' : MH} (h : Off a M M') : Off2 a b M M' := fun c h1 _ => h c h1
theorem Off2.trans {a b : Addr} {M M1 M2 : MH} (h : Off2 a b M M1) (h' : Off2 a b M1 M2) : Off2 a b M M2 := fun c h1 h2 => (h' c h1 h2).trans (h c h1 h2)
theorem Off2.on {a b : Addr} {M M1 M2 : MH} (h : Off2 a b M M1) (h' : Off a M1 M2) : Off2 a b M M2 := h.trans h'.two
theorem Off2.updb {a b : Addr} {M M' : MH} (h : Off2 a b M M') (o : MO) : Off2 a b M (mupd M' b o) := fun c h1 h2 => (mupd_ne h2).trans (h c h1 h2)
theorem Off2.frz {a b : Addr} {M M' : MH} (h : Off2 a b M M') (hb : M b = none) : Off a M (mdel M' b) := fun c hc => by
  by_cases e : c = b
  · subst e; rw [mdel_same, hb]
  · rw [mdel_ne e]; exact h c hc e
theorem BoxAt.ne {M : MH} {a b : Addr} (h : BoxAt M a) (hb : M b = none) : b ≠ a := fun e => by
  obtain ⟨_, _, _, _, q, _⟩ := h
  subst e; rw [hb] at q; cases q
theorem BoxAt.upd {M : MH} {a b : Addr} (h : BoxAt M a) (hb : b ≠ a) (o : MO) : BoxAt (mupd M b o) a := by
  obtain ⟨cs, i, s, m, q, r⟩ := h
  exact ⟨cs, i, s, m, by rw [mupd_ne hb.symm]; exact q, r⟩
theorem BoxAt.del {M : MH} {a b : Addr} (h : BoxAt M a) (hb : b ≠ a) : BoxAt (mdel M b) a := by
  obtain ⟨cs, i, s, m, q, r⟩ := h
  exact ⟨cs, i, s, m, by rw [mdel_ne hb.symm]; exact q, r⟩
theorem cutD_map {α β : Type} (f : α → β) (xs : List α) (lo hi : Option Int) : cutD (xs.map f) lo hi = (cutD xs lo hi).map f := by
  unfold cutD
  rw [List.length_map, List.map_take, List.map_drop]
theorem layss_map {α : Type} (f : α → D) (h : ∀ a, lays (f a) = true) : ∀ xs : List α, layss (xs.map f) = true
  | [] => rfl
  | x :: xs => by show (lays (f x) && layss (xs.map f)) = true; rw [h x, layss_map f h xs]; rfl
theorem deps_map {α : Type} (f : α → D) {n : Nat} (h : ∀ a, dep (f a) ≤ n) : ∀ xs : List α, deps (xs.map f) ≤ n
  | [] => Nat.zero_le _
  | x :: xs => by show max (dep (f x)) (deps (xs.map f)) ≤ n; have := h x; have := deps_map f h xs; omega
theorem plains_map {α : Type} (f : α → D) (h : ∀ a, plain (f a) = true) : ∀ xs : List α, plains (xs.map f) = true
  | [] => rfl
  | x :: xs => by show (plain (f x) && plains (xs.map f)) = true; rw [h x, plains_map f h xs]; rfl
/-! ### what the laws draw from: the defs that every law has -/
def N__law_a_box : List Str := ["_law_script", "_law_cells", "_law_mark", "_law_cell"]
def w__law_a_box : WS := (wSeq (wSet 1 (wCB rList (wCons (wSl (wVar 0) wNoPart (wPart (wC (.int 63)))) wNil)))
  (wSeq (wSet 2 (wOp rAdd (wC (.int 3814)) (wOp rMul (wC (.int 67)) (wCB rLn (wCons (wVar 1) wNil)))))
  (wSeq (wFor (wiSeq (wVar 1)) (wgN 3) (wSet 2 (wOp rMod (wOp rAdd (wOp rMul (wVar 2) (wC (.int 1709))) (wVar 3)) (wC (.int 2147483587)))))
  (wRet (wLstM (wCons (wVar 1) (wCons (wC (.int 0)) (wCons (wC (.int 0)) (wCons (wVar 2) wNil)))))))))
theorem hw__law_a_box (ds : List D) (M : MH) (k : KD) (x : KE) (_ : ds.length = 1) (h : sp__law_a_box ds M k x) : w__law_a_box (startD N__law_a_box ds) M (retE k x) := by
  obtain ⟨ns, rfl, hl, hk⟩ := h
  walk_at "w"
  have hc : (cutD ns none (some 63)).length ≤ 63 := Nat.le_trans (cutD_len _ _ _) hl
  generalize cutD ns none (some 63) = cs at hc
  refine ⟨by omega, ?_⟩
  walk_at "go"
  refine forD_inv (fun ds ρ M' => M' = M ∧ (∃ cs', ds = cs'.map .int) ∧ ∃ m o, ρ = [some (.scr ns), some (.lst (cs.map .int)), some (.int m), o]) (fun _ _ _ _ => trivial) (fun ρ M' hI => ?_) (fun d r ρ M' nx hI hn => ?_) _ _ _ ⟨rfl, ⟨cs, rfl⟩, _, _, rfl⟩
  · obtain ⟨rfl, _, m, o, rfl⟩ := hI
    walk_at "w"
    intro a ha
    exact Lt.now (hk _ _ ha ⟨cs, 0, 0, m, mupd_same, hc, by decide⟩ (DL.Off.upd _ _ _))
  · obtain ⟨rfl, ⟨cs', e⟩, m, o, rfl⟩ := hI
    cases cs' with
    | nil => cases e
    | cons c cs' =>
      cases e
      walk_at "go"
      refine ⟨(by decide : (2147483587 : Int) ≠ 0), ?_⟩
      exact hn _ _ ⟨rfl, ⟨cs', rfl⟩, _, _, rfl⟩
def N__law_draw : List Str := ["_law_box", "_law_many", "_law_drawn", "_law_seed", "_law_fold", "_law_twist"]
def w__law_draw : WS := (wSeq (wIfS (wTest (wOp rLt (wIx (wVar 0) (wC (.int 2))) (wC (.int 2)))) (wSeq (wPut (wVar 0) (wC (.int 1)) (wOp rAdd (wIx (wVar 0) (wC (.int 1))) (wC (.int 1))))
  (wSeq (wSet 3 (wOp rAdd (wIx (wVar 0) (wC (.int 3))) (wOp rMul (wIx (wVar 0) (wC (.int 1))) (wC (.int 6151)))))
  (wSeq (wIfS (wTest (wOp rLe (wIx (wVar 0) (wC (.int 1))) (wCB rLn (wCons (wIx (wVar 0) (wC (.int 0))) wNil)))) (wSet 3 (wIx (wIx (wVar 0) (wC (.int 0))) (wOp rSub (wIx (wVar 0) (wC (.int 1))) (wC (.int 1))))) wNext)
  (wSeq (wIfS (wOr (wTest (wOp rGt (wIx (wVar 0) (wC (.int 1))) (wCB rLn (wCons (wIx (wVar 0) (wC (.int 0))) wNil)))) (wTest (wOp rLt (wVar 3) (wOp rPow (wC (.int 10)) (wC (.int 18)))))) (wSeq (wSet 4 (wOp rMod (wOp rAdd (wOp rAdd (wOp rMul (wVar 3) (wC (.int 48271))) (wOp rMul (wIx (wVar 0) (wC (.int 1))) (wC (.int 40692)))) (wIx (wVar 0) (wC (.int 3)))) (wC (.int 2147483647))))
  (wSeq (wSet 5 (wOp rMod (wOp rAdd (wOp rMul (wVar 4) (wVar 4)) (wIx (wVar 0) (wC (.int 1)))) (wC (.int 998244353))))
  (wRet (wOp rMod (wOp rFdiv (wOp rMod (wOp rAdd (wOp rMul (wVar 5) (wC (.int 69621))) (wVar 4)) (wC (.int 2147483629))) (wC (.int 7))) (wVar 1))))) wNext)
  (wPut (wVar 0) (wC (.int 2)) (wVar 3)))))) wNext)
  (wSeq (wSet 2 (wOp rMod (wIx (wVar 0) (wC (.int 2))) (wVar 1)))
  (wSeq (wPut (wVar 0) (wC (.int 2)) (wOp rFdiv (wIx (wVar 0) (wC (.int 2))) (wVar 1)))
  (wRet (wVar 2)))))
theorem hw__law_draw (ds : List D) (M : MH) (k : KD) (x : KE) (_ : ds.length = 2) (h : sp__law_draw ds M k x) : w__law_draw (startD N__law_draw ds) M (retE k x) := by
  obtain ⟨a, n, rfl, hn, hn2, ⟨cs, i, s, m, hM, hc, hi⟩, hk⟩ := h
  have hfin : ∀ (s' i' : Int) (M' : MH) (o1 o2 o3 o4 : Option D), 0 ≤ i' → DL.Off a M M' → M' a = some (.lst [.lst (cs.map .int), .int i', .int s', .int m]) → wSeq (wSet 2 (wOp rMod (wIx (wVar 0) (wC (.int 2))) (wVar 1)))
      (wSeq (wPut (wVar 0) (wC (.int 2)) (wOp rFdiv (wIx (wVar 0) (wC (.int 2))) (wVar 1))) (wRet (wVar 2))) [some (.ref a), some (.int n), o1, o2, o3, o4] M' (retE k x) := by
    intro s' i' M' o1 o2 o3 o4 hi' hO hM'
    walk_at "go"
    walk_at "/"
    walk_at "go"
    refine ⟨⟨by omega, hn2⟩, ?_⟩
    walk_at "go"
    exact Lt.now (hk _ _ (fmod_lo hn) (fmod_hi hn) ⟨cs, i', _, m, mupd_same, hc, hi'⟩ (hO.upd2 _))
  walk_at "w"
  walk_at "m"
  cases hs : decide (s < 2)
  · exact hfin s i M _ _ _ _ hi (DL.Off.refl _ _) hM
  walk_at "go"
  have hmid : ∀ (sd : Int) (M' : MH) (o1 : Option D) , DL.Off a M M' → M' a = some (.lst [.lst (cs.map .int), .int (i + 1), .int s, .int m]) → wSeq
            (wIfS
              (wOr (wTest (wOp rGt (wIx (wVar 0) (wC (D.int 1))) (wCB rLn (wCons (wIx (wVar 0) (wC (D.int 0))) wNil))))
                (wTest (wOp rLt (wVar 3) (wOp rPow (wC (D.int 10)) (wC (D.int 18))))))
              (wSeq
                (wSet 4
                  (wOp rMod
                    (wOp DL.rAdd
                      (wOp DL.rAdd (wOp rMul (wVar 3) (wC (D.int 48271)))
                        (wOp rMul (wIx (wVar 0) (wC (D.int 1))) (wC (D.int 40692))))
                      (wIx (wVar 0) (wC (D.int 3))))
                    (wC (D.int 2147483647))))
                (wSeq
                  (wSet 5
                    (wOp rMod (wOp DL.rAdd (wOp rMul (wVar 4) (wVar 4)) (wIx (wVar 0) (wC (D.int 1))))
                      (wC (D.int 998244353))))
                  (wRet
                    (wOp rMod
                      (wOp rFdiv
                        (wOp rMod (wOp DL.rAdd (wOp rMul (wVar 5) (wC (D.int 69621))) (wVar 4)) (wC (D.int 2147483629)))
                        (wC (D.int 7)))
                      (wVar 1)))))
              wNext)
            (wPut (wVar 0) (wC (D.int 2)) (wVar 3)) [some (.ref a), some (.int n), o1, some (.int sd), none, none] M'
        { nx := fun ρ1 M1 => wSeq (wSet 2 (wOp rMod (wIx (wVar 0) (wC (D.int 2))) (wVar 1)))
                  (wSeq (wPut (wVar 0) (wC (D.int 2)) (wOp rFdiv (wIx (wVar 0) (wC (D.int 2))) (wVar 1)))
                    (wRet (wVar 2))) ρ1 M1 (retE k x), rt := (retE k x).rt, bk := (retE k x).bk, ct := (retE k x).ct, xc := (retE k x).xc } := by
    intro sd M' o1 hO hM'
    have body : ∀ (E : EndsD), E.rt = (retE k x).rt → (wSeq
                (wSet 4
                  (wOp rMod
                    (wOp DL.rAdd
                      (wOp DL.rAdd (wOp rMul (wVar 3) (wC (D.int 48271)))
                        (wOp rMul (wIx (wVar 0) (wC (D.int 1))) (wC (D.int 40692))))
                      (wIx (wVar 0) (wC (D.int 3))))
                    (wC (D.int 2147483647))))
                (wSeq
                  (wSet 5
                    (wOp rMod (wOp DL.rAdd (wOp rMul (wVar 4) (wVar 4)) (wIx (wVar 0) (wC (D.int 1))))
                      (wC (D.int 998244353))))
                  (wRet
                    (wOp rMod
                      (wOp rFdiv
                        (wOp rMod (wOp DL.rAdd (wOp rMul (wVar 5) (wC (D.int 69621))) (wVar 4)) (wC (D.int 2147483629)))
                        (wC (D.int 7)))
                      (wVar 1))))) [some (.ref a), some (.int n), o1, some (.int sd), none, none] M' E := by
      intro E hE
      walk_at "go"
      walk_at "/"
      have f1 := fmod_lo (a := sd * 48271 + (i + 1) * 40692 + m) (b := 2147483647) (by decide)
      have f2 := fmod_hi (a := sd * 48271 + (i + 1) * 40692 + m) (b := 2147483647) (by decide)
      generalize (sd * 48271 + (i + 1) * 40692 + m).fmod 2147483647 = fo at f1 f2
      walk_at "go"
      walk_at "/"
      walk_at "go"
      walk_at "/"
      refine ⟨⟨by decide, by decide⟩, ?_⟩
      walk_at "go"
      walk_at "/"
      show E.rt _ _
      rw [hE]
      exact Lt.now (hk _ _ (fmod_lo hn) (fmod_hi hn) ⟨cs, i + 1, s, m, hM', hc, by omega⟩ hO)
    walk_at "go"
    cases h1 : decide ((List.map D.int cs).length < i + 1)
    · walk_at "go"
      walk_at "/"
      cases h2 : decide (sd < 10 ^ (18 : Int).toNat)
      · walk_at "w"
        refine ⟨_, _, _, _, rfl, rfl, hM', rfl, ?_⟩
        exact hfin _ _ _ _ _ _ _ (by omega) (hO.upd2 _) mupd_same
      · exact body _ rfl
    · exact body _ rfl
  cases h1 : decide (i + 1 ≤ (List.map D.int cs).length)
  · exact hmid _ _ _ (DL.Off.upd _ _ _) mupd_same
  · walk_at "go"
    obtain ⟨c, h3⟩ := atI_map (f := D.int) (xs := cs) (i := i + 1 - 1) (by omega) (by have := of_decide_eq_true h1; rw [List.length_map] at this; omega)
    refine onO_mk h3 ?_
    exact hmid _ _ _ (DL.Off.upd _ _ _) mupd_same
def N__law_any : List Str := ["_law_box", "_law_row"]
def w__law_any : WS := (wRet (wIx (wVar 1) (wCall sp__law_draw 2 (wCons (wVar 0) (wCons (wCB rLn (wCons (wVar 1) wNil)) wNil)))))
theorem log2_4096 {n : Nat} (h : n ≤ 4096) : n.log2 < 9000 := by
  by_cases h0 : n = 0
  · subst h0; decide
  · have : n < 2 ^ 9000 := Nat.lt_of_le_of_lt h (Nat.lt_of_lt_of_le (by decide : 4096 < 2 ^ 13) (Nat.pow_le_pow_right (by decide) (by decide)))
    exact (Nat.log2_lt h0).mpr this
theorem hw__law_any (ds : List D) (M : MH) (k : KD) (x : KE) (_ : ds.length = 2) (h : sp__law_any ds M k x) : w__law_any (startD N__law_any ds) M (retE k x) := by
  obtain ⟨a, row, its, rfl, hp, hne, hl, hB, hk⟩ := h
  have hpos : 0 < its.length := List.length_pos_iff.mpr hne
  cases row with
  | lst ds =>
    cases hp
    walk_at "w"
    refine ⟨_, _, rfl, Int.ofNat_lt.mpr hpos, log2_4096 hl, hB, fun v M' h0 h1 hB' hO => ?_⟩
    obtain ⟨c, hc, e⟩ := atI_mem h0 h1
    walk_at "w"
    rw [e]
    exact Lt.now (hk _ _ hc hB' hO)
  | tup ds =>
    cases hp
    walk_at "w"
    refine ⟨_, _, rfl, Int.ofNat_lt.mpr hpos, log2_4096 hl, hB, fun v M' h0 h1 hB' hO => ?_⟩
    obtain ⟨c, hc, e⟩ := atI_mem h0 h1
    walk_at "w"
    rw [e]
    exact Lt.now (hk _ _ hc hB' hO)
  | str z =>
    cases hp
    have hz : z.cps.toList.length = z.length := rfl
    rw [List.length_map] at hl hpos
    walk_at "w"
    refine ⟨le_line (by rw [← hz]; exact hl), ?_⟩
    walk_at "w"
    refine ⟨_, _, rfl, Int.ofNat_lt.mpr hpos, log2_4096 hl, hB, fun v M' h0 h1 hB' hO => ?_⟩
    obtain ⟨c, hc, e⟩ := atI_mem (xs := z.cps.toList) h0 h1
    walk_at "w"
    refine ⟨le_line (by rw [← hz]; exact hl), ?_⟩
    walk_at "w"
    rw [e]
    exact Lt.now (hk _ _ (List.mem_map_of_mem hc) hB' hO)
  | _ => cases hp
def N__law_whole : List Str := ["_law_found"]
def w__law_whole : WS := (wRet (wAndV (wCB rIsi (wCons (wVar 0) (wCons (wC (.ty .int)) wNil))) (wNotV (wCB rIsi (wCons (wVar 0) (wCons (wC (.ty .bool)) wNil))))))
theorem hw__law_whole (ds : List D) (M : MH) (k : KD) (x : KE) (_ : ds.length = 1) (h : sp__law_whole ds M k x) : w__law_whole (startD N__law_whole ds) M (retE k x) := by
  obtain ⟨d, q, rfl, hq, hk⟩ := h
  cases d <;> cases hq <;> exact Lt.now hk
def N__law_same : List Str := ["_law_found", "_law_due", "_law_one", "_law_other"]
def w__law_same (sr : WF) : WS := (wSeq (wIfS (wTest (wOp rIs (wVar 1) (wC .non))) (wRet (wOp rIs (wVar 0) (wC .non))) wNext)
  (wSeq (wIfS (wTest (wCB rIsi (wCons (wVar 1) (wCons (wC (.ty .bool)) wNil)))) (wRet (wAndV (wCB rIsi (wCons (wVar 0) (wCons (wC (.ty .bool)) wNil))) (wOp rEq (wVar 0) (wVar 1)))) wNext)
  (wSeq (wIfS (wTest (wCB rIsi (wCons (wVar 1) (wCons (wC (.ty .int)) wNil)))) (wRet (wAndV (wCall sp__law_whole 1 (wCons (wVar 0) wNil)) (wOp rEq (wVar 0) (wVar 1)))) wNext)
  (wSeq (wIfS (wTest (wCB rIsi (wCons (wVar 1) (wCons (wC (.ty .str)) wNil)))) (wRet (wAndV (wCB rIsi (wCons (wVar 0) (wCons (wC (.ty .str)) wNil))) (wOp rEq (wVar 0) (wVar 1)))) wNext)
  (wSeq (wIfS (wOr (wTest (wOp rNe (wCB rIsi (wCons (wVar 1) (wCons (wC (.ty .list)) wNil))) (wCB rIsi (wCons (wVar 0) (wCons (wC (.ty .list)) wNil))))) (wTest (wOp rNe (wCB rIsi (wCons (wVar 1) (wCons (wC (.ty .tuple)) wNil))) (wCB rIsi (wCons (wVar 0) (wCons (wC (.ty .tuple)) wNil)))))) (wRet (wC (.bl false))) wNext)
  (wSeq (wIfS (wTest (wOp rNe (wCB rLn (wCons (wVar 0) wNil)) (wCB rLn (wCons (wVar 1) wNil)))) (wRet (wC (.bl false))) wNext)
  (wRet (wCB rAll (wCons (wLc (wiZip (wVar 0) (wVar 1)) (wgTup 2 (wgCons (wgN 2) (wgCons (wgN 3) wgNil))) wYes (wCall sr 2 (wCons (wVar 2) (wCons (wVar 3) wNil))) [2, 3]) wNil)))))))))
theorem plain_kd : ∀ {d : D}, plain d = true → ∃ q, kdOf d = some q
  | .non, _ => ⟨_, rfl⟩
  | .bl _, _ => ⟨_, rfl⟩
  | .int _, _ => ⟨_, rfl⟩
  | .str _, _ => ⟨_, rfl⟩
  | .tup _, _ => ⟨_, rfl⟩
  | .lst _, _ => ⟨_, rfl⟩
theorem plains_mem : ∀ {ds : List D} {d : D}, plains ds = true → d ∈ ds → plain d = true
  | e :: ds, d, h, m => by
    have h' : plain e = true ∧ plains ds = true := Bool.and_eq_true_iff.mp h
    rcases List.mem_cons.mp m with q | q
    · subst q; exact h'.1
    · exact plains_mem h'.2 q
theorem deps_mem : ∀ {ds : List D} {d : D}, d ∈ ds → dep d ≤ deps ds
  | e :: ds, d, m => by
    have h : deps (e :: ds) = max (dep e) (deps ds) := rfl
    rw [h]
    rcases List.mem_cons.mp m with q | q
    · subst q; omega
    · have := deps_mem q; omega
theorem zip_self (P : D → Prop) : ∀ (ds : List D), (∀ d, d ∈ ds → P d) → All2 (fun d e => e = .bl true ∧ ∃ a, d = .tup [a, a] ∧ P a) (zipD ds ds) (List.replicate ds.length (.bl true))
  | [], _ => .nil
  | d :: ds, h => .cons ⟨rfl, d, rfl, h d List.mem_cons_self⟩ (zip_self P ds fun e he => h e (List.mem_cons_of_mem _ he))
theorem hw_same {n : Nat} {sr : WF} (hs : ∀ d, plain d = true → dep d < n → ∀ M k x, k (.bl true) M → sr [d, d] M k x) (ds : List D) (M : MH) (k : KD) (x : KE) (h : sp__law_same n ds M k x) : w__law_same sr (startD N__law_same ds) M (retE k x) := by
  obtain ⟨d, rfl, hp, hd, hk⟩ := h
  cases d with
  | non => exact Lt.now hk
  | bl b => cases b <;> exact Lt.now hk
  | int i =>
    walk_at "w"
    refine ⟨_, _, rfl, rfl, ?_⟩
    walk_at "w"
    exact Lt.as (e := .bl (decide (i = i))) hk (by simp)
  | str z =>
    walk_at "w"
    exact Lt.as (e := .bl (decide (z = z))) hk (by simp)
  | tup ds =>
    have hp' : plains ds = true := hp
    have hd' : deps ds + 1 ≤ n := hd
    walk_at "w"
    rw [show decide ((ds.length : Int) = (ds.length : Int)) = true from decide_eq_true rfl]
    walk_at "w"
    refine compD_all2 _ _ _ (zip_self (fun a => plain a = true ∧ dep a < n) ds fun a ha => ⟨plains_mem hp' ha, by have := deps_mem ha; omega⟩) trivial (fun d e r k' hk' => ?_) ?_
    · obtain ⟨rfl, a, rfl, h1, h2⟩ := r
      exact hs a h1 h2 _ _ _ hk'
    · walk_at "w"
      rw [blsOf_rep]
      exact Lt.as hk (by rw [all_rep])
  | lst ds =>
    have hp' : plains ds = true := hp
    have hd' : deps ds + 1 ≤ n := hd
    walk_at "w"
    rw [show decide ((ds.length : Int) = (ds.length : Int)) = true from decide_eq_true rfl]
    walk_at "w"
    refine compD_all2 _ _ _ (zip_self (fun a => plain a = true ∧ dep a < n) ds fun a ha => ⟨plains_mem hp' ha, by have := deps_mem ha; omega⟩) trivial (fun d e r k' hk' => ?_) ?_
    · obtain ⟨rfl, a, rfl, h1, h2⟩ := r
      exact hs a h1 h2 _ _ _ hk'
    · walk_at "w"
      rw [blsOf_rep]
      exact Lt.as hk (by rw [all_rep])
  | _ => cases hp
theorem hw_same0 (ds : List D) (M : MH) (k : KD) (x : KE) (_ : ds.length = 2) (h : sp__law_same 0 ds M k x) : w__law_same noSp (startD N__law_same ds) M (retE k x) := hw_same (n := 0) (fun d _ h => absurd h (Nat.not_lt_zero _)) ds M k x h
theorem hw_same1 (n : Nat) (ds : List D) (M : MH) (k : KD) (x : KE) (_ : ds.length = 2) (h : sp__law_same (n + 1) ds M k x) : w__law_same (sp__law_same n) (startD N__law_same ds) M (retE k x) := hw_same (n := n + 1) (fun d h1 h2 M k x hk => ⟨d, rfl, h1, Nat.le_of_lt_succ h2, hk⟩) ds M k x h
/-! ### lists walked -/
theorem each_map (f : D → D) : ∀ (ds : List D), All2 (fun d e => d ∈ ds ∧ e = f d) ds (ds.map f) := fun ds =>
  have h : ∀ es : List D, (∀ e, e ∈ es → e ∈ ds) → All2 (fun d e => d ∈ ds ∧ e = f d) es (es.map f) := fun es => by
    induction es with
    | nil => exact fun _ => .nil
    | cons a r ih => exact fun h => .cons ⟨h a List.mem_cons_self, rfl⟩ (ih fun e he => h e (List.mem_cons_of_mem _ he))
  h ds fun _ h => h
theorem blsOf_mapf (f : D → Bool) : ∀ ds : List D, blsOf (ds.map fun d => .bl (f d)) = some (ds.map f)
  | [] => rfl
  | d :: ds => by
    show (blsOf (ds.map fun d => .bl (f d))).map (f d :: ·) = _
    rw [blsOf_mapf f ds]
    rfl
theorem all_mapf (f : D → Bool) (ds : List D) : (ds.map f).all (fun b => b) = ds.all f := by
  induction ds with
  | nil => rfl
  | cons a r ih => rw [List.map_cons, List.all_cons, List.all_cons, ih]
theorem zip_map2 (f : Int → Int → Int) : ∀ (as ms : List Int), All2 (fun d e => ∃ a m, m ∈ ms ∧ d = .tup [.int a, .int m] ∧ e = .int (f a m)) (zipD (as.map .int) (ms.map .int)) ((List.zipWith f as ms).map .int) := fun as ms =>
  have h : ∀ as ns : List Int, (∀ n, n ∈ ns → n ∈ ms) → All2 (fun d e => ∃ a m, m ∈ ms ∧ d = .tup [.int a, .int m] ∧ e = .int (f a m)) (zipD (as.map .int) (ns.map .int)) ((List.zipWith f as ns).map .int) := fun as => by
    induction as with
    | nil => exact fun _ _ => .nil
    | cons a r ih =>
      intro ns h
      cases ns with
      | nil => exact .nil
      | cons n ns => exact .cons ⟨a, n, h n List.mem_cons_self, rfl, rfl⟩ (ih ns fun e he => h e (List.mem_cons_of_mem _ he))
  h as ms fun _ h => h
theorem ints_of_all2 {R : D → D → Prop} (h : ∀ d e, R d e → ∃ i, e = .int i) : ∀ {ds es : List D}, All2 R ds es → ∃ ns : List Int, es = ns.map .int ∧ ns.length = ds.length
  | _, _, .nil => ⟨[], rfl, rfl⟩
  | _, _, .cons r rs => by
    obtain ⟨i, rfl⟩ := h _ _ r
    obtain ⟨ns, rfl, hl⟩ := ints_of_all2 h rs
    exact ⟨i :: ns, rfl, congrArg (· + 1) hl⟩
end DL

namespace DL
open PySem PySem.Spec PyProof.Rows L2
/-! ### calls by position, of defs that gather what is left over -/
section
variable {X : Cx} {CX : CXT} {k : Nat} {f : Addr} {sp : Sp} {E : L2.St → XK} {x : Str} {p pos : Pos} {e : Expr} {es : List Expr} {t : TA}
theorem run_fnRS {pins : List (Addr × Obj)} {σ : L2.St} {H : Hp} {s : Shared} {Q : VK} {us : List Value} {vs : List V} (F : FnR X.prog X.w X.K X.mg X.base CX k f sp) (hr : Room k X.A) (hx : PassesAt CX X σ (E σ)) (I : Inv X pins σ H s) (r : Vals vs us) (h : sp vs H Q (E σ)) :
    wpAny (model X.prog X.w) X.A (call (.ref f) us) (EP X pins σ Q) X.xe s := by
  refine wpAny_call (codeAny_mono (F X.A X.stack s H us vs Q (E σ) hr I.env0 r h) fun r s' hq => ?_)
  cases r with
  | error e => exact hx pins H s e s' I hq
  | ok fl =>
    cases fl with
    | ret u => exact I.after hq
    | next => exact False.elim hq
    | brk => exact False.elim hq
    | cont => exact False.elim hq
theorem pe_callR (F : FnR X.prog X.w X.K X.mg X.base CX k f sp) (hr : Room k X.A) (hk : PySem.W.keepIn X.K (.ref f) = true) (hg : Gl X x) (hm : X.mg x = some (.ref f)) (hx : ∀ σ, PassesAt CX X σ (E σ)) (ha : PA X (e :: es) t) (hd : (x == ("__debug__" : Str)) = false := by decide)
    (he : starEach (e :: es) X.env = (false, eval e X.env) :: starEach es X.env := by rfl) (hpl : (backTo pos (starEach es X.env)).any (·.1) = false := by rfl) : PE X (.Call (.Name x p) (e :: es) [] pos) (tCallS sp E t) := by
  refine ⟨fun pins s σ H Q I h => ?_⟩
  refine wpAny_Call_Name_kw (ld_glob I hg hm ?_ hd)
  refine PySem.W.callWith_K (h₀ := X.base) I.ok.mod.kin hk (thn (ha.run pos pins s σ H _ I h) fun us s1 ⟨vs, H1, I1, r, q⟩ => ⟨I1.kIn, ?_⟩) he hpl
  exact run_fnRS F hr (hx σ) I1 r q
theorem pe_callRS (F : FnR X.prog X.w X.K X.mg X.base CX k f sp) (hr : Room k X.A) (hk : PySem.W.keepIn X.K (.ref f) = true) (hg : Gl X x) (hm : X.mg x = some (.ref f)) (hx : ∀ σ, PassesAt CX X σ (E σ)) (ha : PA X (e :: es) t) (hd : (x == ("__debug__" : Str)) = false := by decide)
    (he : starEach (e :: es) X.env = (false, eval e X.env) :: starEach es X.env := by rfl) (hst : (backTo pos (starEach es X.env)).any (·.1) = true := by rfl) : PE X (.Call (.Name x p) (e :: es) [] pos) (tCallS sp E t) := by
  refine ⟨fun pins s σ H Q I h => ?_⟩
  refine wpAny_Call_Name_kw (ld_glob I hg hm ?_ hd)
  refine PySem.W.callWith_S2 (h₀ := X.base) I.ok.mod.kin hk (thn (ha.run pos pins s σ H _ I h) fun us s1 ⟨vs, H1, I1, r, q⟩ => ⟨I1.kIn, ?_⟩) he hst
  exact run_fnRS F hr (hx σ) I1 r q
end
def spV (K : PySem.W.Frag) (m : Nat) (wf : WF) : Sp := fun vs H Q E => ∃ ws rest, vs = ws ++ rest ∧ ws.length = m ∧ rest.length ≤ sizeLine ∧ ∀ p, H p = Option.none → spD K (m + 1) wf (ws ++ [V.ref p]) (upd H p (.tup rest)) Q E
structure FnV (P : Program) (w : World) (K : PySem.W.Frag) (mg : Str → Option Value) (base : Heap) (f : Str) (k m : Nat) (wf : WF) : Prop where
  ex : ∃ a : Addr, FnR P w K mg base (L2.CX P w) k a (spV K m wf) ∧ mg f = some (.ref a) ∧ PySem.W.keepIn K (.ref a) = true
def wCallV (wf : WF) (m : Nat) (wa : WA) : WE := fun ρ M k x => wa ρ M (fun ds M1 => gd (Nat.ble m ds.length) (gd (Nat.ble ds.length 4096) (wf (ds.take m ++ [.tup (ds.drop m)]) M1 k x))) x
theorem spV_in {K : PySem.W.Frag} {m : Nat} {wf : WF} {H F : Hp} {M : MH} {vs : List V} {ds : List D} {k : KD} {x : KE} {Q : VK} {E : XK} (S : RepS K H F M) (r : Reps K F vs ds) (w : gd (Nat.ble m ds.length) (gd (Nat.ble ds.length 4096) (wf (ds.take m ++ [.tup (ds.drop m)]) M k x)))
    (pv : PostV K H F M k Q) (px : PostX K H F M x E) : spV K m wf vs H Q E := by
  obtain ⟨h1, w⟩ := gd_of w
  obtain ⟨h2, w⟩ := gd_of w
  have h1 := Nat.le_of_ble_eq_true h1
  have h2 := Nat.le_of_ble_eq_true h2
  have hl := r.length
  have hd : (ds.drop m).length ≤ sizeLine := le_line (by rw [List.length_drop]; omega)
  refine ⟨vs.take m, vs.drop m, (List.take_append_drop m vs).symm, by rw [List.length_take, hl]; omega, by rw [List.length_drop, hl]; have := le_line h2; omega, fun p hp => ?_⟩
  obtain ⟨S2, e2⟩ := S.lay hp (.tup (vs.drop m))
  exact ⟨_, M, _, k, x, S2, ((r.take m).mono e2.sm).snoc (.tup (SqT.of upd_same) ((r.drop m).mono e2.sm) hd), by rw [List.length_append, List.length_take, List.length_singleton]; omega, w, pv.on e2, px.on e2⟩
section
variable {X : Cx} {pos p : Pos} {f : Str} {e : Expr} {es : List Expr} {k m : Nat} {wf : WF} {wa : WA}
theorem de_callV (F : FnV X.prog X.w X.K X.mg X.base f k m wf) (hr : Room k X.A) (ha : DA X (e :: es) wa) (hg : Gl X f := by rfl) (hd : (f == ("__debug__" : Str)) = false := by decide)
    (he : starEach (e :: es) X.env = (false, eval e X.env) :: starEach es X.env := by rfl) (hpl : (backTo pos (starEach es X.env)).any (·.1) = false := by rfl) : DE X (.Call (.Name f p) (e :: es) [] pos) (wCallV wf m wa) := by
  obtain ⟨a, G, hm, hk⟩ := F.ex
  refine ⟨fun W tk => pe_imp (pe_callR G hr hk hg hm (fun σ => passAt tk σ) (ha.pa W tk) hd he hpl) fun σ H Q q => ?_⟩
  obtain ⟨F, M, ρ, k, x, S, R, w, pv, px⟩ := q
  exact ⟨F, M, ρ, _, x, S, R, w, fun vs ds H1 F1 M1 e1 S1 r1 w1 => spV_in S1 r1 w1 (pv.on e1) (px.on e1), px⟩
theorem de_callVS (F : FnV X.prog X.w X.K X.mg X.base f k m wf) (hr : Room k X.A) (ha : DA X (e :: es) wa) (hg : Gl X f := by rfl) (hd : (f == ("__debug__" : Str)) = false := by decide)
    (he : starEach (e :: es) X.env = (false, eval e X.env) :: starEach es X.env := by rfl) (hst : (backTo pos (starEach es X.env)).any (·.1) = true := by rfl) : DE X (.Call (.Name f p) (e :: es) [] pos) (wCallV wf m wa) := by
  obtain ⟨a, G, hm, hk⟩ := F.ex
  refine ⟨fun W tk => pe_imp (pe_callRS G hr hk hg hm (fun σ => passAt tk σ) (ha.pa W tk) hd he hst) fun σ H Q q => ?_⟩
  obtain ⟨F, M, ρ, k, x, S, R, w, pv, px⟩ := q
  exact ⟨F, M, ρ, _, x, S, R, w, fun vs ds H1 F1 M1 e1 S1 r1 w1 => spV_in S1 r1 w1 (pv.on e1) (px.on e1), px⟩
end
section
variable {P : Program} {w : World} {K : PySem.W.Frag} {mg : Str → Option Value} {base : Heap}
theorem fn_dV {x qual : Str} {st : Stmt} {f : Addr} {fd : FuncData} {N ps : List Str} {pv : Str} {k : Nat} {wf : WF} {wb : WS} (G : Fun K x qual st f fd) (S : FnScope N (ps ++ [pv]) (defScope st))
    (hbind : ∀ (kV doc pm cdv ct : Value) (an : Option Addr) (us rest : List Value), us.length = ps.length → bindArgs (PySem.W.fnOf x qual (defArgs st) (defBody st) (defScope st) .none kV doc pm an cdv ct) ⟨us ++ rest, []⟩ = (newTuple rest >>= fun t => pure (ps.zip us ++ [(pv, t)])))
    (hb : ∀ (cdv : Value) (A : Around) (outer : List Env) (s : Shared) (H : Hp) (E : XK), Room k (A.deeper (envOfC qual (defScope st) s.heap.objs.size f cdv)) → DSs (cxOf (L2.CX P w) P w K mg base N qual (defScope st) f cdv A outer s H E) (defBody st) wb)
    (hw : ∀ ds M k x, ds.length = ps.length + 1 → wf ds M k x → wb (startD N ds) M (retE k x)) : FnR P w K mg base (L2.CX P w) (k + 1) f (spV K ps.length wf) := by
  obtain ⟨oc, od, kV, doc, pm, an, cdv, ct, osl, rfl, lk, hcd⟩ := G.ex
  refine StX.fn_star (sp := spD K (ps.length + 1) wf) lk hcd S StX.cxUp (hbind kV doc pm cdv ct an) fun A outer s H vs Q E hr h => ?_
  have d := hb cdv A outer s H E hr
  refine ⟨_, d.ps (fun cls d _ H => E cls d H) (takes_of rfl rfl rfl rfl) (passes_of rfl), ?_⟩
  obtain ⟨F, M, ds, k, x, S1, r, hl, q, pv, px⟩ := h
  exact ⟨F, M, startD N ds, retE k x, S1, RepE.start r, hw ds M k x hl q, fun σ' ρ' H' F' M' e' S' R' w' => pv.lt _ _ _ _ _ e' S' .non w', pv.lt, fun _ _ _ _ _ _ _ _ z => z.elim, fun _ _ _ _ _ _ _ _ z => z.elim, fun σ => px.lt⟩
end
/-! ### a module's constant that is an int -/
theorem de_gint {X : Cx} {x : Str} {i : Int} {pos : Pos} (hm : ∃ t, X.mg x = some (.int i t)) (hg : Gl X x := by rfl) (hd : (x == ("__debug__" : Str)) = false := by decide) : DE X (.Name x pos) (wC (.int i)) := by
  obtain ⟨t, h⟩ := hm
  exact de_glob (v := V.int i) h ⟨t, rfl⟩ (fun _ => .int i) hg hd
theorem de_gstr {X : Cx} {x z : Str} {pos : Pos} (hm : ∃ t, X.mg x = some (.str z t)) (hg : Gl X x := by rfl) (hd : (x == ("__debug__" : Str)) = false := by decide) : DE X (.Name x pos) (wC (.str z)) := by
  obtain ⟨t, h⟩ := hm
  exact de_glob (v := V.str z) h ⟨t, rfl⟩ (fun _ => .str z) hg hd
end DL

namespace DL
open PySem PySem.Spec PyProof.Rows L2
local macro_rules | `(tactic| walk_at "w") => `(tactic| try conv => whnf)
/-! ### shared defs: their promises -/
abbrev tI (ns : List Int) : D := .tup (ns.map .int)
def fwd : List Int → Bool
  | [] => false
  | n :: r => if n = 0 then fwd r else decide (0 < n)
def placeD : D → Int → Bool
  | .tup xs, n => decide ((xs.length : Int) = n) && xs.all isInt
  | _, _ => false
/-- no greater than b either way -/
def Bd (b : Int) (ns : List Int) : Prop := ∀ n, n ∈ ns → -b ≤ n ∧ n ≤ b
def sp_is_whole : WF := sp__law_whole
def sp_is_place : WF := fun ds M k _ => ∃ d n, ds = [d, .int n] ∧ plain d = true ∧ k (.bl (placeD d n)) M
def sp_is_forward : WF := fun ds M k _ => ∃ ns, ds = [tI ns] ∧ k (.bl (fwd ns)) M
def sp_residue : WF := fun ds M k _ => ∃ as ms, ds = [tI as, tI ms] ∧ (∀ m, m ∈ ms → m ≠ 0) ∧ k (tI (List.zipWith Int.fmod as ms)) M
def sp__law_spot : WF := fun ds M k _ => ∃ a n, ds = [.ref a, .int n] ∧ 0 ≤ n ∧ n ≤ 1000 ∧ BoxAt M a ∧ ∀ ns M', (ns.length : Int) = n → Bd (10 ^ 40) ns → BoxAt M' a → Off a M M' → k (tI ns) M'
def sp__law_zero : WF := fun ds M k _ => ∃ n, ds = [.int n] ∧ 0 ≤ n ∧ n ≤ 1000 ∧ k (tI (List.replicate n.toNat 0)) M
def sp_origin : WF := sp__law_zero
def sp__law_forward : WF := sp_is_forward
def sp_add : WF := fun ds M k _ => ∃ (as : List Int) (bss : List (List Int)), ds = [tI as, .tup (bss.map tI)] ∧ k (tI (bss.foldl (List.zipWith (· + ·)) as)) M
def sp_scale : WF := fun ds M k _ => ∃ n ns, ds = [.int n, tI ns] ∧ (∀ x, x ∈ ns → IntMulOk n x) ∧ k (tI (ns.map (n * ·))) M
def sp_opposite : WF := fun ds M k _ => ∃ ns, ds = [tI ns] ∧ k (tI (ns.map (fun x => -x))) M
def sp__law_sum : WF := fun ds M k _ => ∃ as bs, ds = [tI as, tI bs] ∧ k (tI (List.zipWith (· + ·) as bs)) M
def sp__law_scaled : WF := sp_scale
def sp__law_num : WF := fun ds M k _ => ∃ a, ds = [.ref a] ∧ BoxAt M a ∧ ∀ v M', -(10 ^ 12) ≤ v → v ≤ 10 ^ 12 → BoxAt M' a → Off a M M' → k (.int v) M'
def sp__law_big : WF := fun ds M k _ => ∃ a, ds = [.ref a] ∧ BoxAt M a ∧ ∀ v M', 1 ≤ v → v ≤ 10 ^ 30 → BoxAt M' a → Off a M M' → k (.int v) M'
def N_is_whole : List Str := ["thing"]
def w_is_whole : WS := (wRet (wAndV (wCB rIsi (wCons (wVar 0) (wCons (wC (.ty .int)) wNil))) (wNotV (wCB rIsi (wCons (wVar 0) (wCons (wC (.ty .bool)) wNil))))))
def N_is_place : List Str := ["thing", "dimension", "one"]
def w_is_place : WS := (wRet (wAndV (wCB rIsi (wCons (wVar 0) (wCons (wC (.ty .tuple)) wNil))) (wAndV (wOp rEq (wCB rLn (wCons (wVar 0) wNil)) (wVar 1)) (wCB rAll (wCons (wLc (wiSeq (wVar 0)) (wgN 2) wYes (wCall sp_is_whole 1 (wCons (wVar 2) wNil)) [2]) wNil)))))
def N_is_forward : List Str := ["vector", "one"]
def w_is_forward : WS := (wSeq (wFor (wiSeq (wVar 0)) (wgN 1) (wIfS (wTest (wOp rNe (wVar 1) (wC (.int 0)))) (wRet (wOp rGt (wVar 1) (wC (.int 0)))) wNext))
  (wRet (wC (.bl false))))
def N_residue : List Str := ["place", "moduli", "one", "modulus"]
def w_residue : WS := (wRet (wCB rTuple (wCons (wLc (wiZip (wVar 0) (wVar 1)) (wgTup 2 (wgCons (wgN 2) (wgCons (wgN 3) wgNil))) wYes (wOp rMod (wVar 2) (wVar 3)) [2, 3]) wNil)))
def N__law_forward : List Str := ["_law_vector", "_law_signs", "_law_one"]
def w__law_forward : WS := (wSeq (wSet 1 (wLc (wiSeq (wVar 0)) (wgN 2) (wTest (wOp rNe (wVar 2) (wC (.int 0)))) (wVar 2) [2]))
  (wRet (wAndV (wOp rNe (wVar 1) (wLst wNil)) (wOp rGt (wIx (wVar 1) (wC (.int 0))) (wC (.int 0))))))
def N_origin : List Str := ["dimension"]
def w_origin : WS := (wRet (wOp rMul (wTup (wCons (wC (.int 0)) wNil)) (wVar 0)))
def N_add : List Str := ["one", "others", "result", "other", "a", "b"]
def w_add : WS := (wSeq (wSet 2 (wVar 0))
  (wSeq (wFor (wiSeq (wVar 1)) (wgN 3) (wSet 2 (wCB rTuple (wCons (wLc (wiZip (wVar 2) (wVar 3)) (wgTup 2 (wgCons (wgN 4) (wgCons (wgN 5) wgNil))) wYes (wOp rAdd (wVar 4) (wVar 5)) [4, 5]) wNil))))
  (wRet (wVar 2))))
def N_scale : List Str := ["number", "place", "one"]
def w_scale : WS := (wRet (wCB rTuple (wCons (wLc (wiSeq (wVar 1)) (wgN 2) wYes (wOp rMul (wVar 0) (wVar 2)) [2]) wNil)))
def N_opposite : List Str := ["place"]
def w_opposite : WS := (wRet (wCall sp_scale 2 (wCons (wUn rNeg (wC (.int 1))) (wCons (wVar 0) wNil))))
def N__law_big : List Str := ["_law_box", "_law_pick"]
def w__law_big : WS := (wSeq (wSet 1 (wCall sp__law_draw 2 (wCons (wVar 0) (wCons (wC (.int 6)) wNil))))
  (wSeq (wIfS (wTest (wOp rEq (wVar 1) (wC (.int 0)))) (wRet (wOp rPow (wC (.int 10)) (wC (.int 30)))) wNext)
  (wSeq (wIfS (wTest (wOp rLt (wVar 1) (wC (.int 3)))) (wRet (wOp rAdd (wC (.int 1)) (wCall sp__law_draw 2 (wCons (wVar 0) (wCons (wOp rPow (wC (.int 10)) (wC (.int 30))) wNil))))) wNext)
  (wRet (wOp rAdd (wC (.int 2)) (wCall sp__law_draw 2 (wCons (wVar 0) (wCons (wIx (wLst (wCons (wC (.int 3)) (wCons (wC (.int 40)) (wCons (wOp rPow (wC (.int 10)) (wC (.int 9))) wNil)))) (wOp rSub (wVar 1) (wC (.int 3)))) wNil))))))))
def N__law_num : List Str := ["_law_box", "_law_pick"]
def w__law_num : WS := (wSeq (wSet 1 (wCall sp__law_draw 2 (wCons (wVar 0) (wCons (wC (.int 8)) wNil))))
  (wSeq (wIfS (wTest (wOp rLt (wVar 1) (wC (.int 4)))) (wRet (wIx (wLst (wCons (wC (.int 0)) (wCons (wC (.int 1)) (wCons (wUn rNeg (wC (.int 1))) (wCons (wC (.int 2)) wNil))))) (wVar 1))) wNext)
  (wSeq (wIfS (wTest (wOp rLt (wVar 1) (wC (.int 6)))) (wRet (wOp rSub (wCall sp__law_draw 2 (wCons (wVar 0) (wCons (wC (.int 19)) wNil))) (wC (.int 9)))) wNext)
  (wRet (wOp rSub (wCall sp__law_draw 2 (wCons (wVar 0) (wCons (wOp rAdd (wOp rMul (wC (.int 2)) (wOp rPow (wC (.int 10)) (wC (.int 12)))) (wC (.int 1))) wNil))) (wOp rPow (wC (.int 10)) (wC (.int 12))))))))
def N__law_spot : List Str := ["_law_box", "_law_ways", "_law_k"]
def w__law_spot : WS := (wSeq (wIfS (wTest (wOp rEq (wCall sp__law_draw 2 (wCons (wVar 0) (wCons (wC (.int 3)) wNil))) (wC (.int 0)))) (wRet (wCB rTuple (wCons (wLc (wiR1 (wVar 1)) (wgN 2) wYes (wOp rSub (wCall sp__law_draw 2 (wCons (wVar 0) (wCons (wOp rAdd (wOp rMul (wC (.int 2)) (wOp rPow (wC (.int 10)) (wC (.int 40)))) (wC (.int 1))) wNil))) (wOp rPow (wC (.int 10)) (wC (.int 40)))) [2]) wNil))) wNext)
  (wRet (wCB rTuple (wCons (wLc (wiR1 (wVar 1)) (wgN 2) wYes (wOp rSub (wCall sp__law_draw 2 (wCons (wVar 0) (wCons (wC (.int 21)) wNil))) (wC (.int 10))) [2]) wNil))))
def N__law_sum : List Str := ["_law_one", "_law_other", "_law_a", "_law_b"]
def w__law_sum : WS := (wRet (wCB rTuple (wCons (wLc (wiZip (wVar 0) (wVar 1)) (wgTup 2 (wgCons (wgN 2) (wgCons (wgN 3) wgNil))) wYes (wOp rAdd (wVar 2) (wVar 3)) [2, 3]) wNil)))
def N__law_scaled : List Str := ["_law_number", "_law_place", "_law_a"]
def w__law_scaled : WS := (wRet (wCB rTuple (wCons (wLc (wiSeq (wVar 1)) (wgN 2) wYes (wOp rMul (wVar 0) (wVar 2)) [2]) wNil)))
def N__law_zero : List Str := ["_law_ways"]
def w__law_zero : WS := (wRet (wOp rMul (wTup (wCons (wC (.int 0)) wNil)) (wVar 0)))
theorem hw_is_whole (ds : List D) (M : MH) (k : KD) (x : KE) (hl : ds.length = 1) (h : sp_is_whole ds M k x) : w_is_whole (startD N_is_whole ds) M (retE k x) := hw__law_whole ds M k x hl h
theorem hw_is_place (ds : List D) (M : MH) (k : KD) (x : KE) (hl : ds.length = 2) (h : sp_is_place ds M k x) : w_is_place (startD N_is_place ds) M (retE k x) := by
  obtain ⟨d, n, rfl, hp, hk⟩ := h
  cases d with
  | tup xs =>
    have hp' : plains xs = true := hp
    walk_at "w"
    have e : placeD (.tup xs) n = (decide ((xs.length : Int) = n) && xs.all isInt) := rfl
    rw [e] at hk
    cases hd : decide ((xs.length : Int) = n)
    · rw [hd, Bool.false_and] at hk
      exact Lt.now hk
    · rw [hd, Bool.true_and] at hk
      walk_at "w"
      refine compD_all2 _ _ _ (each_map (fun d => .bl (isInt d)) xs) trivial (fun d e r k' hk' => ?_) ?_
      · obtain ⟨hm, rfl⟩ := r
        obtain ⟨q, hq⟩ := plain_kd (plains_mem hp' hm)
        exact ⟨d, q, rfl, hq, hk'⟩
      · walk_at "w"
        rw [blsOf_mapf]
        exact Lt.as hk (by rw [all_mapf])
  | _ => first | exact Lt.now hk | cases hp
theorem hw_is_forward (ds : List D) (M : MH) (k : KD) (x : KE) (hl : ds.length = 1) (h : sp_is_forward ds M k x) : w_is_forward (startD N_is_forward ds) M (retE k x) := by
  obtain ⟨ns, rfl, hk⟩ := h
  walk_at "w"
  refine forD_inv (fun ds ρ M' => M' = M ∧ ∃ cs o, ds = cs.map .int ∧ fwd cs = fwd ns ∧ ρ = [some (tI ns), o]) (fun _ _ _ _ => trivial) (fun ρ M' hI => ?_) (fun d r ρ M' nx hI hn => ?_) _ _ _ ⟨rfl, ns, _, rfl, rfl, rfl⟩
  · obtain ⟨rfl, cs, o, hc, hf, rfl⟩ := hI
    cases cs with
    | nil =>
      rw [← hf] at hk
      exact Lt.now hk
    | cons c cs => cases hc
  · obtain ⟨rfl, cs, o, hc, hf, rfl⟩ := hI
    cases cs with
    | nil => cases hc
    | cons c cs =>
      cases hc
      walk_at "w"
      cases h0 : decide (c = 0)
      · have h0' := of_decide_eq_false h0
        rw [← hf] at hk
        exact Lt.as hk (by show _ = D.bl (if c = 0 then _ else _); rw [if_neg h0'])
      · have h0' := of_decide_eq_true h0
        refine hn _ _ ⟨rfl, cs, _, rfl, ?_, rfl⟩
        rw [← hf]
        show _ = (if c = 0 then _ else _)
        rw [if_pos h0']
theorem hw_residue (ds : List D) (M : MH) (k : KD) (x : KE) (hl : ds.length = 2) (h : sp_residue ds M k x) : w_residue (startD N_residue ds) M (retE k x) := by
  obtain ⟨as, ms, rfl, h0, hk⟩ := h
  walk_at "w"
  refine compD_all2 _ _ _ (zip_map2 Int.fmod as ms) trivial (fun d e r k' hk' => ?_) (Lt.now hk)
  obtain ⟨a, m, hm, rfl, rfl⟩ := r
  exact ⟨h0 m hm, hk'⟩
theorem hw__law_zero (ds : List D) (M : MH) (k : KD) (x : KE) (hl : ds.length = 1) (h : sp__law_zero ds M k x) : w__law_zero (startD N__law_zero ds) M (retE k x) := by
  obtain ⟨n, rfl, h0, h1, hk⟩ := h
  walk_at "w"
  refine ⟨⟨h1, by omega, by decide⟩, ?_⟩
  exact Lt.as hk (by rw [flat1, tI, List.map_replicate])
theorem fwd_filter : ∀ ns : List Int, fwd ns = match ns.filter (fun n => !decide (n = 0)) with
    | [] => false
    | n :: _ => decide (0 < n)
  | [] => rfl
  | n :: r => by
    show (if n = 0 then fwd r else decide (0 < n)) = _
    by_cases h : n = 0
    · rw [if_pos h, fwd_filter r, List.filter_cons, if_neg (by simp [h])]
    · rw [if_neg h, List.filter_cons, if_pos (by simp [h])]
theorem filter_ints (ns : List Int) : ((ns.map D.int).filter (fun d => match d with
    | .int n => !decide (n = 0)
    | _ => false)).map (fun d => d) = (ns.filter (fun n => !decide (n = 0))).map .int := by
  rw [List.map_id']
  induction ns with
  | nil => rfl
  | cons n r ih =>
    rw [List.map_cons, List.filter_cons, List.filter_cons]
    cases h : decide (n = 0)
    · have q : (!false) = true := rfl
      simp only [h]
      rw [if_pos q, if_pos q, List.map_cons, ih]
    · have q : ¬ (!true) = true := by decide
      simp only [h]
      rw [if_neg q, if_neg q, ih]
theorem hw__law_forward (ds : List D) (M : MH) (k : KD) (x : KE) (hl : ds.length = 1) (h : sp__law_forward ds M k x) : w__law_forward (startD N__law_forward ds) M (retE k x) := by
  obtain ⟨ns, rfl, hk⟩ := h
  walk_at "w"
  refine compD_filter (fun d => match d with
    | .int n => !decide (n = 0)
    | _ => false) (fun d => d) _ trivial (fun d hd k1 k2 h1 h2 => ?_) ?_
  · obtain ⟨n, _, rfl⟩ := List.mem_map.mp hd
    walk_at "w"
    cases h0 : decide (n = 0)
    · exact h1 (by show (!decide (n = 0)) = true; rw [h0]; rfl)
    · exact h2 (by show (!decide (n = 0)) = false; rw [h0]; rfl)
  · rw [filter_ints]
    rw [fwd_filter] at hk
    generalize ns.filter (fun n => !decide (n = 0)) = fs at hk
    walk_at "w"
    refine rNeP_lays (layss_map .int (fun _ => rfl) fs) rfl ?_ (by show deps (fs.map .int) + 1 ≤ 64; have := deps_map D.int (n := 0) (fun _ => Nat.le_refl _) fs; omega)
    rw [eqD_nil]
    cases fs with
    | nil => exact Lt.now hk
    | cons c cs => walk_at "w"; rw [List.map_cons, atI_cons0]; exact Lt.now hk

theorem ints_bd {lo hi : Int} {R : D → D → Prop} (h : ∀ d e, R d e → ∃ i, e = .int i ∧ lo ≤ i ∧ i ≤ hi) : ∀ {ds es : List D}, All2 R ds es → ∃ ns : List Int, es = ns.map .int ∧ ns.length = ds.length ∧ ∀ n, n ∈ ns → lo ≤ n ∧ n ≤ hi
  | _, _, .nil => ⟨[], rfl, rfl, fun _ h => nomatch h⟩
  | _, _, .cons r rs => by
    obtain ⟨i, rfl, hi⟩ := h _ _ r
    obtain ⟨ns, rfl, hl, hn⟩ := ints_bd h rs
    exact ⟨i :: ns, rfl, congrArg (· + 1) hl, fun n hm => by
      rcases List.mem_cons.mp hm with e | e
      · subst e; exact hi
      · exact hn n e⟩
theorem hw__law_spot (ds : List D) (M : MH) (k : KD) (x : KE) (hl : ds.length = 2) (h : sp__law_spot ds M k x) : w__law_spot (startD N__law_spot ds) M (retE k x) := by
  obtain ⟨a, n, rfl, h0, h1, hB, hk⟩ := h
  walk_at "w"
  refine ⟨_, _, rfl, by decide, by decide, hB, fun v M1 _ _ hB1 hO1 => ?_⟩
  walk_at "w"
  cases hv : decide (v = 0)
  · walk_at "w"
    refine ⟨by omega, by omega, ?_⟩
    refine compD_draw (fun M' => BoxAt M' a ∧ Off a M M') (fun d e => ∃ i, e = .int i ∧ -(10 ^ 40) ≤ i ∧ i ≤ 10 ^ 40) (fun _ _ => trivial) _ ⟨hB1, hO1⟩ (fun d hd M' k' hI hk' => ?_) (fun es M' hA hI => ?_)
    · walk_at "w"
      refine ⟨_, _, rfl, by decide, by decide, hI.1, fun v M1 v0 v1 hB1 hO1 => ?_⟩
      exact hk' _ _ ⟨_, rfl, by omega, by omega⟩ ⟨hB1, hI.2.trans hO1⟩
    · obtain ⟨ns, rfl, hl, hb⟩ := ints_bd (fun _ _ h => h) hA
      rw [intsFrom_len] at hl
      exact Lt.now (hk ns _ (by omega) hb hI.1 hI.2)
  · walk_at "w"
    refine ⟨by omega, by omega, ?_⟩
    refine compD_draw (fun M' => BoxAt M' a ∧ Off a M M') (fun d e => ∃ i, e = .int i ∧ -(10 ^ 40) ≤ i ∧ i ≤ 10 ^ 40) (fun _ _ => trivial) _ ⟨hB1, hO1⟩ (fun d hd M' k' hI hk' => ?_) (fun es M' hA hI => ?_)
    · walk_at "w"
      refine ⟨⟨by decide, by decide, by decide⟩, ?_⟩
      walk_at "w"
      refine ⟨mulOk_l (by decide) (by decide), ?_⟩
      walk_at "w"
      refine ⟨_, _, rfl, by decide, by decide, hI.1, fun v M1 v0 v1 hB1 hO1 => ?_⟩
      refine ⟨⟨by decide, by decide, by decide⟩, ?_⟩
      have e40 : (10 : Int) ^ (40 : Int).toNat = 10 ^ 40 := rfl
      rw [e40] at v1
      exact hk' _ _ ⟨_, rfl, by show _ ≤ v - 10 ^ 40; omega, by show v - 10 ^ 40 ≤ _; omega⟩ ⟨hB1, hI.2.trans hO1⟩
    · obtain ⟨ns, rfl, hl, hb⟩ := ints_bd (fun _ _ h => h) hA
      rw [intsFrom_len] at hl
      exact Lt.now (hk ns _ (by omega) hb hI.1 hI.2)
theorem hw_origin (ds : List D) (M : MH) (k : KD) (x : KE) (hl : ds.length = 1) (h : sp_origin ds M k x) : w_origin (startD N_origin ds) M (retE k x) := hw__law_zero ds M k x hl h
theorem hw_add (ds : List D) (M : MH) (k : KD) (x : KE) (hl : ds.length = 2) (h : sp_add ds M k x) : w_add (startD N_add ds) M (retE k x) := by
  obtain ⟨as, bss, rfl, hk⟩ := h
  walk_at "w"
  refine forD_inv (fun ds ρ M' => M' = M ∧ ∃ cs dss o3 o4 o5, ds = dss.map tI ∧ dss.foldl (List.zipWith (· + ·)) cs = bss.foldl (List.zipWith (· + ·)) as ∧ ρ = [some (tI as), some (.tup (bss.map tI)), some (tI cs), o3, o4, o5]) (fun _ _ _ _ => trivial) (fun ρ M' hI => ?_) (fun d r ρ M' nx hI hn => ?_) _ _ _ ⟨rfl, as, bss, _, _, _, rfl, rfl, rfl⟩
  · obtain ⟨rfl, cs, dss, o3, o4, o5, hd, hf, rfl⟩ := hI
    cases dss with
    | nil => exact Lt.as hk (by rw [← hf]; rfl)
    | cons c cs => cases hd
  · obtain ⟨rfl, cs, dss, o3, o4, o5, hd, hf, rfl⟩ := hI
    cases dss with
    | nil => cases hd
    | cons c dss =>
      cases hd
      walk_at "w"
      refine compD_all2 _ _ _ (zip_map2 (· + ·) cs c) trivial (fun d e r k' hk' => ?_) ?_
      · obtain ⟨a, m, hm, rfl, rfl⟩ := r
        exact hk'
      · exact hn _ _ ⟨rfl, List.zipWith (· + ·) cs c, dss, _, _, _, rfl, hf, rfl⟩
theorem each_int (f : Int → Int) : ∀ (ns : List Int), All2 (fun d e => ∃ n, n ∈ ns ∧ d = .int n ∧ e = .int (f n)) (ns.map .int) ((ns.map f).map .int) := fun ns =>
  have h : ∀ es : List Int, (∀ e, e ∈ es → e ∈ ns) → All2 (fun d e => ∃ n, n ∈ ns ∧ d = .int n ∧ e = .int (f n)) (es.map .int) ((es.map f).map .int) := fun es => by
    induction es with
    | nil => exact fun _ => .nil
    | cons a r ih => exact fun h => .cons ⟨a, h a List.mem_cons_self, rfl, rfl⟩ (ih fun e he => h e (List.mem_cons_of_mem _ he))
  h ns fun _ h => h
theorem hw_scale (ds : List D) (M : MH) (k : KD) (x : KE) (hl : ds.length = 2) (h : sp_scale ds M k x) : w_scale (startD N_scale ds) M (retE k x) := by
  obtain ⟨n, ns, rfl, hm, hk⟩ := h
  walk_at "w"
  refine compD_all2 _ _ _ (each_int (n * ·) ns) trivial (fun d e r k' hk' => ?_) (Lt.now hk)
  obtain ⟨m, hm', rfl, rfl⟩ := r
  exact ⟨hm m hm', hk'⟩
theorem hw__law_scaled (ds : List D) (M : MH) (k : KD) (x : KE) (hl : ds.length = 2) (h : sp__law_scaled ds M k x) : w__law_scaled (startD N__law_scaled ds) M (retE k x) := hw_scale ds M k x hl h
theorem hw_opposite (ds : List D) (M : MH) (k : KD) (x : KE) (hl : ds.length = 1) (h : sp_opposite ds M k x) : w_opposite (startD N_opposite ds) M (retE k x) := by
  obtain ⟨ns, rfl, hk⟩ := h
  walk_at "w"
  refine ⟨-1, ns, rfl, fun _ _ => mulOk_l (by decide) (by decide), ?_⟩
  have e : (ns.map fun x => -1 * x) = ns.map fun x => -x := by
    congr 1
    funext x
    omega
  rw [e]
  exact Lt.now hk
theorem hw__law_sum (ds : List D) (M : MH) (k : KD) (x : KE) (hl : ds.length = 2) (h : sp__law_sum ds M k x) : w__law_sum (startD N__law_sum ds) M (retE k x) := by
  obtain ⟨as, bs, rfl, hk⟩ := h
  walk_at "w"
  refine compD_all2 _ _ _ (zip_map2 (· + ·) as bs) trivial (fun d e r k' hk' => ?_) (Lt.now hk)
  obtain ⟨a, m, hm, rfl, rfl⟩ := r
  exact hk'
theorem hw__law_num (ds : List D) (M : MH) (k : KD) (x : KE) (hl : ds.length = 1) (h : sp__law_num ds M k x) : w__law_num (startD N__law_num ds) M (retE k x) := by
  obtain ⟨a, rfl, hB, hk⟩ := h
  walk_at "w"
  refine ⟨_, _, rfl, by decide, by decide, hB, fun v M1 v0 v1 hB1 hO1 => ?_⟩
  walk_at "w"
  cases h1 : decide (v < 4)
  · walk_at "w"
    cases h2 : decide (v < 6)
    · walk_at "w"
      refine ⟨⟨by decide, by decide, by decide⟩, ?_⟩
      walk_at "w"
      refine ⟨mulOk_l (by decide) (by decide), ?_⟩
      walk_at "w"
      refine ⟨_, _, rfl, by decide, by decide, hB1, fun u M2 u0 u1 hB2 hO2 => ?_⟩
      refine ⟨⟨by decide, by decide, by decide⟩, ?_⟩
      have e12 : (10 : Int) ^ (12 : Int).toNat = 10 ^ 12 := rfl
      rw [e12] at u1
      exact Lt.now (hk (u - 10 ^ 12) M2 (by omega) (by omega) hB2 (hO1.trans hO2))
    · walk_at "w"
      refine ⟨_, _, rfl, by decide, by decide, hB1, fun u M2 u0 u1 hB2 hO2 => ?_⟩
      exact Lt.now (hk (u - 9) M2 (by omega) (by omega) hB2 (hO1.trans hO2))
  · have h4 := of_decide_eq_true h1
    have hv : v = 0 ∨ v = 1 ∨ v = 2 ∨ v = 3 := by omega
    rcases hv with rfl | rfl | rfl | rfl
    · exact Lt.now (hk 0 M1 (by decide) (by decide) hB1 hO1)
    · exact Lt.now (hk 1 M1 (by decide) (by decide) hB1 hO1)
    · exact Lt.now (hk (-1) M1 (by decide) (by decide) hB1 hO1)
    · exact Lt.now (hk 2 M1 (by decide) (by decide) hB1 hO1)
theorem hw__law_big (ds : List D) (M : MH) (k : KD) (x : KE) (hl : ds.length = 1) (h : sp__law_big ds M k x) : w__law_big (startD N__law_big ds) M (retE k x) := by
  obtain ⟨a, rfl, hB, hk⟩ := h
  walk_at "w"
  refine ⟨_, _, rfl, by decide, by decide, hB, fun v M1 v0 v1 hB1 hO1 => ?_⟩
  walk_at "w"
  cases h0 : decide (v = 0)
  · have h0' := of_decide_eq_false h0
    walk_at "w"
    cases h1 : decide (v < 3)
    · have h1' := of_decide_eq_false h1
      walk_at "w"
      refine ⟨⟨by decide, by decide, by decide⟩, ?_⟩
      have hv : v = 3 ∨ v = 4 ∨ v = 5 := by omega
      rcases hv with rfl | rfl | rfl
      · walk_at "w"
        refine ⟨_, _, rfl, by decide, by decide, hB1, fun u M2 u0 u1 hB2 hO2 => ?_⟩
        exact Lt.now (hk (2 + u) M2 (by omega) (by omega) hB2 (hO1.trans hO2))
      · walk_at "w"
        refine ⟨_, _, rfl, by decide, by decide, hB1, fun u M2 u0 u1 hB2 hO2 => ?_⟩
        exact Lt.now (hk (2 + u) M2 (by omega) (by omega) hB2 (hO1.trans hO2))
      · walk_at "w"
        refine ⟨_, _, rfl, by decide, by decide, hB1, fun u M2 u0 u1 hB2 hO2 => ?_⟩
        have e9 : (10 : Int) ^ (9 : Int).toNat = 10 ^ 9 := rfl
        rw [e9] at u1
        exact Lt.now (hk (2 + u) M2 (by omega) (by omega) hB2 (hO1.trans hO2))
    · walk_at "w"
      refine ⟨⟨by decide, by decide, by decide⟩, ?_⟩
      walk_at "w"
      refine ⟨_, _, rfl, by decide, by decide, hB1, fun u M2 u0 u1 hB2 hO2 => ?_⟩
      have e30 : (10 : Int) ^ (30 : Int).toNat = 10 ^ 30 := rfl
      rw [e30] at u1
      exact Lt.now (hk (1 + u) M2 (by omega) (by omega) hB2 (hO1.trans hO2))
  · walk_at "w"
    refine ⟨⟨by decide, by decide, by decide⟩, ?_⟩
    exact Lt.now (hk (10 ^ 30) M1 (by decide) (by decide) hB1 hO1)
/-! ### what _law_same may be asked -/
structure Gd (n : Nat) (d : D) : Prop where
  p : plain d = true
  q : dep d ≤ n
structure GdL (n : Nat) (ds : List D) : Prop where
  p : plains ds = true
  q : deps ds ≤ n
theorem GdL.nil {n : Nat} : GdL n [] := ⟨rfl, Nat.zero_le _⟩
theorem GdL.cons {n : Nat} {d : D} {ds : List D} (h : Gd n d) (r : GdL n ds) : GdL n (d :: ds) := ⟨by show (plain d && plains ds) = true; rw [h.p, r.p]; rfl, by show max (dep d) (deps ds) ≤ n; have := h.q; have := r.q; omega⟩
theorem GdL.map {α : Type} {n : Nat} {f : α → D} (h : ∀ a, Gd n (f a)) (xs : List α) : GdL n (xs.map f) := ⟨plains_map f (fun a => (h a).p) xs, deps_map f (fun a => (h a).q) xs⟩
theorem GdL.mem {n : Nat} : ∀ {ds : List D}, (∀ d, d ∈ ds → Gd n d) → GdL n ds
  | [], _ => .nil
  | d :: ds, h => .cons (h d List.mem_cons_self) (GdL.mem fun e he => h e (List.mem_cons_of_mem _ he))
theorem GdL.app {n : Nat} : ∀ {ds es : List D}, GdL n ds → GdL n es → GdL n (ds ++ es)
  | [], _, _, h => h
  | d :: ds, es, h, h' => by
    have a : plain d = true ∧ plains ds = true := Bool.and_eq_true_iff.mp h.p
    have b : max (dep d) (deps ds) ≤ n := h.q
    exact .cons ⟨a.1, by omega⟩ (GdL.app ⟨a.2, by omega⟩ h')
theorem Gd.lst {n : Nat} {ds : List D} (h : GdL n ds) : Gd (n + 1) (.lst ds) := ⟨h.p, Nat.succ_le_succ h.q⟩
theorem Gd.tup {n : Nat} {ds : List D} (h : GdL n ds) : Gd (n + 1) (.tup ds) := ⟨h.p, Nat.succ_le_succ h.q⟩
theorem Gd.int {n : Nat} {i : Int} : Gd n (.int i) := ⟨rfl, Nat.zero_le _⟩
theorem Gd.bl {n : Nat} {i : Bool} : Gd n (.bl i) := ⟨rfl, Nat.zero_le _⟩
theorem Gd.str {n : Nat} {i : Str} : Gd n (.str i) := ⟨rfl, Nat.zero_le _⟩
theorem Gd.non {n : Nat} : Gd n .non := ⟨rfl, Nat.zero_le _⟩
theorem Gd.tI {n : Nat} {ns : List Int} : Gd (n + 1) (tI ns) := .tup (.map (fun _ => .int) ns)
theorem same_ex {a b : D} {n : Nat} {P : Prop} (e : a = b) (g : Gd n b) (h : P) : ∃ d, [a, b] = [d, d] ∧ plain d = true ∧ dep d ≤ n ∧ P := ⟨b, by rw [e], g.p, g.q, h⟩
theorem neg1_map (ns : List Int) : (ns.map fun x => -1 * x) = ns.map fun x => -x := by
  congr 1
  funext x
  omega
end DL

namespace DL
open PySem PySem.Spec PyProof.Rows L2
/-! ### x in xs: flat items; a text in a text -/
def flatD : D → Bool
  | .non => true | .bl _ => true | .int _ => true | .str _ => true
  | _ => false
def fV : D → V
  | .bl b => .bl b | .int i => .int i | .str x => .str x
  | _ => .non
theorem fV_of {K : PySem.W.Frag} {F : Hp} {v : V} {d : D} (r : Rep K F v d) (h : flatD d = true) : v = fV d ∧ flatV v = true := by
  cases d <;> first | (cases h; done) | (cases r; exact ⟨rfl, rfl⟩)
theorem fVs_of {K : PySem.W.Frag} {F : Hp} : ∀ {vs : List V} {ds : List D}, Reps K F vs ds → ds.all flatD = true → vs = ds.map fV ∧ vs.all flatV = true
  | _, _, .nil, _ => ⟨rfl, rfl⟩
  | _, _, .cons r rs, h => by
    rw [List.all_cons, Bool.and_eq_true] at h
    obtain ⟨a, b⟩ := fV_of r h.1
    obtain ⟨c, d⟩ := fVs_of rs h.2
    exact ⟨by rw [a, c]; rfl, by rw [List.all_cons, b, d]; rfl⟩
def inD (d : D) (ds : List D) : Bool := inV (fV d) (ds.map fV)
def occS (i j : Str) : Bool := !(Builtin.Str.occurrences j i 0 j.length 1).isEmpty
def rInB (g : Bool → Bool) : RD := fun d e M k => match e with
  | .lst ds => gd (flatD d && ds.all flatD) (k (.bl (g (inD d ds))) M)
  | .tup ds => gd (flatD d && ds.all flatD) (k (.bl (g (inD d ds))) M)
  | .ref a => ∃ ds, M a = some (.lst ds) ∧ gd (flatD d && ds.all flatD) (k (.bl (g (inD d ds))) M)
  | .str j => match d with
    | .str i => k (.bl (g (occS i j))) M
    | _ => False
  | _ => False
def rIn : RD := rInB (fun b => b)
def rNotIn : RD := rInB (fun b => !b)
section
variable {X : Cx}
theorem in_seq {K : PySem.W.Frag} {F H : Hp} {M : MH} (S : RepS K H F M) {g : Bool → Bool} {d e : D} {v u : V} {k : KD} (rd : Rep K F v d) (re : Rep K F u e) (h : rInB g d e M k) :
    (∃ p xs, u = .ref p ∧ (SqL K H p xs ∨ SqT K H p xs) ∧ flatV v = true ∧ xs.all flatV = true ∧ k (.bl (g (inV v xs))) M) ∨ ∃ i j, v = .str i ∧ u = .str j ∧ k (.bl (g (occS i j))) M := by
  cases e with
  | lst ds =>
    obtain ⟨h1, h2⟩ := gd_of h
    rw [Bool.and_eq_true] at h1
    cases re with
    | lst hq hr hl =>
    obtain ⟨a, b⟩ := fV_of rd h1.1
    obtain ⟨c, f⟩ := fVs_of hr h1.2
    exact .inl ⟨_, _, rfl, .inl (SqL.of (S.fz _ _ hq)), b, f, by rw [a, c]; exact h2⟩
  | tup ds =>
    obtain ⟨h1, h2⟩ := gd_of h
    rw [Bool.and_eq_true] at h1
    cases re with
    | tup hq hr hl =>
    obtain ⟨a, b⟩ := fV_of rd h1.1
    obtain ⟨c, f⟩ := fVs_of hr h1.2
    exact .inl ⟨_, _, rfl, .inr (seqT S.fz hq), b, f, by rw [a, c]; exact h2⟩
  | ref q =>
    obtain ⟨ds, hm, h⟩ := h
    obtain ⟨h1, h2⟩ := gd_of h
    rw [Bool.and_eq_true] at h1
    cases re
    obtain ⟨_, _, xs, hx, hr⟩ := S.mlst hm
    obtain ⟨a, b⟩ := fV_of rd h1.1
    obtain ⟨c, f⟩ := fVs_of hr h1.2
    exact .inl ⟨_, _, rfl, .inl (SqL.of hx), b, f, by rw [a, c]; exact h2⟩
  | str j =>
    cases d with
    | str i => cases rd; cases re; exact .inr ⟨_, _, rfl, rfl, h⟩
    | _ => exact h.elim
  | _ => exact h.elim
theorem od_in : OpD X (compareOp .In) rIn := by
  refine ⟨_, op_in_seq.or op_in_str, fun d e v u H F M k Q S rd re h pv => ?_⟩
  rcases in_seq S rd re h with ⟨p, xs, rfl, h1, h2, h3, h4⟩ | ⟨i, j, rfl, rfl, h4⟩
  · exact .inl ⟨p, xs, rfl, h1, h2, h3, pv.at S (.bl _) h4⟩
  · exact .inr ⟨i, j, rfl, rfl, pv.at S (.bl _) h4⟩
theorem od_notIn : OpD X (compareOp .NotIn) rNotIn := by
  refine ⟨_, op_notIn_seq.or op_notIn_str, fun d e v u H F M k Q S rd re h pv => ?_⟩
  rcases in_seq S rd re h with ⟨p, xs, rfl, h1, h2, h3, h4⟩ | ⟨i, j, rfl, rfl, h4⟩
  · exact .inl ⟨p, xs, rfl, h1, h2, h3, pv.at S (.bl _) h4⟩
  · exact .inr ⟨i, j, rfl, rfl, pv.at S (.bl _) h4⟩
end
theorem inD_strs (x : Str) (xs : List Str) : inD (.str x) (xs.map .str) = decide (x ∈ xs) := by
  unfold inD
  induction xs with
  | nil => rfl
  | cons y ys ih =>
    have e : inV (V.str x) ((y :: ys).map (fun z => fV (.str z))) = ((y == x) || inV (V.str x) (ys.map (fun z => fV (.str z)))) := rfl
    rw [List.map_map] at ih ⊢
    show inV (V.str x) ((y :: ys).map (fun z => fV (.str z))) = _
    have ih' : inV (V.str x) (ys.map (fun z => fV (.str z))) = decide (x ∈ ys) := ih
    rw [e, ih', Bool.eq_iff_iff]
    simp only [Bool.or_eq_true, beq_iff_eq, decide_eq_true_eq, List.mem_cons]
    exact or_congr eq_comm Iff.rfl
theorem flat_strs : ∀ xs : List Str, (xs.map D.str).all flatD = true
  | [] => rfl
  | _ :: xs => flat_strs xs
theorem occ_sign (c : Nat) (z : Str) : occS ⟨#[c]⟩ z = decide (c ∈ z.cps.toList) := PySem.StrLaws.found_one z c
/-! ### sep.join(xs) -/
def strsOf : List D → Option (List Str)
  | [] => some []
  | .str i :: r => (strsOf r).map (i :: ·)
  | _ => none
theorem strsOf_eq : ∀ {ds : List D} {ns : List Str}, strsOf ds = some ns → ds = ns.map .str
  | [], ns, h => by cases h; rfl
  | .str i :: r, ns, h => by
    obtain ⟨ms, h1, rfl⟩ := Option.map_eq_some_iff.mp (show (strsOf r).map (i :: ·) = some ns from h)
    rw [strsOf_eq h1]
    rfl
theorem strsOf_map : ∀ ns : List Str, strsOf (ns.map .str) = some ns
  | [] => rfl
  | n :: ns => by show (strsOf (ns.map .str)).map (n :: ·) = _; rw [strsOf_map ns]; rfl
def onStr (d : D) (p : Str → Prop) : Prop := match d with
  | .str z => p z
  | _ => False
def wJoin (wo we : WE) : WE := fun ρ M k x => wo ρ M (fun o M1 => onStr o fun a => we ρ M1 (fun d M2 => onSeq d fun es => onO (strsOf es) fun ys => (ys.map (·.length)).sum + ys.length * a.length ≤ 16777216 ∧ k (.str (Txt.join a ys)) M2) x) x
theorem de_join {X : Cx} {o e : Expr} {wo we : WE} {apos pos : Pos} (ho : DE X o wo) (he : DE X e we) (hs : starEach [e] X.env = [(false, eval e X.env)] := by rfl) (hbase : attributeBase o "join" X.env (eval o X.env) = eval o X.env := by rfl) (hline : (apos.endLine == pos.line) = true := by rfl) :
    DE X (.Call (.Attribute o "join" apos) [e] [] pos) (wJoin wo we) := by
  refine ⟨fun W tk => pe_imp (pe_join (ho.pe W tk) (he.pe W tk) hs hbase hline) fun σ H Q q => ?_⟩
  obtain ⟨F, M, ρ, k, x, S, R, w, pv, px⟩ := q
  refine ⟨F, M, ρ, _, x, S, R, w, fun v d H1 F1 M1 e1 S1 r1 w1 => ?_, px⟩
  cases d with
  | str a =>
    cases r1
    refine ⟨⟨a, rfl⟩, F1, M1, ρ, _, x, S1, R.mono e1.sm, w1, fun u e H2 F2 M2 e2 S2 r2 w2 => ?_, px.on e1⟩
    obtain ⟨p, xs, ds, rfl, hq, hr, hl, w3⟩ := seq_of r2 w2
    obtain ⟨ys, h1, h2, w4⟩ := onO_of w3
    rw [strsOf_eq h1] at hr
    have e := hr.strs
    subst e
    exact ⟨a, p, ys, rfl, rfl, hq.symm.imp S2.fz.seq (seqT S2.fz), h2, pv _ _ _ _ _ (e1.trans e2) S2 (.str _) w4⟩
  | _ => exact w1.elim
end DL

namespace DL
open PySem PySem.Spec PyProof.Rows L2
local macro_rules | `(tactic| walk_at "w") => `(tactic| try conv => whnf)
/-! ### code blocks -/
inductive Cd where
  | go (v : List Int) | put (n : Int) | ref (u : Bool) (nm : Str) | rep (t : Int) (b : List Cd)
mutual
def toD : Cd → D
  | .go v => .tup [.str "go", tI v]
  | .put n => .tup [.str "put", .int n]
  | .ref true nm => .tup [.str "undo", .str nm]
  | .ref false nm => .tup [.str "do", .str nm]
  | .rep t b => .tup [.str "repeat", .int t, .tup (toDs b)]
def toDs : List Cd → List D
  | [] => []
  | c :: r => toD c :: toDs r
end
theorem toDs_map : ∀ cs : List Cd, toDs cs = cs.map toD
  | [] => rfl
  | c :: r => by show toD c :: toDs r = _; rw [toDs_map r]; rfl
abbrev tB (cs : List Cd) : D := .tup (toDs cs)
/-- a name as the laws make them -/
def IsLab (z : Str) : Prop := 1 ≤ z.length ∧ z.length ≤ 8 ∧ ∀ c, c ∈ z.cps.toList → 97 ≤ c ∧ c ≤ 122
/-- code of depth n -/
inductive OkC (W : Nat) (N : List Str) (L : Nat) : Nat → Cd → Prop
  | go {n : Nat} {v : List Int} : v.length = W → Bd 4 v → OkC W N L n (.go v)
  | put {n : Nat} {i : Int} : -(10 ^ 12) ≤ i → i ≤ 10 ^ 12 → OkC W N L n (.put i)
  | ref {n : Nat} {u : Bool} {nm : Str} : nm ∈ N → OkC W N L n (.ref u nm)
  | rep {n : Nat} {t : Int} {b : List Cd} : -3 ≤ t → t ≤ 4 → b.length ≤ L → (∀ c, c ∈ b → OkC W N L n c) → OkC W N L (n + 1) (.rep t b)
def sp__law_arrow : WF := fun ds M k _ => ∃ a n, ds = [.ref a, .int n] ∧ 0 ≤ n ∧ n ≤ 1000 ∧ BoxAt M a ∧ ∀ v M', (v.length : Int) = n → Bd 4 v → BoxAt M' a → Off a M M' → k (tI v) M'
def sp__law_label : WF := fun ds M k _ => ∃ a, ds = [.ref a] ∧ BoxAt M a ∧ ∀ z M', IsLab z → BoxAt M' a → Off a M M' → k (.str z) M'
abbrev lS (xs : List Str) : D := .lst (xs.map .str)
def sp__law_labels : WF := fun ds M k _ => ∃ a n, ds = [.ref a, .int n] ∧ 0 ≤ n ∧ n ≤ 12 ∧ BoxAt M a ∧ ∀ xs M', (xs.length : Int) ≤ n → (0 < n → xs ≠ []) → xs.Nodup → (∀ z, z ∈ xs → IsLab z) → BoxAt M' a → Off a M M' → k (lS xs) M'
def CodeIn (n : Nat) (ds : List D) (M : MH) (p : Addr → Nat → List Str → Nat → Prop) : Prop := ∃ (a : Addr) (W : Nat) (N : List Str) (d L : Nat), ds = [.ref a, .int W, lS N, .int d, .int L] ∧ W ≤ 1000 ∧ N.length ≤ 4096 ∧ (∀ z, z ∈ N → PyData.strOk z = true) ∧ d ≤ n ∧ L ≤ 100 ∧ BoxAt M a ∧ p a W N L
def sp__law_code (n : Nat) : WF := fun ds M k _ => ∃ (a : Addr) (W : Nat) (N : List Str) (d L : Nat), ds = [.ref a, .int W, lS N, .int d, .int L] ∧ W ≤ 1000 ∧ N.length ≤ 4096 ∧ (∀ z, z ∈ N → PyData.strOk z = true) ∧ d ≤ n ∧ L ≤ 100 ∧ BoxAt M a ∧
  ∀ cs M', cs.length ≤ L → (∀ c, c ∈ cs → OkC W N L d c) → BoxAt M' a → Off a M M' → k (tB cs) M'
def sp__law_statement (n : Nat) : WF := fun ds M k _ => ∃ (a : Addr) (W : Nat) (N : List Str) (d L : Nat), ds = [.ref a, .int W, lS N, .int d, .int L] ∧ W ≤ 1000 ∧ N.length ≤ 4096 ∧ (∀ z, z ∈ N → PyData.strOk z = true) ∧ d ≤ n ∧ L ≤ 100 ∧ BoxAt M a ∧
  ∀ c M', OkC W N L d c → BoxAt M' a → Off a M M' → k (toD c) M'
def N__law_arrow : List Str := ["_law_box", "_law_ways", "_law_wide", "_law_k"]
def w__law_arrow : WS := (wSeq (wSet 2 (wIx (wLst (wCons (wC (.int 3)) (wCons (wC (.int 3)) (wCons (wC (.int 5)) (wCons (wC (.int 9)) wNil))))) (wCall sp__law_draw 2 (wCons (wVar 0) (wCons (wC (.int 4)) wNil)))))
  (wRet (wCB rTuple (wCons (wLc (wiR1 (wVar 1)) (wgN 3) wYes (wOp rSub (wCall sp__law_draw 2 (wCons (wVar 0) (wCons (wVar 2) wNil))) (wOp rFdiv (wVar 2) (wC (.int 2)))) [3]) wNil))))
def N__law_label : List Str := ["_law_box", "_law_k"]
def w__law_label : WS := (wRet (wJoin (wC (.str "")) (wLc (wiR1 (wOp rAdd (wC (.int 1)) (wCall sp__law_draw 2 (wCons (wVar 0) (wCons (wC (.int 8)) wNil))))) (wgN 1) wYes (wCall sp__law_any 2 (wCons (wVar 0) (wCons (wC (.str "abcdefghijklmnopqrstuvwxyz")) wNil))) [1])))
def N__law_labels : List Str := ["_law_box", "_law_many", "_law_found", "_law_k", "_law_name", "_law_spare"]
def w__law_labels : WS := (wSeq (wSet 2 (wLstM wNil))
  (wSeq (wFor (wiR1 (wVar 1)) (wgN 3) (wSeq (wSet 4 (wCall sp__law_label 1 (wCons (wVar 0) wNil)))
  (wSeq (wSet 5 (wOp rMul (wIx (wC (.str "abcdefghijkl")) (wVar 3)) (wC (.int 8))))
  (wIfS (wTest (wOp rNotIn (wVar 4) (wVar 2))) (wDrop (wApp (wVar 2) (wVar 4))) (wIfS (wTest (wOp rNotIn (wVar 5) (wVar 2))) (wDrop (wApp (wVar 2) (wVar 5))) wNext)))))
  (wRet (wVar 2))))
def N__law_statement : List Str := ["_law_box", "_law_ways", "_law_names", "_law_deep", "_law_most", "_law_pick", "_law_times"]
def w__law_statement (sr__law_code : WF) : WS := (wSeq (wSet 5 (wCall sp__law_draw 2 (wCons (wVar 0) (wCons (wC (.int 10)) wNil))))
  (wSeq (wIfS (wAnd (wTest (wOp rLt (wVar 5) (wC (.int 2)))) (wTest (wOp rGt (wVar 3) (wC (.int 0))))) (wSeq (wSet 6 (wIx (wLst (wCons (wC (.int 0)) (wCons (wC (.int 1)) (wCons (wC (.int 2)) (wCons (wC (.int 3)) (wCons (wUn rNeg (wC (.int 1))) (wCons (wUn rNeg (wC (.int 2))) (wCons (wUn rNeg (wC (.int 3))) (wCons (wC (.int 4)) wNil))))))))) (wCall sp__law_draw 2 (wCons (wVar 0) (wCons (wC (.int 8)) wNil)))))
  (wRet (wTup (wCons (wC (.str "repeat")) (wCons (wVar 6) (wCons (wCall sr__law_code 5 (wCons (wVar 0) (wCons (wVar 1) (wCons (wVar 2) (wCons (wOp rSub (wVar 3) (wC (.int 1))) (wCons (wVar 4) wNil)))))) wNil)))))) wNext)
  (wSeq (wIfS (wAnd (wTest (wOp rLt (wVar 5) (wC (.int 4)))) (wTest (wOp rNe (wVar 2) (wLst wNil)))) (wRet (wTup (wCons (wIx (wLst (wCons (wC (.str "do")) (wCons (wC (.str "undo")) wNil))) (wOp rSub (wVar 5) (wC (.int 2)))) (wCons (wCall sp__law_any 2 (wCons (wVar 0) (wCons (wVar 2) wNil))) wNil)))) wNext)
  (wSeq (wIfS (wTest (wOp rLt (wVar 5) (wC (.int 7)))) (wRet (wTup (wCons (wC (.str "go")) (wCons (wCall sp__law_arrow 2 (wCons (wVar 0) (wCons (wVar 1) wNil))) wNil)))) wNext)
  (wRet (wTup (wCons (wC (.str "put")) (wCons (wCall sp__law_num 1 (wCons (wVar 0) wNil)) wNil))))))))
def N__law_code : List Str := ["_law_box", "_law_ways", "_law_names", "_law_deep", "_law_most", "_law_k"]
def w__law_code (sr__law_statement : WF) : WS := (wRet (wCB rTuple (wCons (wLc (wiR1 (wCall sp__law_draw 2 (wCons (wVar 0) (wCons (wOp rAdd (wVar 4) (wC (.int 1))) wNil)))) (wgN 5) wYes (wCall sr__law_statement 5 (wCons (wVar 0) (wCons (wVar 1) (wCons (wVar 2) (wCons (wVar 3) (wCons (wVar 4) wNil)))))) [5]) wNil)))
def N_names_in : List Str := ["block", "found", "statement", "names", "name"]
def w_names_in (sr : WF) : WS := (wSeq (wSet 1 (wLstM wNil))
  (wSeq (wFor (wiSeq (wVar 0)) (wgN 2) (wSeq (wSet 3 (wLst wNil))
  (wSeq (wIfS (wTest (wOp rEq (wIx (wVar 2) (wC (.int 0))) (wC (.str "repeat")))) (wSet 3 (wCall sr 1 (wCons (wIx (wVar 2) (wC (.int 2))) wNil))) (wIfS (wTest (wOp rIn (wIx (wVar 2) (wC (.int 0))) (wTup (wCons (wC (.str "do")) (wCons (wC (.str "undo")) wNil))))) (wSet 3 (wLst (wCons (wIx (wVar 2) (wC (.int 1))) wNil))) wNext))
  (wFor (wiSeq (wVar 3)) (wgN 4) (wIfS (wTest (wOp rNotIn (wVar 4) (wVar 1))) (wDrop (wApp (wVar 1) (wVar 4))) wNext)))))
  (wRet (wVar 1))))
def N_renamed : List Str := ["block", "old", "new", "result", "statement"]
def w_renamed (sr : WF) : WS := (wSeq (wSet 3 (wLstM wNil))
  (wSeq (wFor (wiSeq (wVar 0)) (wgN 4) (wIfS (wTest (wOp rEq (wIx (wVar 4) (wC (.int 0))) (wC (.str "repeat")))) (wDrop (wApp (wVar 3) (wTup (wCons (wC (.str "repeat")) (wCons (wIx (wVar 4) (wC (.int 1))) (wCons (wCall sr 3 (wCons (wIx (wVar 4) (wC (.int 2))) (wCons (wVar 1) (wCons (wVar 2) wNil)))) wNil)))))) (wIfS (wAnd (wTest (wOp rIn (wIx (wVar 4) (wC (.int 0))) (wTup (wCons (wC (.str "do")) (wCons (wC (.str "undo")) wNil))))) (wTest (wOp rEq (wIx (wVar 4) (wC (.int 1))) (wVar 1)))) (wDrop (wApp (wVar 3) (wTup (wCons (wIx (wVar 4) (wC (.int 0))) (wCons (wVar 2) wNil))))) (wDrop (wApp (wVar 3) (wVar 4))))))
  (wFrz 3 (wRet (wCB rTuple (wCons (wVar 3) wNil))))))
def N__law_all_names : List Str := ["_law_block", "_law_found", "_law_one", "_law_inner"]
def w__law_all_names (sr : WF) : WS := (wSeq (wSet 1 (wLst wNil))
  (wSeq (wFor (wiSeq (wVar 0)) (wgN 2) (wSeq (wSet 3 (wOp rMul (wLst (wCons (wIx (wVar 2) (wC (.int 1))) wNil)) (wCB rInt1 (wCons (wOp rIn (wIx (wVar 2) (wC (.int 0))) (wTup (wCons (wC (.str "do")) (wCons (wC (.str "undo")) wNil)))) wNil))))
  (wSet 1 (wOp rAdd (wVar 1) (wIf (wTest (wOp rEq (wIx (wVar 2) (wC (.int 0))) (wC (.str "repeat")))) (wCall sr 1 (wCons (wIx (wVar 2) (wC (.int 2))) wNil)) (wVar 3))))))
  (wRet (wVar 1))))
def N__law_swapped : List Str := ["_law_block", "_law_old", "_law_new", "_law_found", "_law_one"]
def w__law_swapped (sr : WF) : WS := (wSeq (wSet 3 (wLstM wNil))
  (wSeq (wFor (wiSeq (wVar 0)) (wgN 4) (wIfS (wTest (wOp rEq (wIx (wVar 4) (wC (.int 0))) (wC (.str "repeat")))) (wDrop (wApp (wVar 3) (wTup (wCons (wC (.str "repeat")) (wCons (wIx (wVar 4) (wC (.int 1))) (wCons (wCall sr 3 (wCons (wIx (wVar 4) (wC (.int 2))) (wCons (wVar 1) (wCons (wVar 2) wNil)))) wNil)))))) (wDrop (wApp (wVar 3) (wIf (wAnd (wTest (wOp rIn (wIx (wVar 4) (wC (.int 0))) (wTup (wCons (wC (.str "do")) (wCons (wC (.str "undo")) wNil))))) (wTest (wOp rEq (wIx (wVar 4) (wC (.int 1))) (wVar 1)))) (wTup (wCons (wIx (wVar 4) (wC (.int 0))) (wCons (wVar 2) wNil))) (wVar 4))))))
  (wFrz 3 (wRet (wCB rTuple (wCons (wVar 3) wNil))))))
theorem hw__law_arrow (ds : List D) (M : MH) (k : KD) (x : KE) (hl : ds.length = 2) (h : sp__law_arrow ds M k x) : w__law_arrow (startD N__law_arrow ds) M (retE k x) := by
  obtain ⟨a, n, rfl, h0, h1, hB, hk⟩ := h
  walk_at "w"
  refine ⟨_, _, rfl, by decide, by decide, hB, fun v M1 v0 v1 hB1 hO1 => ?_⟩
  have hv : v = 0 ∨ v = 1 ∨ v = 2 ∨ v = 3 := by omega
  -- the rest, at each width
  have rest : ∀ (wd : Int) , 3 ≤ wd → wd ≤ 9 → wd.natAbs.log2 < 9000 → (∀ u : Int, 0 ≤ u → u < wd → -4 ≤ u - wd.fdiv 2 ∧ u - wd.fdiv 2 ≤ 4) → wRet (wCB rTuple (wCons (wLc (wiR1 (wVar 1)) (wgN 3) wYes (wOp rSub (wCall sp__law_draw 2 (wCons (wVar 0) (wCons (wVar 2) wNil))) (wOp rFdiv (wVar 2) (wC (.int 2)))) [3]) wNil))
      [some (.ref a), some (.int n), some (.int wd), none] M1 (retE k x) := by
    intro wd w3 w9 wl hw
    walk_at "w"
    refine ⟨by omega, by omega, ?_⟩
    refine compD_draw (fun M' => BoxAt M' a ∧ Off a M M') (fun d e => ∃ i, e = .int i ∧ -4 ≤ i ∧ i ≤ 4) (fun _ _ => trivial) _ ⟨hB1, hO1⟩ (fun d hd M' k' hI hk' => ?_) (fun es M' hA hI => ?_)
    · walk_at "w"
      refine ⟨_, _, rfl, by omega, wl, hI.1, fun u M2 u0 u1 hB2 hO2 => ?_⟩
      walk_at "w"
      refine ⟨⟨by decide, by decide⟩, ?_⟩
      exact hk' _ _ ⟨_, rfl, (hw u u0 u1).1, (hw u u0 u1).2⟩ ⟨hB2, hI.2.trans hO2⟩
    · obtain ⟨ns, rfl, hl, hb⟩ := ints_bd (fun _ _ h => h) hA
      rw [intsFrom_len] at hl
      exact Lt.now (hk ns _ (by omega) hb hI.1 hI.2)
  rcases hv with rfl | rfl | rfl | rfl
  · exact rest 3 (by decide) (by decide) (by decide) (fun u h0 h1 => by rw [show (3 : Int).fdiv 2 = 1 from rfl]; omega)
  · exact rest 3 (by decide) (by decide) (by decide) (fun u h0 h1 => by rw [show (3 : Int).fdiv 2 = 1 from rfl]; omega)
  · exact rest 5 (by decide) (by decide) (by decide) (fun u h0 h1 => by rw [show (5 : Int).fdiv 2 = 2 from rfl]; omega)
  · exact rest 9 (by decide) (by decide) (by decide) (fun u h0 h1 => by rw [show (9 : Int).fdiv 2 = 4 from rfl]; omega)
theorem joinL_nil : ∀ ps : List (List Nat), TL.joinL [] ps = ps.flatten
  | [] => rfl
  | [p] => by simp [TL.joinL]
  | p :: q :: r => by
    show p ++ ([] ++ TL.joinL [] (q :: r)) = _
    rw [joinL_nil (q :: r)]
    rfl
theorem flat_one (cs : List Nat) : (cs.map fun c => [c]).flatten = cs := by
  induction cs with
  | nil => rfl
  | cons c r ih => rw [List.map_cons, List.flatten_cons, ih]; rfl
theorem join_signs (cs : List Nat) : (Txt.join (Str.ofString "") (cs.map fun c => (⟨#[c]⟩ : Str))).cps.toList = cs := by
  show TL.tl (Txt.join (Str.ofString "") _) = cs
  unfold Txt.join
  rw [StrLaws.glued_eq_join, TL.tl_join]
  have e : TL.tl (Str.ofString "") = [] := by decide +kernel
  rw [e, joinL_nil, List.map_map]
  exact flat_one cs
theorem sum_ones (cs : List Nat) : ((cs.map fun c => (⟨#[c]⟩ : Str)).map (·.length)).sum = cs.length := by
  induction cs with
  | nil => rfl
  | cons c r ih => rw [List.map_cons, List.map_cons, List.sum_cons, ih, List.length_cons]; show 1 + _ = _; omega
theorem strsOf_signs (cs : List Nat) : strsOf (cs.map fun c => D.str ⟨#[c]⟩) = some (cs.map fun c => (⟨#[c]⟩ : Str)) := by
  have := strsOf_map (cs.map fun c => (⟨#[c]⟩ : Str))
  rw [List.map_map] at this
  exact this
theorem signs_of {R : D → D → Prop} {P : Nat → Prop} (h : ∀ d e, R d e → ∃ c, e = .str ⟨#[c]⟩ ∧ P c) : ∀ {ds es : List D}, All2 R ds es → ∃ cs : List Nat, es = cs.map (fun c => .str ⟨#[c]⟩) ∧ cs.length = ds.length ∧ ∀ c, c ∈ cs → P c
  | _, _, .nil => ⟨[], rfl, rfl, fun _ h => nomatch h⟩
  | _, _, .cons r rs => by
    obtain ⟨i, rfl, hi⟩ := h _ _ r
    obtain ⟨ns, rfl, hl, hn⟩ := signs_of h rs
    exact ⟨i :: ns, rfl, congrArg (· + 1) hl, fun n hm => by
      rcases List.mem_cons.mp hm with e | e
      · subst e; exact hi
      · exact hn n e⟩
theorem hw__law_label (ds : List D) (M : MH) (k : KD) (x : KE) (hl : ds.length = 1) (h : sp__law_label ds M k x) : w__law_label (startD N__law_label ds) M (retE k x) := by
  obtain ⟨a, rfl, hB, hk⟩ := h
  walk_at "w"
  refine ⟨_, _, rfl, by decide, by decide, hB, fun v M1 v0 v1 hB1 hO1 => ?_⟩
  refine ⟨by omega, by omega, ?_⟩
  refine compD_draw (fun M' => BoxAt M' a ∧ Off a M M') (fun d e => ∃ c, e = .str ⟨#[c]⟩ ∧ 97 ≤ c ∧ c ≤ 122) (fun _ _ => trivial) _ ⟨hB1, hO1⟩ (fun d hd M' k' hI hk' => ?_) (fun es M' hA hI => ?_)
  · walk_at "w"
    refine ⟨_, _, _, rfl, rfl, by decide, by decide, hI.1, fun d M2 hd hB2 hO2 => ?_⟩
    obtain ⟨c, hc, rfl⟩ := List.mem_map.mp hd
    have hr : 97 ≤ c ∧ c ≤ 122 := (by decide +kernel : ∀ c, c ∈ (Str.ofString "abcdefghijklmnopqrstuvwxyz").cps.toList → 97 ≤ c ∧ c ≤ 122) c hc
    exact hk' _ _ ⟨c, rfl, hr⟩ ⟨hB2, hI.2.trans hO2⟩
  · obtain ⟨cs, rfl, hl, hc⟩ := signs_of (P := fun c => 97 ≤ c ∧ c ≤ 122) (fun _ _ h => h) hA
    rw [intsFrom_len] at hl
    walk_at "w"
    rw [strsOf_signs]
    refine ⟨by rw [sum_ones, List.length_map, show (Str.ofString "").length = 0 from by decide +kernel]; omega, ?_⟩
    have hj := join_signs cs
    refine Lt.now (hk _ _ ⟨?_, ?_, fun c hm => hc c (by rw [← hj]; exact hm)⟩ hI.1 hI.2)
    · show 1 ≤ (Txt.join (Str.ofString "") _).cps.size
      rw [← Array.length_toList, hj]
      omega
    · show (Txt.join (Str.ofString "") _).cps.size ≤ 8
      rw [← Array.length_toList, hj]
      omega
theorem sub_mdel (M : MH) (b : Addr) : Sub (mdel M b) M := fun c o q => by
  have hb : c ≠ b := fun e => by rw [e, mdel_same] at q; cases q
  rw [mdel_ne hb] at q
  exact q
/-- a list that was filled is handed back -/
theorem Lt.list {k : KD} {b : Addr} {ds : List D} {M : MH} (h1 : M b = some (.lst ds)) (h : k (.lst ds) (mdel M b)) : Lt k (.ref b) M := Lt.frz (sub_mdel M b) h1 mdel_same h
theorem IsLab.ok {z : Str} (h : IsLab z) : PyData.strOk z = true := by
  show z.cps.all (· < 0x110000) = true
  rw [Array.all_eq_true']
  intro c hc
  have := h.2.2 c (Array.mem_toList_iff.mpr hc)
  exact decide_eq_true (by omega)
theorem lab_spare {c : Nat} (h : 97 ≤ c ∧ c ≤ 122) : IsLab (strRep ⟨#[c]⟩ 8) := by
  have hl : (strRep ⟨#[c]⟩ 8).length = 8 := by rw [strRep_len]; rfl
  refine ⟨by omega, by omega, fun e he => ?_⟩
  rw [strRep_list] at he
  obtain ⟨l, h1, h2⟩ := List.mem_flatten.mp he
  have := (List.mem_replicate.mp h1).2
  subst this
  have : e = c := by simpa using h2
  omega
theorem intsFrom_nil {j : Int} {n : Nat} {d : D} {r : List D} (h : d :: r = intsFrom j n) : ∃ m, n = m + 1 ∧ d = .int j ∧ r = intsFrom (j + 1) m := by
  cases n with
  | zero => cases h
  | succ m => cases h; exact ⟨m, rfl, rfl, rfl⟩
theorem hw__law_labels (ds : List D) (M : MH) (k : KD) (x : KE) (hl : ds.length = 2) (h : sp__law_labels ds M k x) : w__law_labels (startD N__law_labels ds) M (retE k x) := by
  obtain ⟨a, n, rfl, h0, h1, hB, hk⟩ := h
  walk_at "w"
  intro b hb
  have hba := hB.ne hb
  walk_at "w"
  refine ⟨by omega, by omega, ?_⟩
  refine forD_inv (fun ds ρ M' => BoxAt M' a ∧ Off2 a b M M' ∧ ∃ (j : Nat) (xs : List Str), ds = intsFrom (j : Int) (n.toNat - j) ∧ j ≤ n.toNat ∧ xs.length ≤ j ∧ (0 < j → xs ≠ []) ∧ xs.Nodup ∧ (∀ z, z ∈ xs → IsLab z) ∧ M' b = some (.lst (xs.map .str)) ∧
    ∃ o3 o4 o5, ρ = [some (.ref a), some (.int n), some (.ref b), o3, o4, o5]) (fun _ _ _ _ => trivial) (fun ρ M' hI => ?_) (fun d r ρ M' nx hI hn => ?_) _ _ _
    ⟨hB.upd hba _, (Off2.updb (fun _ _ _ => rfl) _), 0, [], rfl, Nat.zero_le _, Nat.zero_le _, fun h => absurd h (Nat.lt_irrefl _), List.nodup_nil, fun _ h => (nomatch h), mupd_same, _, _, _, rfl⟩
  · obtain ⟨hB1, hO1, j, xs, hd, hj, hxl, hx0, hnd, hxs, hM, o3, o4, o5, rfl⟩ := hI
    have hj' : n.toNat - j = 0 := by
      have := congrArg List.length hd
      rw [intsFrom_len] at this
      exact this.symm
    walk_at "w"
    exact Lt.list hM (hk xs _ (by omega) (fun h => hx0 (by omega)) hnd hxs (hB1.del hba) (hO1.frz hb))
  · obtain ⟨hB1, hO1, j, xs, hd, hj, hxl, hx0, hnd, hxs, hM, o3, o4, o5, rfl⟩ := hI
    obtain ⟨m, hm, rfl, rfl⟩ := intsFrom_nil hd
    have hr : intsFrom ((j : Int) + 1) m = intsFrom ((j + 1 : Nat) : Int) (n.toNat - (j + 1)) := by
      rw [show n.toNat - (j + 1) = m by omega]
      rfl
    walk_at "w"
    refine ⟨a, rfl, hB1, fun z M2 hz hB2 hO2 => ?_⟩
    have hM2 := (hO2 b hba).trans hM
    have hO12 := hO1.on hO2
    walk_at "w"
    refine ⟨by rw [show (Str.ofString "abcdefghijkl").length = 12 from by decide +kernel, sizeLine_eq]; decide, ?_⟩
    obtain ⟨c, hc, e⟩ := atI_mem (xs := (Str.ofString "abcdefghijkl").cps.toList) (i := (j : Int)) (by omega) (by rw [show (Str.ofString "abcdefghijkl").cps.toList.length = 12 from by decide +kernel]; omega)
    have hcr : 97 ≤ c ∧ c ≤ 122 := (by decide +kernel : ∀ c, c ∈ (Str.ofString "abcdefghijkl").cps.toList → 97 ≤ c ∧ c ≤ 122) c hc
    have hsp := lab_spare hcr
    refine onO_mk e ?_
    walk_at "w"
    refine ⟨⟨by decide, by decide, by show 1 ≤ 1000; decide⟩, ?_⟩
    walk_at "w"
    refine ⟨_, hM2, ?_⟩
    refine gd_mk (by rw [flat_strs]; rfl) ?_
    have app : ∀ (w : Str) (o3 o4 o5 : Option D), w ∉ xs → IsLab w → nx [some (.ref a), some (.int n), some (.ref b), o3, o4, o5] (mupd M2 b (.lst (xs.map .str ++ [.str w]))) := by
      intro w o3 o4 o5 hw hl
      refine hn _ _ ⟨hB2.upd hba _, hO12.updb _, j + 1, xs ++ [w], hr, by omega, by rw [List.length_append, List.length_singleton]; omega, fun _ => by simp, ?_, ?_, by rw [mupd_same, List.map_append]; rfl, _, _, _, rfl⟩
      · rw [List.nodup_append]
        exact ⟨hnd, List.nodup_cons.mpr ⟨List.not_mem_nil, List.nodup_nil⟩, fun p hp q hq => by
          have : q = w := by simpa using hq
          subst this
          exact fun e => hw (e ▸ hp)⟩
      · intro z hz
        rcases List.mem_append.mp hz with h | h
        · exact hxs z h
        · have : z = w := by simpa using h
          subst this; exact hl
    have hlen : (xs.map D.str).length < sizeLine := by rw [List.length_map, sizeLine_eq]; omega
    show onBl (.bl (!inD (.str z) (xs.map .str))) _
    rw [inD_strs]
    by_cases hz1 : z ∈ xs
    · rw [decide_eq_true hz1]
      walk_at "w"
      refine ⟨_, hM2, ?_⟩
      refine gd_mk (by rw [flat_strs]; rfl) ?_
      show onBl (.bl (!inD (.str (strRep ⟨#[c]⟩ 8)) (xs.map .str))) _
      rw [inD_strs]
      by_cases hz2 : strRep ⟨#[c]⟩ 8 ∈ xs
      · rw [decide_eq_true hz2]
        exact hn _ _ ⟨hB2, hO12, j + 1, xs, hr, by omega, by omega, fun _ h => by rw [h] at hz1; exact absurd hz1 List.not_mem_nil, hnd, hxs, hM2, _, _, _, rfl⟩
      · rw [decide_eq_false hz2]
        walk_at "w"
        refine ⟨_, _, rfl, hM2, ?_⟩
        refine ⟨_, hM2, hlen, ?_⟩
        exact app _ _ _ _ hz2 hsp
    · rw [decide_eq_false hz1]
      walk_at "w"
      refine ⟨_, _, rfl, hM2, ?_⟩
      refine ⟨_, hM2, hlen, ?_⟩
      exact app _ _ _ _ hz1 hz
theorem lays_lS {N : List Str} (h : ∀ z, z ∈ N → PyData.strOk z = true) : lays (lS N) = true := by
  show layss (N.map .str) = true
  exact layss_mem fun d hd => by
    obtain ⟨z, hz, rfl⟩ := List.mem_map.mp hd
    exact h z hz
theorem dep_lS (N : List Str) : dep (lS N) ≤ 1 := Nat.succ_le_succ (deps_map D.str (n := 0) (fun _ => Nat.le_refl _) N)
/-- a statement, told what is beneath it -/
theorem hw_statement {sc : WF} (ds : List D) (M : MH) (k : KD) (x : KE) (n : Nat) (hs : ∀ (a : Addr) (W : Nat) (N : List Str) (d L : Nat) (M : MH) (k : KD) (x : KE), d + 1 ≤ n → W ≤ 1000 → N.length ≤ 4096 → (∀ z, z ∈ N → PyData.strOk z = true) → L ≤ 100 → BoxAt M a →
      (∀ cs M', cs.length ≤ L → (∀ c, c ∈ cs → OkC W N L d c) → BoxAt M' a → Off a M M' → k (tB cs) M') → sc [.ref a, .int W, lS N, .int d, .int L] M k x)
    (h : sp__law_statement n ds M k x) : w__law_statement sc (startD N__law_statement ds) M (retE k x) := by
  obtain ⟨a, W, N, d, L, rfl, hW, hN, hNs, hd, hL, hB, hk⟩ := h
  walk_at "w"
  refine ⟨_, _, rfl, by decide, by decide, hB, fun v M1 v0 v1 hB1 hO1 => ?_⟩
  walk_at "w"
  cases h2 : decide (v < 2)
  · walk_at "w"
    cases h4 : decide (v < 4)
    · walk_at "w"
      cases h7 : decide (v < 7)
      · walk_at "w"
        refine ⟨a, rfl, hB1, fun i M2 i0 i1 hB2 hO2 => ?_⟩
        exact Lt.now (hk (.put i) M2 (.put i0 i1) hB2 (hO1.trans hO2))
      · walk_at "w"
        refine ⟨a, W, rfl, by omega, by omega, hB1, fun u M2 ul ub hB2 hO2 => ?_⟩
        exact Lt.now (hk (.go u) M2 (.go (by omega) ub) hB2 (hO1.trans hO2))
    · walk_at "w"
      refine rNeP_lays (lays_lS hNs) rfl ?_ (by have := dep_lS N; omega)
      rw [eqD_nil]
      cases hn : (N.map D.str).isEmpty
      · have hv4 := of_decide_eq_true h4
        have hv : v = 0 ∨ v = 1 ∨ v = 2 ∨ v = 3 := by omega
        rcases hv with rfl | rfl | rfl | rfl
        · walk_at "w"
          refine ⟨a, lS N, N.map .str, rfl, rfl, (fun e => by rw [e] at hn; cases hn), by rw [List.length_map]; exact hN, hB1, fun y M2 hy hB2 hO2 => ?_⟩
          obtain ⟨nm, hnm, rfl⟩ := List.mem_map.mp hy
          exact Lt.now (hk (.ref false nm) M2 (.ref hnm) hB2 (hO1.trans hO2))
        · walk_at "w"
          refine ⟨a, lS N, N.map .str, rfl, rfl, (fun e => by rw [e] at hn; cases hn), by rw [List.length_map]; exact hN, hB1, fun y M2 hy hB2 hO2 => ?_⟩
          obtain ⟨nm, hnm, rfl⟩ := List.mem_map.mp hy
          exact Lt.now (hk (.ref true nm) M2 (.ref hnm) hB2 (hO1.trans hO2))
        · walk_at "w"
          refine ⟨a, lS N, N.map .str, rfl, rfl, (fun e => by rw [e] at hn; cases hn), by rw [List.length_map]; exact hN, hB1, fun y M2 hy hB2 hO2 => ?_⟩
          obtain ⟨nm, hnm, rfl⟩ := List.mem_map.mp hy
          exact Lt.now (hk (.ref false nm) M2 (.ref hnm) hB2 (hO1.trans hO2))
        · walk_at "w"
          refine ⟨a, lS N, N.map .str, rfl, rfl, (fun e => by rw [e] at hn; cases hn), by rw [List.length_map]; exact hN, hB1, fun y M2 hy hB2 hO2 => ?_⟩
          obtain ⟨nm, hnm, rfl⟩ := List.mem_map.mp hy
          exact Lt.now (hk (.ref true nm) M2 (.ref hnm) hB2 (hO1.trans hO2))
      · walk_at "w"
        cases h7 : decide (v < 7)
        · walk_at "w"
          refine ⟨a, rfl, hB1, fun i M2 i0 i1 hB2 hO2 => ?_⟩
          exact Lt.now (hk (.put i) M2 (.put i0 i1) hB2 (hO1.trans hO2))
        · walk_at "w"
          refine ⟨a, W, rfl, by omega, by omega, hB1, fun u M2 ul ub hB2 hO2 => ?_⟩
          exact Lt.now (hk (.go u) M2 (.go (by omega) ub) hB2 (hO1.trans hO2))
  · walk_at "w"
    cases hd1 : decide ((0 : Int) < d)
    · walk_at "w"
      cases h4 : decide (v < 4)
      · walk_at "w"
        cases h7 : decide (v < 7)
        · walk_at "w"
          refine ⟨a, rfl, hB1, fun i M2 i0 i1 hB2 hO2 => ?_⟩
          exact Lt.now (hk (.put i) M2 (.put i0 i1) hB2 (hO1.trans hO2))
        · walk_at "w"
          refine ⟨a, W, rfl, by omega, by omega, hB1, fun u M2 ul ub hB2 hO2 => ?_⟩
          exact Lt.now (hk (.go u) M2 (.go (by omega) ub) hB2 (hO1.trans hO2))
      · walk_at "w"
        refine rNeP_lays (lays_lS hNs) rfl ?_ (by have := dep_lS N; omega)
        rw [eqD_nil]
        cases hn : (N.map D.str).isEmpty
        · have hv4 := of_decide_eq_true h4
          have hv : v = 0 ∨ v = 1 ∨ v = 2 ∨ v = 3 := by omega
          rcases hv with rfl | rfl | rfl | rfl
          · walk_at "w"
            refine ⟨a, lS N, N.map .str, rfl, rfl, (fun e => by rw [e] at hn; cases hn), by rw [List.length_map]; exact hN, hB1, fun y M2 hy hB2 hO2 => ?_⟩
            obtain ⟨nm, hnm, rfl⟩ := List.mem_map.mp hy
            exact Lt.now (hk (.ref false nm) M2 (.ref hnm) hB2 (hO1.trans hO2))
          · walk_at "w"
            refine ⟨a, lS N, N.map .str, rfl, rfl, (fun e => by rw [e] at hn; cases hn), by rw [List.length_map]; exact hN, hB1, fun y M2 hy hB2 hO2 => ?_⟩
            obtain ⟨nm, hnm, rfl⟩ := List.mem_map.mp hy
            exact Lt.now (hk (.ref true nm) M2 (.ref hnm) hB2 (hO1.trans hO2))
          · walk_at "w"
            refine ⟨a, lS N, N.map .str, rfl, rfl, (fun e => by rw [e] at hn; cases hn), by rw [List.length_map]; exact hN, hB1, fun y M2 hy hB2 hO2 => ?_⟩
            obtain ⟨nm, hnm, rfl⟩ := List.mem_map.mp hy
            exact Lt.now (hk (.ref false nm) M2 (.ref hnm) hB2 (hO1.trans hO2))
          · walk_at "w"
            refine ⟨a, lS N, N.map .str, rfl, rfl, (fun e => by rw [e] at hn; cases hn), by rw [List.length_map]; exact hN, hB1, fun y M2 hy hB2 hO2 => ?_⟩
            obtain ⟨nm, hnm, rfl⟩ := List.mem_map.mp hy
            exact Lt.now (hk (.ref true nm) M2 (.ref hnm) hB2 (hO1.trans hO2))
        · walk_at "w"
          cases h7 : decide (v < 7)
          · walk_at "w"
            refine ⟨a, rfl, hB1, fun i M2 i0 i1 hB2 hO2 => ?_⟩
            exact Lt.now (hk (.put i) M2 (.put i0 i1) hB2 (hO1.trans hO2))
          · walk_at "w"
            refine ⟨a, W, rfl, by omega, by omega, hB1, fun u M2 ul ub hB2 hO2 => ?_⟩
            exact Lt.now (hk (.go u) M2 (.go (by omega) ub) hB2 (hO1.trans hO2))
    · walk_at "w"
      refine ⟨_, _, rfl, by decide, by decide, hB1, fun t M2 t0 t1 hB2 hO2 => ?_⟩
      have hd0 := of_decide_eq_true hd1
      have hd2 : ((d : Int) - 1) = ((d - 1 : Nat) : Int) := by omega
      have fin : ∀ (t : Int), -3 ≤ t → t ≤ 4 → sc [.ref a, .int W, lS N, .int ((d : Int) - 1), .int L] M2 (fun e M' => Lt k (.tup [.str "repeat", .int t, e]) M') (Ltx x) := by
        intro t t0 t1
        rw [hd2]
        refine hs a W N (d - 1) L M2 _ _ (by omega) hW hN hNs hL hB2 fun cs M3 hl hc hB3 hO3 => ?_
        have e : d = (d - 1) + 1 := by omega
        exact Lt.now (hk (.rep t cs) M3 (by rw [e]; exact .rep t0 t1 hl hc) hB3 ((hO1.trans hO2).trans hO3))
      have ht : t = 0 ∨ t = 1 ∨ t = 2 ∨ t = 3 ∨ t = 4 ∨ t = 5 ∨ t = 6 ∨ t = 7 := by omega
      rcases ht with rfl | rfl | rfl | rfl | rfl | rfl | rfl | rfl
      · walk_at "w"; exact fin 0 (by decide) (by decide)
      · walk_at "w"; exact fin 1 (by decide) (by decide)
      · walk_at "w"; exact fin 2 (by decide) (by decide)
      · walk_at "w"; exact fin 3 (by decide) (by decide)
      · walk_at "w"; exact fin (-1) (by decide) (by decide)
      · walk_at "w"; exact fin (-2) (by decide) (by decide)
      · walk_at "w"; exact fin (-3) (by decide) (by decide)
      · walk_at "w"; exact fin 4 (by decide) (by decide)
theorem hw_code {ss : WF} (ds : List D) (M : MH) (k : KD) (x : KE) (n : Nat) (hs : ∀ (a : Addr) (W : Nat) (N : List Str) (d L : Nat) (M : MH) (k : KD) (x : KE), d ≤ n → W ≤ 1000 → N.length ≤ 4096 → (∀ z, z ∈ N → PyData.strOk z = true) → L ≤ 100 → BoxAt M a →
      (∀ c M', OkC W N L d c → BoxAt M' a → Off a M M' → k (toD c) M') → ss [.ref a, .int W, lS N, .int d, .int L] M k x)
    (h : sp__law_code n ds M k x) : w__law_code ss (startD N__law_code ds) M (retE k x) := by
  obtain ⟨a, W, N, d, L, rfl, hW, hN, hNs, hd, hL, hB, hk⟩ := h
  walk_at "w"
  refine ⟨_, _, rfl, by omega, by have := log2_4096 (n := ((L : Int) + 1).natAbs) (by omega); exact this, hB, fun v M1 v0 v1 hB1 hO1 => ?_⟩
  refine ⟨by omega, by omega, ?_⟩
  refine compD_draw (fun M' => BoxAt M' a ∧ Off a M M') (fun _ e => ∃ c, e = toD c ∧ OkC W N L d c) (fun _ _ => trivial) _ ⟨hB1, hO1⟩ (fun _ _ M' k' hI hk' => ?_) (fun es M' hA hI => ?_)
  · walk_at "w"
    exact hs a W N d L M' _ _ hd hW hN hNs hL hI.1 fun c M2 hc hB2 hO2 => hk' _ _ ⟨c, rfl, hc⟩ ⟨hB2, hI.2.trans hO2⟩
  · have hcs : ∀ {ds es : List D}, All2 (fun _ e => ∃ c, e = toD c ∧ OkC W N L d c) ds es → ∃ cs : List Cd, es = toDs cs ∧ cs.length = ds.length ∧ ∀ c, c ∈ cs → OkC W N L d c := by
      intro ds es A
      induction A with
      | nil => exact ⟨[], rfl, rfl, fun _ h => nomatch h⟩
      | cons r _ ih =>
        obtain ⟨c, rfl, hc⟩ := r
        obtain ⟨cs, rfl, hl, hcs⟩ := ih
        exact ⟨c :: cs, rfl, congrArg (· + 1) hl, fun e he => by
          rcases List.mem_cons.mp he with q | q
          · subst q; exact hc
          · exact hcs e q⟩
    obtain ⟨cs, rfl, hl, hc⟩ := hcs hA
    rw [intsFrom_len] at hl
    exact Lt.now (hk cs M' (by omega) hc hI.1 hI.2)
theorem hw_statement0 (ds : List D) (M : MH) (k : KD) (x : KE) (_ : ds.length = 5) (h : sp__law_statement 0 ds M k x) : w__law_statement noSp (startD N__law_statement ds) M (retE k x) := hw_statement ds M k x 0 (fun _ _ _ _ _ _ _ _ h => absurd h (Nat.not_succ_le_zero _)) h
theorem hw_statement1 (n : Nat) (ds : List D) (M : MH) (k : KD) (x : KE) (_ : ds.length = 5) (h : sp__law_statement (n + 1) ds M k x) : w__law_statement (sp__law_code n) (startD N__law_statement ds) M (retE k x) :=
  hw_statement ds M k x (n + 1) (fun a W N d L M k x h1 h2 h3 h4 h5 h6 h7 => ⟨a, W, N, d, L, rfl, h2, h3, h4, Nat.le_of_succ_le_succ h1, h5, h6, h7⟩) h
theorem hw_code1 (n : Nat) (ds : List D) (M : MH) (k : KD) (x : KE) (_ : ds.length = 5) (h : sp__law_code n ds M k x) : w__law_code (sp__law_statement n) (startD N__law_code ds) M (retE k x) :=
  hw_code ds M k x n (fun a W N d L M k x h1 h2 h3 h4 h5 h6 h7 => ⟨a, W, N, d, L, rfl, h2, h3, h4, h1, h5, h6, h7⟩) h
end DL

namespace DL
open PySem PySem.Spec PyProof.Rows L2
local macro_rules | `(tactic| walk_at "w") => `(tactic| try conv => whnf)
/-! ### depth and size of blocks -/
mutual
def dC : Cd → Nat
  | .rep _ b => dCs b + 1
  | .go _ => 0 | .put _ => 0 | .ref _ _ => 0
def dCs : List Cd → Nat
  | [] => 0
  | c :: r => max (dC c) (dCs r)
end
mutual
def sz : Cd → Nat
  | .rep _ b => szs b + 1
  | .go _ => 1 | .put _ => 1 | .ref _ _ => 1
def szs : List Cd → Nat
  | [] => 0
  | c :: r => sz c + szs r
end
theorem sz_pos : ∀ c : Cd, 1 ≤ sz c
  | .rep _ b => Nat.succ_le_succ (Nat.zero_le _)
  | .go _ => Nat.le_refl _
  | .put _ => Nat.le_refl _
  | .ref _ _ => Nat.le_refl _
theorem len_szs : ∀ cs : List Cd, cs.length ≤ szs cs
  | [] => Nat.le_refl _
  | c :: r => by have := sz_pos c; have := len_szs r; show r.length + 1 ≤ sz c + szs r; omega
theorem dCs_le {n : Nat} : ∀ {cs : List Cd}, (∀ c, c ∈ cs → dC c ≤ n) → dCs cs ≤ n
  | [], _ => Nat.zero_le _
  | c :: r, h => by show max (dC c) (dCs r) ≤ n; have := h c List.mem_cons_self; have := dCs_le (n := n) (cs := r) fun e he => h e (List.mem_cons_of_mem _ he); omega
theorem szs_le {s : Nat} : ∀ {cs : List Cd}, (∀ c, c ∈ cs → sz c ≤ s) → szs cs ≤ cs.length * s
  | [], _ => Nat.zero_le _
  | c :: r, h => by
    show sz c + szs r ≤ (r.length + 1) * s
    have := h c List.mem_cons_self
    have := szs_le (s := s) (cs := r) fun e he => h e (List.mem_cons_of_mem _ he)
    rw [Nat.succ_mul]
    omega
def sBd (L : Nat) : Nat → Nat
  | 0 => 1
  | n + 1 => L * sBd L n + 1
theorem OkC.dep {W L : Nat} {N : List Str} {n : Nat} {c : Cd} (h : OkC W N L n c) : dC c ≤ n := by
  induction h with
  | go => exact Nat.zero_le _
  | put => exact Nat.zero_le _
  | ref => exact Nat.zero_le _
  | rep _ _ _ _ ih => exact Nat.succ_le_succ (dCs_le ih)
theorem OkC.size {W L : Nat} {N : List Str} {n : Nat} {c : Cd} (h : OkC W N L n c) : sz c ≤ sBd L n := by
  have one : ∀ n, 1 ≤ sBd L n := fun n => by cases n with | zero => exact Nat.le_refl _ | succ n => exact Nat.succ_le_succ (Nat.zero_le _)
  induction h with
  | go => exact one _
  | put => exact one _
  | ref => exact one _
  | rep _ _ hl _ ih => exact Nat.succ_le_succ (Nat.le_trans (szs_le ih) (Nat.mul_le_mul_right _ hl))
theorem deps_mem' {ds : List D} {d : D} (h : d ∈ ds) : dep d ≤ deps ds := deps_mem h
mutual
theorem gd_toD : ∀ (c : Cd), Gd (2 * dC c + 2) (toD c)
  | .go v => .tup (.cons .str (.cons .tI .nil))
  | .put n => .tup (.cons .str (.cons .int .nil))
  | .ref true nm => .tup (.cons .str (.cons .str .nil))
  | .ref false nm => .tup (.cons .str (.cons .str .nil))
  | .rep t b => by
    have h := gd_toDs b
    refine .tup (.cons .str (.cons .int (.cons ⟨h.p, ?_⟩ .nil)))
    show deps (toDs b) + 1 ≤ 2 * (dCs b + 1) + 1
    have := h.q
    omega
theorem gd_toDs : ∀ (cs : List Cd), GdL (2 * dCs cs + 2) (toDs cs)
  | [] => .nil
  | c :: r => by
    have h1 := gd_toD c
    have h2 := gd_toDs r
    have e : dCs (c :: r) = max (dC c) (dCs r) := rfl
    exact .cons ⟨h1.p, by have := h1.q; rw [e]; omega⟩ ⟨h2.p, by have := h2.q; rw [e]; omega⟩
end
theorem gd_tB {n : Nat} {cs : List Cd} (h : 2 * dCs cs + 3 ≤ n) : Gd n (tB cs) := ⟨(gd_toDs cs).p, by show deps _ + 1 ≤ n; have := (gd_toDs cs).q; omega⟩
/-! ### names -/
def addN (f : List Str) (x : Str) : List Str := if x ∈ f then f else f ++ [x]
def addAll (f xs : List Str) : List Str := xs.foldl addN f
mutual
def nmI : Cd → List Str
  | .rep _ b => nmIs [] b
  | .ref _ nm => [nm]
  | .go _ => [] | .put _ => []
def nmIs (f : List Str) : List Cd → List Str
  | [] => f
  | c :: r => nmIs (addAll f (nmI c)) r
end
mutual
def alN : Cd → List Str
  | .rep _ b => alNs b
  | .ref _ nm => [nm]
  | .go _ => [] | .put _ => []
def alNs : List Cd → List Str
  | [] => []
  | c :: r => alN c ++ alNs r
end
theorem mem_addN {f : List Str} {x y : Str} : y ∈ addN f x ↔ y ∈ f ∨ y = x := by
  unfold addN
  by_cases h : x ∈ f
  · rw [if_pos h]
    exact ⟨.inl, fun q => q.elim (fun q => q) (fun q => q ▸ h)⟩
  · rw [if_neg h]
    simp
theorem addAll_cons (f : List Str) (x : Str) (xs : List Str) : addAll f (x :: xs) = addAll (addN f x) xs := rfl
theorem addAll_app (f xs ys : List Str) : addAll f (xs ++ ys) = addAll (addAll f xs) ys := List.foldl_append
theorem mem_addAll {f xs : List Str} {y : Str} : y ∈ addAll f xs ↔ y ∈ f ∨ y ∈ xs := by
  induction xs generalizing f with
  | nil => simp [addAll]
  | cons x xs ih =>
    rw [addAll_cons, ih, mem_addN]
    simp [or_assoc]
theorem addAll_addN (f g : List Str) (x : Str) : addAll f (addN g x) = addN (addAll f g) x := by
  by_cases h : x ∈ g
  · have h' : x ∈ addAll f g := mem_addAll.mpr (.inr h)
    unfold addN
    rw [if_pos h, if_pos h']
  · have e : addN g x = g ++ [x] := by unfold addN; rw [if_neg h]
    rw [e, addAll_app]
    rfl
theorem addAll_addAll (f g xs : List Str) : addAll f (addAll g xs) = addAll (addAll f g) xs := by
  induction xs generalizing g with
  | nil => rfl
  | cons x xs ih => rw [addAll_cons, ih, addAll_addN, addAll_cons]
mutual
theorem nmI_al : ∀ c : Cd, nmI c = addAll [] (alN c)
  | .rep _ b => (nmIs_al [] b).trans rfl
  | .ref _ nm => rfl
  | .go _ => rfl
  | .put _ => rfl
theorem nmIs_al : ∀ (f : List Str) (cs : List Cd), nmIs f cs = addAll f (alNs cs)
  | _, [] => rfl
  | f, c :: r => by
    show nmIs (addAll f (nmI c)) r = addAll f (alN c ++ alNs r)
    rw [nmIs_al _ r, nmI_al c, addAll_app, addAll_addAll]
    rfl
end
theorem addN_len (f : List Str) (x : Str) : (addN f x).length ≤ f.length + 1 := by
  unfold addN
  by_cases h : x ∈ f
  · rw [if_pos h]; omega
  · rw [if_neg h, List.length_append]; exact Nat.le_refl _
theorem addAll_len (f xs : List Str) : (addAll f xs).length ≤ f.length + xs.length := by
  induction xs generalizing f with
  | nil => exact Nat.le_refl _
  | cons x xs ih => rw [addAll_cons]; have := ih (addN f x); have := addN_len f x; rw [List.length_cons]; omega
mutual
theorem alN_len : ∀ c : Cd, (alN c).length ≤ sz c
  | .rep _ b => Nat.le_succ_of_le (alNs_len b)
  | .ref _ nm => Nat.le_refl _
  | .go _ => Nat.zero_le _
  | .put _ => Nat.zero_le _
theorem alNs_len : ∀ cs : List Cd, (alNs cs).length ≤ szs cs
  | [] => Nat.le_refl _
  | c :: r => by show (alN c ++ alNs r).length ≤ sz c + szs r; rw [List.length_append]; have := alN_len c; have := alNs_len r; omega
end
theorem nmI_len (c : Cd) : (nmI c).length ≤ sz c := by rw [nmI_al]; have := addAll_len [] (alN c); have := alN_len c; simp at *; omega
def sp_names_in (n : Nat) : WF := fun ds M k _ => ∃ cs, ds = [tB cs] ∧ dCs cs ≤ n ∧ szs cs ≤ 4000 ∧ k (lS (nmIs [] cs)) M
theorem mdel_eq {M M' : MH} {b : Addr} (h : Off b M M') (hb : M b = none) : mdel M' b = M := funext fun c => by
  by_cases e : c = b
  · subst e; rw [mdel_same, hb]
  · rw [mdel_ne e]; exact h c e
/-- the names of one statement are added to what was found -/
theorem add_loop {xs : List Str} {b : Addr} {M0 : MH} {E : EndsD} (p0 p1 p2 p3 : Option D) (hb : p1 = some (.ref b)) : ∀ (f : List Str) (M' : MH) (p4 : Option D), f.length + xs.length ≤ 4096 → Off b M0 M' → M' b = some (.lst (f.map .str)) →
    (∀ M'' p4, Off b M0 M'' → M'' b = some (.lst ((addAll f xs).map .str)) → E.nx [p0, p1, p2, p3, p4] M'') →
    forD (wgN 4) (wIfS (wTest (wOp rNotIn (wVar 4) (wVar 1))) (wDrop (wApp (wVar 1) (wVar 4))) wNext) (fun _ => True) E (xs.map .str) [p0, p1, p2, p3, p4] M' := by
  subst hb
  intro f M' p4 hl hO hM hk
  refine forD_inv (fun ds ρ M1 => Off b M0 M1 ∧ ∃ ys g p4, ds = ys.map .str ∧ g.length + ys.length ≤ 4096 ∧ addAll g ys = addAll f xs ∧ M1 b = some (.lst (g.map .str)) ∧ ρ = [p0, some (.ref b), p2, p3, p4]) (fun _ _ _ _ => trivial) (fun ρ M1 hI => ?_) (fun d r ρ M1 nx hI hn => ?_) _ _ _ ⟨hO, xs, f, p4, rfl, hl, rfl, hM, rfl⟩
  · obtain ⟨hO1, ys, g, q4, hd, _, hg, hM1, rfl⟩ := hI
    cases ys with
    | nil => exact hk _ _ hO1 (by rw [← hg]; exact hM1)
    | cons y ys => cases hd
  · obtain ⟨hO1, ys, g, q4, hd, hgl, hg, hM1, rfl⟩ := hI
    cases ys with
    | nil => cases hd
    | cons y ys =>
      cases hd
      rw [List.length_cons] at hgl
      rw [addAll_cons] at hg
      walk_at "w"
      refine ⟨_, hM1, ?_⟩
      refine gd_mk (by rw [flat_strs]; rfl) ?_
      show onBl (.bl (!inD (.str y) (g.map .str))) _
      rw [inD_strs]
      by_cases hy : y ∈ g
      · rw [decide_eq_true hy]
        have e : addN g y = g := by unfold addN; rw [if_pos hy]
        rw [e] at hg
        exact hn _ _ ⟨hO1, ys, g, _, rfl, by omega, hg, hM1, rfl⟩
      · rw [decide_eq_false hy]
        have e : addN g y = g ++ [y] := by unfold addN; rw [if_neg hy]
        rw [e] at hg
        walk_at "w"
        refine ⟨_, _, rfl, hM1, ?_⟩
        refine ⟨_, hM1, by rw [List.length_map, sizeLine_eq]; omega, ?_⟩
        refine hn _ _ ⟨hO1.upd2 _, ys, g ++ [y], _, rfl, by rw [List.length_append, List.length_singleton]; omega, hg, by rw [mupd_same, List.map_append]; rfl, rfl⟩
theorem hw_names {sr : WF} {n : Nat} (hs : ∀ b M k x, dCs b + 1 ≤ n → szs b ≤ 4000 → k (lS (nmIs [] b)) M → sr [tB b] M k x) (ds : List D) (M : MH) (k : KD) (x : KE) (h : sp_names_in n ds M k x) : w_names_in sr (startD N_names_in ds) M (retE k x) := by
  obtain ⟨cs, rfl, hd, hz, hk⟩ := h
  walk_at "w"
  intro b hb
  walk_at "w"
  refine forD_inv (fun ds ρ M' => Off b M M' ∧ ∃ cs1 f o2 o3 o4, ds = toDs cs1 ∧ dCs cs1 ≤ n ∧ f.length + szs cs1 ≤ 4000 ∧ nmIs f cs1 = nmIs [] cs ∧ M' b = some (.lst (f.map .str)) ∧ ρ = [some (tB cs), some (.ref b), o2, o3, o4]) (fun _ _ _ _ => trivial) (fun ρ M' hI => ?_) (fun d r ρ M' nx hI hn => ?_) _ _ _
    ⟨DL.Off.upd _ _ _, cs, [], _, _, _, rfl, hd, by rw [List.length_nil]; omega, rfl, mupd_same, rfl⟩
  · obtain ⟨hO, cs1, f, o2, o3, o4, hd, _, _, hf, hM, rfl⟩ := hI
    cases cs1 with
    | nil =>
      walk_at "w"
      refine Lt.list hM ?_
      rw [mdel_eq hO hb]
      have e : f = nmIs [] cs := hf
      rw [e]
      exact hk
    | cons c cs1 => cases hd
  · obtain ⟨hO, cs1, f, o2, o3, o4, hd, hdl, hfl, hf, hM, rfl⟩ := hI
    cases cs1 with
    | nil => cases hd
    | cons c cs1 =>
      cases hd
      have hs1 : dC c ≤ n ∧ dCs cs1 ≤ n := by have e : dCs (c :: cs1) = max (dC c) (dCs cs1) := rfl; rw [e] at hdl; omega
      have hs2 : f.length + (sz c + szs cs1) ≤ 4000 := hfl
      -- the inner loop, and on
      have inner : ∀ (p : D) (E : EndsD), p = lS (nmI c) → E.nx = nx → forD (wgN 4) (wIfS (wTest (wOp rNotIn (wVar 4) (wVar 1))) (wDrop (wApp (wVar 1) (wVar 4))) wNext) (fun _ => True) E ((nmI c).map .str) [some (tB cs), some (.ref b), some (toD c), some p, o4] M' := by
        rintro p E rfl hE
        refine add_loop _ _ _ _ rfl f M' _ (by have := nmI_len c; omega) hO hM fun M'' p4 hO2 hM2 => ?_
        rw [hE]
        exact hn _ _ ⟨hO2, cs1, addAll f (nmI c), _, _, _, rfl, hs1.2, by have := addAll_len f (nmI c); have := nmI_len c; omega, hf, hM2, rfl⟩
      cases c with
      | go v => walk_at "w"; exact inner _ _ rfl rfl
      | put i => walk_at "w"; exact inner _ _ rfl rfl
      | ref u nm => cases u <;> (walk_at "w"; exact inner _ _ rfl rfl)
      | rep t bb =>
        walk_at "w"
        refine hs bb M' _ _ hs1.1 (by have e : sz (.rep t bb) = szs bb + 1 := rfl; omega) ?_
        walk_at "w"
        exact inner _ _ rfl rfl
/-! ### renaming -/
mutual
def ren (o n : Str) : Cd → Cd
  | .rep t b => .rep t (rens o n b)
  | .ref u nm => .ref u (if nm = o then n else nm)
  | .go v => .go v | .put i => .put i
def rens (o n : Str) : List Cd → List Cd
  | [] => []
  | c :: r => ren o n c :: rens o n r
end
theorem toDs_app : ∀ (a b : List Cd), toDs (a ++ b) = toDs a ++ toDs b
  | [], _ => rfl
  | c :: r, b => by show toD c :: toDs (r ++ b) = _; rw [toDs_app r b]; rfl
theorem toDs_len : ∀ cs : List Cd, (toDs cs).length = cs.length
  | [] => rfl
  | _ :: r => congrArg (· + 1) (toDs_len r)
def sp_renamed (n : Nat) : WF := fun ds M k _ => ∃ cs o nw, ds = [tB cs, .str o, .str nw] ∧ dCs cs ≤ n ∧ szs cs ≤ 4000 ∧ k (tB (rens o nw cs)) M
def sp__law_swapped (n : Nat) : WF := sp_renamed n
theorem hw_ren {sr : WF} {n : Nat} (hs : ∀ b o nw M k x, dCs b + 1 ≤ n → szs b ≤ 4000 → k (tB (rens o nw b)) M → sr [tB b, .str o, .str nw] M k x) (ds : List D) (M : MH) (k : KD) (x : KE) (h : sp_renamed n ds M k x) : w_renamed sr (startD N_renamed ds) M (retE k x) := by
  obtain ⟨cs, o, nw, rfl, hd, hz, hk⟩ := h
  walk_at "w"
  intro b hb
  walk_at "w"
  refine forD_inv (fun ds ρ M' => Off b M M' ∧ ∃ cs1 dn o4, ds = toDs cs1 ∧ dCs cs1 ≤ n ∧ dn.length + szs cs1 ≤ 4000 ∧ dn ++ rens o nw cs1 = rens o nw cs ∧ M' b = some (.lst (toDs dn)) ∧ ρ = [some (tB cs), some (.str o), some (.str nw), some (.ref b), o4]) (fun _ _ _ _ => trivial) (fun ρ M' hI => ?_) (fun d r ρ M' nx hI hn => ?_) _ _ _
    ⟨DL.Off.upd _ _ _, cs, [], _, rfl, hd, by rw [List.length_nil]; omega, rfl, mupd_same, rfl⟩
  · obtain ⟨hO, cs1, dn, o4, hd, _, _, hf, hM, rfl⟩ := hI
    cases cs1 with
    | nil =>
      refine ⟨b, _, rfl, hM, ?_⟩
      rw [mdel_eq hO hb]
      have e : dn = rens o nw cs := by rw [← hf]; exact (List.append_nil dn).symm
      rw [e]
      exact Lt.now hk
    | cons c cs1 => cases hd
  · obtain ⟨hO, cs1, dn, o4, hd, hdl, hfl, hf, hM, rfl⟩ := hI
    cases cs1 with
    | nil => cases hd
    | cons c cs1 =>
      cases hd
      have hs1 : dC c ≤ n ∧ dCs cs1 ≤ n := by have e : dCs (c :: cs1) = max (dC c) (dCs cs1) := rfl; rw [e] at hdl; omega
      have hs2 : dn.length + (sz c + szs cs1) ≤ 4000 := hfl
      have hp := sz_pos c
      have hlen : (toDs dn).length < sizeLine := by rw [toDs_len, sizeLine_eq]; omega
      have fin : ∀ e p4, e = toD (ren o nw c) → nx [some (tB cs), some (.str o), some (.str nw), some (.ref b), p4] (mupd M' b (.lst (toDs dn ++ [e]))) := by
        rintro e p4 rfl
        refine hn _ _ ⟨hO.upd2 _, cs1, dn ++ [ren o nw c], _, rfl, hs1.2, by rw [List.length_append, List.length_singleton]; omega, ?_, by rw [mupd_same, toDs_app]; rfl, rfl⟩
        rw [List.append_assoc]
        exact hf
      cases c with
      | go v => walk_at "w"; refine ⟨_, _, rfl, hM, ?_⟩; refine ⟨_, hM, hlen, ?_⟩; exact fin _ _ rfl
      | put i => walk_at "w"; refine ⟨_, _, rfl, hM, ?_⟩; refine ⟨_, hM, hlen, ?_⟩; exact fin _ _ rfl
      | ref u nm =>
        have e : ren o nw (.ref u nm) = .ref u (if nm = o then nw else nm) := rfl
        by_cases hnm : nm = o
        · rw [e, if_pos hnm] at fin
          cases u <;> (walk_at "w"; rw [decide_eq_true hnm]; walk_at "w"; refine ⟨_, _, rfl, hM, ?_⟩; refine ⟨_, hM, hlen, ?_⟩; exact fin _ _ rfl)
        · rw [e, if_neg hnm] at fin
          cases u <;> (walk_at "w"; rw [decide_eq_false hnm]; walk_at "w"; refine ⟨_, _, rfl, hM, ?_⟩; refine ⟨_, hM, hlen, ?_⟩; exact fin _ _ rfl)
      | rep t bb =>
        walk_at "w"
        refine ⟨_, _, rfl, hM, ?_⟩
        refine hs bb o nw M' _ _ hs1.1 (by have e : sz (.rep t bb) = szs bb + 1 := rfl; omega) ?_
        walk_at "w"
        refine ⟨_, hM, hlen, ?_⟩
        exact fin _ _ rfl
theorem hw_swap {sr : WF} {n : Nat} (hs : ∀ b o nw M k x, dCs b + 1 ≤ n → szs b ≤ 4000 → k (tB (rens o nw b)) M → sr [tB b, .str o, .str nw] M k x) (ds : List D) (M : MH) (k : KD) (x : KE) (h : sp__law_swapped n ds M k x) : w__law_swapped sr (startD N__law_swapped ds) M (retE k x) := by
  obtain ⟨cs, o, nw, rfl, hd, hz, hk⟩ := h
  walk_at "w"
  intro b hb
  walk_at "w"
  refine forD_inv (fun ds ρ M' => Off b M M' ∧ ∃ cs1 dn o4, ds = toDs cs1 ∧ dCs cs1 ≤ n ∧ dn.length + szs cs1 ≤ 4000 ∧ dn ++ rens o nw cs1 = rens o nw cs ∧ M' b = some (.lst (toDs dn)) ∧ ρ = [some (tB cs), some (.str o), some (.str nw), some (.ref b), o4]) (fun _ _ _ _ => trivial) (fun ρ M' hI => ?_) (fun d r ρ M' nx hI hn => ?_) _ _ _
    ⟨DL.Off.upd _ _ _, cs, [], _, rfl, hd, by rw [List.length_nil]; omega, rfl, mupd_same, rfl⟩
  · obtain ⟨hO, cs1, dn, o4, hd, _, _, hf, hM, rfl⟩ := hI
    cases cs1 with
    | nil =>
      refine ⟨b, _, rfl, hM, ?_⟩
      rw [mdel_eq hO hb]
      have e : dn = rens o nw cs := by rw [← hf]; exact (List.append_nil dn).symm
      rw [e]
      exact Lt.now hk
    | cons c cs1 => cases hd
  · obtain ⟨hO, cs1, dn, o4, hd, hdl, hfl, hf, hM, rfl⟩ := hI
    cases cs1 with
    | nil => cases hd
    | cons c cs1 =>
      cases hd
      have hs1 : dC c ≤ n ∧ dCs cs1 ≤ n := by have e : dCs (c :: cs1) = max (dC c) (dCs cs1) := rfl; rw [e] at hdl; omega
      have hs2 : dn.length + (sz c + szs cs1) ≤ 4000 := hfl
      have hp := sz_pos c
      have hlen : (toDs dn).length < sizeLine := by rw [toDs_len, sizeLine_eq]; omega
      have fin : ∀ e p4, e = toD (ren o nw c) → nx [some (tB cs), some (.str o), some (.str nw), some (.ref b), p4] (mupd M' b (.lst (toDs dn ++ [e]))) := by
        rintro e p4 rfl
        refine hn _ _ ⟨hO.upd2 _, cs1, dn ++ [ren o nw c], _, rfl, hs1.2, by rw [List.length_append, List.length_singleton]; omega, ?_, by rw [mupd_same, toDs_app]; rfl, rfl⟩
        rw [List.append_assoc]
        exact hf
      cases c with
      | go v => walk_at "w"; refine ⟨_, _, rfl, hM, ?_⟩; walk_at "w"; refine ⟨_, hM, hlen, ?_⟩; exact fin _ _ rfl
      | put i => walk_at "w"; refine ⟨_, _, rfl, hM, ?_⟩; walk_at "w"; refine ⟨_, hM, hlen, ?_⟩; exact fin _ _ rfl
      | ref u nm =>
        have e : ren o nw (.ref u nm) = .ref u (if nm = o then nw else nm) := rfl
        by_cases hnm : nm = o
        · rw [e, if_pos hnm] at fin
          cases u <;> (walk_at "w"; refine ⟨_, _, rfl, hM, ?_⟩; walk_at "w"; rw [decide_eq_true hnm]; walk_at "w"; refine ⟨_, hM, hlen, ?_⟩; exact fin _ _ rfl)
        · rw [e, if_neg hnm] at fin
          cases u <;> (walk_at "w"; refine ⟨_, _, rfl, hM, ?_⟩; walk_at "w"; rw [decide_eq_false hnm]; walk_at "w"; refine ⟨_, hM, hlen, ?_⟩; exact fin _ _ rfl)
      | rep t bb =>
        walk_at "w"
        refine ⟨_, _, rfl, hM, ?_⟩
        refine hs bb o nw M' _ _ hs1.1 (by have e : sz (.rep t bb) = szs bb + 1 := rfl; omega) ?_
        walk_at "w"
        refine ⟨_, hM, hlen, ?_⟩
        exact fin _ _ rfl
def sp__law_all_names (n : Nat) : WF := fun ds M k _ => ∃ cs, ds = [tB cs] ∧ dCs cs ≤ n ∧ szs cs ≤ 4000 ∧ k (lS (alNs cs)) M
theorem hw_allNames {sr : WF} {n : Nat} (hs : ∀ b M k x, dCs b + 1 ≤ n → szs b ≤ 4000 → k (lS (alNs b)) M → sr [tB b] M k x) (ds : List D) (M : MH) (k : KD) (x : KE) (h : sp__law_all_names n ds M k x) : w__law_all_names sr (startD N__law_all_names ds) M (retE k x) := by
  obtain ⟨cs, rfl, hd, hz, hk⟩ := h
  walk_at "w"
  refine forD_inv (fun ds ρ M' => M' = M ∧ ∃ cs1 f o2 o3, ds = toDs cs1 ∧ dCs cs1 ≤ n ∧ f.length + szs cs1 ≤ 4000 ∧ f ++ alNs cs1 = alNs cs ∧ ρ = [some (tB cs), some (lS f), o2, o3]) (fun _ _ _ _ => trivial) (fun ρ M' hI => ?_) (fun d r ρ M' nx hI hn => ?_) _ _ _
    ⟨rfl, cs, [], _, _, rfl, hd, by rw [List.length_nil]; omega, rfl, rfl⟩
  · obtain ⟨rfl, cs1, f, o2, o3, hd, _, _, hf, rfl⟩ := hI
    cases cs1 with
    | nil =>
      have e : f = alNs cs := by rw [← hf]; exact (List.append_nil f).symm
      rw [e]
      exact Lt.now hk
    | cons c cs1 => cases hd
  · obtain ⟨rfl, cs1, f, o2, o3, hd, hdl, hfl, hf, rfl⟩ := hI
    cases cs1 with
    | nil => cases hd
    | cons c cs1 =>
      cases hd
      have hs1 : dC c ≤ n ∧ dCs cs1 ≤ n := by have e : dCs (c :: cs1) = max (dC c) (dCs cs1) := rfl; rw [e] at hdl; omega
      have hs2 : f.length + (sz c + szs cs1) ≤ 4000 := hfl
      have hal := alN_len c
      have fin : ∀ p2 p3 (g : List D), g = (alN c).map D.str → (f.map D.str).length + g.length ≤ sizeLine ∧ nx [some (tB cs), some (.lst (f.map .str ++ g)), p2, p3] M' := by
        rintro p2 p3 g rfl
        rw [List.length_map, List.length_map, sizeLine_eq]
        refine ⟨by omega, ?_⟩
        rw [← List.map_append]
        refine hn _ _ ⟨rfl, cs1, f ++ alN c, _, _, rfl, hs1.2, by rw [List.length_append]; omega, ?_, rfl⟩
        rw [List.append_assoc]
        exact hf
      cases c with
      | go v => walk_at "w"; refine ⟨⟨by decide, by decide, by show 1 ≤ 1000; decide⟩, ?_⟩; walk_at "w"; exact fin _ _ _ rfl
      | put i => walk_at "w"; refine ⟨⟨by decide, by decide, by show 1 ≤ 1000; decide⟩, ?_⟩; walk_at "w"; exact fin _ _ _ rfl
      | ref u nm => cases u <;> (walk_at "w"; refine ⟨⟨by decide, by decide, by show 1 ≤ 1000; decide⟩, ?_⟩; walk_at "w"; exact fin _ _ _ rfl)
      | rep t bb =>
        walk_at "w"
        refine ⟨⟨by decide, by decide, by show 1 ≤ 1000; decide⟩, ?_⟩
        walk_at "w"
        refine hs bb M' _ _ hs1.1 (by have e : sz (.rep t bb) = szs bb + 1 := rfl; omega) ?_
        walk_at "w"
        exact fin _ _ _ rfl
theorem hw0_names_in (ds : List D) (M : MH) (k : KD) (x : KE) (_ : ds.length = 1) (h : sp_names_in 0 ds M k x) : w_names_in noSp (startD N_names_in ds) M (retE k x) := hw_names (n := 0) (fun _ _ _ _ h => absurd h (Nat.not_succ_le_zero _)) ds M k x h
theorem hw1_names_in (n : Nat) (ds : List D) (M : MH) (k : KD) (x : KE) (_ : ds.length = 1) (h : sp_names_in (n + 1) ds M k x) : w_names_in (sp_names_in n) (startD N_names_in ds) M (retE k x) := hw_names (n := n + 1) (fun a M k x h1 h2 h3 => ⟨a, rfl, Nat.le_of_succ_le_succ h1, h2, h3⟩) ds M k x h
theorem hw0_renamed (ds : List D) (M : MH) (k : KD) (x : KE) (_ : ds.length = 3) (h : sp_renamed 0 ds M k x) : w_renamed noSp (startD N_renamed ds) M (retE k x) := hw_ren (n := 0) (fun _ _ _ _ _ _ h => absurd h (Nat.not_succ_le_zero _)) ds M k x h
theorem hw1_renamed (n : Nat) (ds : List D) (M : MH) (k : KD) (x : KE) (_ : ds.length = 3) (h : sp_renamed (n + 1) ds M k x) : w_renamed (sp_renamed n) (startD N_renamed ds) M (retE k x) := hw_ren (n := n + 1) (fun a o nw M k x h1 h2 h3 => ⟨a, o, nw, rfl, Nat.le_of_succ_le_succ h1, h2, h3⟩) ds M k x h
theorem hw0__law_swapped (ds : List D) (M : MH) (k : KD) (x : KE) (_ : ds.length = 3) (h : sp__law_swapped 0 ds M k x) : w__law_swapped noSp (startD N__law_swapped ds) M (retE k x) := hw_swap (n := 0) (fun _ _ _ _ _ _ h => absurd h (Nat.not_succ_le_zero _)) ds M k x h
theorem hw1__law_swapped (n : Nat) (ds : List D) (M : MH) (k : KD) (x : KE) (_ : ds.length = 3) (h : sp__law_swapped (n + 1) ds M k x) : w__law_swapped (sp__law_swapped n) (startD N__law_swapped ds) M (retE k x) := hw_swap (n := n + 1) (fun a o nw M k x h1 h2 h3 => ⟨a, o, nw, rfl, Nat.le_of_succ_le_succ h1, h2, h3⟩) ds M k x h
theorem hw0__law_all_names (ds : List D) (M : MH) (k : KD) (x : KE) (_ : ds.length = 1) (h : sp__law_all_names 0 ds M k x) : w__law_all_names noSp (startD N__law_all_names ds) M (retE k x) := hw_allNames (n := 0) (fun _ _ _ _ h => absurd h (Nat.not_succ_le_zero _)) ds M k x h
theorem hw1__law_all_names (n : Nat) (ds : List D) (M : MH) (k : KD) (x : KE) (_ : ds.length = 1) (h : sp__law_all_names (n + 1) ds M k x) : w__law_all_names (sp__law_all_names n) (startD N__law_all_names ds) M (retE k x) := hw_allNames (n := n + 1) (fun a M k x h1 h2 h3 => ⟨a, rfl, Nat.le_of_succ_le_succ h1, h2, h3⟩) ds M k x h
end DL

namespace DL
open PySem PySem.Spec PyProof.Rows L2
/-! ### match: patterns that bind slots -/
inductive RelB (X : Cx) (F : Hp) : List (Nat × D) → List (Str × Value) → Prop
  | nil : RelB X F [] []
  | cons {i : Nat} {d : D} {x : Str} {u : Value} {v : V} {r : List (Nat × D)} {r' : List (Str × Value)} : X.N[i]? = some x → Loc X.env.scope x → (X.fn x = true ∨ X.env.scope.names.lookup x = some .local) → RelV v u → Rep X.K F v d → RelB X F r r' → RelB X F ((i, d) :: r) ((x, u) :: r')
theorem RelB.append {X : Cx} {F : Hp} : ∀ {a b : List (Nat × D)} {a' b' : List (Str × Value)}, RelB X F a a' → RelB X F b b' → RelB X F (a ++ b) (a' ++ b')
  | _, _, _, _, .nil, h => h
  | _, _, _, _, .cons h1 h2 h3 h4 h5 r, h => .cons h1 h2 h3 h4 h5 (r.append h)
abbrev KP := Option (List (Nat × D)) → Prop
abbrev WP := D → MH → KP → Prop
abbrev WPs := List D → MH → KP → Prop
def RelO (X : Cx) (F : Hp) : Option (List (Nat × D)) → Option (List (Str × Value)) → Prop
  | none, none => True
  | some a, some b => RelB X F a b
  | _, _ => False
structure DP (X : Cx) (p : Pattern) (w : WP) : Prop where
  run : ∀ (pins : List (Addr × Obj)) (s : Shared) (σ : L2.St) (H : Hp) (v : V) (u : Value) (d : D) (F : Hp) (M : MH) (k : KP) (Q : Option (List (Str × Value)) → Shared → Prop), Inv X pins σ H s → RepS X.K H F M → RelV v u → Rep X.K F v d → w d M k →
    (∀ r r' s', Inv X pins σ H s' → k r → RelO X F r r' → Q r' s') → wpAny (model X.prog X.w) X.A (matchPattern p X.env u) Q X.xe s
structure DPs (X : Cx) (ps : List Pattern) (w : WPs) : Prop where
  run : ∀ (pins : List (Addr × Obj)) (s : Shared) (σ : L2.St) (H : Hp) (vs : List V) (us : List Value) (ds : List D) (F : Hp) (M : MH) (k : KP) (Q : Option (List (Str × Value)) → Shared → Prop), Inv X pins σ H s → RepS X.K H F M → Vals vs us → Reps X.K F vs ds → w ds M k →
    (∀ r r' s', Inv X pins σ H s' → k r → RelO X F r r' → Q r' s') → wpAny (model X.prog X.w) X.A (matchEach ps X.env us) Q X.xe s
def wpStr (x : Str) : WP := fun d _ k => onO (scalD d (.str x)) fun b => match b with
  | true => k (some [])
  | false => k none
def wpN (i : Nat) : WP := fun d _ k => k (some [(i, d)])
def wpAnyP : WP := fun _ _ k => k (some [])
def wpNil : WPs := fun ds _ k => match ds with
  | [] => k (some [])
  | _ => False
def wpCons (w : WP) (ws : WPs) : WPs := fun ds M k => match ds with
  | d :: r => w d M fun o => match o with
    | none => k none
    | some b => ws r M fun o2 => match o2 with
      | none => k none
      | some b2 => k (some (b ++ b2))
  | [] => False
def onTup (d : D) (p : List D → Prop) : Prop := match d with
  | .tup ds => p ds
  | _ => False
def wpSeq (n : Nat) (ws : WPs) : WP := fun d M k => onTup d fun ds => match Nat.beq ds.length n with
  | true => ws ds M k
  | false => k none
section
variable {X : Cx} {pos p2 : Pos}
theorem dp_str {x : Str} {j} : DP X (.MatchValue (.Constant (.str x) j p2) pos) (wpStr x) := by
  refine ⟨fun pins s σ H v u d F M k Q I S rv rd w f => ?_⟩
  obtain ⟨b, hb, w⟩ := onO_of w
  refine wpAny_matchPattern_Value ?_
  refine thn (pe_str.run pins s σ H (fun v' H' => v' = V.str x ∧ H' = H) I ⟨rfl, rfl⟩) fun c s1 ⟨v', H', I1, r1, e1, e2⟩ => ?_
  subst e1 e2
  obtain ⟨h3, h4⟩ := scal_of rd (Rep.str (K := X.K) (F := F) x) hb
  refine thn (op_eq pins s1 σ H' v (.str x) u c (fun z H2 => z = V.bl b ∧ H2 = H') I1 rv r1 ⟨h3, by rw [h4]; exact ⟨rfl, rfl⟩⟩) fun c2 s2 ⟨v2, H2, I2, r2, e1, e2⟩ => ?_
  subst e1 e2
  obtain rfl : c2 = Value.bool b := r2
  refine wpAny_truthy_bool ?_
  cases b with
  | true => exact f _ _ s2 I2 w RelB.nil
  | false => exact f _ _ s2 I2 w trivial
theorem dp_name {i : Nat} {x : Str} (hi : X.N[i]? = some x) (hx : Loc X.env.scope x) (hf : X.fn x = true ∨ X.env.scope.names.lookup x = some .local := by first | exact .inl rfl | exact .inr rfl | assumption) : DP X (.MatchAs none (some x) pos) (wpN i) :=
  ⟨fun pins s σ H v u d F M k Q I S rv rd w f => wpAny_matchPattern_Capture (f _ _ s I w (.cons hi hx hf rv rd .nil))⟩
theorem dp_any : DP X (.MatchAs none none pos) wpAnyP := ⟨fun pins s σ H v u d F M k Q I S rv rd w f => wpAny_matchPattern_Capture (f _ _ s I w .nil)⟩
theorem dps_nilP : DPs X [] wpNil := by
  refine ⟨fun pins s σ H vs us ds F M k Q I S rv rd w f => ?_⟩
  cases ds with
  | nil =>
    cases rd
    cases rv
    exact wpAny_matchEach_nil (f _ _ s I w .nil)
  | cons d r => exact w.elim
theorem dps_consP {p : Pattern} {ps : List Pattern} {w : WP} {ws : WPs} (h1 : DP X p w) (h2 : DPs X ps ws) (hp : p.isStar = false := by rfl) : DPs X (p :: ps) (wpCons w ws) := by
  refine ⟨fun pins s σ H vs us ds F M k Q I S rv rd w f => ?_⟩
  cases ds with
  | nil => exact w.elim
  | cons d r =>
    cases rd with
    | cons q1 q2 =>
    cases rv with
    | cons r1 r2 =>
    refine wpAny_matchEach_cons (h1.run pins s σ H _ _ d F M _ _ I S r1 q1 w fun o o' s1 I1 k1 ro => ?_) hp
    match o, o', ro with
    | none, none, _ => exact f _ _ s1 I1 k1 trivial
    | some b, some b', rb =>
      refine h2.run pins s1 σ H _ _ r F M _ _ I1 S r2 q2 k1 fun o2 o2' s2 I2 k2 ro2 => ?_
      match o2, o2', ro2 with
      | none, none, _ => exact f _ _ s2 I2 k2 trivial
      | some b2, some b2', rb2 => exact f _ _ s2 I2 k2 (rb.append rb2)
theorem dp_seq {ps : List Pattern} {ws : WPs} {n : Nat} (hc : X.calm = true) (h : DPs X ps ws) (hn : ps.length = n := by rfl) (hstar : ps.findIdx? (·.isStar) = none := by rfl)
    (hwild : (ps.all fun p => p.isWildcard || (p.isStar && p.names.isEmpty)) = false := by rfl) : DP X (.MatchSequence ps pos) (wpSeq n ws) := by
  refine ⟨fun pins s σ H v u d F M k Q I S rv rd w f => ?_⟩
  cases d with
  | tup ds =>
    have w : (match Nat.beq ds.length n with
      | true => ws ds M k
      | false => k none) := w
    cases rd with
    | @tup a xs _ hq hr hl =>
    cases rv
    obtain ⟨its, rv, ht, hz⟩ := I.tuple (seqT S.fz hq)
    have hlen : its.length = ds.length := rv.length.symm.trans hr.length
    have hfit : (its.toArray.size : Int) < 2 ^ 63 := by rw [List.size_toArray, hlen]; have := sizeLine_eq; omega
    by_cases hb : ds.length = n
    · have e : Nat.beq ds.length n = true := by rw [hb]; exact Nat.beq_refl n
      rw [e] at w
      have hsz : its.toArray.size = ps.length := by rw [List.size_toArray, hlen, hb, hn]
      refine matchSeq_tuple_hit ht hfit hsz ?_ hstar hwild
      rw [← hsz]
      refine wpAny_unpackItems_tuple (s := { s with toks := s.toks + 1 + 1 }) (I.ok.hd hc) ht fun h' hx => ?_
      have I1 : Inv X pins σ H { s with heap := h', toks := s.toks + 1 + 1 } := I.kept (t' := s.toks + 1 + 1) fun b o e => hx b o (Nat.ne_of_lt (Heap.lt_size e)) e
      exact h.run pins _ σ H xs _ ds F M k Q I1 S (by simpa using rv) hr w f
    · have e : Nat.beq ds.length n = false := by
        cases q : Nat.beq ds.length n with
        | false => rfl
        | true => exact absurd (Nat.eq_of_beq_eq_true q) hb
      rw [e] at w
      refine matchSeq_tuple_miss ht hfit (by rw [List.size_toArray, hlen, hn]; exact hb) ?_ hstar hwild
      exact f _ _ _ (I.tok _) w trivial
  | _ => exact w.elim
end
def setB (ρ : Rh) : List (Nat × D) → Rh
  | [] => ρ
  | (i, d) :: r => setB (ρ.set i (some d)) r
structure DM (X : Cx) (cs : List MatchCase) (w : D → WS) : Prop where
  run : ∀ (W : WX), Takes X W → Pss X → ∀ (pins : List (Addr × Obj)) (s : Shared) (σ : L2.St) (H : Hp) (D' : Ends) (v : V) (u : Value) (d : D) (F : Hp) (M : MH) (ρ : Rh) (E : EndsD) (first : Bool), Inv X pins σ H s → RelV v u → RepS X.K H F M → RepE X.K F σ ρ → Rep X.K F v d → w d ρ M E → FinD X.K W H F M E D' →
    wpAny (model X.prog X.w) X.A (matchCases cs X.env u first) (SP X pins D') X.xe s
def wmNil : D → WS := fun _ => wNext
def wmCons (wp : WP) (wb : WS) (wr : D → WS) : D → WS := fun d ρ M E => wp d M fun o => match o with
  | none => wr d ρ M E
  | some bs => wb (setB ρ bs) M E
def wMatch (we : WE) (wm : D → WS) : WS := fun ρ M E => we ρ M (fun d M1 => wm d ρ M1 E) E.xc
section
variable {X : Cx} {pos : Pos}
theorem bind_all {pins : List (Addr × Obj)} {H : Hp} {F : Hp} (hN : X.N.Nodup) : ∀ {bs : List (Nat × D)} {bs' : List (Str × Value)} {s : Shared} {σ : L2.St} {ρ : Rh} {Q : Unit → Shared → Prop}, RelB X F bs bs' → Inv X pins σ H s → RepE X.K F σ ρ →
    (∀ s' σ', Inv X pins σ' H s' → RepE X.K F σ' (setB ρ bs) → Q () s') → wpAny (model X.prog X.w) X.A (assignInOrder (bs'.map fun (n, _) => bindName X.env n) (bs'.map (·.2))) Q X.xe s
  | _, _, s, σ, ρ, Q, .nil, I, R, f => wpAny_assignInOrder_none (f s σ I R)
  | _, _, s, σ, ρ, Q, .cons (i := i) (d := d) hi hx hf rv rd r, I, R, f => by
    refine wpAny_assignInOrder_more (wpAny_bindName (store_ok I hN hi hx rv (fun s' I' => ?_) hf))
    exact bind_all hN r I' (R.set i rd) f
theorem dm_nil : DM X [] wmNil := by
  refine ⟨fun W tk hp pins s σ H D' v u d F M ρ E first I rv S R rd w f => ?_⟩
  exact wpAny_matchCases_nil ⟨σ, H, I, f.nx _ _ H F M (Ext.refl _ _ _) S R w⟩
theorem dm_cons {p : Pattern} {body : List Stmt} {rest : List MatchCase} {wp : WP} {wb : WS} {wr : D → WS} (hN : X.N.Nodup) (hp : DP X p wp) (hb : DSs X body wb) (hr : DM X rest wr) : DM X (⟨p, none, body⟩ :: rest) (wmCons wp wb wr) := by
  refine ⟨fun W tk hps pins s σ H D' v u d F M ρ E first I rv S R rd w f => ?_⟩
  refine wpAny_matchCases_cons ?_
  refine hp.run pins s σ H v u d F M _ _ I S rv rd w fun o o' s1 I1 k1 ro => ?_
  match o, o', ro with
  | none, none, _ => exact hr.run W tk hps pins s1 σ H D' v u d F M ρ E false I1 rv S R rd k1 f
  | some bs, some bs', rb => exact bind_all hN rb I1 R fun s2 σ2 I2 R2 => (hb.ps W tk hps).run pins s2 σ2 H D' I2 ⟨F, M, _, E, S, R2, k1, f⟩
theorem ds_match {e : Expr} {cs : List MatchCase} {we : WE} {wm : D → WS} (he : DE X e we) (hm : DM X cs wm) : DS X (.Match e cs pos) (wMatch we wm) := by
  refine ⟨fun W tk hp => ⟨fun pins s σ H D' I q => ?_⟩⟩
  obtain ⟨F, M, ρ, E, S, R, w, f⟩ := q
  refine wpAny_Match (thn ((he.pe W tk).run pins s σ H (fun v H1 => ∃ d F1 M1, Ext H F M H1 F1 M1 ∧ RepS X.K H1 F1 M1 ∧ Rep X.K F1 v d ∧ wm d ρ M1 E) I ⟨F, M, ρ, _, _, S, R, w, fun v d H1 F1 M1 e1 S1 r1 w1 => ⟨d, F1, M1, e1, S1, r1, w1⟩, f.xc σ⟩) fun u s1 ⟨v, H1, I1, rv, d, F1, M1, e1, S1, r1, w1⟩ => ?_)
  exact hm.run W tk hp pins s1 σ H1 D' v u d F1 M1 ρ E true I1 rv S1 (R.mono e1.sm) r1 w1 (f.on e1)
end
end DL

namespace DL
open PySem PySem.Spec PyProof.Rows L2
/-! ### xs[::-1], a tuple's too -/
theorem adj_rev (n : Nat) : Builtin.Slice.sliceAdjust none none (-1) (n : Int) = ((n : Int) - 1, -1) := by
  unfold Builtin.Slice.sliceAdjust
  rfl
theorem places_rev (n : Nat) : Builtin.Slice.slicePlaces ((n : Int) - 1) (-1) (-1) = n := by
  unfold Builtin.Slice.slicePlaces
  rw [if_neg (by decide)]
  by_cases h : n = 0
  · subst h; rfl
  · rw [if_pos (by omega)]
    have e : ((n : Int) - 1 - -1 - 1) / (- -1) = (n : Int) - 1 := by
      rw [show (- -1 : Int) = 1 from rfl, Int.ediv_one]
      omega
    rw [e]
    omega
theorem range_all {α : Type} : ∀ r : List α, (List.range r.length).filterMap (fun m => r[m]?) = r
  | [] => rfl
  | a :: t => by
    rw [List.length_cons, List.range_succ_eq_map, List.filterMap_cons, List.filterMap_map]
    show a :: List.filterMap (fun m => (a :: t)[m + 1]?) (List.range t.length) = _
    have e : (fun m => (a :: t)[m + 1]?) = fun m => t[m]? := by funext m; simp
    rw [e, range_all t]
theorem filterMap_eq {α β : Type} {f g : α → Option β} : ∀ {l : List α}, (∀ a, a ∈ l → f a = g a) → l.filterMap f = l.filterMap g
  | [], _ => rfl
  | a :: l, h => by
    rw [List.filterMap_cons, List.filterMap_cons, h a List.mem_cons_self, filterMap_eq fun b hb => h b (List.mem_cons_of_mem _ hb)]
theorem range_rev {α : Type} (l : List α) : (List.range l.length).filterMap (fun m => l[l.length - 1 - m]?) = l.reverse := by
  have e : (List.range l.length).filterMap (fun m => l[l.length - 1 - m]?) = (List.range l.length).filterMap (fun m => l.reverse[m]?) := by
    refine filterMap_eq fun m hm => ?_
    rw [List.getElem?_reverse (List.mem_range.mp hm)]
  rw [e]
  have q := range_all l.reverse
  rw [List.length_reverse] at q
  exact q
section
variable {prog : Program} {w : World} {A : Around} {E : Value → Shared → Prop} {s : Shared}
theorem applied_rev {sl : Addr} {t : Tok} {n : Nat} {Q : Int × Int × Nat → Shared → Prop} (hs : s.heap.IsSliceOf sl .none .none (.int (-1) t)) (h : Q ((n : Int) - 1, -1, n) s) :
    wpAny (model prog w) A (Builtin.Slice.sliceApplied (.ref sl) (pure (n : Int))) Q E s := by
  obtain ⟨ob, g1, g2, g3⟩ := id hs
  unfold Builtin.Slice.sliceApplied Builtin.Slice.sliceFields
  refine wpAny_bind (wpAny_bind (wpAny_field g1 g3 (x := Value.none) rfl (wpAny_bind (wpAny_field g1 g3 (x := Value.none) rfl (wpAny_bind (wpAny_field g1 g3 (x := Value.int (-1) t) rfl (wpAny_pure ?_)))))))
  refine wpAny_bind (slicePart_int ?_)
  show wpAny _ _ (if ((-1 : Int) == 0) = true then _ else _) _ _ s
  rw [if_neg (by decide)]
  refine wpAny_bind (slicePart_none (wpAny_bind (slicePart_none (wpAny_bind (wpAny_pure ?_)))))
  show wpAny _ _ (match Builtin.Slice.sliceAdjust none none (-1) (n : Int) with | (lo, hi) => pure (lo, (-1 : Int), Builtin.Slice.slicePlaces lo hi (-1))) _ _ s
  rw [adj_rev n]
  show wpAny _ _ (pure ((n : Int) - 1, (-1 : Int), Builtin.Slice.slicePlaces ((n : Int) - 1) (-1) (-1))) _ _ s
  rw [places_rev]
  exact wpAny_pure h
theorem getItem_tuple_rev {tp sl : Addr} {its : Array Value} {t : Tok} {Q : Value → Shared → Prop} (ht : IsTup s.heap tp its) (hs : s.heap.IsSliceOf sl .none .none (.int (-1) t)) (hz : its.size ≤ sizeLine)
    (h : Q (.ref s.heap.objs.size) { s with heap := s.heap.push { cls := .type "tuple", data := .seq its.toList.reverse.toArray } }) : wpAny (model prog w) A (getItem (.ref tp) (.ref sl)) Q E s := by
  have fits : sizeOk (.seq its.toList.reverse.toArray) := by
    show its.toList.reverse.toArray.size ≤ sizeLine
    rw [List.size_toArray, List.length_reverse, Array.length_toList]
    exact hz
  have isSl : s.TypeIs (.ref sl) "slice" := let ⟨ob, g1, g2, _⟩ := id hs; ⟨ob, g1, g2⟩
  unfold getItem
  try with_reducible refine wpAny_holding ?_
  first | refine wpAny_bind (wpAny_pure ?_) | skip
  refine wpAny_bind (wpAny_sequenceKey ht.typeIs (by decide) (wpAny_bind (wpAny_callSpecial?_slot (name := Str.ofString "__getitem__") ht.typeIs PyProof.Rows.slot_tuple_getitem (wpAny_call_entry PyProof.Rows.slot_tuple_getitem ht.typeIs entry_tuple_getitem ?_ (args_tuple_getitem _ _)))))
  show wpAny _ _ (Builtin.Tuple.tupleItemsOf (.ref tp) >>= _) _ _ s
  refine wpAny_bind (tupleItemsOf_ ht (wpAny_bind (wpAny_typeOf isSl ?_)))
  rw [if_pos (by decide)]
  refine wpAny_bind (applied_rev hs ?_)
  have no : ¬ ((((its.size : Int) - 1) == 0 && (-1 : Int) == 1 && its.size == its.size) = true) := by
    rw [show ((-1 : Int) == 1) = false from rfl, Bool.and_false, Bool.false_and]
    exact Bool.false_ne_true
  show wpAny _ _ (if (((its.size : Int) - 1) == 0 && (-1 : Int) == 1 && its.size == its.size) = true then _ else _) _ _ s
  have pick : ((List.range its.size).filterMap fun (k : Nat) => its[(((its.size : Int) - 1) + (k : Int) * -1).toNat]?).toArray = its.toList.reverse.toArray := by
    have e : ∀ k, k ∈ List.range its.size → its[(((its.size : Int) - 1) + (k : Int) * -1).toNat]? = its.toList[its.toList.length - 1 - k]? := fun k hk => by
      have := List.mem_range.mp hk
      rw [Array.length_toList, Array.getElem?_toList]
      congr 1
      omega
    rw [filterMap_eq e]
    have q := range_rev its.toList
    rw [Array.length_toList] at q
    rw [Array.length_toList, q]
  rw [if_neg no, pick]
  first
    | exact wpAny_bind (m := Builtin.Tuple.tupleExact _) (wpAny_newObj_type (wpAny_pure ⟨_, rfl, wpAny_pure h⟩) fits)
    | exact wpAny_bind (m := Builtin.Tuple.tupleExact _) (wpAny_newObj_type (wpAny_bind (wpAny_pure (wpAny_pure ⟨_, rfl, wpAny_pure h⟩))) fits)
    | exact wpAny_bind (wpAny_bind (m := Builtin.Tuple.tupleExact _) (wpAny_newObj_type (wpAny_pure (wpAny_pure ⟨_, rfl, wpAny_pure h⟩)) fits))
    | exact wpAny_bind (wpAny_bind (m := Builtin.Tuple.tupleExact _) (wpAny_newObj_type (wpAny_pure ⟨_, rfl, wpAny_pure h⟩) fits))
end
def tRevT (K : PySem.W.Frag) (te : TE) : TE := fun σ H Q => te σ H fun x H1 => ∃ a xs, x = .ref a ∧ SqT K H1 a xs ∧ ∀ p, H1 p = none → Q (.ref p) (upd H1 p (.tup xs.reverse))
theorem pe_revT {X : Cx} {e : Expr} {te : TE} {k : Nat} {p1 p2 p3 pos : Pos} (he : PE X e te) : PE X (.Subscript e (.Slice none none (some (.UnaryOp .USub (.Constant (.int 1) k p1) p2)) p3) pos) (tRevT X.K te) := by
  refine ⟨fun pins s σ H Q I h => ?_⟩
  refine Subscript_ (thn (he.run pins s σ H _ I h) fun v s1 ⟨x, H1, I1, r1, a, xs, ex, hx, q⟩ => ?_)
  subst ex
  cases r1
  have part : PO X (some (.UnaryOp .USub (.Constant (.int 1) k p1) p2)) (tPart (tUn (rU fun i => .int (-i)) (tC (.int 1)))) := po_some (pe_un un_neg pe_int)
  refine wpAny_Slice (thn (po_none.run pins s1 σ H1 (fun o G => o = none ∧ G = H1) I1 ⟨rfl, rfl⟩) fun vl s2 ⟨l, H2, I2, pl, el, e2⟩ => thn (po_none.run pins s2 σ H2 (fun o G => o = none ∧ G = H2) I2 ⟨rfl, rfl⟩) fun vu s3 ⟨u, H3, I3, pu, eu, e3⟩ => ?_)
  subst el e2 eu e3
  refine thn (part.run pins s3 σ H3 (fun o G => o = some (-1) ∧ G = H3) I3 ⟨1, rfl, -1, rfl, rfl, rfl⟩) fun vs s4 ⟨o, H4, I4, ps, eo, e4⟩ => ?_
  subst eo e4
  cases pl
  cases pu
  cases ps with
  | int i t =>
  have I5 : Inv X pins σ H4 { s4 with heap := s4.heap.push { cls := .type "slice", data := .fields #[.none, .none, .int (-1) t] } } := I4.kept (t' := s4.toks) fun b ob q => Heap.get?_push_of_some _ q
  obtain ⟨its, r, ht, hz⟩ := I5.tuple hx
  have hlen := r.length
  show wpAny (model X.prog X.w) X.A (subscriptTail e (.Slice none none (some (.UnaryOp .USub (.Constant (.int 1) k p1) p2)) p3) (.ref a) (.ref s4.heap.objs.size)) (EP X pins σ Q) X.xe { s4 with heap := s4.heap.push { cls := .type "slice", data := .fields #[.none, .none, .int (-1) t] } }
  refine tail_any (ops := [.ref a, .ref s4.heap.objs.size]) ht.typeIs PyProof.Rows.slot_tuple_getitem.lookup ?_ (by with_unfolding_all rfl)
  refine getItem_tuple_rev ht (Heap.IsSliceOf.new ..) (by rw [List.size_toArray]; omega) ?_
  refine ⟨.ref _, _, I5.laid (t' := s4.toks) (o := .tup xs.reverse) (fun b ob q => Heap.get?_push_of_some _ q) (Nat.le_refl _) ?_, rfl, q _ (I5.hok.fresh (Nat.le_refl _))⟩
  exact ⟨by rw [List.length_reverse]; exact hz, _, r.reverse, IsTup.new _ _⟩
def wRevT (we : WE) : WE := fun ρ M k x => we ρ M (fun d M1 => onTup d fun ds => k (.tup ds.reverse) M1) x
theorem de_revT {X : Cx} {e : Expr} {we : WE} {k : Nat} {p1 p2 p3 pos : Pos} (he : DE X e we) : DE X (.Subscript e (.Slice none none (some (.UnaryOp .USub (.Constant (.int 1) k p1) p2)) p3) pos) (wRevT we) := by
  refine ⟨fun W tk => pe_imp (pe_revT (he.pe W tk)) fun σ H Q q => ?_⟩
  obtain ⟨F, M, ρ, k, x, S, R, w, pv, px⟩ := q
  refine ⟨F, M, ρ, _, x, S, R, w, fun v d H1 F1 M1 e1 S1 r1 w1 => ?_, px⟩
  cases d with
  | tup ds =>
    cases r1 with
    | @tup a xs _ hq hr hl =>
    refine ⟨a, xs, rfl, seqT S1.fz hq, fun p hp => ?_⟩
    obtain ⟨S2, e2⟩ := S1.lay hp (.tup xs.reverse)
    exact pv _ _ _ _ _ (e1.trans e2) S2 (.tup (SqT.of upd_same) (hr.reverse.mono e2.sm) (by rw [List.length_reverse]; exact hl)) w1
  | _ => exact w1.elim
end DL

/-! max(xs, default=d): the loop with a default told along -/
namespace DX
open PySem PyProof.Rows
section
variable {prog : Program} {w : World} {A : Around} {R : Result → Shared → Prop} {it0 B : Addr} {fp wr : List Addr} {n : Nat} {P : Nat → Value → Prop} {St : Nat → Heap → Prop} {dv : Value}
abbrev lpA (it0 B : Addr) (dv : Value) : Args := ⟨[.ref it0, .none, .ref B], [(("default" : Str), dv)]⟩
theorem nmL : (toString "max" ++ toString ".loop" : String) = "max.loop" := by decide
theorem qtL {as : Args} : (Code.builtin "max.loop" as).quiet = true := plainId_quiet F.plain_max_loop _
abbrev bst (xs : Array Value) (c : Nat) : Obj := { cls := .type "list", dict := none, data := .seq xs c, slots := #[] }
theorem turns (W : Walks prog w A.in1 it0 fp wr n P St) (gt : Nat → Nat → Bool) (cmp : CmpOf prog w A.in1 .Gt P gt) (nB : B ∉ fp) : ∀ (m i : Nat) (s : Shared) (vb : Value) (c : Nat), n - (i + 1) = m → i + 1 ≤ n → St (i + 1) s.heap → P (argBest gt i) vb → s.heap.get? B = some (bst #[vb, vb] c) →
    (∀ v h' tk, P (argBest gt (n - 1)) v → (∀ b o, b ∉ wr → b ≠ B → s.heap.get? b = some o → h'.get? b = some o) → R (.ok (.ret v)) { s with heap := h', toks := tk }) → codeAny (model prog w) A (.builtin "max.loop" (lpA it0 B dv)) R s := by
  have nW : B ∉ wr := fun q => nB (W.sub _ q)
  intro m
  induction m with
  | zero =>
    intro i s vb c e1 e2 st pb g fin
    have ei : i + 1 = n := by omega
    refine codeAny_builtin F.entry_max_loop ?_
    rw [Around.under_plainId F.plain_max_loop (lpA it0 B dv)]
    show wpAny _ A.in1 (seqItems? (.ref B) >>= _) _ _ s
    refine wpAny_bind (wpAny_seqItems g rfl ?_)
    show wpAny _ A.in1 (tryCatch (pyNext (.ref it0)) _ >>= _) _ _ s
    refine wpAny_bind (wpAny_tryCatch (W.done s _ _ (ei ▸ st) fun h1 t1 k1 => ?_))
    show wpAny _ A.in1 (updateSeq B (fun _ => #[]) >>= _) _ _ _
    refine wpAny_bind (wpAny_updateSeq (k1 B _ nW g) rfl (wpAny_bind (wpAny_letGo (wpAny_pure ?_))))
    exact fin vb _ t1 (by rw [← ei]; exact pb) fun b o q1 q2 e => (Heap.get?_update_other _ _ (Ne.symm q2)).trans (k1 b o q1 e)
  | succ m ih =>
    intro i s vb c e1 e2 st pb g fin
    have lt : i + 1 < n := by omega
    refine codeAny_builtin F.entry_max_loop ?_
    rw [Around.under_plainId F.plain_max_loop (lpA it0 B dv)]
    show wpAny _ A.in1 (seqItems? (.ref B) >>= _) _ _ s
    refine wpAny_bind (wpAny_seqItems g rfl ?_)
    show wpAny _ A.in1 (tryCatch (pyNext (.ref it0)) _ >>= _) _ _ s
    refine wpAny_bind (wpAny_tryCatch (W.item (i + 1) s _ _ lt st fun v h1 t1 pv st1 k1 => ?_))
    have g1 := k1 B _ nW g
    show wpAny _ A.in1 (tryCatch (holding [v, v] (richCompare .Gt v vb >>= _)) _ >>= _) _ _ _
    refine wpAny_bind (wpAny_tryCatch (wpAny_holding (wpAny_bind (cmp (i + 1) (argBest gt i) v vb _ _ _ pv pb (wpAny_bind (wpAny_holding (wpAny_truthy_bool (wpAny_bind (wpAny_letGo (wpAny_pure ?_))))))))))
    cases hb : gt (i + 1) (argBest gt i) with
    | true =>
      simp only [if_true]
      refine wpAny_bind (wpAny_updateSeq g1 rfl (wpAny_bind (wpAny_letGo ?_)))
      rw [nmL]
      have pb1 : P (argBest gt (i + 1)) v := by simp only [argBest, hb, if_true]; exact pv
      refine wpAny_pure ⟨qtL, ih (i + 1) _ v _ (by omega) lt (W.frame _ _ _ st1 fun b q o e => ?_) pb1 (Heap.get?_update_self _ g1 rfl) fun v2 h2 t2 pv2 k2 => ?_⟩
      · exact (Heap.get?_update_other _ _ (fun q2 : B = b => nB (q2 ▸ q))).trans e
      · exact fin v2 h2 t2 pv2 fun b o q1 q2 e => k2 b o q1 q2 ((Heap.get?_update_other _ _ (Ne.symm q2)).trans (k1 b o q1 e))
    | false =>
      simp only [Bool.false_eq_true, if_false]
      refine wpAny_bind (wpAny_letGo ?_)
      rw [nmL]
      have pb1 : P (argBest gt (i + 1)) vb := by simp only [argBest, hb, Bool.false_eq_true, if_false]; exact pb
      exact wpAny_pure ⟨qtL, ih (i + 1) _ vb c (by omega) lt st1 pb1 g1 fun v2 h2 t2 pv2 k2 => fin v2 h2 t2 pv2 fun b o q1 q2 e => k2 b o q1 q2 (k1 b o q1 e)⟩
theorem first_ (W : Walks prog w A.in1 it0 fp wr n P St) (gt : Nat → Nat → Bool) (cmp : CmpOf prog w A.in1 .Gt P gt) (nB : B ∉ fp) (pos : 0 < n) {s : Shared} {c : Nat} (st : St 0 s.heap) (g : s.heap.get? B = some (bst #[] c))
    (fin : ∀ v h' tk, P (argBest gt (n - 1)) v → (∀ b o, b ∉ wr → b ≠ B → s.heap.get? b = some o → h'.get? b = some o) → R (.ok (.ret v)) { s with heap := h', toks := tk }) : codeAny (model prog w) A (.builtin "max.loop" (lpA it0 B dv)) R s := by
  have nW : B ∉ wr := fun q => nB (W.sub _ q)
  refine codeAny_builtin F.entry_max_loop ?_
  rw [Around.under_plainId F.plain_max_loop (lpA it0 B dv)]
  show wpAny _ A.in1 (seqItems? (.ref B) >>= _) _ _ s
  refine wpAny_bind (wpAny_seqItems g rfl ?_)
  show wpAny _ A.in1 (tryCatch (pyNext (.ref it0)) _ >>= _) _ _ s
  refine wpAny_bind (wpAny_tryCatch (W.item 0 s _ _ pos st fun v h1 t1 pv st1 k1 => ?_))
  have g1 := k1 B _ nW g
  show wpAny _ A.in1 (updateSeq B (fun _ => #[v, v]) >>= _) _ _ _
  refine wpAny_bind (wpAny_updateSeq g1 rfl ?_)
  rw [nmL]
  refine wpAny_pure ⟨qtL, turns W gt cmp nB _ 0 _ v _ rfl pos (W.frame _ _ _ st1 fun b q o e => ?_) pv (Heap.get?_update_self _ g1 rfl) fun v2 h2 t2 pv2 k2 => ?_⟩
  · exact (Heap.get?_update_other _ _ (fun q2 : B = b => nB (q2 ▸ q))).trans e
  · exact fin v2 h2 t2 pv2 fun b o q1 q2 e => k2 b o q1 q2 ((Heap.get?_update_other _ _ (Ne.symm q2)).trans (k1 b o q1 e))
theorem none_ (W : Walks prog w A.in1 it0 fp wr n P St) (nB : B ∉ fp) (no : n = 0) {s : Shared} {c : Nat} (st : St 0 s.heap) (g : s.heap.get? B = some (bst #[] c))
    (fin : ∀ h' tk, (∀ b o, b ∉ wr → s.heap.get? b = some o → h'.get? b = some o) → R (.ok (.ret dv)) { s with heap := h', toks := tk }) : codeAny (model prog w) A (.builtin "max.loop" (lpA it0 B dv)) R s := by
  subst no
  refine codeAny_builtin F.entry_max_loop ?_
  rw [Around.under_plainId F.plain_max_loop (lpA it0 B dv)]
  show wpAny _ A.in1 (seqItems? (.ref B) >>= _) _ _ s
  refine wpAny_bind (wpAny_seqItems g rfl ?_)
  show wpAny _ A.in1 (tryCatch (pyNext (.ref it0)) _ >>= _) _ _ s
  refine wpAny_bind (wpAny_tryCatch (W.done s _ _ st fun h1 t1 k1 => ?_))
  exact wpAny_bind (wpAny_rule (wpAny_pure (fin h1 t1 k1)))
end
section
variable {prog : Program} {w : World} {A : Around} {E : Value → Shared → Prop} {s : Shared}
theorem args_maxd (a d : Value) : argsOk "max" ⟨[a], [(("default" : Str), d)]⟩ := by unfold argsOk; kernel_rfl
theorem bind_maxd (d : Value) : Builtin.Builtins.bindParams "max" ["key", "default"] 0 ⟨[], [(("default" : Str), d)]⟩ = pure [none, some d] := by first | rfl | kernel_rfl
theorem call_maxd {l : Addr} {xs : Array (Int × Tok)} {d : Value} {Q : Value → Shared → Prop} (hh : A.handled = none) (hl : s.heap.IsList l (intItems xs))
    (h1 : ∀ v h' tk, 0 < xs.size → (intItems xs)[argBest (fun i j => decide (numAt xs i > numAt xs j)) (xs.size - 1)]? = some v → (∀ b o, s.heap.get? b = some o → h'.get? b = some o) → Q v { s with heap := h', toks := tk })
    (h0 : ∀ h' tk, xs.size = 0 → (∀ b o, s.heap.get? b = some o → h'.get? b = some o) → Q d { s with heap := h', toks := tk }) : wpAny (model prog w) A (call (.builtin "max") [.ref l] [(("default" : Str), d)]) Q E s := by
  refine wpAny_call (codeAny_call_builtin F.plain_max F.entry_max ?_)
  have body : wpAny (model prog w) A.in1 (Builtin.«max» ⟨[.ref l], [(("default" : Str), d)]⟩) (fun fin s' => match fin with
      | .done f => (match (Except.ok f : Result) with | .ok (.ret v) => Q v s' | .ok _ => False | .error e => E e s')
      | .again c' => c'.quiet = true ∧ codeAny (model prog w) A c' (fun r s' => match r with | .ok (.ret v) => Q v s' | .ok _ => False | .error e => E e s') s') E s := by
    show wpAny _ A.in1 (Builtin.Builtins.bindParams "max" ["key", "default"] 0 ⟨[], [(("default" : Str), d)]⟩ >>= _) _ _ s
    refine wpAny_bind (wpAny_of_eq (bind_maxd d) (wpAny_bind (wpAny_pure ?_)))
    refine wpAny_bind (iter_intList hl fun s2 e st bl ne => ?_)
    subst e
    refine wpAny_bind (wpAny_newObj_type ?_)
    rw [nmL]
    have W := Walks.list (prog := prog) (w := w) (A := A.in1) hh s.heap.objs.size l ne (intItems xs)
    have nB : ({ s with heap := s.heap.push { cls := .type "list_iterator", data := .fields #[.ref l, .int 0 0] } } : Shared).heap.objs.size ∉ [s.heap.objs.size, l] := fun q => Nat.lt_irrefl _ (bl _ q)
    refine wpAny_pure ⟨qtL, ?_⟩
    by_cases z : xs.size = 0
    · refine none_ W nB (by simpa [intItems] using z) (W.frame _ _ _ st fun b _ o e => Heap.get?_push_of_some _ e) (Heap.get?_push_size _ rfl) fun h' tk kp => ?_
      exact h0 h' tk z (old_kept fun b o q e => kp b o q (Heap.get?_push_of_some _ e))
    · refine first_ W _ (CmpOf.ints_gt (numAt xs) (fun _ _ => intItems_at)) nB (by simpa [intItems] using Nat.pos_of_ne_zero z) (W.frame _ _ _ st fun b _ o e => Heap.get?_push_of_some _ e) (Heap.get?_push_size _ rfl) fun v h' tk pv kp => ?_
      refine h1 v h' tk (Nat.pos_of_ne_zero z) (by simpa [intItems] using pv) (old_kept fun b o q e => kp b o q (Nat.ne_of_lt (Heap.lt_size e)) (Heap.get?_push_of_some _ e))
  simp only [checkBuiltinCall, F.kind_max]
  have ha := args_maxd (.ref l) d
  cases sg : Manifest.signature? "max" with
  | none => exact wpAny_pure body
  | some sig =>
    simp only [argsOk, sg] at ha
    have h2 : Bind.checkArgs "max" sig ⟨[.ref l], [(("default" : Str), d)]⟩ = pure () := ha
    show wpAny _ A.in1 (Bind.checkArgs "max" sig ⟨[.ref l], [(("default" : Str), d)]⟩) _ _ s
    rw [h2]
    exact wpAny_pure body
end
end DX
namespace DL
open PySem PySem.Spec PyProof.Rows L2
/-- the greatest, d of none -/
def mxD (d : Int) : List Int → Int
  | [] => d
  | a :: r => r.foldl (fun x y => if x < y then y else x) a
theorem fold_mx : ∀ (r : List Int) (a : Int), (r.foldl (fun x y => if x < y then y else x) a ∈ a :: r) ∧ ∀ y, y ∈ a :: r → y ≤ r.foldl (fun x y => if x < y then y else x) a
  | [], a => ⟨List.mem_cons_self, fun y h => by
    have e : y = a := (by simpa using h)
    subst e
    exact Int.le_refl _⟩
  | b :: r, a => by
    obtain ⟨h1, h2⟩ := fold_mx r (if a < b then b else a)
    rw [List.foldl_cons]
    refine ⟨?_, fun y hy => ?_⟩
    · rcases List.mem_cons.mp h1 with e | e
      · rw [e]
        by_cases q : a < b
        · rw [if_pos q]; simp
        · rw [if_neg q]; simp
      · exact List.mem_cons_of_mem _ (List.mem_cons_of_mem _ e)
    · have q0 := h2 _ List.mem_cons_self
      rcases List.mem_cons.mp hy with e | hy
      · subst e
        by_cases q : y < b
        · rw [if_pos q] at q0 ⊢; omega
        · rw [if_neg q] at q0 ⊢; omega
      rcases List.mem_cons.mp hy with e | hy
      · subst e
        by_cases q : a < y
        · rw [if_pos q] at q0 ⊢; omega
        · rw [if_neg q] at q0 ⊢; omega
      · exact h2 y (List.mem_cons_of_mem _ hy)
theorem mxD_eq {d m : Int} {ns : List Int} (h1 : m ∈ ns) (h2 : ∀ y, y ∈ ns → y ≤ m) : mxD d ns = m := by
  cases ns with
  | nil => cases h1
  | cons a r =>
    obtain ⟨q1, q2⟩ := fold_mx r a
    have := h2 _ q1
    have := q2 _ h1
    show r.foldl _ a = m
    omega
def rMaxK (K : PySem.W.Frag) : List V → List V → Hp → VK → Prop := fun xs zs H Q => ∃ a ns d, xs = [V.ref a] ∧ zs = [V.int d] ∧ SqL K H a (ns.map V.int) ∧ Q (.int (mxD d ns)) H
theorem cr_maxK {X : Cx} (hc : X.calm = true) : CallRK X (.builtin "max") [("default" : Str)] (rMaxK X.K) := by
  intro pins s σ H xs zs us ws Q I r1 r2 h
  obtain ⟨a, ns, d, rfl, rfl, hs, q⟩ := h
  obtain ⟨its, rv, hl, _⟩ := I.list hs
  rw [Vals.ref1 r1]
  cases r2 with
  | cons r2 r3 =>
  cases r3
  obtain ⟨t, rfl⟩ := r2
  have hi := rv.ints
  obtain ⟨ys, e⟩ := hi.allInts.items
  have hn : numsOf (intItems ys).toList = ns := by rw [← e]; exact hi.numsOf
  rw [nums_intItems] at hn
  subst hn
  have hl' := hl.isList
  rw [e] at hl'
  refine DX.call_maxd (I.ok.hd hc) hl' (fun v h' tk pos hv hk => ?_) fun h' tk z hk => ?_
  · obtain ⟨t, rfl⟩ := intItems_at hv
    obtain ⟨h1, h2⟩ := argBest_gt (numAt ys) (ys.size - 1)
    have e : mxD d (ys.toList.map (·.1)) = numAt ys (argBest (fun i j => decide (numAt ys i > numAt ys j)) (ys.size - 1)) := by
      refine mxD_eq ?_ fun a ha => ?_
      · rw [numAt_eq]; exact PySem.getD_mem (by rw [List.length_map, Array.length_toList]; omega)
      · obtain ⟨j, hj, rfl⟩ := mem_getD ha
        rw [List.length_map, Array.length_toList] at hj
        rw [← numAt_eq]; exact h2 j (by omega)
    rw [e] at q
    exact ⟨.int _, H, I.kept hk, ⟨_, rfl⟩, q⟩
  · have e : ys.toList.map (·.1) = [] := List.eq_nil_of_length_eq_zero (by rw [List.length_map, Array.length_toList]; exact z)
    rw [e] at q
    exact ⟨.int d, H, I.kept hk, ⟨_, rfl⟩, q⟩
def wMaxD (we wd : WE) : WE := fun ρ M k x => we ρ M (fun d M1 => onLst d fun es => onO (intsOf es) fun ns => wd ρ M1 (fun z M2 => onInt z fun i => k (.int (mxD i ns)) M2) x) x
theorem de_maxD {X : Cx} {e ed : Expr} {we wd : WE} {p pos kpos : Pos} (hc : X.calm = true) (hm : X.mg "max" = none) (he : DE X e we) (hd : DE X ed wd) (hg : Gl X "max" := by rfl)
    (hs : starEach (e :: []) X.env = (false, eval e X.env) :: starEach [] X.env := by rfl) (h1 : backTo pos (starEach (e :: []) X.env) = (false, eval e X.env) :: backTo pos (starEach [] X.env) := by rfl) (hpl : (backTo pos (starEach (e :: []) X.env)).any (·.1) = false := by rfl)
    (hall : (backToKw pos (keywordEach [⟨some "default", ed, kpos⟩] X.env)).all (·.1.isSome) = true := by rfl) (hnone : (backToKw pos (keywordEach [⟨some "default", ed, kpos⟩] X.env)).any (·.1.isNone) = false := by rfl)
    (hks : (backToKw pos (keywordEach [⟨some "default", ed, kpos⟩] X.env)).filterMap (·.1) = [("default" : Str)] := by rfl) :
    DE X (.Call (.Name "max" p) [e] [⟨some "default", ed, kpos⟩] pos) (wMaxD we wd) := by
  refine ⟨fun W tk => pe_imp (pe_callBK (cr_maxK hc) hg hm (by decide +kernel) (pa_cons (he.pe W tk) pa_nil hs) (pk_cons (hd.pe W tk) pk_nil) (by decide) (by decide) h1 hpl hall hnone hks) fun σ H Q q => ?_⟩
  obtain ⟨F, M, ρ, k, x, S, R, w, pv, px⟩ := q
  refine ⟨F, M, ρ, _, x, S, R, w, fun v d H1 F1 M1 e1 S1 r1 w1 => ?_, px⟩
  obtain ⟨a, xs, es, rfl, hq, hr, hl, w2⟩ := lst_of r1 w1
  obtain ⟨ns, hn, w3⟩ := onO_of w2
  rw [intsOf_eq hn] at hr
  have exs := hr.ints
  subst exs
  refine ⟨F1, M1, ρ, _, x, S1, R.mono e1.sm, w3, fun u z H2 F2 M2 e2 S2 r2 w4 => ?_, px.on e1⟩
  obtain ⟨i, rfl, w5⟩ := int_of r2 w4
  exact ⟨a, ns, i, rfl, rfl, SqL.of (S2.fz _ _ (e2.sm _ _ hq)), pv _ _ _ _ _ (e1.trans e2) S2 (.int _) w5⟩
end DL

namespace DL
open PySem PySem.Spec PyProof.Rows L2
/-! ### {'a': 'b', 'c': 'd'}[x] -/
def wPick2 (k1 v1 k2 v2 : Str) (we : WE) : WE := fun ρ M k x => we ρ M (fun d M1 => onStr d fun z => match decide (z = k1) with
  | true => k (.str v1) M1
  | false => match decide (z = k2) with
    | true => k (.str v2) M1
    | false => False) x
abbrev kvs2 (k1 v1 k2 v2 : Str) : List (Key × V) := [(.inr k1, .str v1), (.inr k2, .str v2)]
theorem de_pick2 {X : Cx} {e : Expr} {we : WE} {k1 v1 k2 v2 : Str} {j1 j2 j3 j4} {p1 p2 p3 p4 pd pos : Pos} (hu : X.A.units + 64 < cLine) (he : DE X e we) (hs : NoSl e)
    (h1 : valV (mergeK [] (kvs2 k1 v1 k2 v2)) (.inr k1) = some (.str v1) := by rfl) (h2 : valV (mergeK [] (kvs2 k1 v1 k2 v2)) (.inr k2) = some (.str v2) := by rfl) :
    DE X (.Subscript (.Dict [some (.Constant (.str k1) j1 p1), some (.Constant (.str k2) j2 p2)] [.Constant (.str v1) j3 p3, .Constant (.str v2) j4 p4] pd) e pos) (wPick2 k1 v1 k2 v2 we) := by
  refine ⟨fun W tk => pe_imp (pe_dget (by omega) (pe_disp (pps_cons pe_str pe_str (pps_cons pe_str pe_str pps_nil)) rfl rfl (fun q => nomatch q) (by show 2 ≤ 15; decide)) (he.pe W tk) hs) fun σ H Q q => ?_⟩
  obtain ⟨F, M, ρ, k, x, S, R, w, pv, px⟩ := q
  intro p hp
  have fp := S.fno hp
  have mp := S.mno hp
  refine ⟨upd_same, kvs2 k1 v1 k2 v2, rfl, by show 2 ≤ 15; decide, ?_⟩
  have e0 : Ext H F M (upd (upd H p (.dK [])) p (.dK (mergeK [] (kvs2 k1 v1 k2 v2)))) F M := ((Ext.refl H F M).at_new hp _).at_new hp _
  refine ⟨F, M, ρ, _, x, (S.untold fp mp _).untold fp mp _, R, w, fun v d H1 F1 M1 e1 S1 r1 w1 => ?_, px.on e0⟩
  obtain ⟨g, _, _⟩ := e1.fr p _ upd_same fp mp
  cases d with
  | str z =>
    cases r1
    have w2 : (match decide (z = k1) with
      | true => k (.str v1) M1
      | false => match decide (z = k2) with
        | true => k (.str v2) M1
        | false => False) := w1
    by_cases c1 : z = k1
    · rw [decide_eq_true c1] at w2
      subst c1
      exact ⟨p, _, rfl, by rw [← h1]; exact DGet.k (k := .inr z) g, pv _ _ _ _ _ (e0.trans e1) S1 (.str _) w2⟩
    · rw [decide_eq_false c1] at w2
      by_cases c2 : z = k2
      · rw [decide_eq_true c2] at w2
        subst c2
        exact ⟨p, _, rfl, by rw [← h2]; exact DGet.k (k := .inr z) g, pv _ _ _ _ _ (e0.trans e1) S1 (.str _) w2⟩
      · rw [decide_eq_false c2] at w2
        exact w2.elim
  | _ => exact w1.elim
end DL

namespace DL
open PySem PySem.Spec PyProof.Rows L2
local macro_rules | `(tactic| walk_at "w") => `(tactic| try conv => whnf)
/-! ### blocks run backwards, counted, their depth -/
mutual
def rv : Cd → Cd
  | .rep t b => .rep t (rvs b)
  | .go v => .go (v.map fun x => -x)
  | .put n => .put (-n)
  | .ref u nm => .ref (!u) nm
def rvs : List Cd → List Cd
  | [] => []
  | c :: r => rvs r ++ [rv c]
end
theorem rvs_eq : ∀ cs : List Cd, rvs cs = cs.reverse.map rv
  | [] => rfl
  | c :: r => by show rvs r ++ [rv c] = _; rw [rvs_eq r, List.reverse_cons, List.map_append]; rfl
theorem rvs_app : ∀ (a b : List Cd), rvs (a ++ b) = rvs b ++ rvs a := fun a b => by
  rw [rvs_eq, rvs_eq, rvs_eq, List.reverse_append, List.map_append]
mutual
theorem rv_rv : ∀ c : Cd, rv (rv c) = c
  | .rep t b => by show Cd.rep t (rvs (rvs b)) = _; rw [rvs_rvs b]
  | .go v => by show Cd.go ((v.map fun x => -x).map fun x => -x) = _; rw [List.map_map]; congr 1; exact (List.map_congr_left fun a _ => by show - -a = a; omega).trans (List.map_id' v)
  | .put n => by show Cd.put (- -n) = _; rw [Int.neg_neg]
  | .ref u nm => by show Cd.ref (!!u) nm = _; rw [Bool.not_not]
theorem rvs_rvs : ∀ cs : List Cd, rvs (rvs cs) = cs
  | [] => rfl
  | c :: r => by
    show rvs (rvs r ++ [rv c]) = _
    rw [rvs_app, rvs_rvs r]
    show [rv (rv c)] ++ r = _
    rw [rv_rv c]
    rfl
end
theorem dCs_app : ∀ (a b : List Cd), dCs (a ++ b) = max (dCs a) (dCs b)
  | [], b => by show dCs b = max 0 (dCs b); omega
  | c :: r, b => by show max (dC c) (dCs (r ++ b)) = max (max (dC c) (dCs r)) (dCs b); rw [dCs_app r b]; omega
mutual
theorem dC_rv : ∀ c : Cd, dC (rv c) = dC c
  | .rep t b => congrArg (· + 1) (dCs_rvs b)
  | .go v => rfl
  | .put n => rfl
  | .ref u nm => rfl
theorem dCs_rvs : ∀ cs : List Cd, dCs (rvs cs) = dCs cs
  | [] => rfl
  | c :: r => by
    show dCs (rvs r ++ [rv c]) = max (dC c) (dCs r)
    rw [dCs_app, dCs_rvs r]
    show max (dCs r) (max (dC (rv c)) 0) = _
    rw [dC_rv c]
    omega
end
theorem toDs_rev : ∀ cs : List Cd, (toDs cs).reverse = toDs cs.reverse := fun cs => by rw [toDs_map, toDs_map, List.map_reverse]
/-- the blocks within -/
def inn : List Cd → List (List Cd)
  | [] => []
  | .rep _ b :: r => b :: inn r
  | .go _ :: r => inn r
  | .put _ :: r => inn r
  | .ref _ _ :: r => inn r
inductive FR (T : D → Prop) (R : D → D → Prop) : List D → List D → Prop
  | nil : FR T R [] []
  | skip {d : D} {ds es : List D} : T d → FR T R ds es → FR T R (d :: ds) es
  | take {d e : D} {ds es : List D} : R d e → FR T R ds es → FR T R (d :: ds) (e :: es)
theorem compD_fr {gt : WG} {wt : WT} {we : WE} {g : MH → Prop} {ρ : Rh} (T : D → Prop) (R : D → D → Prop) : ∀ (ds es : List D) {M : MH} {k : List D → MH → Prop}, FR T R ds es → g M →
    (∀ d, T d → ∀ (k1 : KD) (k2 : MH → Prop), k2 M → gt d ρ M fun ρ1 M1 => wt ρ1 M1 (fun b M2 => match b with
      | true => we ρ1 M2 k1 noX
      | false => k2 M2) noX) →
    (∀ d e, R d e → ∀ (k1 : KD) (k2 : MH → Prop), k1 e M → gt d ρ M fun ρ1 M1 => wt ρ1 M1 (fun b M2 => match b with
      | true => we ρ1 M2 k1 noX
      | false => k2 M2) noX) → k es M → compD gt wt we g ρ ds M k
  | _, _, _, _, .nil, hg, _, _, hk => ⟨hg, hk⟩
  | _, _, M, k, .skip t r, hg, h1, h2, hk => ⟨hg, h1 _ t _ _ (compD_fr T R _ _ r hg h1 h2 hk)⟩
  | _, _, M, k, .take t r, hg, h1, h2, hk => ⟨hg, h2 _ _ t _ _ (compD_fr T R _ _ r hg h1 h2 hk)⟩
/-- of a block: what is no repeat is left out -/
def noRep (d : D) : Prop := ∃ c, d = toD c ∧ ∀ t b, c ≠ .rep t b
theorem fr_inn (f : List Cd → D) : ∀ cs : List Cd, FR noRep (fun d e => ∃ t b, d = toD (.rep t b) ∧ e = f b ∧ b ∈ inn cs) (toDs cs) ((inn cs).map f) := fun cs =>
  have h : ∀ (es : List Cd), (∀ b, b ∈ inn es → b ∈ inn cs) → FR noRep (fun d e => ∃ t b, d = toD (.rep t b) ∧ e = f b ∧ b ∈ inn cs) (toDs es) ((inn es).map f) := fun es => by
    induction es with
    | nil => exact fun _ => .nil
    | cons c r ih =>
      intro h
      cases c with
      | rep t b => exact .take ⟨t, b, rfl, rfl, h b List.mem_cons_self⟩ (ih fun e he => h e (List.mem_cons_of_mem _ he))
      | go v => exact .skip ⟨_, rfl, fun _ _ q => nomatch q⟩ (ih h)
      | put v => exact .skip ⟨_, rfl, fun _ _ q => nomatch q⟩ (ih h)
      | ref u v => exact .skip ⟨_, rfl, fun _ _ q => nomatch q⟩ (ih h)
  h cs fun _ h => h
theorem inn_dep : ∀ {cs : List Cd} {b : List Cd}, b ∈ inn cs → dCs b + 1 ≤ dCs cs ∧ szs b + 1 ≤ szs cs
  | c :: r, b, h => by
    have e1 : dCs (c :: r) = max (dC c) (dCs r) := rfl
    have e2 : szs (c :: r) = sz c + szs r := rfl
    have hp := sz_pos c
    have up : b ∈ inn r → dCs b + 1 ≤ dCs (c :: r) ∧ szs b + 1 ≤ szs (c :: r) := fun hr => by have := inn_dep hr; rw [e1, e2]; omega
    cases c with
    | rep t bb =>
      rcases List.mem_cons.mp h with q | q
      · subst q
        have e3 : dC (.rep t b) = dCs b + 1 := rfl
        have e4 : sz (.rep t b) = szs b + 1 := rfl
        rw [e1, e2, e3, e4]
        omega
      · exact up q
    | go v => exact up h
    | put v => exact up h
    | ref u v => exact up h
theorem inn_mem {t : Int} {b : List Cd} : ∀ {cs : List Cd}, Cd.rep t b ∈ cs → b ∈ inn cs
  | a :: r, h => by
    rcases List.mem_cons.mp h with q | q
    · subst q; exact List.mem_cons_self
    · have := inn_mem q
      cases a with
      | rep t b => exact List.mem_cons_of_mem _ this
      | go v => exact this
      | put v => exact this
      | ref u v => exact this
theorem inn_sum : ∀ cs : List Cd, (cs.length : Int) + ((inn cs).map fun b => (szs b : Int)).sum = szs cs
  | [] => rfl
  | .rep t b :: r => by
    have e : szs (.rep t b :: r) = szs b + 1 + szs r := rfl
    have q := inn_sum r
    show ((r.length + 1 : Nat) : Int) + ((szs b : Int) + ((inn r).map fun b => (szs b : Int)).sum) = _
    rw [e]
    omega
  | .go v :: r => by
    have e : szs (.go v :: r) = 1 + szs r := rfl
    have q := inn_sum r
    show ((r.length + 1 : Nat) : Int) + ((inn r).map fun b => (szs b : Int)).sum = _
    rw [e]; omega
  | .put v :: r => by
    have e : szs (.put v :: r) = 1 + szs r := rfl
    have q := inn_sum r
    show ((r.length + 1 : Nat) : Int) + ((inn r).map fun b => (szs b : Int)).sum = _
    rw [e]; omega
  | .ref u v :: r => by
    have e : szs (.ref u v :: r) = 1 + szs r := rfl
    have q := inn_sum r
    show ((r.length + 1 : Nat) : Int) + ((inn r).map fun b => (szs b : Int)).sum = _
    rw [e]; omega
theorem inn_max : ∀ cs : List Cd, (dCs cs = 0 ∧ inn cs = []) ∨ ∃ b, b ∈ inn cs ∧ dCs cs = dCs b + 1
  | [] => .inl ⟨rfl, rfl⟩
  | .rep t b :: r => by
    have e : dCs (.rep t b :: r) = max (dCs b + 1) (dCs r) := rfl
    rcases inn_max r with ⟨h1, h2⟩ | ⟨b2, h1, h2⟩
    · exact .inr ⟨b, List.mem_cons_self, by rw [e]; omega⟩
    · by_cases q : dCs b + 1 ≤ dCs r
      · exact .inr ⟨b2, List.mem_cons_of_mem _ h1, by rw [e]; omega⟩
      · exact .inr ⟨b, List.mem_cons_self, by rw [e]; omega⟩
  | .go v :: r => by
    have e : dCs (.go v :: r) = dCs r := by show max 0 (dCs r) = _; omega
    rw [e]; exact inn_max r
  | .put v :: r => by
    have e : dCs (.put v :: r) = dCs r := by show max 0 (dCs r) = _; omega
    rw [e]; exact inn_max r
  | .ref u v :: r => by
    have e : dCs (.ref u v :: r) = dCs r := by show max 0 (dCs r) = _; omega
    rw [e]; exact inn_max r
theorem mx_inn (cs : List Cd) : mxD 0 ((inn cs).map fun b => 1 + (dCs b : Int)) = dCs cs := by
  rcases inn_max cs with ⟨h1, h2⟩ | ⟨b, h1, h2⟩
  · rw [h1, h2]; rfl
  · refine mxD_eq (List.mem_map.mpr ⟨b, h1, by omega⟩) fun y hy => ?_
    obtain ⟨b2, hb, rfl⟩ := List.mem_map.mp hy
    have := (inn_dep hb).1
    omega
def sp_inner_blocks : WF := fun ds M k _ => ∃ cs, ds = [tB cs] ∧ k (.lst ((inn cs).map tB)) M
def sp_reverse (n : Nat) : WF := fun ds M k _ => ∃ cs, ds = [tB cs] ∧ dCs cs ≤ n ∧ k (tB (rvs cs)) M
def sp__law_reverse (n : Nat) : WF := fun ds M k _ => ∃ cs, ds = [tB cs] ∧ dCs cs ≤ n ∧ cs.length ≤ 4000 ∧ szs cs ≤ 4000 ∧ k (tB (rvs cs)) M
def sp_reversed_statement (n : Nat) : WF := fun ds M k _ => ∃ c, ds = [toD c] ∧ dC c ≤ n ∧ k (toD (rv c)) M
def sp_statements (n : Nat) : WF := fun ds M k _ => ∃ cs, ds = [tB cs] ∧ dCs cs ≤ n ∧ k (.int (szs cs)) M
def sp__law_count (n : Nat) : WF := sp_statements n
def sp_depth (n : Nat) : WF := fun ds M k _ => ∃ cs, ds = [tB cs] ∧ dCs cs ≤ n ∧ k (.int (dCs cs)) M
def sp__law_a_deep (n : Nat) : WF := sp_depth n
def N_reversed_statement : List Str := ["statement", "vector", "number", "name"]
def w_reversed_statement (sr_reverse : WF) : WS := (wSeq (wMatch (wVar 0) (wmCons (wpSeq 2 (wpCons (wpStr "go") (wpCons (wpN 1) wpNil))) (wRet (wTup (wCons (wC (.str "go")) (wCons (wCall sp_opposite 1 (wCons (wVar 1) wNil)) wNil)))) (wmCons (wpSeq 2 (wpCons (wpStr "put") (wpCons (wpN 2) wpNil))) (wRet (wTup (wCons (wC (.str "put")) (wCons (wUn rNeg (wVar 2)) wNil)))) (wmCons (wpSeq 2 (wpCons (wpStr "do") (wpCons (wpN 3) wpNil))) (wRet (wTup (wCons (wC (.str "undo")) (wCons (wVar 3) wNil)))) (wmCons (wpSeq 2 (wpCons (wpStr "undo") (wpCons (wpN 3) wpNil))) (wRet (wTup (wCons (wC (.str "do")) (wCons (wVar 3) wNil)))) wmNil)))))
  (wRet (wTup (wCons (wC (.str "repeat")) (wCons (wIx (wVar 0) (wC (.int 1))) (wCons (wCall sr_reverse 1 (wCons (wIx (wVar 0) (wC (.int 2))) wNil)) wNil))))))
def N_reverse : List Str := ["block", "statement"]
def w_reverse (sr_reversed_statement : WF) : WS := (wRet (wCB rTuple (wCons (wLc (wiSeq (wRevT (wVar 0))) (wgN 1) wYes (wCall sr_reversed_statement 1 (wCons (wVar 1) wNil)) [1]) wNil)))
def N_inner_blocks : List Str := ["block", "statement"]
def w_inner_blocks : WS := (wRet (wLc (wiSeq (wVar 0)) (wgN 1) (wTest (wOp rEq (wIx (wVar 1) (wC (.int 0))) (wC (.str "repeat")))) (wIx (wVar 1) (wC (.int 2))) [1]))
def N_statements : List Str := ["block", "inner"]
def w_statements (sr : WF) : WS := (wRet (wOp rAdd (wCB rLn (wCons (wVar 0) wNil)) (wCB rSum (wCons (wLc (wiSeq (wCall sp_inner_blocks 1 (wCons (wVar 0) wNil))) (wgN 1) wYes (wCall sr 1 (wCons (wVar 1) wNil)) [1]) wNil))))
def N_depth : List Str := ["block", "inner"]
def w_depth (sr : WF) : WS := (wRet (wMaxD (wLc (wiSeq (wCall sp_inner_blocks 1 (wCons (wVar 0) wNil))) (wgN 1) wYes (wOp rAdd (wC (.int 1)) (wCall sr 1 (wCons (wVar 1) wNil))) [1]) (wC (.int 0))))
def N__law_reverse : List Str := ["_law_block", "_law_found", "_law_statement", "_law_a"]
def w__law_reverse (sr : WF) : WS := (wSeq (wSet 1 (wLstM wNil))
  (wSeq (wFor (wiSeq (wRevT (wVar 0))) (wgN 2) (wIfS (wTest (wOp rEq (wIx (wVar 2) (wC (.int 0))) (wC (.str "repeat")))) (wDrop (wApp (wVar 1) (wTup (wCons (wC (.str "repeat")) (wCons (wIx (wVar 2) (wC (.int 1))) (wCons (wCall sr 1 (wCons (wIx (wVar 2) (wC (.int 2))) wNil)) wNil)))))) (wIfS (wTest (wOp rEq (wIx (wVar 2) (wC (.int 0))) (wC (.str "go")))) (wDrop (wApp (wVar 1) (wTup (wCons (wC (.str "go")) (wCons (wCB rTuple (wCons (wLc (wiSeq (wIx (wVar 2) (wC (.int 1)))) (wgN 3) wYes (wUn rNeg (wVar 3)) [3]) wNil)) wNil))))) (wIfS (wTest (wOp rEq (wIx (wVar 2) (wC (.int 0))) (wC (.str "put")))) (wDrop (wApp (wVar 1) (wTup (wCons (wC (.str "put")) (wCons (wUn rNeg (wIx (wVar 2) (wC (.int 1)))) wNil))))) (wDrop (wApp (wVar 1) (wTup (wCons (wPick2 "do" "undo" "undo" "do" (wIx (wVar 2) (wC (.int 0)))) (wCons (wIx (wVar 2) (wC (.int 1))) wNil)))))))))
  (wFrz 1 (wRet (wCB rTuple (wCons (wVar 1) wNil))))))
def N__law_count : List Str := ["_law_block", "_law_one"]
def w__law_count (sr : WF) : WS := (wRet (wOp rAdd (wCB rLn (wCons (wVar 0) wNil)) (wCB rSum (wCons (wLc (wiSeq (wVar 0)) (wgN 1) (wTest (wOp rEq (wIx (wVar 1) (wC (.int 0))) (wC (.str "repeat")))) (wCall sr 1 (wCons (wIx (wVar 1) (wC (.int 2))) wNil)) [1]) wNil))))
def N__law_a_deep : List Str := ["_law_block", "_law_found", "_law_one"]
def w__law_a_deep (sr : WF) : WS := (wSeq (wSet 1 (wC (.int 0)))
  (wSeq (wFor (wiSeq (wVar 0)) (wgN 2) (wIfS (wTest (wOp rEq (wIx (wVar 2) (wC (.int 0))) (wC (.str "repeat")))) (wSet 1 (wCB rMax2 (wCons (wVar 1) (wCons (wOp rAdd (wC (.int 1)) (wCall sr 1 (wCons (wIx (wVar 2) (wC (.int 2))) wNil))) wNil)))) wNext))
  (wRet (wVar 1))))
theorem hw_rstat {sr : WF} {n : Nat} (hs : ∀ b M k x, dCs b + 1 ≤ n → k (tB (rvs b)) M → sr [tB b] M k x) (ds : List D) (M : MH) (k : KD) (x : KE) (h : sp_reversed_statement n ds M k x) : w_reversed_statement sr (startD N_reversed_statement ds) M (retE k x) := by
  obtain ⟨c, rfl, hd, hk⟩ := h
  cases c with
  | go v =>
    walk_at "w"
    refine ⟨v, rfl, ?_⟩
    walk_at "w"
    exact Lt.now hk
  | put i => walk_at "w"; exact Lt.now hk
  | ref u nm => cases u <;> (walk_at "w"; exact Lt.now hk)
  | rep t b =>
    walk_at "w"
    refine hs b M _ _ hd ?_
    walk_at "w"
    exact Lt.now hk
theorem hw_rev {ss : WF} {n : Nat} (hs : ∀ c M k x, dC c ≤ n → k (toD (rv c)) M → ss [toD c] M k x) (ds : List D) (M : MH) (k : KD) (x : KE) (h : sp_reverse n ds M k x) : w_reverse ss (startD N_reverse ds) M (retE k x) := by
  obtain ⟨cs, rfl, hd, hk⟩ := h
  walk_at "w"
  rw [toDs_rev]
  have hm : ∀ es : List Cd, (∀ c, c ∈ es → dC c ≤ n) → All2 (fun d e => ∃ c, d = toD c ∧ e = toD (rv c) ∧ dC c ≤ n) (toDs es) (toDs (es.map rv)) := fun es => by
    induction es with
    | nil => exact fun _ => .nil
    | cons c r ih => exact fun h => .cons ⟨c, rfl, rfl, h c List.mem_cons_self⟩ (ih fun e he => h e (List.mem_cons_of_mem _ he))
  have hall : ∀ c, c ∈ cs → dC c ≤ n := by
    clear hk hm
    intro c hc
    induction cs with
    | nil => cases hc
    | cons a r ih =>
      have e : dCs (a :: r) = max (dC a) (dCs r) := rfl
      rw [e] at hd
      rcases List.mem_cons.mp hc with q | q
      · subst q; omega
      · exact ih (by omega) q
  refine compD_all2 _ _ _ (hm cs.reverse fun c hc => hall c (List.mem_reverse.mp hc)) trivial (fun d e r k' hk' => ?_) ?_
  · obtain ⟨c, rfl, rfl, hc⟩ := r
    exact hs c M k' _ hc hk'
  · rw [← rvs_eq]
    exact Lt.now hk
theorem hw_rstat0 (ds : List D) (M : MH) (k : KD) (x : KE) (_ : ds.length = 1) (h : sp_reversed_statement 0 ds M k x) : w_reversed_statement noSp (startD N_reversed_statement ds) M (retE k x) := hw_rstat (n := 0) (fun _ _ _ _ h => absurd h (Nat.not_succ_le_zero _)) ds M k x h
theorem hw_rstat1 (n : Nat) (ds : List D) (M : MH) (k : KD) (x : KE) (_ : ds.length = 1) (h : sp_reversed_statement (n + 1) ds M k x) : w_reversed_statement (sp_reverse n) (startD N_reversed_statement ds) M (retE k x) := hw_rstat (n := n + 1) (fun b M k x h1 h2 => ⟨b, rfl, Nat.le_of_succ_le_succ h1, h2⟩) ds M k x h
theorem hw_rev1 (n : Nat) (ds : List D) (M : MH) (k : KD) (x : KE) (_ : ds.length = 1) (h : sp_reverse n ds M k x) : w_reverse (sp_reversed_statement n) (startD N_reverse ds) M (retE k x) := hw_rev (n := n) (fun c M k x h1 h2 => ⟨c, rfl, h1, h2⟩) ds M k x h
theorem skip_ {T : Prop} (h : T) : T := h
theorem hw_inner_blocks (ds : List D) (M : MH) (k : KD) (x : KE) (_ : ds.length = 1) (h : sp_inner_blocks ds M k x) : w_inner_blocks (startD N_inner_blocks ds) M (retE k x) := by
  obtain ⟨cs, rfl, hk⟩ := h
  walk_at "w"
  refine compD_fr _ _ _ _ (fr_inn tB cs) trivial (fun d t k1 k2 h2 => ?_) (fun d e r k1 k2 h1 => ?_) (Lt.now hk)
  · obtain ⟨c, rfl, hc⟩ := t
    cases c with
    | rep t b => exact absurd rfl (hc t b)
    | go v => exact h2
    | put v => exact h2
    | ref u v => cases u <;> exact h2
  · obtain ⟨t, b, rfl, rfl, _⟩ := r
    exact h1
theorem each_f {α : Type} (f g : α → D) (xs : List α) : All2 (fun d e => ∃ b, b ∈ xs ∧ d = f b ∧ e = g b) (xs.map f) (xs.map g) :=
  have h : ∀ es : List α, (∀ b, b ∈ es → b ∈ xs) → All2 (fun d e => ∃ b, b ∈ xs ∧ d = f b ∧ e = g b) (es.map f) (es.map g) := fun es => by
    induction es with
    | nil => exact fun _ => .nil
    | cons c r ih => exact fun h => .cons ⟨c, h c List.mem_cons_self, rfl, rfl⟩ (ih fun e he => h e (List.mem_cons_of_mem _ he))
  h xs fun _ h => h
theorem hw_stats {sr : WF} {n : Nat} (hs : ∀ b M k x, dCs b + 1 ≤ n → k (.int (szs b)) M → sr [tB b] M k x) (ds : List D) (M : MH) (k : KD) (x : KE) (h : sp_statements n ds M k x) : w_statements sr (startD N_statements ds) M (retE k x) := by
  obtain ⟨cs, rfl, hd, hk⟩ := h
  walk_at "w"
  refine ⟨cs, rfl, ?_⟩
  refine compD_all2 _ _ _ (each_f tB (fun b => .int (szs b)) (inn cs)) trivial (fun d e r k' hk' => ?_) ?_
  · obtain ⟨b, hb, rfl, rfl⟩ := r
    exact hs b M k' _ (by have := (inn_dep hb).1; omega) hk'
  · have e : ((inn cs).map fun b => D.int (szs b)) = ((inn cs).map fun b => (szs b : Int)).map .int := by rw [List.map_map]; rfl
    rw [e]
    walk_at "w"
    rw [intsOf_map]
    refine Lt.as hk ?_
    show D.int (((toDs cs).length : Int) + _) = _
    rw [toDs_len]
    exact congrArg D.int (inn_sum cs)
theorem hw_count {sr : WF} {n : Nat} (hs : ∀ b M k x, dCs b + 1 ≤ n → k (.int (szs b)) M → sr [tB b] M k x) (ds : List D) (M : MH) (k : KD) (x : KE) (h : sp__law_count n ds M k x) : w__law_count sr (startD N__law_count ds) M (retE k x) := by
  obtain ⟨cs, rfl, hd, hk⟩ := h
  walk_at "w"
  refine compD_fr _ _ _ _ (fr_inn (fun b => .int (szs b)) cs) trivial (fun d t k1 k2 h2 => ?_) (fun d e r k1 k2 h1 => ?_) ?_
  · obtain ⟨c, rfl, hc⟩ := t
    cases c with
    | rep t b => exact absurd rfl (hc t b)
    | go v => exact h2
    | put v => exact h2
    | ref u v => cases u <;> exact h2
  · obtain ⟨t, b, rfl, rfl, hb⟩ := r
    exact hs b M k1 _ (by have := (inn_dep hb).1; omega) h1
  · have e : ((inn cs).map fun b => D.int (szs b)) = ((inn cs).map fun b => (szs b : Int)).map .int := by rw [List.map_map]; rfl
    rw [e]
    walk_at "w"
    rw [intsOf_map]
    refine Lt.as hk ?_
    show D.int (((toDs cs).length : Int) + _) = _
    rw [toDs_len]
    exact congrArg D.int (inn_sum cs)
theorem hw_dep {sr : WF} {n : Nat} (hs : ∀ b M k x, dCs b + 1 ≤ n → k (.int (dCs b)) M → sr [tB b] M k x) (ds : List D) (M : MH) (k : KD) (x : KE) (h : sp_depth n ds M k x) : w_depth sr (startD N_depth ds) M (retE k x) := by
  obtain ⟨cs, rfl, hd, hk⟩ := h
  walk_at "w"
  refine ⟨cs, rfl, ?_⟩
  refine compD_all2 _ _ _ (each_f tB (fun b => .int (1 + (dCs b : Int))) (inn cs)) trivial (fun d e r k' hk' => ?_) ?_
  · obtain ⟨b, hb, rfl, rfl⟩ := r
    exact hs b M _ _ (by have := (inn_dep hb).1; omega) hk'
  · have e : ((inn cs).map fun b => D.int (1 + (dCs b : Int))) = ((inn cs).map fun b => 1 + (dCs b : Int)).map .int := by rw [List.map_map]; rfl
    rw [e]
    walk_at "w"
    rw [intsOf_map]
    exact Lt.as hk (congrArg D.int (mx_inn cs))
theorem hw_deep {sr : WF} {n : Nat} (hs : ∀ b M k x, dCs b + 1 ≤ n → k (.int (dCs b)) M → sr [tB b] M k x) (ds : List D) (M : MH) (k : KD) (x : KE) (h : sp__law_a_deep n ds M k x) : w__law_a_deep sr (startD N__law_a_deep ds) M (retE k x) := by
  obtain ⟨cs, rfl, hd, hk⟩ := h
  walk_at "w"
  refine forD_inv (fun ds ρ M' => M' = M ∧ ∃ (cs1 : List Cd) (m : Nat) (o2 : Option D), ds = toDs cs1 ∧ dCs cs1 ≤ n ∧ max m (dCs cs1) = dCs cs ∧ ρ = [some (tB cs), some (.int m), o2]) (fun _ _ _ _ => trivial) (fun ρ M' hI => ?_) (fun d r ρ M' nx hI hn => ?_) _ _ _
    ⟨rfl, cs, 0, _, rfl, hd, by omega, rfl⟩
  · obtain ⟨rfl, cs1, m, o2, hd1, _, hm, rfl⟩ := hI
    cases cs1 with
    | nil =>
      have hm' : max m 0 = dCs cs := hm
      exact Lt.as hk (by show D.int (m : Int) = D.int (dCs cs : Int); congr 2; omega)
    | cons c cs1 => cases hd1
  · obtain ⟨rfl, cs1, m, o2, hd1, hdl, hm, rfl⟩ := hI
    cases cs1 with
    | nil => cases hd1
    | cons c cs1 =>
      cases hd1
      have e1 : dCs (c :: cs1) = max (dC c) (dCs cs1) := rfl
      rw [e1] at hdl hm
      cases c with
      | go v => walk_at "w"; exact hn _ _ ⟨rfl, cs1, m, _, rfl, by omega, by have : dC (.go v) = 0 := rfl; omega, rfl⟩
      | put v => walk_at "w"; exact hn _ _ ⟨rfl, cs1, m, _, rfl, by omega, by have : dC (.put v) = 0 := rfl; omega, rfl⟩
      | ref u v => cases u <;> (walk_at "w"; exact hn _ _ ⟨rfl, cs1, m, _, rfl, by omega, by first | (have : dC (.ref true v) = 0 := rfl; omega) | (have : dC (.ref false v) = 0 := rfl; omega), rfl⟩)
      | rep t b =>
        have e2 : dC (.rep t b) = dCs b + 1 := rfl
        walk_at "w"
        refine hs b M' _ _ (by omega) ?_
        have e3 : (if (1 + (dCs b : Int)) > (m : Int) then 1 + (dCs b : Int) else (m : Int)) = ((max m (dCs b + 1) : Nat) : Int) := by
          by_cases q : (1 + (dCs b : Int)) > (m : Int)
          · rw [if_pos q]; omega
          · rw [if_neg q]; omega
        walk_at "w"
        rw [e3]
        exact hn _ _ ⟨rfl, cs1, max m (dCs b + 1), _, rfl, by omega, by omega, rfl⟩
theorem hw_lrev {sr : WF} {n : Nat} (hs : ∀ b M k x, dCs b + 1 ≤ n → b.length ≤ 4000 → szs b ≤ 4000 → k (tB (rvs b)) M → sr [tB b] M k x) (ds : List D) (M : MH) (k : KD) (x : KE) (h : sp__law_reverse n ds M k x) : w__law_reverse sr (startD N__law_reverse ds) M (retE k x) := by
  obtain ⟨cs, rfl, hd, hl4, hz, hk⟩ := h
  walk_at "w"
  intro b hb
  walk_at "w"
  rw [toDs_rev]
  refine forD_inv (fun ds ρ M' => Off b M M' ∧ ∃ cs1 dn o2 o3, ds = toDs cs1 ∧ (∀ c, c ∈ cs1 → c ∈ cs) ∧ dn.length + cs1.length ≤ 4000 ∧ dn ++ cs1.map rv = rvs cs ∧ M' b = some (.lst (toDs dn)) ∧ ρ = [some (tB cs), some (.ref b), o2, o3]) (fun _ _ _ _ => trivial) (fun ρ M' hI => ?_) (fun d r ρ M' nx hI hn => ?_) _ _ _
    ⟨DL.Off.upd _ _ _, cs.reverse, [], _, _, rfl, fun c hc => List.mem_reverse.mp hc, by rw [List.length_nil, List.length_reverse]; omega, by rw [rvs_eq]; rfl, mupd_same, rfl⟩
  · obtain ⟨hO, cs1, dn, o2, o3, hd1, _, _, hf, hM, rfl⟩ := hI
    cases cs1 with
    | nil =>
      refine ⟨b, _, rfl, hM, ?_⟩
      rw [mdel_eq hO hb]
      have e : dn = rvs cs := by rw [← hf]; exact (List.append_nil dn).symm
      rw [e]
      exact Lt.now hk
    | cons c cs1 => cases hd1
  · obtain ⟨hO, cs1, dn, o2, o3, hd1, hmem, hfl, hf, hM, rfl⟩ := hI
    cases cs1 with
    | nil => cases hd1
    | cons c cs1 =>
      cases hd1
      rw [List.length_cons] at hfl
      have hlen : (toDs dn).length < sizeLine := by rw [toDs_len, sizeLine_eq]; omega
      have fin : ∀ e p2 p3, e = toD (rv c) → nx [some (tB cs), some (.ref b), p2, p3] (mupd M' b (.lst (toDs dn ++ [e]))) := by
        rintro e p2 p3 rfl
        refine hn _ _ ⟨hO.upd2 _, cs1, dn ++ [rv c], _, _, rfl, fun e he => hmem e (List.mem_cons_of_mem _ he), by rw [List.length_append, List.length_singleton]; omega, ?_, by rw [mupd_same, toDs_app]; rfl, rfl⟩
        rw [List.append_assoc]
        exact hf
      have hc := hmem c List.mem_cons_self
      cases c with
      | go v =>
        walk_at "w"
        refine ⟨_, _, rfl, hM, ?_⟩
        walk_at "w"
        refine compD_all2 _ _ _ (each_int (fun x => -x) v) trivial (fun d e r k' hk' => ?_) ?_
        · obtain ⟨m, hm', rfl, rfl⟩ := r
          exact hk'
        · walk_at "w"
          refine ⟨_, hM, hlen, ?_⟩
          exact fin _ _ _ rfl
      | put i => walk_at "w"; refine ⟨_, _, rfl, hM, ?_⟩; refine ⟨_, hM, hlen, ?_⟩; exact fin _ _ _ rfl
      | ref u nm => cases u <;> (walk_at "w"; refine ⟨_, _, rfl, hM, ?_⟩; walk_at "w"; refine ⟨_, hM, hlen, ?_⟩; exact fin _ _ _ rfl)
      | rep t bb =>
        have hin : bb ∈ inn cs := inn_mem hc
        obtain ⟨q1, q2⟩ := inn_dep hin
        have q3 := len_szs bb
        walk_at "w"
        refine ⟨_, _, rfl, hM, ?_⟩
        refine hs bb M' _ _ (by omega) (by omega) (by omega) ?_
        walk_at "w"
        refine ⟨_, hM, hlen, ?_⟩
        exact fin _ _ _ rfl
theorem hw0_statements (ds : List D) (M : MH) (k : KD) (x : KE) (_ : ds.length = 1) (h : sp_statements 0 ds M k x) : w_statements noSp (startD N_statements ds) M (retE k x) := hw_stats (n := 0) (fun _ _ _ _ h => absurd h (Nat.not_succ_le_zero _)) ds M k x h
theorem hw1_statements (n : Nat) (ds : List D) (M : MH) (k : KD) (x : KE) (_ : ds.length = 1) (h : sp_statements (n + 1) ds M k x) : w_statements (sp_statements n) (startD N_statements ds) M (retE k x) := hw_stats (n := n + 1) (fun b M k x h1 h2 => ⟨b, rfl, Nat.le_of_succ_le_succ h1, h2⟩) ds M k x h
theorem hw0__law_count (ds : List D) (M : MH) (k : KD) (x : KE) (_ : ds.length = 1) (h : sp__law_count 0 ds M k x) : w__law_count noSp (startD N__law_count ds) M (retE k x) := hw_count (n := 0) (fun _ _ _ _ h => absurd h (Nat.not_succ_le_zero _)) ds M k x h
theorem hw1__law_count (n : Nat) (ds : List D) (M : MH) (k : KD) (x : KE) (_ : ds.length = 1) (h : sp__law_count (n + 1) ds M k x) : w__law_count (sp__law_count n) (startD N__law_count ds) M (retE k x) := hw_count (n := n + 1) (fun b M k x h1 h2 => ⟨b, rfl, Nat.le_of_succ_le_succ h1, h2⟩) ds M k x h
theorem hw0_depth (ds : List D) (M : MH) (k : KD) (x : KE) (_ : ds.length = 1) (h : sp_depth 0 ds M k x) : w_depth noSp (startD N_depth ds) M (retE k x) := hw_dep (n := 0) (fun _ _ _ _ h => absurd h (Nat.not_succ_le_zero _)) ds M k x h
theorem hw1_depth (n : Nat) (ds : List D) (M : MH) (k : KD) (x : KE) (_ : ds.length = 1) (h : sp_depth (n + 1) ds M k x) : w_depth (sp_depth n) (startD N_depth ds) M (retE k x) := hw_dep (n := n + 1) (fun b M k x h1 h2 => ⟨b, rfl, Nat.le_of_succ_le_succ h1, h2⟩) ds M k x h
theorem hw0__law_a_deep (ds : List D) (M : MH) (k : KD) (x : KE) (_ : ds.length = 1) (h : sp__law_a_deep 0 ds M k x) : w__law_a_deep noSp (startD N__law_a_deep ds) M (retE k x) := hw_deep (n := 0) (fun _ _ _ _ h => absurd h (Nat.not_succ_le_zero _)) ds M k x h
theorem hw1__law_a_deep (n : Nat) (ds : List D) (M : MH) (k : KD) (x : KE) (_ : ds.length = 1) (h : sp__law_a_deep (n + 1) ds M k x) : w__law_a_deep (sp__law_a_deep n) (startD N__law_a_deep ds) M (retE k x) := hw_deep (n := n + 1) (fun b M k x h1 h2 => ⟨b, rfl, Nat.le_of_succ_le_succ h1, h2⟩) ds M k x h
theorem hw0__law_reverse (ds : List D) (M : MH) (k : KD) (x : KE) (_ : ds.length = 1) (h : sp__law_reverse 0 ds M k x) : w__law_reverse noSp (startD N__law_reverse ds) M (retE k x) := hw_lrev (n := 0) (fun _ _ _ _ h => absurd h (Nat.not_succ_le_zero _)) ds M k x h
theorem hw1__law_reverse (n : Nat) (ds : List D) (M : MH) (k : KD) (x : KE) (_ : ds.length = 1) (h : sp__law_reverse (n + 1) ds M k x) : w__law_reverse (sp__law_reverse n) (startD N__law_reverse ds) M (retE k x) := hw_lrev (n := n + 1) (fun b M k x h1 h2 h3 h4 => ⟨b, rfl, Nat.le_of_succ_le_succ h1, h2, h3, h4⟩) ds M k x h
end DL

namespace DL
open PySem PySem.Spec PyProof.Rows L2
/-! ### dicts whose keys are texts -/
def getL {α : Type} : List Str → List α → Str → Option α
  | k' :: ks, x :: xs, k => if k' = k then some x else getL ks xs k
  | _, _, _ => none
def putL {α : Type} : List Str → List α → Str → α → List α
  | k' :: ks, x :: xs, k, v => (if k' = k then v else x) :: putL ks xs k v
  | _, _, _, _ => []
def putKs (ks : List Str) (k : Str) : List Str := if k ∈ ks then ks else ks ++ [k]
def putXs {α : Type} (ks : List Str) (xs : List α) (k : Str) (v : α) : List α := if k ∈ ks then putL ks xs k v else xs ++ [v]
theorem kvz_cons {k : Str} {ks : List Str} {x : V} {xs : List V} : kvz (k :: ks) (x :: xs) = (Sum.inr k, x) :: kvz ks xs := rfl
theorem kvz_len : ∀ {ks : List Str} {xs : List V}, ks.length = xs.length → (kvz ks xs).length = xs.length
  | [], [], _ => rfl
  | _ :: ks, _ :: xs, h => congrArg (· + 1) (kvz_len (ks := ks) (xs := xs) (by simpa using h))
theorem key_eq {a b : Str} : ((Sum.inr a : Key) = Sum.inr b) = (a = b) := by
  apply propext
  exact ⟨fun h => by injection h, fun h => by rw [h]⟩
theorem valV_kvz : ∀ (ks : List Str) (xs : List V) (k : Str), valV (kvz ks xs) (.inr k) = getL ks xs k
  | [], _, _ => rfl
  | _ :: _, [], _ => rfl
  | k' :: ks, x :: xs, k => by
    rw [kvz_cons]
    by_cases h : k' = k
    · rw [valV_pos (p := (Sum.inr k', x)) (by rw [h])]
      show _ = if k' = k then some x else _
      rw [if_pos h]
    · rw [valV_neg (p := (Sum.inr k', x)) (by rw [key_eq]; exact h), valV_kvz ks xs k]
      show _ = if k' = k then some x else _
      rw [if_neg h]
theorem Reps.getL {K : PySem.W.Frag} {F : Hp} : ∀ {ks : List Str} {xs : List V} {ds : List D} {k : Str} {d : D}, Reps K F xs ds → DL.getL ks ds k = some d → ∃ v, DL.getL ks xs k = some v ∧ Rep K F v d
  | [], _, _, _, _, _, h => by simp [DL.getL] at h
  | _ :: _, _, _, _, _, .nil, h => by simp [DL.getL] at h
  | k' :: ks, _, _, k, d, .cons q r, h => by
    have h' : (if k' = k then some _ else DL.getL ks _ k) = some d := h
    by_cases e : k' = k
    · rw [if_pos e] at h'
      cases h'
      refine ⟨_, ?_, q⟩
      show (if k' = k then some _ else _) = _
      rw [if_pos e]
    · rw [if_neg e] at h'
      obtain ⟨v, h1, h2⟩ := Reps.getL r h'
      refine ⟨v, ?_, h2⟩
      show (if k' = k then some _ else _) = _
      rw [if_neg e]
      exact h1
theorem getL_some {α : Type} : ∀ {ks : List Str} {xs : List α} {k : Str}, ks.length = xs.length → (getL ks xs k).isSome = decide (k ∈ ks)
  | [], [], k, _ => by simp [getL]
  | k' :: ks, x :: xs, k, h => by
    have ih := getL_some (ks := ks) (xs := xs) (k := k) (by simpa using h)
    show (if k' = k then some x else getL ks xs k).isSome = _
    by_cases e : k' = k
    · rw [if_pos e]; subst e; simp
    · rw [if_neg e, ih, Bool.eq_iff_iff]
      simp [Ne.symm e, eq_comm]
theorem putL_len {α : Type} : ∀ {ks : List Str} {xs : List α} {k : Str} {v : α}, ks.length = xs.length → (putL ks xs k v).length = xs.length
  | [], [], _, _, _ => rfl
  | _ :: ks, _ :: xs, _, _, h => congrArg (· + 1) (putL_len (ks := ks) (xs := xs) (by simpa using h))
theorem Reps.putL {K : PySem.W.Frag} {F : Hp} {v : V} {d : D} (q : Rep K F v d) : ∀ {ks : List Str} {xs : List V} {ds : List D} {k : Str}, Reps K F xs ds → Reps K F (DL.putL ks xs k v) (DL.putL ks ds k d)
  | [], _, _, _, _ => .nil
  | _ :: _, _, _, _, .nil => .nil
  | k' :: ks, _, _, k, .cons h r => by
    show Reps K F ((if k' = k then v else _) :: _) ((if k' = k then d else _) :: _)
    by_cases e : k' = k
    · rw [if_pos e, if_pos e]; exact .cons q (Reps.putL q r)
    · rw [if_neg e, if_neg e]; exact .cons h (Reps.putL q r)
theorem putK_kvz : ∀ (ks : List Str) (xs : List V) (k : Str) (v : V), ks.length = xs.length → putK (kvz ks xs) (.inr k) v = kvz (putKs ks k) (putXs ks xs k v) := fun ks xs k v hl => by
  have hany : ∀ (ks : List Str) (xs : List V), ks.length = xs.length → ((kvz ks xs).any fun kv => decide (kv.1 = (.inr k : Key))) = decide (k ∈ ks) := fun ks => by
    induction ks with
    | nil => intro xs h; cases xs with
      | nil => simp [kvz]
      | cons _ _ => simp at h
    | cons k' ks ih =>
      intro xs h
      cases xs with
      | nil => simp at h
      | cons x xs =>
        rw [kvz_cons, List.any_cons, ih xs (by simpa using h)]
        rw [Bool.eq_iff_iff]
        simp only [Bool.or_eq_true, decide_eq_true_eq, List.mem_cons, key_eq]
        exact or_congr eq_comm Iff.rfl
  have hmap : ∀ (ks : List Str) (xs : List V), (kvz ks xs).map (fun kv => if kv.1 = (.inr k : Key) then (kv.1, v) else kv) = kvz ks (DL.putL ks xs k v) := fun ks => by
    induction ks with
    | nil => intro xs; rfl
    | cons k' ks ih =>
      intro xs
      cases xs with
      | nil => rfl
      | cons x xs =>
        rw [kvz_cons, List.map_cons, ih xs]
        show _ = kvz (k' :: ks) ((if k' = k then v else x) :: DL.putL ks xs k v)
        rw [kvz_cons]
        by_cases e : k' = k
        · rw [if_pos (by rw [e]), if_pos e]
        · rw [if_neg (by rw [key_eq]; exact e), if_neg e]
  have happ : ∀ (ks : List Str) (xs : List V), ks.length = xs.length → kvz ks xs ++ [(.inr k, v)] = kvz (ks ++ [k]) (xs ++ [v]) := fun ks => by
    induction ks with
    | nil => intro xs h; cases xs with
      | nil => rfl
      | cons _ _ => simp at h
    | cons k' ks ih =>
      intro xs h
      cases xs with
      | nil => simp at h
      | cons x xs => rw [kvz_cons, List.cons_append, ih xs (by simpa using h)]; rfl
  unfold putK putKs putXs
  by_cases h : k ∈ ks
  · rw [if_pos (by rw [hany ks xs hl]; exact decide_eq_true h), if_pos h, if_pos h]
    exact hmap ks xs
  · rw [if_neg (by rw [hany ks xs hl, decide_eq_false h]; exact Bool.false_ne_true), if_neg h, if_neg h]
    exact happ ks xs hl
def onDct (d : D) (M : MH) (p : List Str → List D → Prop) : Prop := match d with
  | .dct ks ds => p ks ds
  | .ref a => ∃ ks ds, M a = some (.dct ks ds) ∧ p ks ds
  | _ => False
theorem dct_of {K : PySem.W.Frag} {H F : Hp} {M : MH} {v : V} {d : D} {p : List Str → List D → Prop} (S : RepS K H F M) (r : Rep K F v d) (h : onDct d M p) : ∃ a ks xs ds, v = .ref a ∧ H a = some (.dK (kvz ks xs)) ∧ Reps K F xs ds ∧ ks.length = ds.length ∧ ds.length ≤ sizeLine ∧ p ks ds := by
  cases d with
  | dct ks ds => cases r with | dct a b c e => exact ⟨_, _, _, _, rfl, S.fz _ _ a, b, c, e, h⟩
  | ref a =>
    cases r
    obtain ⟨ks, ds, hm, h⟩ := h
    obtain ⟨_, o, ho, xs, rfl, hr, hl, hz⟩ := S.mu a _ hm
    exact ⟨_, _, _, _, rfl, ho, hr, hl, hz, h⟩
  | _ => exact h.elim
def wDnew : WE := fun _ M k _ => ∀ a, M a = none → k (.ref a) (mupd M a (.dct [] []))
def wDg (wo wi : WE) : WE := fun ρ M k x => wo ρ M (fun o M1 => wi ρ M1 (fun i M2 => onStr i fun z => onDct o M2 fun ks ds => onO (getL ks ds z) fun d => k d M2) x) x
def wDin (g : Bool → Bool) (wi wo : WE) : WE := fun ρ M k x => wi ρ M (fun i M1 => wo ρ M1 (fun o M2 => onStr i fun z => onDct o M2 fun ks ds => k (.bl (g (decide (z ∈ ks)))) M2) x) x
def wDput (wo wi we : WE) : WS := fun ρ M E => we ρ M (fun d M1 => wo ρ M1 (fun o M2 => wi ρ M2 (fun i M3 => onStr i fun z => ∃ a ks ds, o = .ref a ∧ M3 a = some (.dct ks ds) ∧ ds.length < 4096 ∧ E.nx ρ (mupd M3 a (.dct (putKs ks z) (putXs ks ds z d)))) E.xc) E.xc) E.xc
section
variable {X : Cx} {o i e : Expr} {wo wi we : WE} {pos pos' : Pos}
theorem str_of {K : PySem.W.Frag} {F : Hp} {v : V} {d : D} {p : Str → Prop} (r : Rep K F v d) (h : onStr d p) : ∃ z, v = .str z ∧ p z := by
  cases d with
  | str z => cases r; exact ⟨z, rfl, h⟩
  | _ => exact h.elim
theorem de_dnew : DE X (.Dict [] [] pos) wDnew := by
  refine ⟨fun W tk => pe_imp pe_dnewK fun σ H Q q => ?_⟩
  obtain ⟨F, M, ρ, k, x, S, R, w, pv, px⟩ := q
  intro p hp
  obtain ⟨S2, e2⟩ := S.layM hp (o := .dK []) (m := .dct [] []) ⟨[], rfl, .nil, rfl, Nat.zero_le _⟩
  exact pv _ _ _ _ _ e2 S2 (.ref p) (w p (S.mno hp))
theorem de_dg (hu : X.A.units + 64 < cLine) (ho : DE X o wo) (hi : DE X i wi) (hs : NoSl i := by intro _ _; rfl) : DE X (.Subscript o i pos) (wDg wo wi) := by
  refine ⟨fun W tk => pe_imp (pe_dget (by omega) (ho.pe W tk) (hi.pe W tk) hs) fun σ H Q q => ?_⟩
  obtain ⟨F, M, ρ, k, x, S, R, w, pv, px⟩ := q
  refine two S R w px fun v u d e H2 F2 M2 e2 S2 r1 r2 w2 => ?_
  obtain ⟨z, rfl, w3⟩ := str_of r2 w2
  obtain ⟨a, ks, xs, ds, rfl, ha, hr, hl, hz, w4⟩ := dct_of S2 r1 w3
  obtain ⟨y, h1, w5⟩ := onO_of w4
  obtain ⟨v, h2, h3⟩ := hr.getL h1
  exact ⟨a, v, rfl, by rw [← h2, ← valV_kvz]; exact DGet.k (k := .inr z) ha, pv _ _ _ _ _ e2 S2 h3 w5⟩
theorem din_in {W : WX} {σ : L2.St} {H : Hp} {Q : VK} {g : Bool → Bool} (q : tOf X.K W (wDin g wi wo) σ H Q) : tOf X.K W wi σ H fun y H1 => tOf X.K W wo σ H1 fun x H2 => ∃ a o, x = .ref a ∧ DGet H2 a y o ∧ Q (.bl (g o.isSome)) H2 := by
  obtain ⟨F, M, ρ, k, x, S, R, w, pv, px⟩ := q
  refine two S R w px fun v u d e H2 F2 M2 e2 S2 r1 r2 w2 => ?_
  obtain ⟨z, rfl, w3⟩ := str_of r1 w2
  obtain ⟨a, ks, xs, ds, rfl, ha, hr, hl, hz, w4⟩ := dct_of S2 r2 w3
  refine ⟨a, _, rfl, DGet.k (k := .inr z) ha, ?_⟩
  rw [valV_kvz, getL_some (hl.trans hr.length.symm)]
  exact pv _ _ _ _ _ e2 S2 (.bl _) w4
theorem de_din (hu : X.A.units + 64 < cLine) (hi : DE X i wi) (ho : DE X o wo) (hm : behindInMarks .In o = false := by first | exact nomark _ | rfl) : DE X (.Compare i [.In] [o] pos) (wDin (fun b => b) wi wo) :=
  ⟨fun W tk => pe_imp (pe_cmp (pc_din (by omega) (hi.pe W tk) (ho.pe W tk)) hm) fun σ H Q q => din_in q⟩
theorem de_dnotin (hu : X.A.units + 64 < cLine) (hi : DE X i wi) (ho : DE X o wo) (hm : behindInMarks .NotIn o = false := by first | exact nomark _ | rfl) : DE X (.Compare i [.NotIn] [o] pos) (wDin (fun b => !b) wi wo) :=
  ⟨fun W tk => pe_imp (pe_cmp (pc_dnotin (by omega) (hi.pe W tk) (ho.pe W tk)) hm) fun σ H Q q => din_in q⟩
theorem dtest_in {W : WX} {σ : L2.St} {H : Hp} {Q : Bool → Hp → Prop} {w : WE} (q : tOfT X.K W (wTest w) σ H Q) : tOf X.K W w σ H fun v H1 => ∃ b, v = .bl b ∧ Q b H1 := by
  obtain ⟨F, M, ρ, k, x, S, R, w, pv, px⟩ := q
  refine ⟨F, M, ρ, _, x, S, R, w, fun v' d' H3 F3 M3 e3 S3 r3 w3 => ?_, px⟩
  obtain ⟨b, rfl, w4⟩ := bl_of r3 w3
  exact ⟨b, rfl, pv b H3 F3 M3 e3 S3 w4⟩
theorem dt_din (hu : X.A.units + 64 < cLine) (hi : DE X i wi) (ho : DE X o wo) (hm : behindInMarks .In o = false := by first | exact nomark _ | rfl) : DT X (.Compare i [.In] [o] pos) (wTest (wDin (fun b => b) wi wo)) :=
  ⟨fun W tk => pt_imp (L2.pt_cmp (pc_din (by omega) (hi.pe W tk) (ho.pe W tk)) hm) fun σ H Q q => din_in (dtest_in q)⟩
theorem dt_dnotin (hu : X.A.units + 64 < cLine) (hi : DE X i wi) (ho : DE X o wo) (hm : behindInMarks .NotIn o = false := by first | exact nomark _ | rfl) : DT X (.Compare i [.NotIn] [o] pos) (wTest (wDin (fun b => !b) wi wo)) :=
  ⟨fun W tk => pt_imp (L2.pt_cmp (pc_dnotin (by omega) (hi.pe W tk) (ho.pe W tk)) hm) fun σ H Q q => din_in (dtest_in q)⟩
theorem ds_dput (hu : X.A.units + 64 < cLine) (ho : DE X o wo) (hi : DE X i wi) (he : DE X e we) (hs : swapsWith e (some (.Subscript o i pos')) pos.line X.env = pure false := by rfl) : DS X (.Assign [.Subscript o i pos'] e pos) (wDput wo wi we) := by
  refine ⟨fun W tk _ => ps_imp (ps_dput (by omega) (ho.pe W tk) (hi.pe W tk) (he.pe W tk) hs) fun D σ H q => ?_⟩
  obtain ⟨F, M, ρ, E, S, R, w, f⟩ := q
  refine ⟨F, M, ρ, _, _, S, R, w, fun v d H1 F1 M1 e1 S1 r1 w1 => ?_, f.xc σ⟩
  refine ⟨F1, M1, ρ, _, _, S1, R.mono e1.sm, w1, fun vo o H2 F2 M2 e2 S2 r2 w2 => ?_, (f.xc σ).on e1⟩
  have e12 := e1.trans e2
  refine ⟨F2, M2, ρ, _, _, S2, R.mono e12.sm, w2, fun vi i H3 F3 M3 e3 S3 r3 w3 => ?_, (f.xc σ).on e12⟩
  obtain ⟨z, rfl, a, ks, ds, rfl, hm, hl4, w4⟩ := str_of r3 w3
  cases r2
  obtain ⟨_, ob, hob, xs, rfl, hr, hl, hz⟩ := S3.mu a _ hm
  have hlx : ks.length = xs.length := hl.trans hr.length.symm
  have rd := r1.mono (e2.trans e3).sm
  obtain ⟨S4, e4⟩ := S3.write hm (o := .dK (kvz (putKs ks z) (putXs ks xs z v))) (m := .dct (putKs ks z) (putXs ks ds z d)) (by
    refine ⟨_, rfl, ?_, ?_, ?_⟩
    · unfold putXs
      by_cases h : z ∈ ks
      · rw [if_pos h, if_pos h]; exact hr.putL rd
      · rw [if_neg h, if_neg h]; exact hr.snoc rd
    · unfold putKs putXs
      by_cases h : z ∈ ks
      · rw [if_pos h, if_pos h, putL_len hl]; exact hl
      · rw [if_neg h, if_neg h, List.length_append, List.length_append, hl]; rfl
    · unfold putXs
      rw [sizeLine_eq]
      by_cases h : z ∈ ks
      · rw [if_pos h, putL_len hl]; omega
      · rw [if_neg h, List.length_append, List.length_singleton]; omega)
  refine ⟨a, _, rfl, DPut.k (k := .inr z) hob (by rw [kvz_len hlx, hr.length, sizeLine_eq]; omega), ?_⟩
  rw [putK_kvz _ _ _ _ hlx]
  have e := (e12.trans e3).trans e4
  exact f.nx _ _ _ _ _ e S4 (R.mono e.sm) w4
end
end DL

namespace DL
open PySem PySem.Spec PyProof.Rows L2
/-! ### own exceptions with one field and a tag: made, raised -/
def finX (C a dx : Addr) (f : Str) (v : V) (tg : Str) (H : Hp) : Hp := upd (upd (upd H dx (exd dx [(f, v)])) a (exo a C (some dx))) dx (exd dx [("tag", .str tg), (f, v)])
def spX (C : Addr) (f tg : Str) : Sp := fun vs H Q _ => ∃ a v, vs = [.ref a, v] ∧ H a = some (exo a C none) ∧ ∀ dx, H dx = none → dx ≠ a → Q .non (finX C a dx f v tg H)
structure ExD (P : Program) (w : World) (K : PySem.W.Frag) (mg : Str → Option Value) (base : Heap) (nm f tg : Str) (k : Nat) : Prop where
  cls : OexC K (He.ga K nm)
  ini : ∃ (fI : Addr) (fd : FuncData) (ps : List Str), PySem.W.findIn K (.ref (He.ga K nm)) "__init__" = some (some (.ref fI)) ∧ PySem.W.typeIn K (.ref fI) = some (.type "function") ∧ FnOk P w K mg base (L2.CX P w) k fI fd ps (spX (He.ga K nm) f tg) ∧ Binds K fd ps []
  glo : mg nm = some (.ref (He.ga K nm))
/-- the promise of such an __init__ -/
theorem fn_X {P : Program} {w : World} {K : PySem.W.Frag} {mg : Str → Option Value} {base : Heap} {qual : Str} {st : Stmt} {fI C : Addr} {fd : FuncData} {p f tg : Str} {p1 p2 p3 p4 p5 p6 p7 p8 : Pos} {j : Nat} (G : Fun K "__init__" qual st fI fd) (S : FnScope ["self", p] ["self", p] (defScope st))
    (hb : defBody st = [.Assign [.Attribute (.Name "self" p1) f p2] (.Name p p3) p4, .Assign [.Attribute (.Name "self" p5) "tag" p6] (.Constant (.str tg) j p7) p8])
    (hps : Vis (defScope st) "self" ∧ Vis (defScope st) p) (hd : (p == ("__debug__" : Str)) = false) (hcd : (p == ("__classdict__" : Str)) = false)
    (T : OexC K C) (h1 : PySem.W.findIn K (.ref C) f = some none) (h2 : PySem.W.findIn K (.ref C) "tag" = some none) : FnOk P w K mg base (L2.CX P w) 1 fI fd ["self", p] (spX C f tg) := by
  refine G.okX S (fun vs H Q E h => ?_) (fun cdv A outer s H vs Q E hr h => ?_)
  · obtain ⟨a, v, rfl, _⟩ := h
    rfl
  · rw [hb]
    have self : ∀ (q : Pos), PE (cxOf (L2.CX P w) P w K mg base ["self", p] qual (defScope st) fI cdv A outer s H E) (.Name "self" q) (tVar 0) := fun q => pe_var (i := 0) rfl hps.1 (by decide) (by decide)
    have arg : PE (cxOf (L2.CX P w) P w K mg base ["self", p] qual (defScope st) fI cdv A outer s H E) (.Name p p3) (tVar 1) := pe_var (i := 1) rfl hps.2 hd hcd
    refine ⟨_, pss_cons (ps_ost (self _) arg (by rfl)) (pss_one (ps_ost (self _) pe_str (by rfl))), ?_⟩
    obtain ⟨a, v, rfl, ea, q⟩ := h
    refine ⟨v, rfl, .ref a, rfl, a, C, rfl, T, h1, .inl ⟨ea, fun dx n ne => ?_⟩⟩
    refine ⟨.ref a, rfl, a, C, rfl, T, h2, .inr ⟨dx, [(f, v)], upd_same, ?_, by show 1 ≤ 900; decide, q dx n ne⟩⟩
    rw [upd_ne ne, upd_same]
def wRaise (nm f tg : Str) (we : WE) : WS := fun ρ M E => we ρ M (fun d M1 => E.xc nm [("tag", .str tg), (f, d)] M1) E.xc
section
variable {X : Cx} {e : Expr} {we : WE} {nm f tg : Str} {k : Nat} {p pos pos2 : Pos}
theorem ds_raise (hc : X.calm = true) (G : ExD X.prog X.w X.K X.mg X.base nm f tg k) (hr : Room (k + 1) X.A) (he : DE X e we) (hg : Gl X nm := by rfl) (hdb : (nm == ("__debug__" : Str)) = false := by decide)
    (hs : starEach (e :: []) X.env = (false, eval e X.env) :: starEach [] X.env := by rfl) (hpl : (backTo pos (starEach [] X.env)).any (·.1) = false := by rfl) : DS X (.Raise (some (.Call (.Name nm p) [e] [] pos)) none pos2) (wRaise nm f tg we) := by
  obtain ⟨fI, fd, ps, iC, tI, F1, hb⟩ := G.ini
  refine ⟨fun W tk _ => ps_imp (L2.ps_raise hc tk (pmk_oex G.cls iC tI F1 hr hb .nil passL hg G.glo (pa_cons (he.pe W tk) pa_nil hs) hdb hs hpl)) fun D σ H q => ?_⟩
  obtain ⟨F, M, ρ, E, S, R, w, g⟩ := q
  refine ⟨F, M, ρ, _, _, S, R, w, fun v d H1 F1' M1 e1 S1 r1 w1 => ?_, g.xc σ⟩
  refine ⟨by show 1 ≤ 1000; decide, fun a ha => ?_⟩
  refine ⟨a, v, rfl, upd_same, fun dx hn ne => ⟨rfl, dx, [("tag", .str tg), (f, v)], ?_, upd_same, ?_, ?_⟩⟩
  · show upd _ dx _ a = _
    rw [upd_ne (Ne.symm ne), upd_same]
  · rw [upd_ne ne] at hn
    exact hn
  have hdx : H1 dx = none := by rw [upd_ne ne] at hn; exact hn
  -- the heap at the end: the object is let go, its dict stands
  have eH : ∀ b, b ≠ a → b ≠ dx → upd (L2.del (finX (He.ga X.K nm) a dx f v tg (upd H1 a (exo a (He.ga X.K nm) none))) a) dx (.xd [("tag", .str tg), (f, v)]) b = H1 b := fun b q1 q2 => by
    rw [upd_ne q2, L2.del_ne q1]
    unfold finX
    rw [upd_ne q2, upd_ne q1, upd_ne q2, upd_ne q1]
  have S2 : RepS X.K (upd (L2.del (finX (He.ga X.K nm) a dx f v tg (upd H1 a (exo a (He.ga X.K nm) none))) a) dx (.xd [("tag", .str tg), (f, v)])) F1' M1 := by
    refine ⟨fun b o q => ?_, fun b m q => ?_⟩
    · have q1 : b ≠ a := fun z => by rw [z, S1.fno ha] at q; cases q
      have q2 : b ≠ dx := fun z => by rw [z, S1.fno hdx] at q; cases q
      rw [eH b q1 q2]
      exact S1.fz b o q
    · have q1 : b ≠ a := fun z => by rw [z, S1.mno ha] at q; cases q
      have q2 : b ≠ dx := fun z => by rw [z, S1.mno hdx] at q; cases q
      obtain ⟨g1, o, g2, g3⟩ := S1.mu b m q
      exact ⟨g1, o, by rw [eH b q1 q2]; exact g2, g3⟩
  have e2 : Ext H1 F1' M1 (upd (L2.del (finX (He.ga X.K nm) a dx f v tg (upd H1 a (exo a (He.ga X.K nm) none))) a) dx (.xd [("tag", .str tg), (f, v)])) F1' M1 := ⟨Same.refl _, fun b o q1 q2 q3 => by
    have n1 : b ≠ a := fun z => by rw [z, ha] at q1; cases q1
    have n2 : b ≠ dx := fun z => by rw [z, hdx] at q1; cases q1
    exact ⟨by rw [eH b n1 n2]; exact q1, q2, q3⟩⟩
  exact (g.xc σ) nm dx _ _ _ _ _ (e1.trans e2) S2 upd_same (.cons (.str _) (.cons r1 .nil)) w1
end
end DL

namespace DL
open PySem PySem.Spec PyProof.Rows L2
/-! ### a clause's test: a class, or a tuple of classes -/
section
open PySem.W
variable {M : Model} {A : Around} {E : Value → Shared → Prop} {s : Shared}
theorem forU {l : List Value} {f : Value → PUnit → Sem (ForInStep PUnit)} (hf : ∀ c ∈ l, ∀ Q, Q (.yield PUnit.unit) s → wpAny M A (f c PUnit.unit) Q E s) {Q : PUnit → Shared → Prop} (q : Q PUnit.unit s) : wpAny M A (forIn l PUnit.unit f) Q E s := by
  induction l with
  | nil => exact wpAny_pure q
  | cons c l ih =>
    rw [List.forIn_cons]
    exact wpAny_bind (hf c List.mem_cons_self _ (ih (fun c' m => hf c' (List.mem_cons_of_mem _ m))))
theorem forFind {l : List Value} {ans : Value → Bool} {f : Value → Option Bool × PUnit → Sem (ForInStep (Option Bool × PUnit))} (hf : ∀ c ∈ l, ∀ Q, Q (if ans c = true then .done (some true, PUnit.unit) else .yield (none, PUnit.unit)) s → wpAny M A (f c (none, PUnit.unit)) Q E s)
    {Q : Option Bool × PUnit → Shared → Prop} (q : Q (if l.any ans = true then some true else none, PUnit.unit) s) : wpAny M A (forIn l (none, PUnit.unit) f) Q E s := by
  induction l with
  | nil => exact wpAny_pure q
  | cons c l ih =>
    rw [List.forIn_cons]
    refine wpAny_bind (hf c List.mem_cons_self _ ?_)
    cases h : ans c with
    | true => exact wpAny_pure (by rw [List.any_cons, h, Bool.true_or] at q; exact q)
    | false => exact ih (fun c' m => hf c' (List.mem_cons_of_mem _ m)) (by rw [List.any_cons, h, Bool.false_or] at q; exact q)
/-- what the classes answer, one by one -/
def ansOf (K : Frag) (cls : Value) (c : Value) : Bool := (exmOne K cls c).getD false
theorem any_ans {K : Frag} {cls : Value} : ∀ {cs : List Value} {b : Bool}, exmAny K cls cs = some b → cs.any (ansOf K cls) = b ∧ ∀ c ∈ cs, exmOne K cls c = some (ansOf K cls c)
  | [], _, h => by cases h; exact ⟨rfl, fun _ m => nomatch m⟩
  | c :: cs, _, h => by
    obtain ⟨b1, d1, h1, h2, rfl⟩ := exmAny_cons h
    obtain ⟨q1, q2⟩ := any_ans h2
    have e1 : ansOf K cls c = b1 := by unfold ansOf; rw [h1]; rfl
    refine ⟨by rw [List.any_cons, e1, q1], fun x m => ?_⟩
    rcases List.mem_cons.mp m with rfl | m
    · rw [e1, h1]
    · exact q2 x m
theorem exm_any {K : Frag} {cs : List Value} {cls : Value} {tp e : Addr} {b : Bool} {h : Heap} (X : K.In h) (LT : Looks M h (typeOf (.ref e)) cls) (hp : h.get? tp = some { cls := .type "tuple", data := .seq cs.toArray }) (hx : exmAny K cls cs = some b) :
    Looks M h (excMatches (.ref e) (.ref tp)) b := by
  obtain ⟨ha, hone⟩ := any_ans hx
  intro A Q E s k q
  have LT0 : Looks M h (isInstance (.ref tp) (.type "tuple")) true := ((Looks.ld hp).andThen .now).andThen (Looks.of_pure isSubtype_tuple_tuple)
  unfold excMatches
  refine wpAny_bind ((LT0.keeps k).here ?_)
  dsimp only
  rw [if_pos rfl]
  first
    | refine wpAny_bind (wpAny_seqItems (k _ _ hp) rfl ?_)
    | refine wpAny_bind (wpAny_bind (wpAny_seqItems (k _ _ hp) rfl (wpAny_pure ?_)))
  dsimp only [Option.getD_some, Option.getD]
  first
    | refine wpAny_bind (wpAny_pure ?_)
    | skip
  refine wpAny_bind (forU (fun c m Q2 q2 => ?_) ?_)
  · obtain ⟨e1, _⟩ := exm_cls (M := M) X (hone c m)
    refine wpAny_bind ((e1.keeps k).here ?_)
    rw [if_neg (by decide)]
    exact wpAny_pure q2
  refine wpAny_bind ((LT.keeps k).here ?_)
  refine wpAny_bind (forFind (ans := ansOf K cls) (fun c m Q2 q2 => ?_) ?_)
  · obtain ⟨_, e2⟩ := exm_cls (M := M) X (hone c m)
    refine wpAny_bind ((e2.keeps k).here ?_)
    cases h : ansOf K cls c with
    | true => rw [if_pos rfl]; exact wpAny_pure (by rw [h, if_pos rfl] at q2; exact q2)
    | false => rw [if_neg Bool.false_ne_true]; exact wpAny_pure (by rw [h, if_neg Bool.false_ne_true] at q2; exact q2)
  rw [ha]
  cases b with
  | true => exact wpAny_pure q
  | false => exact wpAny_pure q
end
/-- a test t answers what f says of the exception's class; the heap keeps all -/
def TestOk (X : Cx) (t : Expr) (f : Value → Option Bool) : Prop :=
  ∀ (a : Addr) (oe : Obj) (pn : List (Addr × Obj)) (σ : L2.St) (H : Hp) (s : Shared) (cls : Value) (b : Bool), Inv (X.suite a ((a, oe) :: pn)) [] σ H s → s.heap.get? a = some oe → oe.cls = cls → f cls = some b →
    ∀ (Q : Bool → Shared → Prop) (E : Value → Shared → Prop), (∀ h', (∀ q o, s.heap.get? q = some o → h'.get? q = some o) → Q b { s with heap := h' }) →
      wpAny (model X.prog X.w) (X.A.mark (some (.ref a))) (eval t X.env) (fun c s1 => wpAny (model X.prog X.w) (X.A.mark (some (.ref a))) (excMatches (.ref a) c) Q E s1) E s
section
variable {X : Cx}
theorem ld_names {x : Str} {c : Value} {np : Pos} (hc : Names X x c) {a : Addr} {oe : Obj} {pn : List (Addr × Obj)} {σ : L2.St} {H : Hp} {s : Shared} (S : Inv (X.suite a ((a, oe) :: pn)) [] σ H s) {Q : Value → Shared → Prop} {E : Value → Shared → Prop} (q : Q c s) :
    wpAny (model X.prog X.w) (X.A.mark (some (.ref a))) (eval (.Name x np) X.env) Q E s := by
  obtain ⟨hg, hdbg, hm | ⟨hm, hv, hnn⟩⟩ := hc
  · exact ld_glob (X := X.suite a ((a, oe) :: pn)) S hg hm q hdbg
  · exact ld_blt (X := X.suite a ((a, oe) :: pn)) S hg hm hv q hnn hdbg
theorem looks_cls {prog : Program} {w : World} {h : Heap} {a : Addr} {oe : Obj} {cls : Value} (he : h.get? a = some oe) (hc : oe.cls = cls) : PySem.W.Looks (model prog w) h (typeOf (.ref a)) cls :=
  fun A Q E s k q => wpAny_typeOf_ref (k _ _ he) (by rw [hc]; exact q)
theorem test_one {x : Str} {c : Value} {np : Pos} (hc : Names X x c) : TestOk X (.Name x np) (fun cls => PySem.W.exmOne X.K cls c) := by
  intro a oe pn σ H s cls b S he hcl hb Q E q
  exact ld_names hc S ((PySem.W.exm_one (M := model X.prog X.w) S.kIn (looks_cls he hcl) hb).here (q s.heap fun _ _ z => z))
inductive NamesAll (X : Cx) : List Expr → List Value → Prop
  | nil : NamesAll X [] []
  | cons {x : Str} {c : Value} {np : Pos} {es : List Expr} {cs : List Value} : Names X x c → NamesAll X es cs → NamesAll X (.Name x np :: es) (c :: cs)
theorem NamesAll.length {es : List Expr} {cs : List Value} (h : NamesAll X es cs) : cs.length = es.length := by
  induction h with
  | nil => rfl
  | cons _ _ ih => rw [List.length_cons, List.length_cons, ih]
theorem names_items {es : List Expr} {cs : List Value} (h : NamesAll X es cs) {pos : Pos} {a : Addr} {oe : Obj} {pn : List (Addr × Obj)} {σ : L2.St} {H : Hp} {s : Shared} (S : Inv (X.suite a ((a, oe) :: pn)) [] σ H s) {E : Value → Shared → Prop} :
    ∀ {Q : List Value → Shared → Prop}, Q cs s → wpAny (model X.prog X.w) (X.A.mark (some (.ref a))) (spliced (backTo pos (starEach es X.env))) Q E s := by
  induction h with
  | nil => intro Q q; exact wpAny_items_nil q
  | cons hc _ ih => intro Q q; exact wpAny_items_cons (ld_names hc S (ih q)) (by rfl)
theorem test_tup {es : List Expr} {cs : List Value} {kk : Nat} {tpos : Pos} (h : NamesAll X es cs) (hl : Nat.ble es.length 4096 = true := by rfl) : TestOk X (.Tuple es kk tpos) (fun cls => PySem.W.exmAny X.K cls cs) := by
  intro a oe pn σ H s cls b S he hcl hb Q E q
  refine wpAny_Tuple (names_items h S ⟨?_, ?_⟩)
  · rw [h.length]; exact le_line (Nat.le_of_ble_eq_true hl)
  have kp : ∀ q o, s.heap.get? q = some o → (s.heap.push { cls := .type "tuple", data := .seq cs.toArray }).get? q = some o := fun _ _ z => Heap.get?_push_of_some _ z
  exact (exm_any (M := model X.prog X.w) (S.kIn.keeps kp) (looks_cls (kp _ _ he) hcl) (Heap.get?_push_size s.heap rfl) hb).here (q _ kp)
theorem flyZ_keeps {B : Heap} {l : List Env} {e : Addr} {Z : Obj → Prop} {h h' : Heap} (R : HandSPX.FlyingZ B l e Z h) (k : ∀ b o, h.get? b = some o → h'.get? b = some o) : HandSPX.FlyingZ B l e Z h' := by
  obtain ⟨f1, f2, f3, oe, ws, T, oT, ts, he, hc, hd, h1, hn, hne, hT, hdT, h3⟩ := R
  exact ⟨fun b o q => k b o (f1 b o q), f2, f3.of_keeps fun b o q _ => ⟨o, k b o q, rfl⟩, oe, ws, T, oT, ts, k _ _ he, hc, hd, h1, hn, hne, k _ _ hT, hdT, h3⟩
end
/-! ### many clauses, each 'as e' -/
/-- the ends of a suite: the clause's name goes -/
def goneE (i : Nat) (D : Ends) : Ends := { nx := fun σ' H' => D.nx (σ'.set i none) H', rt := D.rt, bk := fun σ' H' => D.bk (σ'.set i none) H', ct := fun σ' H' => D.ct (σ'.set i none) H' }
/-- a clause: what its test answers, what its suite wishes -/
abbrev Clz := (Value → Option Bool) × (Addr → Value → Option Addr → TS)
def wClz (i : Nat) (Wout : WX) (D : Ends) : List Clz → WX
  | [] => Wout
  | (f, ts) :: r => fun cls d σ H => ∃ b, f cls = some b ∧ (b = true → ∀ a, H a = none → ts a cls d (goneE i D) (σ.set i (some (.ref a))) H) ∧ (b = false → wClz i Wout D r cls d σ H)
inductive ClzOk (X : Cx) (n : Str) : List ExceptHandler → List Clz → Prop
  | nil : ClzOk X n [] []
  | cons {t : Expr} {f : Value → Option Bool} {ts : Addr → Value → Option Addr → TS} {b₀ : Stmt} {suite : List Stmt} {pos' : Pos} {hds : List ExceptHandler} {l : List Clz} (hc : TestOk X t f)
      (hsu : ∀ (a : Addr) (oe : Obj) (cls : Value) (d : Option Addr) (pn : List (Addr × Obj)), Zc cls d oe → (∃ vs, oe.data = .fields vs) → PSs (X.suite a ((a, oe) :: pn)) (b₀ :: suite) (ts a cls d)) (r : ClzOk X n hds l) :
      ClzOk X n (.ExceptHandler (some t) (some n) (b₀ :: suite) pos' :: hds) ((f, ts) :: l)
section
variable {X : Cx} {body : List Stmt} {h₀ : ExceptHandler} {hds : List ExceptHandler} {l : List Clz} {pos : Pos} {tb : WX → TS} {Wout : WX} {n : Str} {i : Nat}
theorem ps_try_clz (hs : X.stack = X.env :: X.outer) (hf : X.env.frame = some X.env.locals) (hN : X.N.Nodup) (hi : X.N[i]? = some n) (hln : X.env.kindOf n = some .local) (tk : Takes X Wout)
    (hb : ∀ (W : WX) (pn : List (Addr × Obj)) (xe : Value → Shared → Prop), Takes (X.tr pn xe) W → PassesOwn (model X.prog X.w) X.A X.env xe → PSs (X.tr pn xe) body (tb W))
    (hh : ClzOk X n (h₀ :: hds) l) : PS X (.Try body (h₀ :: hds) [] [] pos) (fun D σ H => tb (wClz i Wout D l) D σ H) := by
  refine ⟨fun pins s σ H D I h => ?_⟩
  have ok := I.ok
  have hfr : X.A.frames = some (X.env :: X.outer) := by rw [ok.frames, hs]
  have hloc : Loc X.env.scope n := .inl hln
  refine wpAny_Try_except ?_
  refine wpAny_mono ((hb (wClz i Wout D l) (X.pn ++ pins) (fun e s₁ => wpAny (model X.prog X.w) X.A (noteFrame e X.env) (fun _ s₂ => wpAny (model X.prog X.w) X.A (setFlight e none) (fun _ s₃ =>
    wpAny (model X.prog X.w) X.A (handleBy e X.env (h₀ :: hds)) (SP X pins D) X.xe s₃) X.xe s₂) X.xe s₁) (fun u s' xx => ?_) PassesOwn.looking).run [] s σ H D (I.toTry _) h) (fun f s1 hsp => ?_) (fun e s1 he => he)
  · obtain ⟨a, B, sI, pins', σ', H', cls, d, rfl, J', nb, up, sky, na, os, ag, w⟩ := xx
    have J : Inv X pins σ' H' sI := J'.ofTry ok
    have sky' : Sky B (X.env :: X.outer) a (Zc cls d) X.env.locals s'.heap := by rw [← hs]; exact sky
    show wpAny (model X.prog X.w) X.A (noteFrame (.ref a) X.env) _ _ _
    refine Sky.land Zc.steady hfr hf sky' fun h3 fl3 up3 => ?_
    have notFr : ∀ {h : Heap} {o : Obj} {vs : Array Value}, h.FunFrames B (X.env :: X.outer) → h.get? a = some o → o.data = .fields vs → a ∉ frs (X.env :: X.outer) := fun {h o vs} ff e dd hm => by
      obtain ⟨_, o', e', hnf⟩ := ff.mem hm
      rw [e] at e'; cases e'
      exact hnf _ dd
    -- the clauses one after the other; each test may lay a tuple
    have go : ∀ {hds' : List ExceptHandler} {l' : List Clz}, ClzOk X n hds' l' → wClz i Wout D l' cls d σ' H' → ∀ h3, HandSPX.FlyingZ B (X.env :: X.outer) a (Zc cls d) h3 → s'.heap.UpToSlots h3 →
        wpAny (model X.prog X.w) X.A (handleBy (.ref a) X.env hds') (SP X pins D) X.xe { s' with heap := h3 } := by
      intro hds' l' hk
      induction hk with
      | nil =>
        intro w h3 fl3 up3
        refine wpAny_handleBy_nil ?_
        obtain ⟨k1, k2, k3, oe, vs, T, oT, ts', he, hz, hd, h1, hr⟩ := id fl3
        unfold PySem.passOn
        refine wpAny_bind (wpAny_field he hd h1 ?_)
        rw [if_neg (show ¬ ((Value.ref T == Value.none) = true) from by simp)]
        have fin : wpAny (model X.prog X.w) X.A (setFlight (.ref a) X.env.frame) (fun _ s4 => wpAny (model X.prog X.w) X.A (throw (.ref a) : Sem Flow) (SP X pins D) X.xe s4) X.xe { s' with heap := h3 } := by
          rw [hf]
          refine HandSPX.setFlight_upZ fl3 fun h4 hh4 up4 => wpAny_throw (tk _ _ ?_)
          exact ⟨a, B, sI, pins, σ', H', cls, d, rfl, J, nb, (up.trans up3).trans up4, .inr (.inr (by rw [hs]; exact hh4)), na, os, ag, w⟩
        first
          | exact wpAny_bind (wpAny_pure (wpAny_bind fin))
          | exact wpAny_bind fin
      | @cons t f ts b₀ suite pos' hds2 l2 hc hsu r ih =>
        intro w h3 fl3 up3
        obtain ⟨b, hb1, hyes, hno⟩ := w
        have J3 : Inv X pins σ' H' { s' with heap := h3 } := J.landed nb fl3.1 (up.trans up3) os ag
        obtain ⟨oe3, vs3, he3, hz3, hd3⟩ := fl3.there
        have nfr := notFr fl3.2.2.1 he3 hd3
        have nL : a ≠ X.env.locals := fun z => nfr (List.mem_filterMap.mpr ⟨X.env, List.mem_cons_self, by rw [hf, z]⟩)
        have nF : a ∉ X.fs := fun hm => by
          obtain ⟨e, he, q⟩ := List.mem_filterMap.mp hm
          exact nfr (List.mem_filterMap.mpr ⟨e, List.mem_cons_of_mem _ he, q⟩)
        have S3 := J3.suite he3 hd3 na nL nF
        refine wpAny_handleBy_cons (codeAny_handlers_test ?_) (by intro q; cases q)
        refine hc a oe3 _ _ _ _ cls b S3 he3 hz3.1 hb1 _ _ fun h4 kp => ?_
        have fl4 := flyZ_keeps fl3 kp
        have up4 := up3.trans (Heap.UpToSlots.of_keeps kp)
        cases b with
        | true =>
          refine codeAny_handlers_suite_as ?_
          refine HandSPX.lands_againZ fl4 fun h5 fl5 up5 => ?_
          have J5 : Inv X pins σ' H' { s' with heap := h5 } := J.landed nb fl5.1 ((up.trans up4).trans up5) os ag
          obtain ⟨oe5, vs5, he5, hz5, hd5⟩ := fl5.there
          have S5 := J5.suite he5 hd5 na nL nF
          refine store_ok (X := X.suite a ((a, oe5) :: (X.pn ++ pins))) (v := .ref a) S5 hN hi hloc rfl (fun s6 S6 => ?_) (.inr hln)
          refine wpAny_mono ((hsu a oe5 cls d (X.pn ++ pins) hz5 ⟨_, hd5⟩).run [] s6 _ H' _ S6 (hyes rfl a na)) (fun f s7 hsp => ?_) (fun _ _ z => False.elim z)
          have end_ : ∀ {σ6 : L2.St} {H6 : Hp} {Q : Shared → Prop}, Inv (X.suite a ((a, oe5) :: (X.pn ++ pins))) [] σ6 H6 s7 → (∀ s8, Inv X pins (σ6.set i none) H6 s8 → Q s8) →
              wpAny (model X.prog X.w) X.A (do bindName X.env n .none; unbindBehindTheSuite X.env n pos') (fun _ s8 => Q s8) X.xe s7 := fun {σ6 H6 Q} S7 hq => gone_ok (S7.unsuite ok) hN hi hln hq
          cases f with
          | next =>
            obtain ⟨σ6, H6, S7, q6⟩ := hsp
            exact end_ S7 fun s8 J8 => ⟨_, _, J8, q6⟩
          | brk =>
            obtain ⟨σ6, H6, S7, q6⟩ := hsp
            exact end_ S7 fun s8 J8 => ⟨_, _, J8, q6⟩
          | cont =>
            obtain ⟨σ6, H6, S7, q6⟩ := hsp
            exact end_ S7 fun s8 J8 => ⟨_, _, J8, q6⟩
          | ret u =>
            obtain ⟨v6, σ6, H6, S7, r6, q6⟩ := hsp
            exact end_ S7 fun s8 J8 => ⟨_, _, _, J8, r6, q6⟩
        | false => exact ih (hno rfl) h4 fl4 up4
    exact go hh w h3 fl3 up3
  · cases f with
    | next =>
      obtain ⟨σ', H', J', q⟩ := hsp
      exact wpAny_execs_nil ⟨σ', H', J'.ofTry ok, q⟩
    | brk =>
      obtain ⟨σ', H', J', q⟩ := hsp
      exact ⟨σ', H', J'.ofTry ok, q⟩
    | cont =>
      obtain ⟨σ', H', J', q⟩ := hsp
      exact ⟨σ', H', J'.ofTry ok, q⟩
    | ret u =>
      obtain ⟨v, σ', H', J', r, q⟩ := hsp
      exact ⟨v, σ', H', J'.ofTry ok, r, q⟩
end
end DL

namespace DL
open PySem PySem.Spec PyProof.Rows L2 LamX
/-! ### a lambda handed to a def: what the heap is behind its making, exactly -/
/-- the heap behind the making of a new code object -/
def newCode (H : Hp) (P : Addr) (q : Str) (ps : Array Value) (l m : Int) (c' : Addr) : Hp := upd (upd H P (.tbl (ps ++ #[rawInt l, rawInt m, .ref c']))) c' (CodeO c' q)
section
variable {X : Cx} {pins : List (Addr × Obj)} {σ : L2.St} {H : Hp} {s : Shared}
theorem lam_make3 {c P : Addr} {params : Arguments} {body : Expr} {scope : Scope} {pos : Pos} {E : Value → Shared → Prop} {Q : Value → Shared → Prop} {ps : Array Value} (I : Inv X pins σ H s) (TB : TabB X.base X.mg c P) (hcode : X.env.code = .ref c)
    (hP : H P = some (.tbl ps)) (ht : TriplesOk ps.toList) (ha : ∀ (pos : Pos) (cv : Value), codeAmong pos ps.toList = some cv → ∃ c, cv = .ref c ∧ H c = some (CodeO c (X.env.qual ++ "<lambda>"))) (hdef : defaultsOf params X.env = ([], [])) (hfree : ∀ y ∈ scope.names, y.2 = .free → ∃ c, X.env.cells.lookup y.1 = some c)
    (h : ∀ (f c' : Addr) (pm ctv : Value) (H1 : Hp) (s' : Shared), Inv X pins σ H1 s' → (H1 = H ∨ (H c' = none ∧ ∃ l m, H1 = newCode H P (X.env.qual ++ "<lambda>") ps l m c')) →
      s'.heap.get? f = some (PySem.W.kla_obj "<lambda>" (X.env.qual ++ "<lambda>") params body scope (cloFrom X.env.cells scope.names []) pm c' ctv) → H1 f = none → f ∉ frs X.stack → H1 c' = some (CodeO c' (X.env.qual ++ "<lambda>")) → Q (.ref f) s') :
    wpAny (model X.prog X.w) X.A (eval (.Lambda params body scope pos) X.env) Q E s := by
  refine PySem.W.kla_eval hdef ?_
  have bP : s.heap.BuiltinsAt X.mg P := TB.bm.keeps I.bk
  have hP' : s.heap.get? P = some { cls := .none, data := .fields ps } := I.hok P _ hP
  have away : ∀ f, s.heap.objs.size ≤ f → f ∉ frs X.stack := fun f hf z => by
    rcases List.mem_cons.mp (I.stkSub _ z) with e | e
    · have lt := I.lt
      rw [← e] at lt
      exact Nat.lt_irrefl _ (Nat.lt_of_lt_of_le lt hf)
    · exact I.nofs hf e
  have clo := closure_ok hfree
  have gl := I.mod.glob.keeps I.bk
  have cd := TB.code.keeps I.bk
  cases hc : codeAmong pos ps.toList with
  | some cv =>
    obtain ⟨c', e, hco⟩ := ha pos cv hc
    subst e
    refine PySem.W.kla_makeFunctionHit (mg := X.mg) (c := c) (P := P) (ps := ps) clo I.ok.glob gl hcode cd hP' ht hc bP fun ctv h' tk hx hsz => ?_
    exact h h'.objs.size c' ((X.mg "__name__").getD .none) ctv H _ (I.kept fun b o e => Heap.get?_push_of_some _ (hx b o e)) (.inl rfl) (Heap.get?_push_size _ rfl) (I.hok.fresh hsz) (away _ hsz) hco
  | none =>
    refine PySem.W.kla_makeFunction (mg := X.mg) (c := c) (P := P) (ps := ps) clo I.ok.glob gl hcode cd hP' ht hc TB.gP bP fun c' ctv h' tk hx hge hlt hrec htb => ?_
    obtain ⟨c2, oc, vs, t, e2, hoc, hd, hv⟩ := hrec
    cases e2
    have big : s.heap.objs.size ≤ h'.objs.size := Nat.le_trans hge (Nat.le_of_lt hlt)
    have J := inv_table (t' := tk) (more := #[rawInt pos.line, rawInt pos.col, .ref c']) (h' := h'.push (PySem.W.kla_obj "<lambda>" (X.env.qual ++ "<lambda>") params body scope (cloFrom X.env.cells scope.names []) ((X.mg "__name__").getD .none) c' ctv)) I hP
      (fun b o hb e => Heap.get?_push_of_some _ (hx b o hb e)) (Heap.get?_push_of_some _ htb) hge ⟨oc, vs, t, Heap.get?_push_of_some _ hoc, hd, hv⟩
    refine h h'.objs.size c' ((X.mg "__name__").getD .none) ctv _ _ J (.inr ⟨I.hok.fresh hge, _, _, rfl⟩) (Heap.get?_push_size _ rfl) ?_ (away _ big) upd_same
    have n1 : h'.objs.size ≠ c' := Nat.ne_of_gt hlt
    have n2 : h'.objs.size ≠ P := Nat.ne_of_gt (Nat.lt_of_lt_of_le (Heap.lt_size hP') big)
    rw [upd_ne n1, upd_ne n2]
    exact I.hok.fresh big
end
/-- x(lambda: body): TT is told of both heaps that there may be -/
def tLam3 (P : Addr) (q : Str) (TT : (XK → Hp → VK → Prop) → Hp → VK → Prop) (t : XK → TE) : TE := fun σ H Q => ∃ ps : Array Value, H P = some (.tbl ps) ∧ TriplesOk ps.toList ∧ (∀ (pos : Pos) (cv : Value), codeAmong pos ps.toList = some cv → ∃ c, cv = .ref c ∧ H c = some (CodeO c q)) ∧
  TT (fun E H' Q' => t E σ H' Q') H Q ∧ ∀ (c' : Addr) (l m : Int), H c' = none → TT (fun E H' Q' => t E σ H' Q') (newCode H P q ps l m c') Q
section
variable {X : Cx}
theorem pe_lamcall3 {TT : (XK → Hp → VK → Prop) → Hp → VK → Prop} {x a : Str} {g c P : Addr} {k : Nat} {pg : Arguments} {bg : List Stmt} {sg : Scope} {dV kV doc pm cdv ct oc : Value} {an od : Option Addr} {osl : Array (Option Value)} {Ng : List Str}
    {params : Arguments} {body : Expr} {scope : Scope} {t : XK → TE} {p lpos pos : Pos} (hg : Gl X x) (hm : X.mg x = some (.ref g)) (hk : PySem.W.keepIn X.K (.ref g) = true)
    (lk : X.K.lookup g = some ⟨oc, od, .func (PySem.W.fnOf x x pg bg sg dV kV doc pm an cdv ct), osl⟩) (hcg : PySem.W.codeIn X.K cdv x = true) (hb : L2.Binds X.K (PySem.W.fnOf x x pg bg sg dV kV doc pm an cdv ct) [a] []) (Sg : FnScope Ng [a] sg) (hNg : Ng[0]? = some a) (hva : Vis sg a)
    (hG : GivesTo X Ng x sg g cdv bg a (X.env.qual ++ "<lambda>") TT)
    (TB : TabB X.base X.mg c P) (hcode : X.env.code = .ref c) (hr : Room (k + 2) X.A) (L : LamS X.env.scope scope) (hdef : defaultsOf params X.env = ([], []))
    (hbind : ∀ (q : Str) (cl : List (Str × Addr)) (pm cv ctv : Value), bindArgs (PySem.W.kla_fn "<lambda>" q params body scope cl pm cv ctv) ⟨[], []⟩ = pure [])
    (hbody : ∀ (A : Around) (outer : List Env) (s : Shared) (H : Hp) (E : XK) (f c' : Addr), Room k (A.deeper (lamEnv X scope s.heap.objs.size f c')) → PE (lamCx X A outer s H E scope f c') body (t E))
    (hdb : (x == ("__debug__" : Str)) = false := by decide) (hd : (a == ("__debug__" : Str)) = false := by decide) (hcd : (a == ("__classdict__" : Str)) = false := by decide) :
    PE X (.Call (.Name x p) [.Lambda params body scope lpos] [] pos) (tLam3 P (X.env.qual ++ "<lambda>") TT t) := by
  refine ⟨fun pins s σ H Q I h => ?_⟩
  obtain ⟨ps, hP, hT, hA, h0, h1⟩ := h
  refine wpAny_Call_Name_kw (ld_glob I hg hm ?_ hdb)
  refine PySem.W.callWith_K (h₀ := X.base) I.ok.mod.kin hk ?_ (by rfl) (by rfl)
  show wpAny _ _ (spliced ((false, eval (.Lambda params body scope lpos) X.env) :: backTo pos (starEach [] X.env))) _ _ s
  refine Calls.spliced_cons (lam_make3 I TB hcode hP hT hA hdef (L.has I.ok) fun f c' pm' ctv H1 s' I1 hH hf hfn hfr hco => ?_)
  refine Calls.spliced_nil ⟨I1.kIn, ?_⟩
  have tt : TT (fun E H' Q' => t E σ H' Q') H1 Q := by
    rcases hH with e | ⟨n, l, m, e⟩
    · rw [e]; exact h0
    · rw [e]; exact h1 c' l m n
  have rc : codeAny (model X.prog X.w) X.A (.call (.ref g) ⟨[.ref f], []⟩) (CR C8.CX0 X.stack X.prog X.w H1 s' Q C8.E0) s' := by
    refine run_ofS (N := Ng) (ps := [a]) (us := [.ref f]) (vs := [.ref f]) lk hcg Sg hr I1.env0 (hb s' [.ref f] I1.kIn rfl) (.cons rfl .nil) rfl fun hr' => ?_
    obtain ⟨t', ht', hq'⟩ := hG f c' s' H1 Q (fun E H' Q' => t E σ H' Q') (fun W pn xe E p1 p2 tk hW => pe_act (i := 0) I1 L hf hfn hfr (hbind _ _ _ _ _) tk hW hr' (fun A outer s H hr2 => hbody A outer s H E f c' hr2) hNg hva hd hcd) hco tt
    exact ⟨t', ht'.nox, hq'⟩
  refine wpAny_call (codeAny_mono rc fun r s2 hq => ?_)
  cases r with
  | error e => exact (show False from hq).elim
  | ok fl =>
    cases fl with
    | ret u => exact I1.after hq
    | next => exact False.elim hq
    | brk => exact False.elim hq
    | cont => exact False.elim hq
end
end DL

namespace DL
open PySem PySem.Spec PyProof.Rows L2 LamX
/-! ### what a caught exception tells: its tag and a field -/
/-- a class whose instances' field n is read from the instance's own dict -/
def XfN (K : PySem.W.Frag) (C : Addr) (n : Str) : Prop := XfC K C ∧ PySem.W.findIn K (.ref C) n = some none
def tXg (K : PySem.W.Frag) (a : Addr) (cls : Value) (d : Option Addr) (n : Str) (te : TE) : TE := fun σ H Q => ∃ C, XfN K C n ∧ tXf a cls d C n te σ H Q
section
variable {X : Cx} {a : Addr} {oe : Obj} {cls : Value} {d : Option Addr} {pn : List (Addr × Obj)} {e : Expr} {te : TE} {pos : Pos} {n : Str}
theorem pe_xg (hz : Zc cls d oe) (hf : ∃ vs, oe.data = .fields vs) (he : PE (X.suite a ((a, oe) :: pn)) e te) (hb : attributeBase e n X.env (eval e X.env) = eval e X.env := by rfl) :
    PE (X.suite a ((a, oe) :: pn)) (.Attribute e n pos) (tXg X.K a cls d n te) :=
  ⟨fun pins s σ H Q I ⟨_, ⟨T, hno⟩, h⟩ => (pe_xf T hno hz hf he hb).run pins s σ H Q I h⟩
end
/-- told = (e.tag, e.f), told = (e.tag, None): i is e's slot, j told's -/
def tSu (K : PySem.W.Frag) (i j : Nat) (fo : Option Str) (a : Addr) (cls : Value) (d : Option Addr) : TS := fun D σ H => σ[i]? = some (some (.ref a)) ∧ ∃ C dd fs tv fv, cls = .ref C ∧ d = some dd ∧ H dd = some (.xd fs) ∧ XfN K C ("tag" : Str) ∧ fs.lookup ("tag" : Str) = some tv ∧
  (match fo with
    | some f => XfN K C f ∧ fs.lookup f = some fv
    | none => fv = V.non) ∧ ∀ p, H p = none → D.nx (σ.set j (some (.ref p))) (upd H p (.tup [tv, fv]))
section
variable {X : Cx} {a : Addr} {oe : Obj} {cls : Value} {d : Option Addr} {pn : List (Addr × Obj)} {n y f : Str} {i j kk : Nat} {p1 p2 p3 p4 p5 p6 p7 : Pos}
theorem su_field (hN : X.N.Nodup) (hi : X.N[i]? = some n) (hj : X.N[j]? = some y) (hvi : Vis X.env.scope n) (hly : Loc X.env.scope y) (hln : X.env.scope.names.lookup y = some .local) (hz : Zc cls d oe) (hf : ∃ vs, oe.data = .fields vs)
    (hd : (n == ("__debug__" : Str)) = false := by decide) (hcd : (n == ("__classdict__" : Str)) = false := by decide)
    (hb1 : attributeBase (.Name n p2) "tag" X.env (eval (.Name n p2) X.env) = eval (.Name n p2) X.env := by rfl) (hb2 : attributeBase (.Name n p4) f X.env (eval (.Name n p4) X.env) = eval (.Name n p4) X.env := by rfl)
    (hs : swapsWith (.Tuple [.Attribute (.Name n p2) "tag" p3, .Attribute (.Name n p4) f p5] kk p6) (some (.Name y p1)) p7.line X.env = pure false := by rfl) (h1 : starEach [.Attribute (.Name n p2) "tag" p3, .Attribute (.Name n p4) f p5] X.env = (false, eval (.Attribute (.Name n p2) "tag" p3) X.env) :: starEach [.Attribute (.Name n p4) f p5] X.env := by rfl) (h2 : starEach [.Attribute (.Name n p4) f p5] X.env = (false, eval (.Attribute (.Name n p4) f p5) X.env) :: starEach [] X.env := by rfl) :
    PSs (X.suite a ((a, oe) :: pn)) [.Assign [.Name y p1] (.Tuple [.Attribute (.Name n p2) "tag" p3, .Attribute (.Name n p4) f p5] kk p6) p7] (tSu X.K i j (some f) a cls d) := by
  have nm : ∀ (p : Pos), PE (X.suite a ((a, oe) :: pn)) (.Name n p) (tVar i) := fun p => pe_var (X := X.suite a ((a, oe) :: pn)) hi hvi hd hcd
  refine pss_imp (pss_one (ps_set (X := X.suite a ((a, oe) :: pn)) hN hj hly (pe_tup (pa_cons (pe_xg hz hf (nm p2) hb1) (pa_cons (pe_xg hz hf (nm p4) hb2) pa_nil h2) h1)) hs (.inr hln))) fun D σ H q => ?_
  obtain ⟨q1, C, dd, fs, tv, fv, rfl, rfl, q2, q3, q4, ⟨q5, q6⟩, q7⟩ := q
  exact ⟨C, q3, .ref a, q1, rfl, rfl, dd, fs, tv, rfl, q2, q4, C, q5, .ref a, q1, rfl, rfl, dd, fs, fv, rfl, q2, q6, le_line (by decide : 2 ≤ 4096), q7⟩
theorem su_none {jj : Nat} {p0 : Pos} (hN : X.N.Nodup) (hi : X.N[i]? = some n) (hj : X.N[j]? = some y) (hvi : Vis X.env.scope n) (hly : Loc X.env.scope y) (hln : X.env.scope.names.lookup y = some .local) (hz : Zc cls d oe) (hf : ∃ vs, oe.data = .fields vs)
    (hd : (n == ("__debug__" : Str)) = false := by decide) (hcd : (n == ("__classdict__" : Str)) = false := by decide)
    (hb1 : attributeBase (.Name n p2) "tag" X.env (eval (.Name n p2) X.env) = eval (.Name n p2) X.env := by rfl)
    (hs : swapsWith (.Tuple [.Attribute (.Name n p2) "tag" p3, .Constant .none jj p0] kk p6) (some (.Name y p1)) p7.line X.env = pure false := by rfl) (h1 : starEach [.Attribute (.Name n p2) "tag" p3, .Constant .none jj p0] X.env = (false, eval (.Attribute (.Name n p2) "tag" p3) X.env) :: starEach [.Constant .none jj p0] X.env := by rfl) (h2 : starEach [.Constant .none jj p0] X.env = (false, eval (.Constant .none jj p0) X.env) :: starEach [] X.env := by rfl) :
    PSs (X.suite a ((a, oe) :: pn)) [.Assign [.Name y p1] (.Tuple [.Attribute (.Name n p2) "tag" p3, .Constant .none jj p0] kk p6) p7] (tSu X.K i j none a cls d) := by
  have nm : ∀ (p : Pos), PE (X.suite a ((a, oe) :: pn)) (.Name n p) (tVar i) := fun p => pe_var (X := X.suite a ((a, oe) :: pn)) hi hvi hd hcd
  refine pss_imp (pss_one (ps_set (X := X.suite a ((a, oe) :: pn)) hN hj hly (pe_tup (pa_cons (pe_xg hz hf (nm p2) hb1) (pa_cons pe_non pa_nil h2) h1)) hs (.inr hln))) fun D σ H q => ?_
  obtain ⟨q1, C, dd, fs, tv, fv, rfl, rfl, q2, q3, q4, rfl, q7⟩ := q
  exact ⟨C, q3, .ref a, q1, rfl, rfl, dd, fs, tv, rfl, q2, q4, le_line (by decide : 2 ≤ 4096), q7⟩
end
/-! ### clauses as data -/
/-- a clause: its classes, the field that it tells -/
abbrev ClD := List Str × Option Str
/-- which class is caught by which name -/
abbrev XTab := List (Str × Str × Bool)
def xfind (tb : XTab) (nm c : Str) : Option Bool := (tb.find? fun p => p.1 == nm && p.2.1 == c).map (·.2.2)
def xany (tb : XTab) (nm : Str) : List Str → Option Bool
  | [] => some false
  | c :: r => match xfind tb nm c, xany tb nm r with
    | some b, some d => some (b || d)
    | _, _ => none
def hitC (tb : XTab) (nm : Str) : List ClD → Option (Option Str)
  | [] => none
  | (cs, f) :: r => match xany tb nm cs with
    | some true => some f
    | some false => hitC tb nm r
    | none => none
def XTab.ok (K : PySem.W.Frag) (tb : XTab) : Prop := ∀ p ∈ tb, PySem.W.exmOne K (.ref (He.ga K p.1)) (.ref (He.ga K p.2.1)) = some p.2.2
def clzOf (K : PySem.W.Frag) (i j : Nat) (cl : List ClD) : List Clz := cl.map fun p => (fun cls => PySem.W.exmAny K cls (p.1.map fun c => .ref (He.ga K c)), tSu K i j p.2)
section
variable {K : PySem.W.Frag} {tb : XTab} {nm : Str}
theorem xfind_ok (h : tb.ok K) {c : Str} {b : Bool} (e : xfind tb nm c = some b) : PySem.W.exmOne K (.ref (He.ga K nm)) (.ref (He.ga K c)) = some b := by
  unfold xfind at e
  cases q : tb.find? (fun p => p.1 == nm && p.2.1 == c) with
  | none => rw [q] at e; cases e
  | some p =>
    rw [q] at e
    cases e
    have hp := List.find?_some q
    obtain ⟨h1, h2⟩ := Bool.and_eq_true_iff.mp hp
    have z := h p (List.mem_of_find?_eq_some q)
    rw [eq_of_beq h1, eq_of_beq h2] at z
    exact z
theorem xany_ok (h : tb.ok K) : ∀ {cs : List Str} {b : Bool}, xany tb nm cs = some b → PySem.W.exmAny K (.ref (He.ga K nm)) (cs.map fun c => .ref (He.ga K c)) = some b
  | [], _, e => e
  | c :: cs, b, e => by
    unfold xany at e
    split at e
    · rename_i b1 d1 e1 e2
      cases e
      show PySem.W.exmAny K _ (.ref (He.ga K c) :: cs.map fun c => .ref (He.ga K c)) = _
      unfold PySem.W.exmAny
      rw [xfind_ok h e1, xany_ok h e2]
    · cases e
theorem clz_hit (h : tb.ok K) {i j : Nat} {Wout : WX} {D : Ends} {d : Option Addr} {σ : L2.St} {H : Hp} {fo : Option Str} : ∀ {cl : List ClD}, hitC tb nm cl = some fo →
    (∀ a, H a = none → tSu K i j fo a (.ref (He.ga K nm)) d (goneE i D) (σ.set i (some (.ref a))) H) → wClz i Wout D (clzOf K i j cl) (.ref (He.ga K nm)) d σ H
  | [], e, _ => by cases e
  | (cs, f) :: r, e, q => by
    unfold hitC at e
    split at e
    · rename_i e1
      cases e
      exact ⟨true, xany_ok h e1, fun _ => q, (fun z => Bool.noConfusion z)⟩
    · rename_i e1
      exact ⟨false, xany_ok h e1, (fun z => Bool.noConfusion z), fun _ => clz_hit h e q⟩
    · cases e
end
section
variable {X : Cx} {n : Str} {i j : Nat}
theorem clz_nil : ClzOk X n [] (clzOf X.K i j []) := .nil
/-- except C as e: -/
theorem clz_one {c : Str} {fo : Option Str} {b₀ : Stmt} {suite : List Stmt} {np pos' : Pos} {hds : List ExceptHandler} {cl : List ClD} (hc : Names X c (.ref (He.ga X.K c)))
    (hsu : ∀ (a : Addr) (oe : Obj) (cls : Value) (d : Option Addr) (pn : List (Addr × Obj)), Zc cls d oe → (∃ vs, oe.data = .fields vs) → PSs (X.suite a ((a, oe) :: pn)) (b₀ :: suite) (tSu X.K i j fo a cls d)) (r : ClzOk X n hds (clzOf X.K i j cl)) :
    ClzOk X n (.ExceptHandler (some (.Name c np)) (some n) (b₀ :: suite) pos' :: hds) (clzOf X.K i j (([c], fo) :: cl)) := by
  refine .cons (fun a oe pn σ H s cls b S he hcl hb Q E q => ?_) hsu r
  have hb' : PySem.W.exmAny X.K cls [.ref (He.ga X.K c)] = some b := hb
  obtain ⟨b1, d1, h1, h2, rfl⟩ := PySem.W.exmAny_cons hb'
  cases h2
  rw [Bool.or_false] at q
  exact test_one hc a oe pn σ H s cls b1 S he hcl h1 Q E q
/-- except (C, ..) as e: -/
theorem clz_many {cs : List Str} {es : List Expr} {fo : Option Str} {b₀ : Stmt} {suite : List Stmt} {kk : Nat} {tp pos' : Pos} {hds : List ExceptHandler} {cl : List ClD} (hc : NamesAll X es (cs.map fun c => .ref (He.ga X.K c))) (hl : Nat.ble es.length 4096 = true)
    (hsu : ∀ (a : Addr) (oe : Obj) (cls : Value) (d : Option Addr) (pn : List (Addr × Obj)), Zc cls d oe → (∃ vs, oe.data = .fields vs) → PSs (X.suite a ((a, oe) :: pn)) (b₀ :: suite) (tSu X.K i j fo a cls d)) (r : ClzOk X n hds (clzOf X.K i j cl)) :
    ClzOk X n (.ExceptHandler (some (.Tuple es kk tp)) (some n) (b₀ :: suite) pos' :: hds) (clzOf X.K i j ((cs, fo) :: cl)) := .cons (test_tup hc hl) hsu r
end
/-! ### told = ('', None); try: ask() / except ..; return told -/
/-- what is told of an exception -/
def tellX (K : PySem.W.Frag) (tb : XTab) (cl : List ClD) (Q : VK) : XK := fun cls d H => ∃ nm fo dd fs tv fv, cls = .ref (He.ga K nm) ∧ hitC tb nm cl = some fo ∧ d = some dd ∧ H dd = some (.xd fs) ∧ XfN K (He.ga K nm) ("tag" : Str) ∧ fs.lookup ("tag" : Str) = some tv ∧
  (match fo with
    | some f => XfN K (He.ga K nm) f ∧ fs.lookup f = some fv
    | none => fv = V.non) ∧ ∀ p, H p = none → Q (.ref p) (upd H p (.tup [tv, fv]))
/-- what the def makes of the lambda's reading -/
def TTask (K : PySem.W.Frag) (tb : XTab) (cl : List ClD) : (XK → Hp → VK → Prop) → Hp → VK → Prop := fun tl H Q => ∀ p, H p = none → tl (tellX K tb cl Q) (upd H p (.tup [.str "", .non])) fun _ H' => Q (.ref p) H'
/-- the slots are as many as the names -/
theorem takes_len {X : Cx} {W : WX} (t : Takes X W) : Takes X (fun c d σ H => σ.length = X.N.length → W c d σ H) := fun u s' ⟨a, B, sI, pins, σ, H, cls, d, e, I, nb, up, sky, na, os, ag, w⟩ =>
  t u s' ⟨a, B, sI, pins, σ, H, cls, d, e, I, nb, up, sky, na, os, ag, w I.len⟩
section
variable {X : Cx}
theorem ask_gives {tb : XTab} {cl : List ClD} {x a y n q : Str} {sg : Scope} {g : Addr} {cdg : Value} {k1 k2 k3 : Nat} {p1 p2 p3 p4 p5 p6 p7 p8 p9 p10 p11 : Pos} {h₀ : ExceptHandler} {hds : List ExceptHandler} (hN : [a, y, n].Nodup) (hly : sg.names.lookup y = some .local) (hln : sg.names.lookup n = some .local)
    (hvy : Vis sg y) (hkn : ∀ (s : Shared), (envOfC x sg s.heap.objs.size g cdg).kindOf n = some .local) (hlo : Loc sg y) (htb : tb.ok X.K)
    (hh : ∀ (s : Shared) (H : Hp), ClzOk (cxOf C8.CX0 X.prog X.w X.K X.mg X.base [a, y, n] x sg g cdg X.A X.stack s H C8.E0).nox n (h₀ :: hds) (clzOf X.K 2 1 cl))
    (hdy : (y == ("__debug__" : Str)) = false := by decide) (hcy : (y == ("__classdict__" : Str)) = false := by decide) :
    GivesTo X [a, y, n] x sg g cdg [.Assign [.Name y p1] (.Tuple [.Constant (.str "") k1 p2, .Constant .none k2 p3] k3 p4) p5, .Try [.Expr (.Call (.Name a p6) [] [] p7) p8] (h₀ :: hds) [] [] p9, .Return (some (.Name y p10)) p11] a q (TTask X.K tb cl) := by
  intro f c' s H Q tl act hc h
  have Z : Cx := (cxOf C8.CX0 X.prog X.w X.K X.mg X.base [a, y, n] x sg g cdg X.A X.stack s H C8.E0).nox
  have st1 := ps_set (X := (cxOf C8.CX0 X.prog X.w X.K X.mg X.base [a, y, n] x sg g cdg X.A X.stack s H C8.E0).nox) (i := 1) (x := y) (pos' := p1) (pos := p5) hN rfl hlo (pe_tup (pos := p4) (x1 := k3) (pa_cons (pe_str (x := "") (j := k1) (pos := p2)) (pa_cons (pe_non (j := k2) (pos := p3)) pa_nil))) (by rfl) (.inr hly)
  have st2 := ps_try_clz (X := (cxOf C8.CX0 X.prog X.w X.K X.mg X.base [a, y, n] x sg g cdg X.A X.stack s H C8.E0).nox) (body := [.Expr (.Call (.Name a p6) [] [] p7) p8]) (pos := p9) (i := 2)
    (tb := fun W D σ H => ∃ Ech : XK, (∀ cls d σ' H', σ'.length = 3 → Ech cls d H' → W cls d σ' H') ∧ σ[0]? = some (some (.ref f)) ∧ H c' = some (CodeO c' q) ∧ tl Ech H fun _ H' => D.nx σ H')
    rfl rfl hN rfl (hkn s) L2.takes0 (fun W pn xe tk _ => ?_) (hh s H)
  · refine ⟨_, pss_cons st1 (pss_cons st2 (pss_one (ps_ret (pe_var (i := 1) rfl hvy hdy hcy)))), ?_⟩
    refine ⟨le_line (by decide : 2 ≤ 4096), fun p hp => ?_⟩
    refine ⟨tellX X.K tb cl Q, fun cls d σ' H' hl hx => ?_, rfl, ?_, Eq.mp (congrArg (tl (tellX X.K tb cl Q) (upd H p (.tup [.str "", .non]))) (funext fun v => funext fun H' => propext ⟨fun z => ⟨_, rfl, z⟩, fun ⟨u, e, z⟩ => by cases e; exact z⟩)) (h p hp)⟩
    · obtain ⟨nm, fo, dd, fs, tv, fv, rfl, e1, rfl, e2, e3, e4, e5, e6⟩ := hx
      refine clz_hit htb e1 fun b hb => ?_
      obtain ⟨x0, x1, x2, rfl⟩ : ∃ x0 x1 x2, σ' = [x0, x1, x2] := by
        match σ', hl with
        | [x0, x1, x2], _ => exact ⟨x0, x1, x2, rfl⟩
      exact ⟨rfl, _, dd, fs, tv, fv, rfl, rfl, e2, e3, e4, e5, fun p hp => ⟨_, rfl, e6 p hp⟩⟩
    · show upd H p _ c' = _
      rw [upd_ne (fun z => by rw [← z, hc] at hp; cases hp)]
      exact hc
  · refine ⟨fun pins s' σ H' D I h' => ?_⟩
    obtain ⟨Ech, hW, h1, h2, h3⟩ := h'
    have hp := act (fun c d σ H => σ.length = 3 → W c d σ H) pn xe Ech p6 p7 (takes_len tk) (fun cls d σ' H' e hl => hW cls d σ' H' hl e)
    exact (pss_one (ps_expr (pos := p8) hp (by rfl))).run pins s' σ H' D I ⟨h1, h2, h3⟩
end
end DL

namespace DL
open PySem PySem.Spec PyProof.Rows L2 LamX
theorem RepF.get {K : PySem.W.Frag} {F : Hp} {vs : List (Str × V)} {ds : List (Str × D)} (r : RepF K F vs ds) {n : Str} {d : D} (h : ds.lookup n = some d) : ∃ v, vs.lookup n = some v ∧ Rep K F v d := by
  induction r with
  | nil => cases h
  | @cons m v e vs ds h1 _ ih =>
    rw [List.lookup_cons] at h
    rw [List.lookup_cons]
    split at h
    · rename_i q
      cases h
      exact ⟨v, rfl, h1⟩
    · rename_i q
      obtain ⟨u, h2, h3⟩ := ih h
      exact ⟨u, h2, h3⟩
/-- one more triple in a table -/
theorem among_more {l m : Int} {p' : Pos} {c cv : Value} (ps : List Value) (h : TriplesOk ps) (hc : codeAmong p' (ps ++ [rawInt l, rawInt m, c]) = some cv) : codeAmong p' ps = some cv ∨ cv = c := by
  fun_induction TriplesOk ps with
  | case1 =>
    simp only [List.nil_append, rawInt, codeAmong] at hc
    split at hc
    · exact .inr (Option.some.inj hc).symm
    · cases hc
  | case2 a t b u y rest ih =>
    simp only [List.cons_append, codeAmong] at hc ⊢
    split at hc
    · rename_i z
      exact .inl (by rw [if_pos z]; exact hc)
    · rename_i z
      rw [if_neg z]
      exact ih h hc
  | case3 ps h1 h2 => exact h.elim
/-- a new code object -/
theorem RepS.newCode {K : PySem.W.Frag} {H F : Hp} {M : MH} {P c' : Addr} {q : Str} {ps : Array Value} {l m : Int} (S : RepS K H F M) (hm : M P = some (.tab q)) (hP : H P = some (.tbl ps)) (ht : TriplesOk ps.toList)
    (hA : ∀ (pos : Pos) (cv : Value), codeAmong pos ps.toList = some cv → ∃ c, cv = .ref c ∧ F c = some (CodeO c q)) (hc : H c' = none) :
    RepS K (newCode H P q ps l m c') (upd F c' (CodeO c' q)) M ∧ Ext H F M (newCode H P q ps l m c') (upd F c' (CodeO c' q)) M := by
  have fP := (S.mu P _ hm).1
  have fc := S.fno hc
  have mc := S.mno hc
  have cP : c' ≠ P := fun z => by rw [z, hP] at hc; cases hc
  have sF : Same F (upd F c' (CodeO c' q)) := fun b u z => by rw [upd_ne (ne_of_none z fc)]; exact z
  have away : ∀ b, b ≠ P → b ≠ c' → DL.newCode H P q ps l m c' b = H b := fun b h1 h2 => by
    unfold DL.newCode
    rw [upd_ne h2, upd_ne h1]
  have eL : (ps ++ #[rawInt l, rawInt m, .ref c']).toList = ps.toList ++ [rawInt l, rawInt m, .ref c'] := by simp
  refine ⟨⟨fun b o z => ?_, fun b n z => ?_⟩, sF, fun b o h1 h2 h3 => ?_⟩
  · by_cases hb : b = c'
    · subst hb
      rw [upd_same] at z
      unfold DL.newCode
      rw [upd_same]
      exact z
    · rw [upd_ne hb] at z
      rw [away b (fun e => by rw [e, fP] at z; cases z) hb]
      exact S.fz b o z
  · have hb : b ≠ c' := fun e => by rw [e, mc] at z; cases z
    obtain ⟨g1, o, g2, g3⟩ := S.mu b n z
    refine ⟨by rw [upd_ne hb]; exact g1, ?_⟩
    by_cases hb2 : b = P
    · subst hb2
      rw [hm] at z
      cases z
      refine ⟨.tbl (ps ++ #[rawInt l, rawInt m, .ref c']), by unfold DL.newCode; rw [upd_ne hb, upd_same], _, rfl, by rw [eL]; exact PySem.TriplesOk_snoc _ _ _ _ ht, fun pos cv hcv => ?_⟩
      rw [eL] at hcv
      rcases among_more _ ht hcv with z | z
      · obtain ⟨c0, e1, e2⟩ := hA pos cv z
        exact ⟨c0, e1, sF _ _ e2⟩
      · exact ⟨c', z, upd_same⟩
    · exact ⟨o, by rw [away b hb2 hb]; exact g2, g3.mono sF⟩
  · have n1 : b ≠ c' := fun e => by rw [e, hc] at h1; cases h1
    have n2 : b ≠ P := fun e => by rw [e, hm] at h3; cases h3
    exact ⟨by rw [away b n2 n1]; exact h1, by rw [upd_ne n1]; exact h2, h3⟩
/-- x(lambda: body), x telling what is refused: table P of name q; tb, cl: the clauses; rs: the classes and fields that may come -/
def wAsk (P : Addr) (q : Str) (tb : XTab) (cl : List ClD) (rs : List (Str × Option Str)) (wb : WE) : WE := fun ρ M k _ => M P = some (.tab q) ∧ wb ρ M (fun _ M1 => k (.tup [.str "", .non]) M1) fun nm fs M1 =>
  ∃ fo t v, hitC tb nm cl = some fo ∧ (nm, fo) ∈ rs ∧ fs.lookup ("tag" : Str) = some t ∧ (match fo with
    | some f => fs.lookup f = some v
    | none => v = D.non) ∧ k (.tup [t, v]) M1
section
variable {X : Cx}
theorem ask_in {tb : XTab} {cl : List ClD} {rs : List (Str × Option Str)} {wb : WE} {σ : L2.St} {H F : Hp} {M : MH} {ρ : Rh} {k : KD} {Q : VK} (cf : ∀ p ∈ rs, XfN X.K (He.ga X.K p.1) ("tag" : Str) ∧ ∀ f, p.2 = some f → XfN X.K (He.ga X.K p.1) f) (S : RepS X.K H F M) (E : RepE X.K F σ ρ)
    (w : wb ρ M (fun _ M1 => k (.tup [.str "", .non]) M1) fun nm fs M1 => ∃ fo t v, hitC tb nm cl = some fo ∧ (nm, fo) ∈ rs ∧ fs.lookup ("tag" : Str) = some t ∧ (match fo with
      | some f => fs.lookup f = some v
      | none => v = D.non) ∧ k (.tup [t, v]) M1) (pv : PostV X.K H F M k Q) :
    TTask X.K tb cl (fun Ec H' Q' => tOf X.K (fun c d _ H => Ec c d H) wb σ H' Q') H Q := by
  intro p hp
  obtain ⟨S2, e2⟩ := S.lay hp (.tup [.str "", .non])
  refine ⟨_, M, ρ, _, _, S2, E.mono e2.sm, w, fun v d H3 F3 M3 e3 S3 r3 w3 => ?_, fun nm dd vfs fs H3 F3 M3 e3 S3 hdd rf xx => ?_⟩
  · exact pv _ _ _ _ _ (e2.trans e3) S3 (.tup (SqT.of (e3.sm _ _ upd_same)) (.cons (.str _) (.cons .non .nil)) (le_line (by decide : 2 ≤ 4096))) w3
  · obtain ⟨fo, t, v, h1, h2, h3, h4, h5⟩ := xx
    obtain ⟨c1, c2⟩ := cf _ h2
    obtain ⟨tv, g1, g2⟩ := rf.get h3
    have fin : ∀ fv, Rep X.K F3 fv v → ∀ p', H3 p' = none → Q (.ref p') (upd H3 p' (.tup [tv, fv])) := fun fv gv p' hp' => by
      obtain ⟨S4, e4⟩ := S3.lay hp' (.tup [tv, fv])
      exact pv _ _ _ _ _ ((e2.trans e3).trans e4) S4 (.tup (SqT.of upd_same) (.cons (g2.mono e4.sm) (.cons (gv.mono e4.sm) .nil)) (le_line (by decide : 2 ≤ 4096))) h5
    cases fo with
    | none =>
      have h4 : v = D.non := h4
      subst h4
      exact ⟨nm, none, dd, vfs, tv, .non, rfl, h1, rfl, hdd, c1, g1, rfl, fin _ .non⟩
    | some f =>
      obtain ⟨fv, g3, g4⟩ := rf.get (show fs.lookup f = some v from h4)
      exact ⟨nm, some f, dd, vfs, tv, fv, rfl, h1, rfl, hdd, c1, g1, ⟨c2 f rfl, g3⟩, fin _ g4⟩
theorem de_ask {tb : XTab} {cl : List ClD} {rs : List (Str × Option Str)} {x a q : Str} {g c P : Addr} {k : Nat} {pg : Arguments} {bg : List Stmt} {sg : Scope} {dV kV doc pm cdv ct oc : Value} {an od : Option Addr} {osl : Array (Option Value)} {Ng : List Str}
    {params : Arguments} {body : Expr} {scope : Scope} {wb : WE} {p lpos pos : Pos} (hq : X.env.qual ++ "<lambda>" = q) (hg : Gl X x) (hm : X.mg x = some (.ref g)) (hk : PySem.W.keepIn X.K (.ref g) = true)
    (lk : X.K.lookup g = some ⟨oc, od, .func (PySem.W.fnOf x x pg bg sg dV kV doc pm an cdv ct), osl⟩) (hcg : PySem.W.codeIn X.K cdv x = true) (hb : L2.Binds X.K (PySem.W.fnOf x x pg bg sg dV kV doc pm an cdv ct) [a] []) (Sg : FnScope Ng [a] sg) (hNg : Ng[0]? = some a) (hva : Vis sg a)
    (hG : GivesTo X Ng x sg g cdv bg a q (TTask X.K tb cl)) (cf : ∀ p ∈ rs, XfN X.K (He.ga X.K p.1) ("tag" : Str) ∧ ∀ f, p.2 = some f → XfN X.K (He.ga X.K p.1) f)
    (TB : TabB X.base X.mg c P) (hcode : X.env.code = .ref c) (hr : Room (k + 2) X.A) (L : LamS X.env.scope scope) (hdef : defaultsOf params X.env = ([], []))
    (hbind : ∀ (q : Str) (cl : List (Str × Addr)) (pm cv ctv : Value), bindArgs (PySem.W.kla_fn "<lambda>" q params body scope cl pm cv ctv) ⟨[], []⟩ = pure [])
    (hbody : ∀ (A : Around) (outer : List Env) (s : Shared) (H : Hp) (E : XK) (f c' : Addr), Room k (A.deeper (lamEnv X scope s.heap.objs.size f c')) → DE (lamCx X A outer s H E scope f c') body wb)
    (hdb : (x == ("__debug__" : Str)) = false := by decide) (hd : (a == ("__debug__" : Str)) = false := by decide) (hcd : (a == ("__classdict__" : Str)) = false := by decide) :
    DE X (.Call (.Name x p) [.Lambda params body scope lpos] [] pos) (wAsk P q tb cl rs wb) := by
  subst hq
  refine ⟨fun W tk => pe_imp (pe_lamcall3 (t := fun E => tOf X.K (fun c d _ H => E c d H) wb) hg hm hk lk hcg hb Sg hNg hva hG TB hcode hr L hdef hbind (fun A outer s H E f c' hr => (hbody A outer s H E f c' hr).pe _ (takes_of rfl rfl rfl rfl)) hdb hd hcd) fun σ H Q qq => ?_⟩
  obtain ⟨F, M, ρ, k, x, S, E, ⟨w1, w⟩, pv, px⟩ := qq
  obtain ⟨fP, o, hP, ps, e, ht, hA⟩ := S.mu P _ w1
  subst e
  refine ⟨ps, hP, ht, fun pos cv hc => ?_, ask_in cf S E w pv, fun c' l m hc => ?_⟩
  · obtain ⟨c0, h1, h2⟩ := hA pos cv hc
    exact ⟨c0, h1, S.fz _ _ h2⟩
  · obtain ⟨S2, e2⟩ := S.newCode (l := l) (m := m) w1 hP ht hA hc
    exact ask_in cf S2 (E.mono e2.sm) w (pv.on e2)
end
end DL

namespace DL
open PySem PySem.Spec PyProof.Rows L2 LamX
/-! ### a def that makes lambdas: its code object is known -/
section
variable {P : Program} {w : World} {K : PySem.W.Frag} {mg : Str → Option Value} {base : Heap}
theorem fn_dT {x qual : Str} {st : Stmt} {fd : FuncData} {N ps : List Str} {k : Nat} {wf : WF} {wb : WS} (G : Fun K x qual st (He.ga K x) fd) (S : FnScope N ps (defScope st))
    (hb : ∀ (cdv : Value), cdv = .ref (He.codeOf K (x, none)) → ∀ (A : Around) (outer : List Env) (s : Shared) (H : Hp) (E : XK), Room k (A.deeper (envOfC qual (defScope st) s.heap.objs.size (He.ga K x) cdv)) → DSs (cxOf (L2.CX P w) P w K mg base N qual (defScope st) (He.ga K x) cdv A outer s H E) (defBody st) wb)
    (hw : ∀ ds M k x, ds.length = ps.length → wf ds M k x → wb (startD N ds) M (retE k x)) : FnOk P w K mg base (L2.CX P w) (k + 1) (He.ga K x) fd ps (spD K ps.length wf) := by
  obtain ⟨oc, od, kV, doc, pm, an, cdv, ct, osl, rfl, lk, hcd⟩ := G.ex
  obtain ⟨c, rfl⟩ := He.codeIn_ref hcd
  have ec : He.codeOf K (x, none) = c := He.codeOf_eq (p := (x, none)) lk rfl
  refine fn_of lk hcd S (fun vs H Q E h => ?_) fun A outer s H vs Q E hr h => ?_
  · obtain ⟨F, M, ds, k, x, S, r, hl, _⟩ := h
    exact r.length.trans hl
  · have d := hb (.ref c) (by rw [ec]) A outer s H E hr
    refine ⟨_, d.ps (fun cls d _ H => E cls d H) (takes_of rfl rfl rfl rfl) (passes_of rfl), ?_⟩
    obtain ⟨F, M, ds, k, x, S1, r, hl, q, pv, px⟩ := h
    exact ⟨F, M, startD N ds, retE k x, S1, RepE.start r, hw ds M k x hl q, fun σ' ρ' H' F' M' e' S' R' w' => pv.lt _ _ _ _ _ e' S' .non w', pv.lt, fun _ _ _ _ _ _ _ _ z => z.elim, fun _ _ _ _ _ _ _ _ z => z.elim, fun σ => px.lt⟩
end
/-- only the tables: the law's start -/
def tabM (P : Addr) (q : Str) : MH := fun b => if b = P then some (.tab q) else none
def sp_lawT (P : Addr) (q : Str) : WF := fun ds M k _ => ∃ ns, ds = [.scr ns] ∧ ns.length ≤ 63 ∧ M = tabM P q ∧ ∀ M', k (.bl true) M'
theorem sp_lawT_in {K : PySem.W.Frag} {H : Hp} {a P : Addr} {q : Str} {ns : List Int} (hl : ns.length ≤ 63) (hP : H P = some (.tbl #[])) (hS : SqL K H a (ns.map V.int)) : spD K 1 (sp_lawT P q) [.ref a] H (fun v _ => v = .bl true) fun _ _ _ => False := by
  have nP : ∀ b o, (if b = P then none else H b) = some o → b ≠ P ∧ H b = some o := fun b o z => by
    by_cases hb : b = P
    · rw [if_pos hb] at z; cases z
    · rw [if_neg hb] at z; exact ⟨hb, z⟩
  refine ⟨fun b => if b = P then none else H b, tabM P q, [.scr ns], fun d _ => d = .bl true, fun _ _ _ => False, ⟨fun b o z => (nP b o z).2, fun b m z => ?_⟩, .cons (.scr ?_) .nil, rfl, ⟨ns, rfl, hl, rfl, fun _ => rfl⟩, fun v d H' F' M' _ _ r h => by subst h; cases r; rfl, fun _ _ _ _ _ _ _ _ _ _ _ z => z.elim⟩
  · unfold tabM at z
    by_cases hb : b = P
    · subst hb
      rw [if_pos rfl] at z
      cases z
      exact ⟨if_pos rfl, _, hP, #[], rfl, trivial, fun pos cv hc => by
        have z : codeAmong pos [] = some cv := hc
        simp [codeAmong] at z⟩
    · rw [if_neg hb] at z; cases z
  · have keep : ∀ o, H a = some o → (∀ q, o ≠ .tbl q) → (if a = P then none else H a) = some o := fun o h n => by
      rw [if_neg (fun z => by rw [z, hP] at h; exact n _ (Option.some.inj h).symm)]
      exact h
    rcases hS with (h | ⟨o, h⟩) | h
    · exact .inl (.inl (keep _ h (fun q z => by cases z)))
    · exact .inl (.inr ⟨o, keep _ h (fun q z => by cases z)⟩)
    · exact .inr h
/-- the end: the law's own table -/
theorem walk_ofTT {l : PySem.W.OpenLaw} {k : Nat} {q : Program} {loose : List Str} {XP : (Str → Option Value) → Heap → Prop} {YP : World → Heap → Prop} {d : DefRec} {x : Str}
    (hn : l.most = some 63) (hdf : d.params.defaults = []) (hr : Room k callerA)
    (F : ∀ (w : World) (mg : Str → Option Value) (fa : Addr) (h : Heap), YP w h → h.Ns mainGlobals mg → mg d.name = some (.ref fa) →
      ∃ (K : PySem.W.Frag) (fd : FuncData) (c P : Addr) (nm : Str), K.In h ∧ h.get? P = some { cls := .none, data := .fields #[] } ∧ K.lookup P = none ∧ PySem.W.codeHdIn K c P = true ∧ (∀ (s : Shared) (u : Value), BindsTo s fd ⟨[u], []⟩ [(x, u)]) ∧
        ∀ base : Heap, K.In base → base.Ns mainGlobals mg → TabB base mg c P → FnOk l.prog w K mg base (L2.CX l.prog w) k fa fd [x] (spD K 1 (sp_lawT P nm))) :
    PySem.W.WalkO q loose XP YP l.row.toRowW d [] (fun f vs => PySem.call f vs) := by
  refine walk_ofTsE (x := x) (n := 63) (CX := fun w => L2.CX l.prog w) hn (by decide) hdf hr (fun w mg fa h Y G hm => ?_) fun w H s e s' h => ?_
  · obtain ⟨K, fd, c, P, nm, KX, h1, h2, h3, h4, h5⟩ := F w mg fa h Y G hm
    refine ⟨K, KX, fd, [(c, P)], spD K 1 (sp_lawT P nm), fun p hp => ?_, fun p hp => ?_, fun p hp => ?_, h4, fun H a ns hl _ hP hS => sp_lawT_in hl (hP _ List.mem_cons_self) hS, fun base hb hns hT => h5 base hb hns (hT _ List.mem_cons_self)⟩
    · obtain rfl := List.mem_singleton.mp hp
      exact h1
    · obtain rfl := List.mem_singleton.mp hp
      exact h2
    · obtain rfl := List.mem_singleton.mp hp
      exact PySem.W.codeHd_of_K KX h3
  · obtain ⟨_, _, _, _, _, _, _, _, _, _, _, _, z⟩ := h
    exact z.elim
end DL

namespace DL
open PySem PySem.Spec PyProof.Rows L2 LamX
/-! ### looks at the written part: own exceptions -/
def oexC0 (K : PySem.W.Frag) (C : Addr) : Bool := match K.lookup C with
  | some ⟨.type "type", _, .cls cd, sl⟩ => (match cd.mro, sl.toList with
    | .ref C' :: bm, [_, _, _, _, some (.builtin n), _] => C' == C && (n == "ValueError.__new__" && (!cd.hasDel && (cd.hasDict && PySem.HandSPX.refsVE bm)))
    | _, _ => false)
  | _ => false
def oexB (K : PySem.W.Frag) (C : Addr) : Bool := oexC0 K C && (decide (PySem.W.findIn K (.ref C) "__setattr__" = some (some (.builtin "object.__setattr__"))) && (decide (PySem.W.subIn K (.ref C) (.type "BaseException") = some true) && (decide (PySem.W.typeIn K (.ref C) = some (.type "type")) && PySem.W.keepIn K (.ref C))))
theorem oexB_ok {K : PySem.W.Frag} {C : Addr} (h : oexB K C = true) : OexC K C := by
  obtain ⟨h1, h⟩ := Bool.and_eq_true_iff.mp h
  obtain ⟨h2, h⟩ := Bool.and_eq_true_iff.mp h
  obtain ⟨h3, h⟩ := Bool.and_eq_true_iff.mp h
  obtain ⟨h4, h5⟩ := Bool.and_eq_true_iff.mp h
  refine ⟨?_, of_decide_eq_true h2, of_decide_eq_true h3, of_decide_eq_true h4, h5⟩
  unfold oexC0 at h1
  split at h1
  · rename_i dd cd sl ho
    split at h1
    · rename_i C' bm k0 k1 k2 k3 n k5 hm hs
      simp only [Bool.and_eq_true, beq_iff_eq, Bool.not_eq_true'] at h1
      obtain ⟨rfl, rfl, hdel, hdic, hb⟩ := h1
      obtain ⟨nm, bs, mro, ns, qn, hd, sn, sub, ab, col, del⟩ := cd
      dsimp only at hm hdel hdic
      subst hm hdel hdic
      have hsl : sl = #[k0, k1, k2, k3, some (.builtin "ValueError.__new__"), k5] := by
        obtain ⟨l⟩ := sl
        simp only at hs
        rw [hs]
      subst hsl
      exact ⟨nm, qn, ns, bs, bm, sn, sub, ab, col, dd, k0, k1, k2, k3, k5, ho, hb⟩
    · cases h1
  · cases h1
/-- all that a law asks of its exceptions: rs, the classes with their fields; tb, the pairs -/
def xfnB (K : PySem.W.Frag) (C : Addr) (n : Str) : Bool := xfB K C && decide (PySem.W.findIn K (.ref C) n = some none)
theorem xfnB_ok {K : PySem.W.Frag} {C : Addr} {n : Str} (h : xfnB K C n = true) : XfN K C n := by
  obtain ⟨h1, h2⟩ := Bool.and_eq_true_iff.mp h
  exact ⟨xfB_ok h1, of_decide_eq_true h2⟩
def excsB (rs : List (Str × Option Str)) (tb : XTab) (K : PySem.W.Frag) : Bool := (rs.all fun p => oexB K (He.ga K p.1) && (xfnB K (He.ga K p.1) "tag" && (match p.2 with
  | some f => xfnB K (He.ga K p.1) f
  | none => true))) && tb.all fun p => decide (PySem.W.exmOne K (.ref (He.ga K p.1)) (.ref (He.ga K p.2.1)) = some p.2.2)
section
variable {K : PySem.W.Frag} {rs : List (Str × Option Str)} {tb : XTab}
theorem excsB_tab (h : excsB rs tb K = true) : tb.ok K := fun p hp => of_decide_eq_true (List.all_eq_true.mp (Bool.and_eq_true_iff.mp h).2 p hp)
theorem excsB_one (h : excsB rs tb K = true) {p : Str × Option Str} (hp : p ∈ rs) : OexC K (He.ga K p.1) ∧ XfN K (He.ga K p.1) ("tag" : Str) ∧ ∀ f, p.2 = some f → XfN K (He.ga K p.1) f := by
  have q := List.all_eq_true.mp (Bool.and_eq_true_iff.mp h).1 p hp
  obtain ⟨q1, q⟩ := Bool.and_eq_true_iff.mp q
  obtain ⟨q2, q3⟩ := Bool.and_eq_true_iff.mp q
  refine ⟨oexB_ok q1, xfnB_ok q2, fun f e => ?_⟩
  rw [e] at q3
  exact xfnB_ok q3
end
end DL

namespace DL
open PySem PySem.Spec PyProof.Rows L2 LamX
/-- what is known of the def that tells what is refused -/
structure AskF (K : PySem.W.Frag) (mg : Str → Option Value) (x a : Str) (st : Stmt) (Ng : List Str) (tb : XTab) (cl : List ClD) (rs : List (Str × Option Str)) : Prop where
  fn : ∃ g fd, Fun K x x st g fd ∧ mg x = some (.ref g)
  sc : FnScope Ng [a] (defScope st)
  nm : Ng[0]? = some a ∧ Vis (defScope st) a
  bi : ∀ (kV doc pm : Value) (an : Option Addr) (cdv ct : Value) (us : List Value), us.length = 1 → bindArgs (PySem.W.fnOf x x (defArgs st) (defBody st) (defScope st) .none kV doc pm an cdv ct) ⟨us, []⟩ = pure ([a].zip us)
  gives : ∀ (X : Cx) (g : Addr) (cdv : Value) (q : Str), X.K = K → X.mg = mg → GivesTo X Ng x (defScope st) g cdv (defBody st) a q (TTask X.K tb cl)
  tells : ∀ p ∈ rs, XfN K (He.ga K p.1) ("tag" : Str) ∧ ∀ f, p.2 = some f → XfN K (He.ga K p.1) f
section
variable {X : Cx}
theorem de_askF {tb : XTab} {cl : List ClD} {rs : List (Str × Option Str)} {x a q : Str} {c P : Addr} {k : Nat} {st : Stmt} {Ng : List Str} {params : Arguments} {body : Expr} {scope : Scope} {wb : WE} {p lpos pos : Pos} (F : AskF X.K X.mg x a st Ng tb cl rs) (TB : TabB X.base X.mg c P) (hcode : X.env.code = .ref c) (hr : Room (k + 2) X.A)
    (hbody : ∀ (A : Around) (outer : List Env) (s : Shared) (H : Hp) (E : XK) (f c' : Addr), Room k (A.deeper (lamEnv X scope s.heap.objs.size f c')) → DE (lamCx X A outer s H E scope f c') body wb)
    (hq : X.env.qual ++ "<lambda>" = q := by rfl) (L : LamS X.env.scope scope := by exact lamS_by (by decide +kernel)) (hdef : defaultsOf params X.env = ([], []) := by rfl)
    (hbind : ∀ (q : Str) (cl : List (Str × Addr)) (pm cv ctv : Value), bindArgs (PySem.W.kla_fn "<lambda>" q params body scope cl pm cv ctv) ⟨[], []⟩ = pure [] := by intro _ _ _ _ _; rfl) (hg : Gl X x := by rfl)
    (hdb : (x == ("__debug__" : Str)) = false := by decide) (hd : (a == ("__debug__" : Str)) = false := by decide) (hcd : (a == ("__classdict__" : Str)) = false := by decide) :
    DE X (.Call (.Name x p) [.Lambda params body scope lpos] [] pos) (wAsk P q tb cl rs wb) := by
  obtain ⟨g, fd, G, hm⟩ := F.fn
  have hb := G.binds (ps := [a]) F.bi
  obtain ⟨oc, od, kV, doc, pm, an, cdv, ct, osl, rfl, lk, hcg⟩ := G.ex
  exact de_ask hq hg hm G.kp lk hcg hb F.sc F.nm.1 F.nm.2 (F.gives X g cdv q rfl rfl) F.tells TB hcode hr L hdef hbind hbody hdb hd hcd
end
end DL

namespace DL
open PySem PySem.Spec PyProof.Rows L2
local macro_rules | `(tactic| walk_at "w") => `(tactic| try conv => whnf)
/-! ### blocks checked: what is_name, is_within, is_vector, has_form, fault answer -/
def withinD (d : D) (b : Int) : Bool := match d with
  | .int i => decide (-b ≤ i) && decide (i ≤ b)
  | _ => false
def vectorD (d : D) (n : Int) : Bool := placeD d n && (match d with
  | .tup xs => xs.all fun x => withinD x (10 ^ 12)
  | _ => false)
def isTup : D → Bool
  | .tup _ => true
  | _ => false
/-- a name: one to eight small letters -/
def nameD (z : Str) : Bool := decide (1 ≤ z.length) && decide (z.length ≤ 8) && z.cps.toList.all fun c => occS ⟨#[c]⟩ "abcdefghijklmnopqrstuvwxyz"
mutual
theorem lays_plain : ∀ d : D, lays d = true → plain d = true
  | .non, _ => rfl | .bl _, _ => rfl | .int _, _ => rfl | .str _, _ => rfl
  | .tup ds, h => layss_plains ds h
  | .lst ds, h => layss_plains ds h
  | .ref _, h => by cases h
  | .ty _, h => by cases h
  | .scr _, h => by cases h
  | .dct _ _, h => by cases h
  | .dcT _ _, h => by cases h
  | .dcl _ _, h => by cases h
  | .obj _ _ _, h => by cases h
theorem layss_plains : ∀ ds : List D, layss ds = true → plains ds = true
  | [], _ => rfl
  | d :: ds, h => by
    have h2 := Bool.and_eq_true_iff.mp (show (lays d && layss ds) = true from h)
    exact Bool.and_eq_true_iff.mpr ⟨lays_plain d h2.1, layss_plains ds h2.2⟩
end
end DL

namespace DL
open PySem PySem.Spec PyProof.Rows L2
/-! ### a text is walked: its signs -/
def signs (z : Str) : List D := z.cps.toList.map fun c => D.str ⟨#[c]⟩
theorem signs_len (z : Str) : (signs z).length = z.cps.size := by unfold signs; rw [List.length_map, Array.length_toList]
def wiStr (w : WE) : WI := fun ρ M k x => w ρ M (fun d M1 => onStr d fun z => gd (Nat.ble z.cps.size 4096) (k (signs z) (fun _ => True) M1)) x
theorem wks_str {K : PySem.W.Frag} {F : Hp} {z : Str} (hl : z.cps.size ≤ sizeLine) : Wks K F (Its z) (signs z) (fun _ => True) where
  sz := by rw [signs_len]; exact hl
  go := fun i H F' M hi s S _ => by rw [signs_len] at hi; exact hi
  stop := fun H F' M s S _ => by rw [signs_len]; exact Nat.le_refl _
  yld := fun i H v H3 F' M hi s S _ y => by
    obtain ⟨e, c, h1, rfl⟩ := y
    subst e
    refine ⟨F', _, Ext.refl _ _ _, S, ?_, .str _⟩
    unfold signs
    rw [List.getElem?_map, Array.getElem?_toList, h1]
    rfl
theorem di_str {X : Cx} {tg e : Expr} {w : WE} (h : DE X e w) : DI X tg e (wiStr w) := by
  refine ⟨fun W tk => pi_imp (pi_str (h.pe W tk)) fun σ H R q => ?_⟩
  obtain ⟨F, M, ρ, k, x, S, E, w, f, px⟩ := q
  refine ⟨F, M, ρ, _, x, S, E, w, fun v d H1 F1 M1 e1 S1 r1 w1 => ?_, px⟩
  obtain ⟨z, rfl, w2⟩ := str_of r1 w1
  obtain ⟨hb, w2⟩ := gd_of w2
  exact ⟨z, rfl, f _ _ _ _ _ _ e1 S1 (wks_str (le_line (Nat.le_of_ble_eq_true hb))) w2⟩
end DL

namespace DL
open PySem PySem.Spec PyProof.Rows L2
local macro_rules | `(tactic| walk_at "w") => `(tactic| try conv => whnf)
/-! ### x in a tuple, x of any kind -/
theorem units65 {k : Nat} {A : Around} (hr : Room k A) : A.units + 65 < cLine := by have := hr.un; omega
section
variable {X : Cx}
theorem op_inT (hu : X.A.units + 65 < cLine) : OpR X (compareOp .In) (fun x y H Q => ∃ d ds, Dp X.K H x d ∧ Dp X.K H y (.tuple ds) ∧ SeqAt.shaped d = true ∧ SeqAt.shaped (.tuple ds) = true ∧ Q (.bl (ds.any fun z => PyData.eqv z d)) H) := by
  intro pins s σ H x y v u Q I rx ry h
  obtain ⟨d, ds, hd, he, sd, se, q⟩ := h
  obtain ⟨as, r1⟩ := Dp.reads I d x v hd rx
  obtain ⟨bs, r2⟩ := Dp.reads I (.tuple ds) y u he ry
  exact SeqAt.in_tuple_reads r2 r1 (SeqAt.canLay_of_shaped se) (SeqAt.canLay_of_shaped sd) (room_in_shaped sd hu) ⟨.bl _, H, I, rfl, q⟩
@[irreducible] def rInT : RD := fun d e M k => ∃ p ps, toPy d = some p ∧ toPy e = some (.tuple ps) ∧ SeqAt.shaped p = true ∧ SeqAt.shaped (.tuple ps) = true ∧ k (.bl (ps.any fun z => PyData.eqv z p)) M
theorem od_inT (hu : X.A.units + 65 < cLine) : OpD X (compareOp .In) rInT := ⟨_, op_inT hu, fun d e v u H F M k Q S rd re h pv => by
  unfold rInT at h
  obtain ⟨p, q, h1, h2, h3, h4, h5⟩ := h
  exact ⟨p, q, dp_of S.fz rd h1, dp_of S.fz re h2, h3, h4, pv.at S (.bl _) h5⟩⟩
/-- == that is not to be unrolled unasked -/
@[irreducible] def rEqI : RD := fun d e M k => rEq d e M k
theorem od_eqI (hu : X.A.units + 64 < cLine) : OpD X (compareOp .Eq) rEqI := by
  obtain ⟨r2, h1, h2⟩ := od_eq (X := X) hu
  exact ⟨r2, h1, fun d e v u H F M k Q S rd re h pv => h2 d e v u H F M k Q S rd re (by unfold rEqI at h; exact h) pv⟩
end
theorem rEqI_int {a b : Int} {M : MH} {k : KD} (h : k (.bl (decide (a = b))) M) : rEqI (.int a) (.int b) M k := by unfold rEqI; exact h
end DL

/-! Direct mode: defs that read and write nothing but what they are handed and their own lists, as functions. -/
namespace DM
open PySem PySem.Spec PyProof.Rows L2 DL

/-- what an evaluation comes to -/
inductive Rs (α : Type) where
  | ok (a : α) | exc (nm : Str) (fs : List (Str × D)) | bad
/-- a value, or a thing of the def's own that may be written -/
inductive Vl where
  | v (d : D) | o (m : MO)
abbrev Rm := List (Option Vl)
/-- what the def must leave as it is; the place of its self, where it has one that it may change -/
structure M0T where
  m : MH
  a : Option Addr
def RelV (M0 : M0T) (M : MH) : Vl → D → Prop
  | .v d, e => e = d
  | .o m, e => ∃ a, e = .ref a ∧ M a = some m ∧ M0.m a = none
inductive RelVs (M0 : M0T) (M : MH) : List Vl → List D → Prop
  | nil : RelVs M0 M [] []
  | cons {u : Vl} {d : D} {us : List Vl} {ds : List D} : RelV M0 M u d → RelVs M0 M us ds → RelVs M0 M (u :: us) (d :: ds)
structure Own (M0 : M0T) (M : MH) (r : Rm) (ρ : Rh) : Prop where
  len : ρ.length = r.length
  sub : Sub M0.m M
  slf : ∀ (a : Addr) (m : MO), M0.a = some a → r[0]? = some (some (.o m)) → ρ[0]? = some (some (.ref a))
  at_ : ∀ (i : Nat) (u : Vl), r[i]? = some (some u) → ∃ d, ρ[i]? = some (some d) ∧ RelV M0 M u d
  inj : ∀ (i j : Nat) (m m' : MO) (a : Addr), r[i]? = some (some (.o m)) → r[j]? = some (some (.o m')) → ρ[i]? = some (some (.ref a)) → ρ[j]? = some (some (.ref a)) → i = j
section
variable {M0 : M0T} {M : MH} {r : Rm} {ρ : Rh}
theorem Own.lt (h : Own M0 M r ρ) {i : Nat} {u : Option Vl} (e : r[i]? = some u) : i < ρ.length := by
  rw [h.len]
  exact (List.getElem?_eq_some_iff.mp e).1
theorem look_set {α : Type} {l : List α} {i j : Nat} {a b : α} (h : (l.set i a)[j]? = some b) : (j = i ∧ b = a) ∨ (j ≠ i ∧ l[j]? = some b) := by
  by_cases e : i = j
  · subst e
    have hl : i < l.length := by
      have := (List.getElem?_eq_some_iff.mp h).1
      rwa [List.length_set] at this
    rw [List.getElem?_set_self hl] at h
    cases h
    exact .inl ⟨rfl, rfl⟩
  · rw [List.getElem?_set_ne e] at h
    exact .inr ⟨fun q => e q.symm, h⟩
/-- a slot takes a value -/
theorem Own.set (h : Own M0 M r ρ) (i : Nat) (d : D) : Own M0 M (r.set i (some (.v d))) (ρ.set i (some d)) where
  len := by rw [List.length_set, List.length_set]; exact h.len
  sub := h.sub
  slf := fun a m e1 e2 => by
    rcases look_set e2 with ⟨_, e⟩ | ⟨hj, e⟩
    · cases e
    · rw [List.getElem?_set_ne (fun q => hj q.symm)]; exact h.slf a m e1 e
  at_ := fun j u e => by
    have hl : j < ρ.length := by
      have := (List.getElem?_eq_some_iff.mp e).1
      rw [List.length_set] at this
      rw [h.len]; exact this
    rcases look_set e with ⟨hj, e'⟩ | ⟨hj, e'⟩
    · cases e'
      rw [hj] at hl ⊢
      exact ⟨d, List.getElem?_set_self hl, rfl⟩
    · rw [List.getElem?_set_ne (fun q => hj q.symm)]
      exact h.at_ j u e'
  inj := fun j k m m' a e1 e2 f1 f2 => by
    rcases look_set e1 with ⟨_, e1⟩ | ⟨hj, e1⟩
    · cases e1
    rcases look_set e2 with ⟨_, e2⟩ | ⟨hk, e2⟩
    · cases e2
    rw [List.getElem?_set_ne (fun q => hj q.symm)] at f1
    rw [List.getElem?_set_ne (fun q => hk q.symm)] at f2
    exact h.inj j k m m' a e1 e2 f1 f2
/-- a slot is told no more -/
theorem Own.wipe1 (h : Own M0 M r ρ) (i : Nat) : Own M0 M (r.set i none) ρ where
  len := by rw [List.length_set]; exact h.len
  sub := h.sub
  slf := fun a m e1 e2 => by
    rcases look_set e2 with ⟨_, e⟩ | ⟨hj, e⟩
    · cases e
    · exact h.slf a m e1 e
  at_ := fun j u e => by
    rcases look_set e with ⟨_, e⟩ | ⟨_, e⟩
    · cases e
    · exact h.at_ j u e
  inj := fun j k m m' a e1 e2 f1 f2 => by
    rcases look_set e1 with ⟨_, e1⟩ | ⟨hj, e1⟩
    · cases e1
    rcases look_set e2 with ⟨_, e2⟩ | ⟨hk, e2⟩
    · cases e2
    exact h.inj j k m m' a e1 e2 f1 f2
theorem Own.wipe2 (h : Own M0 M r ρ) (i : Nat) (x : Option D) : Own M0 M (r.set i none) (ρ.set i x) where
  len := by rw [List.length_set, List.length_set]; exact h.len
  sub := h.sub
  slf := fun a m e1 e2 => by
    rcases look_set e2 with ⟨_, e⟩ | ⟨hj, e⟩
    · cases e
    · rw [List.getElem?_set_ne (fun q => hj q.symm)]; exact h.slf a m e1 e
  at_ := fun j u e => by
    rcases look_set e with ⟨_, e⟩ | ⟨hj, e⟩
    · cases e
    · rw [List.getElem?_set_ne (fun q => hj q.symm)]; exact h.at_ j u e
  inj := fun j k m m' a e1 e2 f1 f2 => by
    rcases look_set e1 with ⟨_, e1⟩ | ⟨hj, e1⟩
    · cases e1
    rcases look_set e2 with ⟨_, e2⟩ | ⟨hk, e2⟩
    · cases e2
    rw [List.getElem?_set_ne (fun q => hj q.symm)] at f1
    rw [List.getElem?_set_ne (fun q => hk q.symm)] at f2
    exact h.inj j k m m' a e1 e2 f1 f2
def wipeM (r : Rm) : List Nat → Rm
  | [] => r
  | v :: vs => (wipeM r vs).set v none
theorem Own.wipe (h : Own M0 M r ρ) : ∀ is : List Nat, Own M0 M (wipeM r is) ρ
  | [] => h
  | i :: is => (h.wipe is).wipe1 i
theorem Own.wipeD (h : Own M0 M r ρ) : ∀ is : List Nat, Own M0 M (wipeM r is) (wipeD ρ is)
  | [] => h
  | i :: is => (h.wipeD is).wipe2 i none
/-- a slot takes a new thing of its own -/
theorem Own.new (h : Own M0 M r ρ) (i : Nat) {a : Addr} (ha : M a = none) (m : MO) (hi : i ≠ 0) : Own M0 (mupd M a m) (r.set i (some (.o m))) (ρ.set i (some (.ref a))) := by
  have h0 : M0.m a = none := by
    cases e : M0.m a with
    | none => rfl
    | some z => rw [h.sub a z e] at ha; cases ha
  have old : ∀ j u, r[j]? = some (some u) → ∃ d, ρ[j]? = some (some d) ∧ RelV M0 (mupd M a m) u d ∧ (∀ n, u = .o n → d ≠ .ref a) := fun j u e => by
    obtain ⟨d, e1, e2⟩ := h.at_ j u e
    refine ⟨d, e1, ?_, ?_⟩
    · cases u with
      | v z => exact e2
      | o n =>
        obtain ⟨b, rfl, hb, hb0⟩ := e2
        exact ⟨b, rfl, by rw [mupd_ne (fun z => by rw [z, ha] at hb; cases hb)]; exact hb, hb0⟩
    · rintro n rfl rfl
      obtain ⟨b, hb, hb1, _⟩ := e2
      cases hb
      rw [ha] at hb1
      cases hb1
  exact {
    len := by rw [List.length_set, List.length_set]; exact h.len
    slf := fun b n e1 e2 => by
      rcases look_set e2 with ⟨hj, _⟩ | ⟨hj, e⟩
      · exact absurd hj.symm hi
      · rw [List.getElem?_set_ne (fun q => hj q.symm)]; exact h.slf b n e1 e
    sub := fun b z hb => by
      rw [mupd_ne (fun q => by rw [q, h0] at hb; cases hb)]
      exact h.sub b z hb
    at_ := fun j u e => by
      have hl : j < ρ.length := by
        have := (List.getElem?_eq_some_iff.mp e).1
        rw [List.length_set] at this
        rw [h.len]; exact this
      rcases look_set e with ⟨hj, e'⟩ | ⟨hj, e'⟩
      · cases e'
        rw [hj] at hl ⊢
        exact ⟨.ref a, List.getElem?_set_self hl, a, rfl, mupd_same, h0⟩
      · rw [List.getElem?_set_ne (fun q => hj q.symm)]
        obtain ⟨d, e1, e2, _⟩ := old j u e'
        exact ⟨d, e1, e2⟩
    inj := fun j k n n' b e1 e2 f1 f2 => by
      have hl1 : j < ρ.length := by
        have := (List.getElem?_eq_some_iff.mp f1).1
        rwa [List.length_set] at this
      have hl2 : k < ρ.length := by
        have := (List.getElem?_eq_some_iff.mp f2).1
        rwa [List.length_set] at this
      rcases look_set e1 with ⟨hj, e1'⟩ | ⟨hj, e1'⟩
      · rcases look_set e2 with ⟨hk, e2'⟩ | ⟨hk, e2'⟩
        · rw [hj, hk]
        · rw [hj] at f1 hl1
          rw [List.getElem?_set_self hl1] at f1
          cases f1
          rw [List.getElem?_set_ne (fun q => hk q.symm)] at f2
          obtain ⟨d, g1, _, g3⟩ := old k _ e2'
          rw [f2] at g1
          cases g1
          exact absurd rfl (g3 _ rfl)
      · rcases look_set e2 with ⟨hk, e2'⟩ | ⟨hk, e2'⟩
        · rw [hk] at f2 hl2
          rw [List.getElem?_set_self hl2] at f2
          cases f2
          rw [List.getElem?_set_ne (fun q => hj q.symm)] at f1
          obtain ⟨d, g1, _, g3⟩ := old j _ e1'
          rw [f1] at g1
          cases g1
          exact absurd rfl (g3 _ rfl)
        · rw [List.getElem?_set_ne (fun q => hj q.symm)] at f1
          rw [List.getElem?_set_ne (fun q => hk q.symm)] at f2
          exact h.inj j k n n' b e1' e2' f1 f2 }
/-- a thing of its own is written -/
theorem Own.upd (h : Own M0 M r ρ) {i : Nat} {m0 : MO} (hi : r[i]? = some (some (.o m0))) {a : Addr} (hr : ρ[i]? = some (some (.ref a))) (m : MO) : Own M0 (mupd M a m) (r.set i (some (.o m))) ρ := by
  have h0 : M a = some m0 ∧ M0.m a = none := by
    obtain ⟨d, e1, e2⟩ := h.at_ i _ hi
    rw [hr] at e1
    cases e1
    obtain ⟨b, hb, h1, h2⟩ := e2
    cases hb
    exact ⟨h1, h2⟩
  have old : ∀ j u, j ≠ i → r[j]? = some (some u) → ∃ d, ρ[j]? = some (some d) ∧ RelV M0 (mupd M a m) u d := fun j u hj e => by
    obtain ⟨d, e1, e2⟩ := h.at_ j u e
    refine ⟨d, e1, ?_⟩
    cases u with
    | v z => exact e2
    | o n =>
      obtain ⟨b, rfl, hb, hb0⟩ := e2
      refine ⟨b, rfl, ?_, hb0⟩
      rw [mupd_ne (fun z => hj (h.inj j i n m0 a e hi (by rw [e1, z]) hr))]
      exact hb
  exact {
    len := by rw [List.length_set]; exact h.len
    slf := fun b n e1 e2 => by
      rcases look_set e2 with ⟨hj, _⟩ | ⟨hj, e⟩
      · subst hj; exact h.slf b m0 e1 hi
      · exact h.slf b n e1 e
    sub := fun b z hb => by
      rw [mupd_ne (fun q => by rw [q, h0.2] at hb; cases hb)]
      exact h.sub b z hb
    at_ := fun j u e => by
      rcases look_set e with ⟨hj, e'⟩ | ⟨hj, e'⟩
      · cases e'
        rw [hj]
        exact ⟨.ref a, hr, a, rfl, mupd_same, h0.2⟩
      · exact old j u hj e'
    inj := fun j k n n' b e1 e2 f1 f2 => by
      have pre : ∀ {j : Nat} {n : MO}, (r.set i (some (.o m)))[j]? = some (some (.o n)) → ∃ n0, r[j]? = some (some (.o n0)) := fun e => by
        rcases look_set e with ⟨hj, _⟩ | ⟨_, e'⟩
        · rw [hj]; exact ⟨m0, hi⟩
        · exact ⟨_, e'⟩
      obtain ⟨n1, q1⟩ := pre e1
      obtain ⟨n2, q2⟩ := pre e2
      exact h.inj j k n1 n2 b q1 q2 f1 f2 }
end
def startM (N : List Str) (ds : List D) : Rm := ds.map (fun d => some (.v d)) ++ List.replicate (N.length - ds.length) none
theorem Own.start (M : MH) (N : List Str) (ds : List D) : Own ⟨M, none⟩ M (startM N ds) (startD N ds) where
  len := by unfold startM startD; simp
  slf := fun a m e => by cases e
  sub := Sub.refl M
  at_ := fun i u e => by
    unfold startM at e
    unfold startD
    by_cases hi : i < ds.length
    · rw [List.getElem?_append_left (by rw [List.length_map]; exact hi)] at e
      rw [List.getElem?_append_left (by rw [List.length_map]; exact hi)]
      rw [List.getElem?_map] at e ⊢
      rw [List.getElem?_eq_getElem hi] at e ⊢
      cases e
      exact ⟨_, rfl, rfl⟩
    · rw [List.getElem?_append_right (by rw [List.length_map]; omega)] at e
      obtain ⟨_, e2⟩ := List.getElem?_eq_some_iff.mp e
      rw [List.getElem_replicate] at e2
      cases e2
  inj := fun i j m m' a e1 => by
    unfold startM at e1
    by_cases hi : i < ds.length
    · rw [List.getElem?_append_left (by rw [List.length_map]; exact hi), List.getElem?_map, List.getElem?_eq_getElem hi] at e1
      cases e1
    · rw [List.getElem?_append_right (by rw [List.length_map]; omega)] at e1
      obtain ⟨_, e2⟩ := List.getElem?_eq_some_iff.mp e1
      rw [List.getElem_replicate] at e2
      cases e2

/-! ### judgements: a reading hands its value on -/
abbrev Ans := Rs D
abbrev KV := Vl → Ans
abbrev XV := Str → List (Str × D) → Ans
abbrev WM := Rm → KV → XV → Ans
abbrev WMT := Rm → (Bool → Ans) → XV → Ans
abbrev WMA := Rm → (List Vl → Ans) → XV → Ans
/-- what ties the answers to the wishes -/
structure Lk (G : Ans → Prop) (M : MH) (X : XV) (x : KE) : Prop where
  nb : ¬ G .bad
  xc : ∀ n fs, G (X n fs) → x n fs M
def wE (m : WM) : WE := fun ρ M k x => ∃ M0 r K X G, Own M0 M r ρ ∧ Lk G M X x ∧ (∀ u d, RelV M0 M u d → G (K u) → k d M) ∧ G (m r K X)
def wT (m : WMT) : WT := fun ρ M k x => ∃ M0 r K X G, Own M0 M r ρ ∧ Lk G M X x ∧ (∀ b, G (K b) → k b M) ∧ G (m r K X)
def wA (m : WMA) : WA := fun ρ M k x => ∃ M0 r K X G, Own M0 M r ρ ∧ Lk G M X x ∧ (∀ us ds, RelVs M0 M us ds → G (K us) → k ds M) ∧ G (m r K X)
abbrev ME (X : Cx) (e : Expr) (m : WM) : Prop := DE X e (wE m)
abbrev MT (X : Cx) (e : Expr) (m : WMT) : Prop := DT X e (wT m)
abbrev MW (X : Cx) (e : Expr) (m : WMT) : Prop := DW X e (wT m)
abbrev MA (X : Cx) (es : List Expr) (m : WMA) : Prop := DA X es (wA m)
section
variable {X : Cx}
theorem de_weak {e : Expr} {w w' : WE} (h : DE X e w) (i : ∀ ρ M k x, w' ρ M k x → w ρ M k x) : DE X e w' := ⟨fun W tk => pe_imp (h.pe W tk) fun σ H Q q => by
  obtain ⟨F, M, ρ, k, x, S, E, w, r⟩ := q
  exact ⟨F, M, ρ, k, x, S, E, i _ _ _ _ w, r⟩⟩
theorem dt_weak {e : Expr} {w w' : WT} (h : DT X e w) (i : ∀ ρ M k x, w' ρ M k x → w ρ M k x) : DT X e w' := ⟨fun W tk => pt_imp (h.pt W tk) fun σ H Q q => by
  obtain ⟨F, M, ρ, k, x, S, E, w, r⟩ := q
  exact ⟨F, M, ρ, k, x, S, E, i _ _ _ _ w, r⟩⟩
theorem dw_weak {e : Expr} {w w' : WT} (h : DW X e w) (i : ∀ ρ M k x, w' ρ M k x → w ρ M k x) : DW X e w' := ⟨fun W tk => pw_imp (h.pw W tk) fun σ H Q q => by
  obtain ⟨F, M, ρ, k, x, S, E, w, r⟩ := q
  exact ⟨F, M, ρ, k, x, S, E, i _ _ _ _ w, r⟩⟩
theorem da_weak {es : List Expr} {w w' : WA} (h : DA X es w) (i : ∀ ρ M k x, w' ρ M k x → w ρ M k x) : DA X es w' := ⟨fun W tk => pa_imp (h.pa W tk) fun σ H Q q => by
  obtain ⟨F, M, ρ, k, x, S, E, w, r⟩ := q
  exact ⟨F, M, ρ, k, x, S, E, i _ _ _ _ w, r⟩⟩
theorem ds_weak {st : Stmt} {w w' : WS} (h : DS X st w) (i : ∀ ρ M E, w' ρ M E → w ρ M E) : DS X st w' := ⟨fun W tk hp => ps_imp (h.ps W tk hp) fun D σ H q => by
  obtain ⟨F, M, ρ, E, S, R, w, r⟩ := q
  exact ⟨F, M, ρ, E, S, R, i _ _ _ w, r⟩⟩
theorem dss_weak {st : List Stmt} {w w' : WS} (h : DSs X st w) (i : ∀ ρ M E, w' ρ M E → w ρ M E) : DSs X st w' := ⟨fun W tk hp => pss_imp (h.ps W tk hp) fun D σ H q => by
  obtain ⟨F, M, ρ, E, S, R, w, r⟩ := q
  exact ⟨F, M, ρ, E, S, R, i _ _ _ w, r⟩⟩
end
/-- a value that is reckoned -/
def vK (o : Option D) (K : KV) : Ans := match o with
  | some z => K (.v z)
  | none => .bad
def kO (o : Option D) (k : KD) (M : MH) : Prop := match o with
  | some d => k d M
  | none => False
theorem kO_of {M0 : M0T} {M : MH} {G : Ans → Prop} {X : XV} {x : KE} {K : KV} {k : KD} {o : Option D} (L : Lk G M X x) (hk : ∀ u d, RelV M0 M u d → G (K u) → k d M) (g : G (vK o K)) : kO o k M := by
  cases o with
  | some d => exact hk (.v _) d rfl g
  | none => exact L.nb g
/-! ### names, constants, operators -/
def mVar (i : Nat) : WM := fun r K _ => match r[i]? with
  | some (some u) => K u
  | _ => .bad
def mC (d : D) : WM := fun _ K _ => K (.v d)
def mOp (f : Vl → Vl → Option D) (ma mb : WM) : WM := fun r K X => ma r (fun u => mb r (fun v => vK (f u v) K) X) X
def mUn (f : Vl → Option D) (ma : WM) : WM := fun r K X => ma r (fun u => vK (f u) K) X
/-- an operator's function -/
def OpM (rd : RD) (f : Vl → Vl → Option D) : Prop := ∀ M0 M u v d e k, RelV M0 M u d → RelV M0 M v e → kO (f u v) k M → rd d e M k
def UnM (rd : D → MH → KD → Prop) (f : Vl → Option D) : Prop := ∀ M0 M u d k, RelV M0 M u d → kO (f u) k M → rd d M k
section
variable {X : Cx} {pos : Pos} {a b : Expr} {ma mb : WM}
theorem me_of {e : Expr} {d : D} (h : DE X e (wC d)) : ME X e (mC d) := de_weak h fun ρ M k x ⟨M0, r, K, XX, G, O, L, hk, g⟩ => hk (.v _) d rfl g
theorem mv (i : Nat) {x : Str} (hN : X.N[i]? = some x := by rfl) (hv : Vis X.env.scope x := by first | exact Or.inl rfl | exact Or.inr (Or.inl rfl) | exact Or.inr (Or.inr rfl)) (hd : (x == ("__debug__" : Str)) = false := by decide)
    (hcd : (x == ("__classdict__" : Str)) = false := by decide) : ME X (.Name x pos) (mVar i) := de_weak (dv i hN hv hd hcd) fun ρ M k x ⟨M0, r, K, XX, G, O, L, hk, g⟩ => by
  unfold mVar at g
  unfold wVar
  split at g
  · rename_i u e
    obtain ⟨d, e1, e2⟩ := O.at_ i u e
    rw [e1]
    exact hk u d e2 g
  · exact (L.nb g).elim
theorem me_int {i : Int} {j} : ME X (.Constant (.int i) j pos) (mC (.int i)) := me_of de_int
theorem me_bl {b : Bool} {j} : ME X (.Constant (.bool b) j pos) (mC (.bl b)) := me_of de_bl
theorem me_non {j} : ME X (.Constant .none j pos) (mC .non) := me_of de_non
theorem me_str {x : Str} {j} : ME X (.Constant (.str x) j pos) (mC (.str x)) := me_of de_str
theorem me_ty {x : Str} {n : Ty} (hm : X.mg x = none) (hv : bootBuiltins x = some (.type n.name)) (hg : Gl X x := by rfl) (hn : x ≠ "__name__" := by decide) (hd : (x == ("__debug__" : Str)) = false := by decide) : ME X (.Name x pos) (mC (.ty n)) := me_of (de_ty hm hv hg hn hd)
theorem me_gint {x : Str} {i : Int} (hm : ∃ t, X.mg x = some (.int i t)) (hg : Gl X x := by rfl) (hd : (x == ("__debug__" : Str)) = false := by decide) : ME X (.Name x pos) (mC (.int i)) := me_of (de_gint hm hg hd)
theorem me_gstr {x z : Str} (hm : ∃ t, X.mg x = some (.str z t)) (hg : Gl X x := by rfl) (hd : (x == ("__debug__" : Str)) = false := by decide) : ME X (.Name x pos) (mC (.str z)) := me_of (de_gstr hm hg hd)
theorem me_op {op : Operator} {rd : RD} {f : Vl → Vl → Option D} (ho : OpD X (binaryOp op) rd) (hf : OpM rd f) (ha : ME X a ma) (hb : ME X b mb) : ME X (.BinOp a op b pos) (mOp f ma mb) :=
  de_weak (de_op ho ha hb) fun ρ M k x ⟨M0, r, K, XX, G, O, L, hk, g⟩ => ⟨M0, r, _, XX, G, O, L, fun u d hu g => ⟨M0, r, _, XX, G, O, L, fun v e hv g => hf M0 M u v d e k hu hv (kO_of L hk g), g⟩, g⟩
theorem me_un {op : UnaryOp} {rd : D → MH → KD → Prop} {f : Vl → Option D} (ho : UnD X (unaryOp op) rd) (hf : UnM rd f) (ha : ME X a ma) : ME X (.UnaryOp op a pos) (mUn f ma) :=
  de_weak (de_un ho ha) fun ρ M k x ⟨M0, r, K, XX, G, O, L, hk, g⟩ => ⟨M0, r, _, XX, G, O, L, fun u d hu g => hf M0 M u d k hu (kO_of L hk g), g⟩
theorem me_cmp {op : CmpOp} {rd : RD} {f : Vl → Vl → Option D} (ho : OpD X (compareOp op) rd) (hf : OpM rd f) (ha : ME X a ma) (hb : ME X b mb) (hm : behindInMarks op b = false := by first | exact nomark _ | rfl) : ME X (.Compare a [op] [b] pos) (mOp f ma mb) :=
  de_weak (de_cmp ho ha hb hm) fun ρ M k x ⟨M0, r, K, XX, G, O, L, hk, g⟩ => ⟨M0, r, _, XX, G, O, L, fun u d hu g => ⟨M0, r, _, XX, G, O, L, fun v e hv g => hf M0 M u v d e k hu hv (kO_of L hk g), g⟩, g⟩
/-- a truth value -/
def onB (u : Vl) (f : Bool → Ans) : Ans := match u with
  | .v (.bl b) => f b
  | _ => .bad
theorem onB_in {M0 : M0T} {M : MH} {G : Ans → Prop} {XX : XV} {x : KE} {u : Vl} {d : D} {f : Bool → Ans} {p : Bool → Prop} (L : Lk G M XX x) (hu : RelV M0 M u d) (g : G (onB u f)) (h : ∀ b, G (f b) → p b) : onBl d p := by
  cases u with
  | o n => exact (L.nb g).elim
  | v z =>
    cases hu
    cases d with
    | bl b => exact h b g
    | _ => exact (L.nb g).elim
def mTest (m : WM) : WMT := fun r K X => m r (fun u => onB u K) X
theorem test_in {m : WM} {ρ : Rh} {M : MH} {k : Bool → MH → Prop} {x : KE} (h : wT (mTest m) ρ M k x) : wTest (wE m) ρ M k x := by
  obtain ⟨M0, r, K, XX, G, O, L, hk, g⟩ := h
  exact ⟨M0, r, _, XX, G, O, L, fun u d hu g => onB_in L hu g hk, g⟩
theorem mt_val {e : Expr} {m : WM} (h : ME X e m) (he : ∀ whole, isTrue e X.env whole = (do let v ← whole; standAt e.pos; holding [v] (truthy v)) := by intro _; rfl) : MT X e (mTest m) := dt_weak (dt_val h he) fun ρ M k x q => test_in q
theorem wTest_imp {w w' : WE} {ρ : Rh} {M : MH} {k : Bool → MH → Prop} {x : KE} (i : ∀ k, w' ρ M k x → w ρ M k x) (h : wTest w' ρ M k x) : wTest w ρ M k x := i _ h
theorem mt_cmp {op : CmpOp} {rd : RD} {f : Vl → Vl → Option D} (ho : OpD X (compareOp op) rd) (hf : OpM rd f) (ha : ME X a ma) (hb : ME X b mb) (hm : behindInMarks op b = false := by first | exact nomark _ | rfl) : MT X (.Compare a [op] [b] pos) (mTest (mOp f ma mb)) :=
  dt_weak (dt_cmp ho ha hb hm) fun ρ M k x q => wTest_imp (w' := wE (mOp f ma mb)) (fun k ⟨M0, r, K, XX, G, O, L, hk, g⟩ => ⟨M0, r, _, XX, G, O, L, fun u d hu g => ⟨M0, r, _, XX, G, O, L, fun v e hv g => hf M0 M u v d e k hu hv (kO_of L hk g), g⟩, g⟩) (test_in q)
def mNotT (m : WMT) : WMT := fun r K X => m r (fun b => K (!b)) X
theorem mt_not {m : WMT} (h : MT X a m) : MT X (.UnaryOp .Not a pos) (mNotT m) := dt_weak (dt_not h) fun ρ M k x ⟨M0, r, K, XX, G, O, L, hk, g⟩ => ⟨M0, r, _, XX, G, O, L, fun b g => hk _ g, g⟩
def mAndT (m n : WMT) : WMT := fun r K X => m r (fun b => match b with
  | true => n r K X
  | false => K false) X
def mOrT (m n : WMT) : WMT := fun r K X => m r (fun b => match b with
  | true => K true
  | false => n r K X) X
variable {rest : List Expr} {mt mu : WMT}
theorem mw_and1 (ha : MT X a mt) : MW X (.BoolOp .And [a] pos) mt := dw_and1 ha
theorem mw_or1 (ha : MT X a mt) : MW X (.BoolOp .Or [a] pos) mt := dw_or1 ha
theorem mw_and (ha : MT X a mt) (hb : MW X (.BoolOp .And (b :: rest) pos) mu) : MW X (.BoolOp .And (a :: b :: rest) pos) (mAndT mt mu) := dw_weak (dw_and ha hb) fun ρ M k x ⟨M0, r, K, XX, G, O, L, hk, g⟩ => ⟨M0, r, _, XX, G, O, L, fun b g => by
    cases b with
    | true => exact ⟨M0, r, K, XX, G, O, L, hk, g⟩
    | false => exact hk _ g, g⟩
theorem mw_or (ha : MT X a mt) (hb : MW X (.BoolOp .Or (b :: rest) pos) mu) : MW X (.BoolOp .Or (a :: b :: rest) pos) (mOrT mt mu) := dw_weak (dw_or ha hb) fun ρ M k x ⟨M0, r, K, XX, G, O, L, hk, g⟩ => ⟨M0, r, _, XX, G, O, L, fun b g => by
    cases b with
    | true => exact hk _ g
    | false => exact ⟨M0, r, K, XX, G, O, L, hk, g⟩, g⟩
theorem mw_t {e : Expr} (h : MW X e mt) : MT X e mt := h.dt
/-- as values -/
def mAnd (ma mb : WM) : WM := fun r K X => ma r (fun u => onB u fun b => match b with
  | true => mb r K X
  | false => K (.v (.bl false))) X
def mOr (ma mb : WM) : WM := fun r K X => ma r (fun u => onB u fun b => match b with
  | true => K (.v (.bl true))
  | false => mb r K X) X
def mNot (ma : WM) : WM := fun r K X => ma r (fun u => onB u fun b => K (.v (.bl (!b)))) X
theorem me_one {op} (h : ME X a ma) : ME X (.BoolOp op [a] pos) ma := de_one h
theorem me_and (ha : ME X a ma) (hb : ME X (.BoolOp .And (b :: rest) pos) mb) : ME X (.BoolOp .And (a :: b :: rest) pos) (mAnd ma mb) := de_weak (de_and ha hb) fun ρ M k x ⟨M0, r, K, XX, G, O, L, hk, g⟩ =>
  ⟨M0, r, _, XX, G, O, L, fun u d hu g => onB_in L hu g fun b g => by
    cases b with
    | true => exact ⟨M0, r, K, XX, G, O, L, hk, g⟩
    | false => exact hk (.v _) _ rfl g, g⟩
theorem me_or (ha : ME X a ma) (hb : ME X (.BoolOp .Or (b :: rest) pos) mb) : ME X (.BoolOp .Or (a :: b :: rest) pos) (mOr ma mb) := de_weak (de_or ha hb) fun ρ M k x ⟨M0, r, K, XX, G, O, L, hk, g⟩ =>
  ⟨M0, r, _, XX, G, O, L, fun u d hu g => onB_in L hu g fun b g => by
    cases b with
    | true => exact hk (.v _) _ rfl g
    | false => exact ⟨M0, r, K, XX, G, O, L, hk, g⟩, g⟩
theorem me_not (ha : ME X a ma) : ME X (.UnaryOp .Not a pos) (mNot ma) := de_weak (de_not ha) fun ρ M k x ⟨M0, r, K, XX, G, O, L, hk, g⟩ =>
  ⟨M0, r, _, XX, G, O, L, fun u d hu g => onB_in L hu g fun b g => hk (.v _) _ rfl g, g⟩
def mIf (mt : WMT) (ma mb : WM) : WM := fun r K X => mt r (fun b => match b with
  | true => ma r K X
  | false => mb r K X) X
theorem me_if {c : Expr} (hc : MT X c mt) (ha : ME X a ma) (hb : ME X b mb) : ME X (.IfExp c a b pos) (mIf mt ma mb) := de_weak (de_if hc ha hb) fun ρ M k x ⟨M0, r, K, XX, G, O, L, hk, g⟩ =>
  ⟨M0, r, _, XX, G, O, L, fun b g => by cases b <;> exact ⟨M0, r, K, XX, G, O, L, hk, g⟩, g⟩
/-- a < b < c -/
def mChain (f f' : Vl → Vl → Option D) (ma mb mc : WM) : WM := fun r K X => ma r (fun u => mb r (fun v => vK (f u v) fun z => onB z fun b => match b with
  | true => mc r (fun w => vK (f' v w) K) X
  | false => K (.v (.bl false))) X) X
theorem kO_map {o : Option D} {K : KV} {G : Ans → Prop} {k : KD} {M : MH} (nb : ¬ G .bad) (h : ∀ z, G (K (.v z)) → k z M) (g : G (vK o K)) : kO o k M := by
  cases o with
  | some d => exact h d g
  | none => exact nb g
theorem chain_weak {rd rd' : RD} {f f' : Vl → Vl → Option D} {mc : WM} (hf : OpM rd f) (hf' : OpM rd' f') (ρ : Rh) (M : MH) (k : KD) (x : KE) (h : wE (mChain f f' ma mb mc) ρ M k x) : wChain rd rd' (wE ma) (wE mb) (wE mc) ρ M k x := by
  obtain ⟨M0, r, K, XX, G, O, L, hk, g⟩ := h
  refine ⟨M0, r, _, XX, G, O, L, fun u d hu g => ⟨M0, r, _, XX, G, O, L, fun v e hv g => hf M0 M u v d e _ hu hv ?_, g⟩, g⟩
  refine kO_map L.nb (fun z g => onB_in (M0 := M0) (u := .v z) L rfl g fun b g => ?_) g
  cases b with
  | true => exact ⟨M0, r, _, XX, G, O, L, fun w z hw g => hf' M0 M v w e z k hv hw (kO_of L hk g), g⟩
  | false => exact hk (.v _) _ rfl g
theorem me_chain {c : Expr} {mc : WM} {op op' : CmpOp} {rd rd' : RD} {f f' : Vl → Vl → Option D} (ho : OpD X (compareOp op) rd) (hf : OpM rd f) (ho' : OpD X (compareOp op') rd') (hf' : OpM rd' f') (ha : ME X a ma) (hb : ME X b mb) (hc : ME X c mc) (hm : lastMarks [op, op'] [b, c] = false := by with_unfolding_all rfl) : ME X (.Compare a [op, op'] [b, c] pos) (mChain f f' ma mb mc) :=
  de_weak (de_chain ho ho' ha hb hc hm) (chain_weak hf hf')
theorem mt_chain {c : Expr} {mc : WM} {op op' : CmpOp} {rd rd' : RD} {f f' : Vl → Vl → Option D} (ho : OpD X (compareOp op) rd) (hf : OpM rd f) (ho' : OpD X (compareOp op') rd') (hf' : OpM rd' f') (ha : ME X a ma) (hb : ME X b mb) (hc : ME X c mc) (hm : lastMarks [op, op'] [b, c] = false := by with_unfolding_all rfl) : MT X (.Compare a [op, op'] [b, c] pos) (mTest (mChain f f' ma mb mc)) :=
  dt_weak (dt_chain ho ho' ha hb hc hm) fun ρ M k x q => wTest_imp (w' := wE (mChain f f' ma mb mc)) (fun k => chain_weak hf hf' ρ M k x) (test_in q)
end

/-! ### argument lists, displays -/
def mNil : WMA := fun _ K _ => K []
def mCons (ma : WM) (mr : WMA) : WMA := fun r K X => ma r (fun u => mr r (fun us => K (u :: us)) X) X
def vsOf : List Vl → Option (List D)
  | [] => some []
  | .v d :: r => (vsOf r).map (d :: ·)
  | _ => none
theorem vsOf_rel {M0 : M0T} {M : MH} : ∀ {us : List Vl} {ds es : List D}, vsOf us = some ds → RelVs M0 M us es → es = ds
  | [], _, _, e, .nil => by cases e; rfl
  | .v d :: r, _, _, e, .cons h t => by
    cases h
    unfold vsOf at e
    cases e1 : vsOf r with
    | none => rw [e1] at e; cases e
    | some y =>
      rw [e1] at e
      cases e
      rw [vsOf_rel e1 t]
  | .o m :: r, _, _, e, _ => by cases e
def onVs (us : List Vl) (f : List D → Ans) : Ans := match vsOf us with
  | some ds => f ds
  | none => .bad
theorem onVs_in {M0 : M0T} {M : MH} {us : List Vl} {ds : List D} {f : List D → Ans} {G : Ans → Prop} (nb : ¬ G .bad) (hu : RelVs M0 M us ds) (g : G (onVs us f)) : G (f ds) := by
  unfold onVs at g
  cases e : vsOf us with
  | none => rw [e] at g; exact (nb g).elim
  | some es => rw [e] at g; rw [vsOf_rel e hu]; exact g
def gdR (b : Bool) (r : Ans) : Ans := match b with
  | true => r
  | false => .bad
theorem gdR_in {G : Ans → Prop} {b : Bool} {r : Ans} {p : Prop} (nb : ¬ G .bad) (g : G (gdR b r)) (h : G r → p) : gd b p := by
  cases b with
  | true => exact h g
  | false => exact nb g
def mTup (m : WMA) : WM := fun r K X => m r (fun us => onVs us fun ds => gdR (Nat.ble ds.length 4096) (K (.v (.tup ds)))) X
def mLst (m : WMA) : WM := fun r K X => m r (fun us => onVs us fun ds => gdR (Nat.ble ds.length 4096) (K (.v (.lst ds)))) X
def seqOf : Vl → Option (List D)
  | .v (.tup ds) => some ds
  | .v (.lst ds) => some ds
  | _ => none
def mStar (ma : WM) (mr : WMA) : WMA := fun r K X => ma r (fun u => match seqOf u with
  | some ds => mr r (fun us => K (ds.map .v ++ us)) X
  | none => .bad) X
theorem RelVs.app {M0 : M0T} {M : MH} : ∀ (ds : List D) {us : List Vl} {es : List D}, RelVs M0 M us es → RelVs M0 M (ds.map .v ++ us) (ds ++ es)
  | [], _, _, h => h
  | d :: ds, _, _, h => .cons rfl (RelVs.app ds h)
section
variable {X : Cx} {e : Expr} {es : List Expr} {me : WM} {ma : WMA} {pos : Pos}
theorem ma_nil : MA X [] mNil := da_weak da_nil fun ρ M k x ⟨M0, r, K, XX, G, O, L, hk, g⟩ => hk [] [] .nil g
theorem ma_cons (he : ME X e me) (hr : MA X es ma) (hs : starEach (e :: es) X.env = (false, eval e X.env) :: starEach es X.env := by rfl) : MA X (e :: es) (mCons me ma) := da_weak (da_cons he hr hs) fun ρ M k x ⟨M0, r, K, XX, G, O, L, hk, g⟩ =>
  ⟨M0, r, _, XX, G, O, L, fun u d hu g => ⟨M0, r, _, XX, G, O, L, fun us ds hus g => hk _ _ (.cons hu hus) g, g⟩, g⟩
theorem ma_star {p : Pos} (he : ME X e me) (hr : MA X es ma) (hs : starEach (.Starred e p :: es) X.env = (true, eval e X.env) :: starEach es X.env := by rfl) : MA X (.Starred e p :: es) (mStar me ma) := da_weak (da_star he hr hs) fun ρ M k x ⟨M0, r, K, XX, G, O, L, hk, g⟩ =>
  ⟨M0, r, _, XX, G, O, L, fun u d hu g => by
    have key : ∀ ds, G (ma r (fun us => K (ds.map .v ++ us)) XX) → wA ma ρ M (fun es M2 => k (ds ++ es) M2) x := fun ds g => ⟨M0, r, _, XX, G, O, L, fun us es hus g => hk _ _ (RelVs.app ds hus) g, g⟩
    cases u with
    | o n => exact (L.nb g).elim
    | v z =>
      cases hu
      cases d with
      | tup ds => exact key ds g
      | lst ds => exact key ds g
      | _ => exact (L.nb g).elim, g⟩
theorem me_tup {x1} (h : MA X es ma) : ME X (.Tuple es x1 pos) (mTup ma) := de_weak (de_tup h) fun ρ M k x ⟨M0, r, K, XX, G, O, L, hk, g⟩ =>
  ⟨M0, r, _, XX, G, O, L, fun us ds hu g => gdR_in L.nb (onVs_in L.nb hu g) fun g => hk (.v _) _ rfl g, g⟩
theorem me_lst (h : MA X es ma) : ME X (.List es pos) (mLst ma) := de_weak (de_lst h) fun ρ M k x ⟨M0, r, K, XX, G, O, L, hk, g⟩ =>
  ⟨M0, r, _, XX, G, O, L, fun us ds hu g => gdR_in L.nb (onVs_in L.nb hu g) fun g => hk (.v _) _ rfl g, g⟩
end

/-! ### calls -/
/-- a def's promise by its function -/
def wfOf (m : List D → Ans) : WF := fun ds M k x => match m ds with
  | .ok d => k d M
  | .exc n fs => x n fs M
  | .bad => False
/-- behind a def's answer -/
def onR (a : Ans) (K : KV) (X : XV) : Ans := match a with
  | .ok d => K (.v d)
  | .exc n fs => X n fs
  | .bad => .bad
theorem wf_in {M0 : M0T} {M : MH} {m : List D → Ans} {ds : List D} {k : KD} {x : KE} {G : Ans → Prop} {K : KV} {XX : XV} (L : Lk G M XX x) (hk : ∀ u d, RelV M0 M u d → G (K u) → k d M) (g : G (onR (m ds) K XX)) : wfOf m ds M k x := by
  unfold wfOf
  revert g
  cases m ds with
  | ok d => exact fun g => hk (.v _) d rfl g
  | exc n fs => exact fun g => L.xc n fs g
  | bad => exact fun g => L.nb g
def mCall (m : List D → Ans) (n : Nat) (ma : WMA) : WM := fun r K X => ma r (fun us => onVs us fun ds => gdR (Nat.beq ds.length n) (onR (m ds) K X)) X
def mCallV (m : List D → Ans) (n : Nat) (ma : WMA) : WM := fun r K X => ma r (fun us => onVs us fun ds => gdR (Nat.ble n ds.length) (gdR (Nat.ble ds.length 4096) (onR (m (ds.take n ++ [.tup (ds.drop n)])) K X))) X
def CallM (rb : RB) (f : List Vl → Option D) : Prop := ∀ M0 M us ds k, RelVs M0 M us ds → kO (f us) k M → rb ds M k
def mCB (f : List Vl → Option D) (ma : WMA) : WM := fun r K X => ma r (fun us => vK (f us) K) X
section
variable {X : Cx} {pos p : Pos} {f x : Str} {e : Expr} {es : List Expr} {k n : Nat} {m : List D → Ans} {ma : WMA}
theorem me_call (F : FnD X.prog X.w X.K X.mg X.base f k n (wfOf m)) (hr : Room k X.A) (ha : MA X (e :: es) ma) (hg : Gl X f := by rfl) (hd : (f == ("__debug__" : Str)) = false := by decide)
    (he : starEach (e :: es) X.env = (false, eval e X.env) :: starEach es X.env := by rfl) (hpl : (backTo pos (starEach es X.env)).any (·.1) = false := by rfl) : ME X (.Call (.Name f p) (e :: es) [] pos) (mCall m n ma) :=
  de_weak (de_call F hr ha hg hd he hpl) fun ρ M k x ⟨M0, r, K, XX, G, O, L, hk, g⟩ => ⟨M0, r, _, XX, G, O, L, fun us ds hu g => gdR_in L.nb (onVs_in L.nb hu g) (wf_in L hk), g⟩
theorem me_callV (F : FnV X.prog X.w X.K X.mg X.base f k n (wfOf m)) (hr : Room k X.A) (ha : MA X (e :: es) ma) (hg : Gl X f := by rfl) (hd : (f == ("__debug__" : Str)) = false := by decide)
    (he : starEach (e :: es) X.env = (false, eval e X.env) :: starEach es X.env := by rfl) (hpl : (backTo pos (starEach es X.env)).any (·.1) = false := by rfl) : ME X (.Call (.Name f p) (e :: es) [] pos) (mCallV m n ma) :=
  de_weak (de_callV F hr ha hg hd he hpl) fun ρ M k x ⟨M0, r, K, XX, G, O, L, hk, g⟩ => ⟨M0, r, _, XX, G, O, L, fun us ds hu g => gdR_in L.nb (onVs_in L.nb hu g) fun g => gdR_in L.nb g (wf_in L hk), g⟩
theorem me_callVS (F : FnV X.prog X.w X.K X.mg X.base f k n (wfOf m)) (hr : Room k X.A) (ha : MA X (e :: es) ma) (hg : Gl X f := by rfl) (hd : (f == ("__debug__" : Str)) = false := by decide)
    (he : starEach (e :: es) X.env = (false, eval e X.env) :: starEach es X.env := by rfl) (hst : (backTo pos (starEach es X.env)).any (·.1) = true := by rfl) : ME X (.Call (.Name f p) (e :: es) [] pos) (mCallV m n ma) :=
  de_weak (de_callVS F hr ha hg hd he hst) fun ρ M k x ⟨M0, r, K, XX, G, O, L, hk, g⟩ => ⟨M0, r, _, XX, G, O, L, fun us ds hu g => gdR_in L.nb (onVs_in L.nb hu g) fun g => gdR_in L.nb g (wf_in L hk), g⟩
theorem me_callB {id : String} {rb : RB} {fm : List Vl → Option D} (hc : CallD X (.builtin id) rb) (hf : CallM rb fm) (hm : X.mg x = none) (hv : bootBuiltins x = some (.builtin id)) (ha : MA X (e :: es) ma) (hg : Gl X x := by rfl) (hn : x ≠ "__name__" := by decide) (hdb : (x == ("__debug__" : Str)) = false := by decide)
    (he : starEach (e :: es) X.env = (false, eval e X.env) :: starEach es X.env := by rfl) (hpl : (backTo pos (starEach es X.env)).any (·.1) = false := by rfl) : ME X (.Call (.Name x p) (e :: es) [] pos) (mCB fm ma) :=
  de_weak (de_callB hc hm hv ha hg hn hdb he hpl) fun ρ M k x ⟨M0, r, K, XX, G, O, L, hk, g⟩ => ⟨M0, r, _, XX, G, O, L, fun us ds hu g => hf M0 M us ds k hu (kO_of L hk g), g⟩
theorem me_callTy {T : String} {rb : RB} {fm : List Vl → Option D} (hc : CallD X (.type T) rb) (hf : CallM rb fm) (hm : X.mg x = none) (hv : bootBuiltins x = some (.type T)) (ha : MA X (e :: es) ma) (hg : Gl X x := by rfl) (hn : x ≠ "__name__" := by decide) (hdb : (x == ("__debug__" : Str)) = false := by decide)
    (he : starEach (e :: es) X.env = (false, eval e X.env) :: starEach es X.env := by rfl) (hpl : (backTo pos (starEach es X.env)).any (·.1) = false := by rfl) : ME X (.Call (.Name x p) (e :: es) [] pos) (mCB fm ma) :=
  de_weak (de_callTy hc hm hv ha hg hn hdb he hpl) fun ρ M k x ⟨M0, r, K, XX, G, O, L, hk, g⟩ => ⟨M0, r, _, XX, G, O, L, fun us ds hu g => hf M0 M us ds k hu (kO_of L hk g), g⟩
end
end DM

namespace DM
open PySem PySem.Spec PyProof.Rows L2 DL

/-! ### statements -/
structure EndsK where
  nx : Rm → Ans
  rt : KV
  bk : Rm → Ans
  ct : Rm → Ans
  xc : XV
abbrev WMS := Rm → EndsK → Ans
structure LkE (G : Ans → Prop) (M0 : M0T) (EK : EndsK) (E : EndsD) : Prop where
  nb : ¬ G .bad
  nx : ∀ r ρ M, Own M0 M r ρ → G (EK.nx r) → E.nx ρ M
  rt : ∀ u d M, Sub M0.m M → RelV M0 M u d → G (EK.rt u) → E.rt d M
  bk : ∀ r ρ M, Own M0 M r ρ → G (EK.bk r) → E.bk ρ M
  ct : ∀ r ρ M, Own M0 M r ρ → G (EK.ct r) → E.ct ρ M
  xc : ∀ n fs M, Sub M0.m M → G (EK.xc n fs) → E.xc n fs M
theorem LkE.lk {G : Ans → Prop} {M0 : M0T} {M : MH} {EK : EndsK} {E : EndsD} (L : LkE G M0 EK E) (s : Sub M0.m M) : Lk G M EK.xc E.xc := ⟨L.nb, fun n fs g => L.xc n fs M s g⟩
def wS (s : WMS) : WS := fun ρ M E => ∃ M0 r EK G, Own M0 M r ρ ∧ LkE G M0 EK E ∧ G (s r EK)
abbrev MS (X : Cx) (st : Stmt) (s : WMS) : Prop := DS X st (wS s)
abbrev MSs (X : Cx) (st : List Stmt) (s : WMS) : Prop := DSs X st (wS s)
def mNext : WMS := fun r E => E.nx r
def mSeq (s t : WMS) : WMS := fun r E => s r { nx := fun r1 => t r1 E, rt := E.rt, bk := E.bk, ct := E.ct, xc := E.xc }
def mRet (m : WM) : WMS := fun r E => m r E.rt E.xc
def mRetN : WMS := fun _ E => E.rt (.v .non)
def mDrop (m : WM) : WMS := fun r E => m r (fun _ => E.nx r) E.xc
/-- what is stored must be a value -/
def onVl (u : Vl) (f : D → Ans) : Ans := match u with
  | .v d => f d
  | .o _ => .bad
theorem onVl_in {M0 : M0T} {M : MH} {u : Vl} {d : D} {f : D → Ans} {G : Ans → Prop} {p : Prop} (nb : ¬ G .bad) (hu : RelV M0 M u d) (g : G (onVl u f)) (h : G (f d) → p) : p := by
  cases u with
  | o n => exact (nb g).elim
  | v z => cases hu; exact h g
def mSet (i : Nat) (m : WM) : WMS := fun r E => m r (fun u => onVl u fun d => E.nx (r.set i (some (.v d)))) E.xc
def mIfS (c : WMT) (s t : WMS) : WMS := fun r E => c r (fun b => match b with
  | true => s r E
  | false => t r E) E.xc
def mBreak : WMS := fun r E => E.bk r
def mCont : WMS := fun r E => E.ct r
/-- slots that are read no more -/
def mWipe (is : List Nat) (s : WMS) : WMS := fun r E => s (wipeM r is) E
section
variable {X : Cx} {st : Stmt} {rest : List Stmt} {s t : WMS} {e : Expr} {me : WM} {pos : Pos}
theorem mss_nil : MSs X [] mNext := dss_weak dss_nil fun ρ M E ⟨M0, r, EK, G, O, L, g⟩ => L.nx r ρ M O g
theorem mss_cons (h1 : MS X st s) (h2 : MSs X rest t) : MSs X (st :: rest) (mSeq s t) := dss_weak (dss_cons h1 h2) fun ρ M E ⟨M0, r, EK, G, O, L, g⟩ =>
  ⟨M0, r, { nx := fun r1 => t r1 EK, rt := EK.rt, bk := EK.bk, ct := EK.ct, xc := EK.xc }, G, O, ⟨L.nb, fun r1 ρ1 M1 O1 g => ⟨M0, r1, EK, G, O1, L, g⟩, L.rt, L.bk, L.ct, L.xc⟩, g⟩
theorem mss_one (h1 : MS X st s) : MSs X [st] s := dss_one h1
theorem mss_wipe (is : List Nat) (h : MSs X rest s) : MSs X rest (mWipe is s) := dss_weak h fun ρ M E ⟨M0, r, EK, G, O, L, g⟩ => ⟨M0, wipeM r is, EK, G, O.wipe is, L, g⟩
theorem ms_pass : MS X (.Pass pos) mNext := ds_weak ds_pass fun ρ M E ⟨M0, r, EK, G, O, L, g⟩ => L.nx r ρ M O g
theorem ms_break : MS X (.Break pos) mBreak := ds_weak ds_break fun ρ M E ⟨M0, r, EK, G, O, L, g⟩ => L.bk r ρ M O g
theorem ms_cont : MS X (.Continue pos) mCont := ds_weak ds_cont fun ρ M E ⟨M0, r, EK, G, O, L, g⟩ => L.ct r ρ M O g
theorem ms_expr (he : ME X e me) (hs : swapsWith e none pos.line X.env = pure false := by rfl) : MS X (.Expr e pos) (mDrop me) := ds_weak (ds_expr he hs) fun ρ M E ⟨M0, r, EK, G, O, L, g⟩ =>
  ⟨M0, r, _, EK.xc, G, O, L.lk O.sub, fun u d hu g => L.nx r ρ M O g, g⟩
theorem ms_ret (he : ME X e me) : MS X (.Return (some e) pos) (mRet me) := ds_weak (ds_ret he) fun ρ M E ⟨M0, r, EK, G, O, L, g⟩ =>
  ⟨M0, r, _, EK.xc, G, O, L.lk O.sub, fun u d hu g => L.rt u d M O.sub hu g, g⟩
theorem ms_retN : MS X (.Return none pos) mRetN := ds_weak ds_retN fun ρ M E ⟨M0, r, EK, G, O, L, g⟩ => L.rt (.v .non) _ M O.sub rfl g
theorem ms_if {c : Expr} {a b : List Stmt} {mc : WMT} (hc : MT X c mc) (ha : MSs X a s) (hb : MSs X b t) : MS X (.If c a b pos) (mIfS mc s t) := ds_weak (ds_if hc ha hb) fun ρ M E ⟨M0, r, EK, G, O, L, g⟩ =>
  ⟨M0, r, _, EK.xc, G, O, L.lk O.sub, fun c g => by cases c <;> exact ⟨M0, r, EK, G, O, L, g⟩, g⟩
theorem ms_set {i : Nat} {x : Str} {pos' : Pos} (hN : X.N.Nodup) (hi : X.N[i]? = some x) (hx : Loc X.env.scope x) (he : ME X e me) (hs : swapsWith e (some (.Name x pos')) pos.line X.env = pure false := by rfl) (hf : X.fn x = true ∨ X.env.scope.names.lookup x = some .local := by first | exact .inl rfl | exact .inr rfl | assumption) :
    MS X (.Assign [.Name x pos'] e pos) (mSet i me) := ds_weak (ds_set hN hi hx he hs hf) fun ρ M E ⟨M0, r, EK, G, O, L, g⟩ =>
  ⟨M0, r, _, EK.xc, G, O, L.lk O.sub, fun u d hu g => onVl_in L.nb hu g fun g => L.nx _ _ M (O.set i d) g, g⟩
end

/-! ### own lists -/
def mNewL (i : Nat) (m : WMA) : WMS := fun r E => m r (fun us => onVs us fun ds => gdR (Nat.ble ds.length 4096) (E.nx (r.set i (some (.o (.lst ds)))))) E.xc
/-- x.append(e), x in slot i -/
def mApp (i : Nat) (m : WM) : WMS := fun r E => match r[i]? with
  | some (some (.o (.lst ds))) => m r (fun u => onVl u fun d => gdR (Nat.blt ds.length 16777216) (E.nx (r.set i (some (.o (.lst (ds ++ [d]))))))) E.xc
  | _ => .bad
/-- x[k] = e -/
def mPut (i : Nat) (mi me : WM) : WMS := fun r E => me r (fun u => onVl u fun d => match r[i]? with
  | some (some (.o (.lst ds))) => mi r (fun v => onVl v fun z => match z with
    | .int n => match ixN ds.length n with
      | some j => E.nx (r.set i (some (.o (.lst (ds.set j d)))))
      | none => .bad
    | _ => .bad) E.xc
  | _ => .bad) E.xc
/-- an own thing is written no more -/
def mFrz (i : Nat) (s : WMS) : WMS := fun r E => match r[i]? with
  | some (some (.o m)) => match frzD m with
    | some d => s (r.set i (some (.v d))) E
    | none => .bad
  | _ => .bad
theorem Own.frz {M0 : M0T} {M : MH} {r : Rm} {ρ : Rh} (h : Own M0 M r ρ) {i : Nat} {m : MO} {a : Addr} (hi : r[i]? = some (some (.o m))) (hr : ρ[i]? = some (some (.ref a))) (d : D) : Own M0 (mdel M a) (r.set i (some (.v d))) (ρ.set i (some d)) := by
  have h0 : M0.m a = none := by
    obtain ⟨e, e1, e2⟩ := h.at_ i _ hi
    rw [hr] at e1
    cases e1
    obtain ⟨b, hb, _, h2⟩ := e2
    cases hb
    exact h2
  exact {
    len := by rw [List.length_set, List.length_set]; exact h.len
    slf := fun b n e1 e2 => by
      rcases look_set e2 with ⟨_, e⟩ | ⟨hj, e⟩
      · cases e
      · rw [List.getElem?_set_ne (fun q => hj q.symm)]; exact h.slf b n e1 e
    sub := fun b z hb => by
      rw [mdel_ne (fun q => by rw [q, h0] at hb; cases hb)]
      exact h.sub b z hb
    at_ := fun j u e => by
      rcases look_set e with ⟨hj, e'⟩ | ⟨hj, e'⟩
      · cases e'
        rw [hj]
        exact ⟨d, List.getElem?_set_self (h.lt hi), rfl⟩
      · rw [List.getElem?_set_ne (fun q => hj q.symm)]
        obtain ⟨y, e1, e2⟩ := h.at_ j u e'
        refine ⟨y, e1, ?_⟩
        cases u with
        | v z => exact e2
        | o n =>
          obtain ⟨b, rfl, hb, hb0⟩ := e2
          exact ⟨b, rfl, by rw [mdel_ne (fun z => hj (h.inj j i n m a e' hi (by rw [e1, z]) hr))]; exact hb, hb0⟩
    inj := fun j k n n' b e1 e2 f1 f2 => by
      rcases look_set e1 with ⟨_, e1⟩ | ⟨hj, e1⟩
      · cases e1
      rcases look_set e2 with ⟨_, e2⟩ | ⟨hk, e2⟩
      · cases e2
      rw [List.getElem?_set_ne (fun q => hj q.symm)] at f1
      rw [List.getElem?_set_ne (fun q => hk q.symm)] at f2
      exact h.inj j k n n' b e1 e2 f1 f2 }
section
variable {X : Cx} {st : Stmt} {rest : List Stmt} {s t : WMS} {e : Expr} {es : List Expr} {me mi : WM} {ma : WMA} {pos : Pos}
theorem ms_newL {i : Nat} {x : Str} {pos' lp : Pos} (hN : X.N.Nodup) (hi : X.N[i]? = some x) (hx : Loc X.env.scope x) (ha : MA X es ma) (hs : swapsWith (.List es lp) (some (.Name x pos')) pos.line X.env = pure false := by rfl) (hf : X.fn x = true ∨ X.env.scope.names.lookup x = some .local := by first | exact .inl rfl | exact .inr rfl | assumption) (hi0 : i ≠ 0 := by decide) :
    MS X (.Assign [.Name x pos'] (.List es lp) pos) (mNewL i ma) := ds_weak (ds_set hN hi hx (de_lstM ha) hs hf) fun ρ M E ⟨M0, r, EK, G, O, L, g⟩ =>
  ⟨M0, r, _, EK.xc, G, O, L.lk O.sub, fun us ds hu g => gdR_in L.nb (onVs_in L.nb hu g) fun g a ha => L.nx _ _ _ (O.new i ha _ hi0) g, g⟩
theorem mss_frz (i : Nat) (h : MSs X rest s) : MSs X rest (mFrz i s) := dss_weak (dss_frzD i h) fun ρ M E ⟨M0, r, EK, G, O, L, g⟩ => by
  unfold mFrz at g
  split at g
  · rename_i m e
    split at g
    · rename_i d e1
      obtain ⟨z, e2, a, rfl, e3, e4⟩ := O.at_ i _ e
      exact ⟨a, m, d, e2, e3, e1, M0, _, EK, G, O.frz e e2 d, L, g⟩
    · exact (L.nb g).elim
  · exact (L.nb g).elim
theorem ms_app {i : Nat} {x : Str} {p1 p2 p3 : Pos} (h : DE X (.Call (.Attribute (.Name x p1) "append" p2) [e] [] p3) (wApp (wVar i) (wE me)))
    (hs : swapsWith (.Call (.Attribute (.Name x p1) "append" p2) [e] [] p3) none pos.line X.env = pure false := by rfl) : MS X (.Expr (.Call (.Attribute (.Name x p1) "append" p2) [e] [] p3) pos) (mApp i me) := ds_weak (ds_expr h hs) fun ρ M E ⟨M0, r, EK, G, O, L, g⟩ => by
  unfold mApp at g
  split at g
  · rename_i ds e1
    obtain ⟨z, e2, a, rfl, e3, e4⟩ := O.at_ i _ e1
    unfold wDrop wApp wVar
    rw [e2]
    refine ⟨a, ds, rfl, e3, M0, r, _, EK.xc, G, O, L.lk O.sub, fun u d hu g => onVl_in L.nb hu g fun g => ?_, g⟩
    obtain ⟨hb, g⟩ := gd_of (gdR_in L.nb g fun g => g)
    have hl : ds.length < 16777216 := Nat.le_of_ble_eq_true hb
    exact ⟨ds, e3, by rw [sizeLine_eq]; omega, L.nx _ _ _ (O.upd e1 e2 _) g⟩
  · exact (L.nb g).elim
theorem ms_put {i : Nat} {ie : Expr} {x : Str} {p1 pt : Pos} (h : DS X (.Assign [.Subscript (.Name x p1) ie pt] e pos) (wPut (wVar i) (wE mi) (wE me))) : MS X (.Assign [.Subscript (.Name x p1) ie pt] e pos) (mPut i mi me) := ds_weak h fun ρ M E ⟨M0, r, EK, G, O, L, g⟩ => by
  refine ⟨M0, r, _, EK.xc, G, O, L.lk O.sub, fun u d hu g => onVl_in L.nb hu g fun g => ?_, g⟩
  split at g
  · rename_i ds e1
    obtain ⟨z, e2, a, rfl, e3, e4⟩ := O.at_ i _ e1
    unfold wVar
    rw [e2]
    refine ⟨M0, r, _, EK.xc, G, O, L.lk O.sub, fun u iv hu g => onVl_in L.nb hu g fun g => ?_, g⟩
    split at g
    · rename_i n
      cases hj : ixN ds.length n with
      | none => rw [hj] at g; exact (L.nb g).elim
      | some j =>
        rw [hj] at g
        exact ⟨a, ds, n, j, rfl, rfl, e3, hj, L.nx _ _ _ (O.upd e1 e2 _) g⟩
    · exact (L.nb g).elim
  · exact (L.nb g).elim
end

/-! ### targets, what is walked, loops -/
abbrev WMG := D → Rm → Option Rm
def wG (g : WMG) : WG := fun d ρ M k => ∃ M0 r, Own M0 M r ρ ∧ match g d r with
  | some r1 => ∀ ρ1, Own M0 M r1 ρ1 → k ρ1 M
  | none => False
abbrev WMGs := List D → Rm → Option Rm
def wGs (g : WMGs) : WGs := fun ds ρ M k => ∃ M0 r, Own M0 M r ρ ∧ match g ds r with
  | some r1 => ∀ ρ1, Own M0 M r1 ρ1 → k ρ1 M
  | none => False
def mgN (i : Nat) : WMG := fun d r => some (r.set i (some (.v d)))
def mgNil : WMGs := fun ds r => match ds with
  | [] => some r
  | _ => none
def mgCons (g : WMG) (gs : WMGs) : WMGs := fun ds r => match ds with
  | d :: t => (g d r).bind fun r1 => gs t r1
  | [] => none
def mgTup (n : Nat) (gs : WMGs) : WMG := fun d r => match seqOf (.v d) with
  | some ds => match Nat.beq ds.length n with
    | true => gs ds r
    | false => none
  | none => none
abbrev MG (X : Cx) (tg : Expr) (is : List Nat) (g : WMG) : Prop := DG X tg is (wG g)
abbrev MGs (X : Cx) (ts : List Expr) (is : List Nat) (g : WMGs) : Prop := DGs X ts is (wGs g)
section
variable {X : Cx} {pos : Pos}
theorem dg_weak {tg : Expr} {is : List Nat} {w w' : WG} (h : DG X tg is w) (i : ∀ d ρ M k, w' d ρ M k → w d ρ M k) : DG X tg is w' := ⟨pg_imp h.pg fun v σ H Q q => by
  obtain ⟨d, F, M, ρ, k, S, R, r, w, f⟩ := q
  exact ⟨d, F, M, ρ, k, S, R, r, i _ _ _ _ w, f⟩⟩
theorem dgs_weak {tg : List Expr} {is : List Nat} {w w' : WGs} (h : DGs X tg is w) (i : ∀ d ρ M k, w' d ρ M k → w d ρ M k) : DGs X tg is w' := ⟨pgs_imp h.pg fun v σ H Q q => by
  obtain ⟨d, F, M, ρ, k, S, R, r, w, f⟩ := q
  exact ⟨d, F, M, ρ, k, S, R, r, i _ _ _ _ w, f⟩⟩
theorem mg_name {i : Nat} {x : Str} (hN : X.N.Nodup) (hi : X.N[i]? = some x) (hx : Loc X.env.scope x) (hf : X.fn x = true ∨ X.env.scope.names.lookup x = some .local := by first | exact .inl rfl | exact .inr rfl | assumption) : MG X (.Name x pos) [i] (mgN i) :=
  dg_weak (dg_name hN hi hx hf) fun d ρ M k ⟨M0, r, O, q⟩ => q _ (O.set i d)
theorem mgs_nil : MGs X [] [] mgNil := dgs_weak dgs_nil fun ds ρ M k ⟨M0, r, O, q⟩ => by
  cases ds with
  | nil => exact q ρ O
  | cons d ds => exact q
theorem mgs_cons {e : Expr} {es : List Expr} {is js : List Nat} {g : WMG} {gs : WMGs} (h1 : MG X e is g) (h2 : MGs X es js gs)
    (hs : (assignEach (e :: es) X.env).map (·.2) = assign e X.env :: (assignEach es X.env).map (·.2) := by rfl) : MGs X (e :: es) (is ++ js) (mgCons g gs) := dgs_weak (dgs_cons h1 h2 hs) fun ds ρ M k ⟨M0, r, O, q⟩ => by
  cases ds with
  | nil => exact q
  | cons d ds =>
    refine ⟨M0, r, O, ?_⟩
    have q : match (g d r).bind fun r1 => gs ds r1 with
      | some r1 => ∀ ρ1, Own M0 M r1 ρ1 → k ρ1 M
      | none => False := q
    cases e1 : g d r with
    | none => rw [e1] at q; exact q
    | some r1 => rw [e1] at q; exact fun ρ1 O1 => ⟨M0, r1, O1, q⟩
theorem mg_tup {es : List Expr} {k : Nat} {is : List Nat} {gs : WMGs} {n : Nat} (hc : X.calm = true) (h : MGs X es is gs)
    (hn : (assignEach es X.env).length = n := by rfl) (hst : (assignEach es X.env).findIdx? (·.1) = none := by rfl) : MG X (.Tuple es k pos) is (mgTup n gs) := dg_weak (dg_tup hc h hn hst) fun d ρ M k ⟨M0, r, O, q⟩ => by
  unfold mgTup at q
  have key : ∀ ds : List D, (match (match Nat.beq ds.length n with | true => gs ds r | false => none) with
    | some r1 => ∀ ρ1, Own M0 M r1 ρ1 → k ρ1 M
    | none => False) → gd (Nat.beq ds.length n) (wGs gs ds ρ M k) := fun ds q => by
    cases hb : Nat.beq ds.length n with
    | false => rw [hb] at q; exact q
    | true => rw [hb] at q; exact ⟨M0, r, O, q⟩
  cases d with
  | tup ds => exact key ds q
  | lst ds => exact key ds q
  | _ => exact q
def mAsg (me : WM) (g : WMG) : WMS := fun r E => me r (fun u => onVl u fun d => match g d r with
  | some r1 => E.nx r1
  | none => .bad) E.xc
theorem ms_asg {tg e : Expr} {me : WM} {is : List Nat} {g : WMG} (he : ME X e me) (hg : MG X tg is g) (hs : swapsWithSole [tg] e pos.line X.env = pure false := by rfl) (hw : swappedStores [tg] e X.env = pure none := by rfl)
    (h1 : (assignEach [tg] X.env).map (·.2) = [assign tg X.env] := by rfl) : MS X (.Assign [tg] e pos) (mAsg me g) := ds_weak (ds_asg he hg hs hw h1) fun ρ M E ⟨M0, r, EK, G, O, L, q⟩ =>
  ⟨M0, r, _, EK.xc, G, O, L.lk O.sub, fun u d hu q => onVl_in L.nb hu q fun q => ⟨M0, r, O, by
    cases e1 : g d r with
    | none => rw [e1] at q; exact (L.nb q).elim
    | some r1 => rw [e1] at q; exact fun ρ1 O1 => L.nx r1 ρ1 M O1 q⟩, q⟩
end
/-- what is walked -/
abbrev WMI := Rm → (List D → Ans) → XV → Ans
def wI (m : WMI) : WI := fun ρ M k x => ∃ M0 r K X G, Own M0 M r ρ ∧ Lk G M X x ∧ (∀ ds, G (K ds) → k ds (fun _ => True) M) ∧ G (m r K X)
abbrev MI (X : Cx) (tg iter : Expr) (m : WMI) : Prop := DI X tg iter (wI m)
def oK {α : Type} (o : Option α) (K : α → Ans) : Ans := match o with
  | some a => K a
  | none => .bad
def miSeq (m : WM) : WMI := fun r K X => m r (fun u => oK (seqOf u) K) X
def miEnum (m : WM) : WMI := fun r K X => m r (fun u => match u with
  | .v (.lst ds) => K (enumD 0 ds)
  | _ => .bad) X
def zipV : Vl → Vl → Option (List D)
  | .v (.tup xs), .v (.tup ys) => some (zipD xs ys)
  | .v (.lst xs), .v (.lst ys) => some (zipD xs ys)
  | _, _ => none
def miZip (ma mb : WM) : WMI := fun r K X => ma r (fun u => mb r (fun v => oK (zipV u v) K) X) X
def miR1 (m : WM) : WMI := fun r K X => m r (fun u => match u with
  | .v (.int n) => gdR (decide (n ≤ 16777216) && decide (-(2 ^ 62) ≤ n)) (K (intsFrom 0 n.toNat))
  | _ => .bad) X
def miStr (m : WM) : WMI := fun r K X => m r (fun u => match u with
  | .v (.str z) => gdR (Nat.ble z.cps.size 4096) (K (signs z))
  | _ => .bad) X
section
variable {X : Cx} {tg : Expr}
theorem di_weak {e : Expr} {w w' : WI} (h : DI X tg e w) (i : ∀ ρ M k x, w' ρ M k x → w ρ M k x) : DI X tg e w' := ⟨fun W tk => pi_imp (h.pi W tk) fun σ H R q => by
  obtain ⟨F, M, ρ, k, x, S, E, w, r⟩ := q
  exact ⟨F, M, ρ, k, x, S, E, i _ _ _ _ w, r⟩⟩
theorem mi_seq {e : Expr} {m : WM} (h : ME X e m) : MI X tg e (miSeq m) := di_weak (di_seq h) fun ρ M k x ⟨M0, r, K, XX, G, O, L, hk, g⟩ => by
  refine ⟨M0, r, _, XX, G, O, L, fun u d hu g => ?_, g⟩
  cases u with
  | o n => exact (L.nb g).elim
  | v z =>
    cases hu
    cases d with
    | tup ds => exact hk _ g
    | lst ds => exact hk _ g
    | _ => exact (L.nb g).elim
theorem mi_enum {e : Expr} {m : WM} {p pos : Pos} (h : ME X e m) (hd : ∀ {w : WE}, DE X e w → DI X tg (.Call (.Name "enumerate" p) [e] [] pos) (wiEnum w)) : MI X tg (.Call (.Name "enumerate" p) [e] [] pos) (miEnum m) := di_weak (hd h) fun ρ M k x ⟨M0, r, K, XX, G, O, L, hk, g⟩ => by
  refine ⟨M0, r, _, XX, G, O, L, fun u d hu g => ?_, g⟩
  cases u with
  | o n => exact (L.nb g).elim
  | v z =>
    cases hu
    cases d with
    | lst ds => exact hk _ g
    | _ => exact (L.nb g).elim
theorem mi_zip {it : Expr} {ma mb : WM} (hd : DI X tg it (wiZip (wE ma) (wE mb))) : MI X tg it (miZip ma mb) := di_weak hd fun ρ M k x ⟨M0, r, K, XX, G, O, L, hk, g⟩ => by
  refine ⟨M0, r, _, XX, G, O, L, fun u d hu g => ⟨M0, r, _, XX, G, O, L, fun v e hv g => ?_, g⟩, g⟩
  cases u with
  | o n => cases v <;> exact (L.nb g).elim
  | v z =>
    cases v with
    | o n => cases z <;> exact (L.nb g).elim
    | v y =>
      cases hu
      cases hv
      cases d with
      | tup xs => cases e with
        | tup ys => exact hk _ g
        | _ => exact (L.nb g).elim
      | lst xs => cases e with
        | lst ys => exact hk _ g
        | _ => exact (L.nb g).elim
      | _ => cases e <;> exact (L.nb g).elim
theorem mi_r1 {it : Expr} {m : WM} (hd : DI X tg it (wiR1 (wE m))) : MI X tg it (miR1 m) := di_weak hd fun ρ M k x ⟨M0, r, K, XX, G, O, L, hk, g⟩ => by
  refine ⟨M0, r, _, XX, G, O, L, fun u d hu g => ?_, g⟩
  cases u with
  | o n => exact (L.nb g).elim
  | v z =>
    cases hu
    cases d with
    | int n =>
      obtain ⟨hb, g⟩ := gd_of (gdR_in L.nb g fun g => g)
      have h2 := Bool.and_eq_true_iff.mp hb
      exact ⟨of_decide_eq_true h2.1, of_decide_eq_true h2.2, hk _ g⟩
    | _ => exact (L.nb g).elim
theorem mi_str {e : Expr} {m : WM} (h : ME X e m) : MI X tg e (miStr m) := di_weak (di_str h) fun ρ M k x ⟨M0, r, K, XX, G, O, L, hk, g⟩ => by
  refine ⟨M0, r, _, XX, G, O, L, fun u d hu g => ?_, g⟩
  cases u with
  | o n => exact (L.nb g).elim
  | v z =>
    cases hu
    cases d with
    | str n => exact gdR_in L.nb g fun g => hk _ g
    | _ => exact (L.nb g).elim
end
/-- a for: is, the slots that are wiped ahead of each turn and behind the last -/
def loop0 (is : List Nat) (g : WMG) (s : WMS) : List D → Rm → EndsK → Ans
  | [], r, E => E.nx (wipeM r is)
  | d :: t, r, E => oK (g d (wipeM r is)) fun r1 => s r1 { nx := fun r2 => loop0 is g s t r2 E, rt := E.rt, bk := E.nx, ct := fun r2 => loop0 is g s t r2 E, xc := E.xc }
@[irreducible] def loopM (is : List Nat) (g : WMG) (s : WMS) (ds : List D) (r : Rm) (E : EndsK) : Ans := loop0 is g s ds r E
def mFor (is : List Nat) (mi : WMI) (g : WMG) (s : WMS) : WMS := fun r E => mi r (fun ds => loopM is g s ds r E) E.xc
theorem loopM_nil {is : List Nat} {g : WMG} {s : WMS} {r : Rm} {E : EndsK} : loopM is g s [] r E = E.nx (wipeM r is) := by unfold loopM; rfl
theorem loopM_cons {is : List Nat} {g : WMG} {s : WMS} {d : D} {t : List D} {r : Rm} {E : EndsK} : loopM is g s (d :: t) r E = oK (g d (wipeM r is)) fun r1 => s r1 { nx := fun r2 => loopM is g s t r2 E, rt := E.rt, bk := E.nx, ct := fun r2 => loopM is g s t r2 E, xc := E.xc } := by unfold loopM; rfl
theorem loop_for {is : List Nat} {g : WMG} {s : WMS} {M0 : M0T} {G : Ans → Prop} {EK : EndsK} {E : EndsD} (L : LkE G M0 EK E) : ∀ (ds : List D) {r : Rm} {ρ : Rh} {M : MH}, Own M0 M r ρ → G (loop0 is g s ds r EK) → forD0 (wG g) (wS s) (fun _ => True) E ds ρ M
  | [], r, ρ, M, O, q => ⟨trivial, L.nx _ ρ M (O.wipe is) q⟩
  | d :: t, r, ρ, M, O, q => by
    refine ⟨trivial, M0, wipeM r is, O.wipe is, ?_⟩
    unfold loop0 at q
    cases e1 : g d (wipeM r is) with
    | none => rw [e1] at q; exact (L.nb q).elim
    | some r1 =>
      rw [e1] at q
      exact fun ρ1 O1 => ⟨M0, r1, { nx := fun r2 => loop0 is g s t r2 EK, rt := EK.rt, bk := EK.nx, ct := fun r2 => loop0 is g s t r2 EK, xc := EK.xc }, G, O1, ⟨L.nb, fun r2 ρ2 M2 O2 q => loop_for L t O2 q, L.rt, L.nx, fun r2 ρ2 M2 O2 q => loop_for L t O2 q, L.xc⟩, q⟩
section
variable {X : Cx} {pos : Pos}
theorem ms_for {tg iter : Expr} {body : List Stmt} {mi : WMI} {js : List Nat} {g : WMG} {s : WMS} (is : List Nat) (hc : X.calm = true) (hi : MI X tg iter mi) (hg : MG X tg js g) (hb : MSs X body s)
    (hs : ∀ x, foldedSetIterable iter X.env x = pure x := by intro _; rfl) : MS X (.For tg iter body [] pos) (mFor is mi g s) := ds_weak (ds_for hc hi hg hb hs) fun ρ M E ⟨M0, r, EK, G, O, L, q⟩ => by
  refine ⟨M0, r, _, EK.xc, G, O, L.lk O.sub, fun ds q => ?_, q⟩
  show forD _ _ _ _ _ _ _
  rw [forD_eq]
  unfold loopM at q
  exact loop_for L ds O q
/-- a while, turn by turn -/
def while0 (is : List Nat) (mt : WMT) (s : WMS) : Nat → Rm → EndsK → Ans
  | 0, _, _ => .bad
  | n + 1, r, E => mt (wipeM r is) (fun b => match b with
    | true => s (wipeM r is) { nx := fun r2 => while0 is mt s n r2 E, rt := E.rt, bk := E.nx, ct := fun r2 => while0 is mt s n r2 E, xc := E.xc }
    | false => E.nx (wipeM r is)) E.xc
/-- so many turns at most -/
@[irreducible] def whileM (is : List Nat) (mt : WMT) (s : WMS) (n : Nat) (r : Rm) (E : EndsK) : Ans := while0 is mt s n r E
theorem whileM_s {is : List Nat} {mt : WMT} {s : WMS} {n : Nat} {r : Rm} {E : EndsK} : whileM is mt s (n + 1) r E = mt (wipeM r is) (fun b => match b with
    | true => s (wipeM r is) { nx := fun r2 => whileM is mt s n r2 E, rt := E.rt, bk := E.nx, ct := fun r2 => whileM is mt s n r2 E, xc := E.xc }
    | false => E.nx (wipeM r is)) E.xc := by unfold whileM; rfl
def mWhile (is : List Nat) (mt : WMT) (s : WMS) : WMS := fun r E => whileM is mt s 1000000 r E
theorem while_wh {is : List Nat} {mt : WMT} {s : WMS} {M0 : M0T} {G : Ans → Prop} {EK : EndsK} {E : EndsD} (L : LkE G M0 EK E) : ∀ (n : Nat) {r : Rm} {ρ : Rh} {M : MH}, Own M0 M r ρ → G (while0 is mt s n r EK) → whD (wT mt) (wS s) E n ρ M
  | 0, r, ρ, M, O, q => L.nb q
  | n + 1, r, ρ, M, O, q => ⟨M0, _, _, EK.xc, G, O.wipe is, L.lk O.sub, fun b q => by
      cases b with
      | true => exact ⟨M0, _, { nx := fun r2 => while0 is mt s n r2 EK, rt := EK.rt, bk := EK.nx, ct := fun r2 => while0 is mt s n r2 EK, xc := EK.xc }, G, O.wipe is, ⟨L.nb, fun r2 ρ2 M2 O2 q => while_wh L n O2 q, L.rt, L.nx, fun r2 ρ2 M2 O2 q => while_wh L n O2 q, L.xc⟩, q⟩
      | false => exact L.nx _ _ _ (O.wipe is) q, q⟩
theorem ms_while {c : Expr} {body : List Stmt} {mt : WMT} {s : WMS} (is : List Nat) (hc : MT X c mt) (hb : MSs X body s) : MS X (.While c body [] pos) (mWhile is mt s) := ds_weak (ds_while hc hb) fun ρ M E ⟨M0, r, EK, G, O, L, q⟩ => by
  unfold mWhile whileM at q
  exact ⟨_, while_wh L _ O q⟩
end
/-- comprehensions: nothing is raised within -/
def comp0 (g : WMG) (mt : WMT) (me : WM) (r : Rm) : List D → (List D → Ans) → Ans
  | [], K => K []
  | d :: t, K => oK (g d r) fun r1 => mt r1 (fun b => match b with
    | true => me r1 (fun u => onVl u fun e => comp0 g mt me r t fun es => K (e :: es)) fun _ _ => .bad
    | false => comp0 g mt me r t K) fun _ _ => .bad
@[irreducible] def compM (g : WMG) (mt : WMT) (me : WM) (r : Rm) (ds : List D) (K : List D → Ans) : Ans := comp0 g mt me r ds K
def mYes : WMT := fun _ K _ => K true
def mLc (mi : WMI) (g : WMG) (mt : WMT) (me : WM) (own : List Nat) : WM := fun r K X => mi r (fun ds => compM g mt me (wipeM r own) ds fun es => K (.v (.lst es))) X
def mNewLc (i : Nat) (mi : WMI) (g : WMG) (mt : WMT) (me : WM) (own : List Nat) : WMS := fun r E => mi r (fun ds => compM g mt me (wipeM r own) ds fun es => E.nx (r.set i (some (.o (.lst es))))) E.xc
theorem comp_D {g : WMG} {mt : WMT} {me : WM} {M0 : M0T} {M : MH} {r : Rm} {ρ : Rh} {G : Ans → Prop} (nb : ¬ G .bad) (O : Own M0 M r ρ) : ∀ (ds : List D) {K : List D → Ans} {k : List D → MH → Prop}, (∀ es, G (K es) → k es M) → G (comp0 g mt me r ds K) → compD (wG g) (wT mt) (wE me) (fun _ => True) ρ ds M k
  | [], K, k, hk, q => ⟨trivial, hk _ q⟩
  | d :: t, K, k, hk, q => by
    refine ⟨trivial, M0, r, O, ?_⟩
    unfold comp0 at q
    cases e1 : g d r with
    | none => rw [e1] at q; exact (nb q).elim
    | some r1 =>
      rw [e1] at q
      refine fun ρ1 O1 => ⟨M0, r1, _, _, G, O1, ⟨nb, fun n fs q => nb q⟩, fun b q => ?_, q⟩
      cases b with
      | false => exact comp_D nb O t hk q
      | true => exact ⟨M0, r1, _, _, G, O1, ⟨nb, fun n fs q => nb q⟩, fun u e hu q => onVl_in nb hu q fun q => comp_D nb O t (fun es q => hk _ q) q, q⟩
section
variable {X : Cx} {pos : Pos} {elt tg iter : Expr} {ifs : List Expr} {scope : Scope} {own : List (Str × Nat)} {mi : WMI} {is : List Nat} {g : WMG} {mt : WMT} {me : WM}
abbrev MTs (X : Cx) (ifs : List Expr) (m : WMT) : Prop := DTs X ifs (wT m)
theorem mts_nil : MTs X [] mYes := ⟨fun W tk => ⟨fun pins s σ H Q I q => by
  obtain ⟨F, M, ρ, k, x, S, E, ⟨M0, r, K, XX, G, O, L, hk, w⟩, pv, px⟩ := q
  exact (dts_nil.pt W tk).run pins s σ H Q I ⟨F, M, ρ, k, x, S, E, hk _ w, pv, px⟩⟩⟩
theorem mts_one {c : Expr} (h : MT X c mt) : MTs X [c] mt := dts_one h
theorem lc_in {M0 : M0T} {M : MH} {r : Rm} {ρ : Rh} {k : List D → MH → Prop} {x : KE} {XX : XV} {ow : List Nat} {G : Ans → Prop} {K : List D → Ans} (O : Own M0 M r ρ) (L : Lk G M XX x) (hk : ∀ es, G (K es) → k es M) (q : G (mi r (fun ds => compM g mt me (wipeM r ow) ds K) XX)) :
    wI mi ρ M (fun ds g0 M1 => compD (wG g) (wT mt) (wE me) g0 (wipeD ρ ow) ds M1 k) x :=
  ⟨M0, r, _, XX, G, O, L, fun ds q => by unfold compM at q; exact comp_D L.nb (O.wipeD ow) ds hk q, q⟩
theorem me_lc (hc : X.calm = true) (hN : X.N.Nodup) (hi : MI X tg iter mi) (ok : BlkOk X.N X.env.scope scope own) (hsub : ∀ i ∈ is, i ∈ own.map (·.2))
    (hg : ∀ (s : Shared) (H : Hp) (C : Addr) (cl : List (Str × Addr)) (fp : List Addr), MG (X.blk s H scope (compEnvC scope cl C X.env) fp) tg is g) (ht : ∀ (s : Shared) (H : Hp) (C : Addr) (cl : List (Str × Addr)) (fp : List Addr), MTs (X.blk s H scope (compEnvC scope cl C X.env) fp) ifs mt)
    (he : ∀ (s : Shared) (H : Hp) (C : Addr) (cl : List (Str × Addr)) (fp : List Addr), ME (X.blk s H scope (compEnvC scope cl C X.env) fp) elt me) (hs : ∀ x, foldedSetIterable iter X.env x = pure x := by intro _; rfl) :
    ME X (.ListComp elt [⟨tg, iter, ifs, 0⟩] scope pos) (mLc mi g mt me (own.map (·.2))) := de_weak (de_lc hc hN hi ok hsub hg ht he hs) fun ρ M k x ⟨M0, r, K, XX, G, O, L, hk, q⟩ => lc_in O L (fun es q => hk (.v _) _ rfl q) q
theorem ms_setLc {i : Nat} {y : Str} {py spos : Pos} (hc : X.calm = true) (hN : X.N.Nodup) (hy : X.N[i]? = some y) (hyl : X.env.scope.names.lookup y = some .local) (hsw : swapsWith (.ListComp elt [⟨tg, iter, ifs, 0⟩] scope pos) (some (.Name y py)) spos.line X.env = pure true)
    (hi : MI X tg iter mi) (ok : BlkOk X.N X.env.scope scope own) (hsub : ∀ i ∈ is, i ∈ own.map (·.2))
    (hg : ∀ (s : Shared) (H : Hp) (C : Addr) (cl : List (Str × Addr)) (fp : List Addr), MG (X.blk s H scope (compEnvC scope cl C X.env) fp) tg is g) (ht : ∀ (s : Shared) (H : Hp) (C : Addr) (cl : List (Str × Addr)) (fp : List Addr), MTs (X.blk s H scope (compEnvC scope cl C X.env) fp) ifs mt)
    (he : ∀ (s : Shared) (H : Hp) (C : Addr) (cl : List (Str × Addr)) (fp : List Addr), ME (X.blk s H scope (compEnvC scope cl C X.env) fp) elt me) (hs : ∀ x, foldedSetIterable iter X.env x = pure x := by intro _; rfl) :
    MS X (.Assign [.Name y py] (.ListComp elt [⟨tg, iter, ifs, 0⟩] scope pos) spos) (mSet i (mLc mi g mt me (own.map (·.2)))) := ds_weak (ds_setLc hc hN hy hyl hsw hi ok hsub hg ht he hs) fun ρ M E ⟨M0, r, EK, G, O, L, q⟩ => lc_in O (L.lk O.sub) (fun es q => L.nx _ _ M (O.set i _) q) q
theorem ms_newLc {i : Nat} {y : Str} {py spos : Pos} (hc : X.calm = true) (hN : X.N.Nodup) (hy : X.N[i]? = some y) (hyl : X.env.scope.names.lookup y = some .local) (hsw : swapsWith (.ListComp elt [⟨tg, iter, ifs, 0⟩] scope pos) (some (.Name y py)) spos.line X.env = pure true)
    (hi : MI X tg iter mi) (ok : BlkOk X.N X.env.scope scope own) (hsub : ∀ i ∈ is, i ∈ own.map (·.2))
    (hg : ∀ (s : Shared) (H : Hp) (C : Addr) (cl : List (Str × Addr)) (fp : List Addr), MG (X.blk s H scope (compEnvC scope cl C X.env) fp) tg is g) (ht : ∀ (s : Shared) (H : Hp) (C : Addr) (cl : List (Str × Addr)) (fp : List Addr), MTs (X.blk s H scope (compEnvC scope cl C X.env) fp) ifs mt)
    (he : ∀ (s : Shared) (H : Hp) (C : Addr) (cl : List (Str × Addr)) (fp : List Addr), ME (X.blk s H scope (compEnvC scope cl C X.env) fp) elt me) (hs : ∀ x, foldedSetIterable iter X.env x = pure x := by intro _; rfl) (hi0 : i ≠ 0 := by decide) :
    MS X (.Assign [.Name y py] (.ListComp elt [⟨tg, iter, ifs, 0⟩] scope pos) spos) (mNewLc i mi g mt me (own.map (·.2))) := ds_weak (ds_setLcM hc hN hy hyl hsw hi ok hsub hg ht he hs) fun ρ M E ⟨M0, r, EK, G, O, L, q⟩ => lc_in O (L.lk O.sub) (fun es q a ha => L.nx _ _ _ (O.new i ha _ hi0) q) q
end

/-! ### defs -/
def vD : Vl → Ans
  | .v d => .ok d
  | .o m => match frzD m with
    | some d => .ok d
    | none => .bad
def endK : EndsK := { nx := fun _ => .ok .non, rt := vD, bk := fun _ => .bad, ct := fun _ => .bad, xc := .exc }
def callM (s : WMS) (N : List Str) (ds : List D) : Ans := s (startM N ds) endK
/-- THE RULE: a def's body by its function -/
theorem hw_m {s : WMS} {N : List Str} (ds : List D) (M : MH) (k : KD) (x : KE) (h : wfOf (callM s N) ds M k x) : wS s (startD N ds) M (retE k x) := by
  refine ⟨⟨M, none⟩, startM N ds, endK, fun a => match a with
    | .ok d => k d M
    | .exc n fs => x n fs M
    | .bad => False, Own.start M N ds, ⟨fun q => q, fun r ρ M1 O q => Lt.drop O.sub q, fun u d M1 hs hu q => ?_, fun r ρ M1 O q => q.elim, fun r ρ M1 O q => q.elim, fun n fs M1 hs q => ⟨M, hs, q⟩⟩, h⟩
  cases u with
  | v z => cases hu; exact Lt.drop hs q
  | o m =>
    obtain ⟨a, rfl, h1, h2⟩ := hu
    dsimp only [endK, vD] at q
    cases e1 : frzD m with
    | none => rw [e1] at q; exact q.elim
    | some z => rw [e1] at q; exact Lt.frzM hs h1 e1 h2 q
end DM

namespace DM
open PySem PySem.Spec PyProof.Rows L2 DL

/-! ### operators as functions -/
theorem relV_v {M0 : M0T} {M : MH} {d e : D} (h : RelV M0 M (.v d) e) : e = d := h
/-- an operator on values alone -/
def onV2 (f : D → D → Option D) : Vl → Vl → Option D
  | .v d, .v e => f d e
  | _, _ => none
def onV1 (f : D → Option D) : Vl → Option D
  | .v d => f d
  | _ => none
theorem opM {rd : RD} {f : D → D → Option D} (h : ∀ M d e k, kO (f d e) k M → rd d e M k) : OpM rd (onV2 f) := fun M0 M u v d e k hu hv q => by
  cases u with
  | o n => cases v <;> exact q.elim
  | v x =>
    cases v with
    | o n => exact q.elim
    | v y => cases hu; cases hv; exact h M _ _ k q
theorem unM {rd : D → MH → KD → Prop} {f : D → Option D} (h : ∀ M d k, kO (f d) k M → rd d M k) : UnM rd (onV1 f) := fun M0 M u d k hu q => by
  cases u with
  | o n => exact q.elim
  | v x => cases hu; exact h M _ k q
theorem kO_if {b : Bool} {d : D} {k : KD} {M : MH} (q : kO (match b with | true => some d | false => none) k M) : b = true ∧ k d M := by
  cases b with
  | true => exact ⟨rfl, q⟩
  | false => exact q.elim
def fAdd0 : D → D → Option D
  | .int i, .int j => some (.int (i + j))
  | .str a, .str b => match Nat.ble (a.length + b.length) 16777216 with
    | true => some (.str (a ++ b))
    | false => none
  | .tup a, .tup b => match Nat.ble (a.length + b.length) 16777216 with
    | true => some (.tup (a ++ b))
    | false => none
  | .lst a, .lst b => match Nat.ble (a.length + b.length) 16777216 with
    | true => some (.lst (a ++ b))
    | false => none
  | _, _ => none
def fAdd := onV2 fAdd0
theorem ble_line {n : Nat} (h : Nat.ble n 16777216 = true) : n ≤ sizeLine := by rw [sizeLine_eq]; have := Nat.le_of_ble_eq_true h; omega
theorem om_add : OpM rAdd fAdd := opM fun M d e k q => by
  cases d with
  | int i => cases e with
    | int j => exact q
    | _ => exact q.elim
  | str a => cases e with
    | str b => obtain ⟨h1, h2⟩ := kO_if q; exact ⟨ble_line h1, h2⟩
    | _ => exact q.elim
  | tup a => cases e with
    | tup b => obtain ⟨h1, h2⟩ := kO_if q; exact ⟨ble_line h1, h2⟩
    | _ => exact q.elim
  | lst a => cases e with
    | lst b => obtain ⟨h1, h2⟩ := kO_if q; exact ⟨ble_line h1, h2⟩
    | _ => exact q.elim
  | _ => exact q.elim
/-- two ints -/
def fII0 (c : Int → Int → Bool) (g : Int → Int → D) : D → D → Option D
  | .int i, .int j => match c i j with
    | true => some (g i j)
    | false => none
  | _, _ => none
def fI0 (g : Int → Int → D) : D → D → Option D
  | .int i, .int j => some (g i j)
  | _, _ => none
theorem om_int0 {g : Int → Int → D} : OpM (rInt0 g) (onV2 (fI0 g)) := opM fun M d e k q => by
  cases d with
  | int i => cases e with
    | int j => exact q
    | _ => exact q.elim
  | _ => exact q.elim
theorem om_int {C : Int → Int → Prop} {c : Int → Int → Bool} {g : Int → Int → D} (h : ∀ i j, c i j = true → C i j) : OpM (rInt C g) (onV2 (fII0 c g)) := opM fun M d e k q => by
  cases d with
  | int i => cases e with
    | int j => obtain ⟨h1, h2⟩ := kO_if q; exact ⟨h i j h1, h2⟩
    | _ => exact q.elim
  | _ => exact q.elim
def fSub := onV2 (fI0 fun i j => .int (i - j))
theorem om_sub : OpM rSub fSub := om_int0
def fdB (_ j : Int) : Bool := decide (j ≠ 0) && decide (j.natAbs.log2 < 9000)
def fFdiv := onV2 (fII0 fdB fun i j => .int (i.fdiv j))
theorem om_fdiv : OpM rFdiv fFdiv := om_int fun i j h => by have := Bool.and_eq_true_iff.mp h; exact ⟨of_decide_eq_true this.1, of_decide_eq_true this.2⟩
def nzB (_ j : Int) : Bool := decide (j ≠ 0)
def fMod := onV2 (fII0 nzB fun i j => .int (i.fmod j))
theorem om_mod : OpM rMod fMod := om_int fun i j h => of_decide_eq_true h
def powB (i j : Int) : Bool := decide (0 ≤ j) && (decide (j ≤ 1000000) && decide (i.natAbs < 2 ^ 64))
def fPow := onV2 (fII0 powB fun i j => .int (i ^ j.toNat))
theorem om_pow : OpM rPow fPow := om_int fun i j h => by
  have h1 := Bool.and_eq_true_iff.mp h
  have h2 := Bool.and_eq_true_iff.mp h1.2
  exact ⟨of_decide_eq_true h1.1, of_decide_eq_true h2.1, of_decide_eq_true h2.2⟩
/-- products that the machine reckons -/
def mulB (i j : Int) : Bool := decide (i.natAbs.log2 + j.natAbs.log2 ≤ 900000)
theorem mulB_ok {i j : Int} (h : mulB i j = true) : IntMulOk i j := by
  have h := of_decide_eq_true h
  exact mulOk_w (a := i.natAbs.log2 + 1) (b := j.natAbs.log2 + 1) Nat.lt_log2_self Nat.lt_log2_self (Nat.succ_pos _) (Nat.succ_pos _) (by omega)
theorem mulB_of {i j : Int} {a b : Nat} (h1 : i.natAbs < 2 ^ a) (h2 : j.natAbs < 2 ^ b) (h : a + b ≤ 900000) : mulB i j = true := by
  have q : ∀ {n c : Nat}, n < 2 ^ c → n.log2 ≤ c := fun {n c} h => by
    by_cases h0 : n = 0
    · subst h0; exact Nat.zero_le _
    · exact Nat.le_of_lt ((Nat.log2_lt h0).mpr h)
  exact decide_eq_true (by have := q h1; have := q h2; omega)
def repB (n : Int) (l : Nat) : Bool := decide (n ≤ 1000) && (decide (-1000000 ≤ n) && Nat.ble l 1000)
theorem repB_ok {n : Int} {l : Nat} (h : repB n l = true) : n ≤ 1000 ∧ -1000000 ≤ n ∧ l ≤ 1000 := by
  have h1 := Bool.and_eq_true_iff.mp h
  have h2 := Bool.and_eq_true_iff.mp h1.2
  exact ⟨of_decide_eq_true h1.1, of_decide_eq_true h2.1, Nat.le_of_ble_eq_true h2.2⟩
def fMul0 : D → D → Option D
  | .int i, .int j => match mulB i j with
    | true => some (.int (i * j))
    | false => none
  | .tup a, .int n => match repB n a.length with
    | true => some (.tup (List.replicate n.toNat a).flatten)
    | false => none
  | .str z, .int n => match repB n z.length with
    | true => some (.str (strRep z n))
    | false => none
  | .lst a, .int n => match repB n a.length with
    | true => some (.lst (List.replicate n.toNat a).flatten)
    | false => none
  | .lst a, .bl b => some (.lst (if b then a else []))
  | _, _ => none
def fMul := onV2 fMul0
theorem om_mul : OpM rMul fMul := opM fun M d e k q => by
  cases d with
  | int i => cases e with
    | int j => obtain ⟨h1, h2⟩ := kO_if q; exact ⟨mulB_ok h1, h2⟩
    | _ => exact q.elim
  | str a => cases e with
    | int n => obtain ⟨h1, h2⟩ := kO_if q; have := repB_ok h1; exact ⟨⟨this.2.1, this.1, this.2.2⟩, h2⟩
    | _ => exact q.elim
  | tup a => cases e with
    | int n => obtain ⟨h1, h2⟩ := kO_if q; exact ⟨repB_ok h1, h2⟩
    | _ => exact q.elim
  | lst a => cases e with
    | int n => obtain ⟨h1, h2⟩ := kO_if q; exact ⟨repB_ok h1, h2⟩
    | bl b => exact q
    | _ => exact q.elim
  | _ => exact q.elim
def fLt0 : D → D → Option D
  | .int i, .int j => some (.bl (decide (i < j)))
  | .str i, .str j => some (.bl (decide (i.cps.toList < j.cps.toList)))
  | _, _ => none
def fLt := onV2 fLt0
theorem om_lt : OpM rLt fLt := opM fun M d e k q => by
  cases d with
  | int i => cases e with
    | int j => exact q
    | _ => exact q.elim
  | str i => cases e with
    | str j => exact q
    | _ => exact q.elim
  | _ => exact q.elim
def fLe := onV2 (fI0 fun i j => .bl (decide (i ≤ j)))
theorem om_le : OpM rLe fLe := om_int0
def fGt := onV2 (fI0 fun i j => .bl (decide (j < i)))
theorem om_gt : OpM rGt fGt := om_int0
def fGe := onV2 (fI0 fun i j => .bl (decide (j ≤ i)))
theorem om_ge : OpM rGe fGe := om_int0
def isNonV : Vl → Bool
  | .v d => isNon d
  | .o _ => false
def fIs (g : Bool → Bool) : Vl → Vl → Option D
  | u, .v .non => some (.bl (g (isNonV u)))
  | _, _ => none
theorem isNonV_ok {M0 : M0T} {M : MH} {u : Vl} {d : D} (h : RelV M0 M u d) : isNonV u = isNon d := by
  cases u with
  | v x => cases h; rfl
  | o m => obtain ⟨a, rfl, _⟩ := h; rfl
theorem om_is : OpM rIs (fIs fun b => b) := fun M0 M u v d e k hu hv q => by
  cases v with
  | o n => exact q.elim
  | v y =>
    cases hv
    cases e with
    | non => show k (.bl (isNon d)) M; rw [← isNonV_ok hu]; exact q
    | _ => exact q.elim
theorem om_isNot : OpM rIsNot (fIs fun b => !b) := fun M0 M u v d e k hu hv q => by
  cases v with
  | o n => exact q.elim
  | v y =>
    cases hv
    cases e with
    | non => show k (.bl (!isNon d)) M; rw [← isNonV_ok hu]; exact q
    | _ => exact q.elim
def fNeg := onV1 fun d => match d with
  | .int i => some (.int (-i))
  | _ => none
theorem um_neg : UnM rNeg fNeg := unM fun M d k q => by
  cases d with
  | int i => exact q
  | _ => exact q.elim
/-! == -/
@[irreducible] def eqG (d e : D) : Option Bool := if lays d = true ∧ lays e = true ∧ dep d ≤ 64 ∧ dep e ≤ 64 then some (eqD d e) else none
theorem eqG_of {d e : D} (h1 : lays d = true) (h2 : lays e = true) (h3 : dep d ≤ 64) (h4 : dep e ≤ 64) : eqG d e = some (eqD d e) := by unfold eqG; rw [if_pos ⟨h1, h2, h3, h4⟩]
theorem eqG_in {d e : D} {b : Bool} (h : eqG d e = some b) : lays d = true ∧ lays e = true ∧ dep d ≤ 64 ∧ dep e ≤ 64 ∧ b = eqD d e := by
  unfold eqG at h
  split at h
  · rename_i q; cases h; exact ⟨q.1, q.2.1, q.2.2.1, q.2.2.2, rfl⟩
  · cases h
def eq0 (d e : D) : Option Bool := match scalD d e with
  | some b => some b
  | none => eqG d e
def fEq (g : Bool → Bool) : Vl → Vl → Option D
  | .v d, .v e => match eq0 d e with
    | some b => some (.bl (g b))
    | none => none
  | .o (.lst ds), .v e => match eqG (.lst ds) e with
    | some b => some (.bl (g b))
    | none => none
  | _, _ => none
theorem om_eq : OpM rEq (fEq fun b => b) := fun M0 M u v d e k hu hv q => by
  cases v with
  | o n =>
    cases u with
    | v x => exact q.elim
    | o m => cases m <;> exact q.elim
  | v y =>
    cases hv
    cases u with
    | v x =>
      cases hu
      dsimp only [fEq, eq0] at q
      have key : (match scalD d e with
        | some b => k (.bl b) M
        | none => rEqP d e M k) := by
        cases hs : scalD d e with
        | some b => rw [hs] at q; exact q
        | none =>
          rw [hs] at q
          cases h : eqG d e with
          | none => simp only [h] at q; exact q.elim
          | some b =>
            simp only [h] at q
            obtain ⟨h1, h2, h3, h4, rfl⟩ := eqG_in h
            exact rEqP_lays h1 h2 q h3 h4
      cases d with
      | ref a =>
        exfalso
        have hs : scalD (.ref a) e = none := by cases e <;> rfl
        rw [hs] at q
        cases h : eqG (.ref a) e with
        | none => simp only [h] at q; exact q.elim
        | some b => obtain ⟨h1, _⟩ := eqG_in h; cases h1
      | _ => exact key
    | o m =>
      cases m with
      | lst ds =>
        obtain ⟨a, rfl, h1, _⟩ := hu
        dsimp only [fEq] at q
        cases h : eqG (.lst ds) e with
        | none => simp only [h] at q; exact q.elim
        | some b =>
          simp only [h] at q
          obtain ⟨h5, h2, h3, h4, rfl⟩ := eqG_in h
          exact ⟨ds, h1, rEqP_lays h5 h2 q h3 h4⟩
      | _ => exact q.elim
theorem om_ne : OpM rNe (fEq fun b => !b) := fun M0 M u v d e k hu hv q => by
  cases v with
  | o n =>
    cases u with
    | v x => exact q.elim
    | o m => cases m <;> exact q.elim
  | v y =>
    cases hv
    cases u with
    | v x =>
      cases hu
      dsimp only [fEq, eq0] at q
      have key : (match scalD d e with
        | some b => k (.bl (!b)) M
        | none => rNeP d e M k) := by
        cases hs : scalD d e with
        | some b => rw [hs] at q; exact q
        | none =>
          rw [hs] at q
          cases h : eqG d e with
          | none => simp only [h] at q; exact q.elim
          | some b =>
            simp only [h] at q
            obtain ⟨h1, h2, h3, h4, rfl⟩ := eqG_in h
            exact rNeP_lays h1 h2 q h3 h4
      cases d with
      | ref a =>
        exfalso
        have hs : scalD (.ref a) e = none := by cases e <;> rfl
        rw [hs] at q
        cases h : eqG (.ref a) e with
        | none => simp only [h] at q; exact q.elim
        | some b => obtain ⟨h1, _⟩ := eqG_in h; cases h1
      | _ => exact key
    | o m =>
      cases m with
      | lst ds =>
        obtain ⟨a, rfl, h1, _⟩ := hu
        dsimp only [fEq] at q
        cases h : eqG (.lst ds) e with
        | none => simp only [h] at q; exact q.elim
        | some b =>
          simp only [h] at q
          obtain ⟨h5, h2, h3, h4, rfl⟩ := eqG_in h
          exact ⟨ds, h1, rNeP_lays h5 h2 q h3 h4⟩
      | _ => exact q.elim
end DM

namespace DM
open PySem PySem.Spec PyProof.Rows L2 DL

/-! ### what a thing holds -/
inductive Ct where
  | sq (ds : List D) | dc (ks : List Str) (xs : List D) | dt (ks : List (List Int)) (xs : List D) | tx (z : Str)
def ctO : MO → Option Ct
  | .lst ds => some (.sq ds) | .dct ks xs => some (.dc ks xs) | .dcT ks xs => some (.dt ks xs)
  | _ => none
def ctD (d : D) (M : MH) : Option Ct := match d with
  | .tup ds => some (.sq ds) | .lst ds => some (.sq ds) | .dct ks xs => some (.dc ks xs) | .dcl ks xs => some (.dc ks xs) | .dcT ks xs => some (.dt ks xs) | .str z => some (.tx z)
  | .ref a => match M a with
    | some m => ctO m
    | none => none
  | _ => none
def ctV : Vl → Option Ct
  | .v (.tup ds) => some (.sq ds) | .v (.lst ds) => some (.sq ds) | .v (.dct ks xs) => some (.dc ks xs) | .v (.dcl ks xs) => some (.dc ks xs) | .v (.dcT ks xs) => some (.dt ks xs) | .v (.str z) => some (.tx z)
  | .v _ => none
  | .o m => ctO m
theorem ctV_D {M0 : M0T} {M : MH} {u : Vl} {d : D} {c : Ct} (h : RelV M0 M u d) (e : ctV u = some c) : ctD d M = some c := by
  cases u with
  | v x => cases h; cases d <;> first | exact e | cases e
  | o m =>
    obtain ⟨a, rfl, h1, _⟩ := h
    show (match M a with | some m => ctO m | none => none) = _
    rw [h1]
    exact e
section
variable {K : PySem.W.Frag} {H F : Hp} {M : MH} {v : V} {d : D}
theorem ct_sq {ds : List D} (S : RepS K H F M) (r : Rep K F v d) (h : ctD d M = some (.sq ds)) : ∃ p xs, v = .ref p ∧ (SqL K H p xs ∨ SqT K H p xs) ∧ Reps K F xs ds ∧ ds.length ≤ sizeLine := by
  cases d with
  | tup es => cases h; cases r with | tup a b c => exact ⟨_, _, rfl, .inr (seqT S.fz a), b, c⟩
  | lst es => cases h; cases r with | lst a b c => exact ⟨_, _, rfl, .inl (SqL.of (S.fz _ _ a)), b, c⟩
  | ref a =>
    have h : (match M a with | some m => ctO m | none => none) = some (.sq ds) := h
    cases hm : M a with
    | none => rw [hm] at h; cases h
    | some m =>
      rw [hm] at h
      cases m with
      | lst es =>
        cases h
        obtain ⟨_, hl, xs, hx, hr⟩ := S.mlst hm
        cases r
        exact ⟨_, _, rfl, .inl (SqL.of hx), hr, hl⟩
      | _ => cases h
  | _ => cases h
theorem ct_dc {ks : List Str} {ds : List D} (S : RepS K H F M) (r : Rep K F v d) (h : ctD d M = some (.dc ks ds)) : ∃ p xs, v = .ref p ∧ Rd H p (.dK (kvz ks xs)) ∧ Reps K F xs ds ∧ ks.length = ds.length ∧ ds.length ≤ sizeLine := by
  cases d with
  | dct es ys => cases h; cases r with | dct a b c e => exact ⟨_, _, rfl, .inl (S.fz _ _ a), b, c, e⟩
  | dcl es ys => cases h; cases r with | dcl a b c e => exact ⟨_, _, rfl, .inr ⟨_, S.fz _ _ a⟩, b, c, e⟩
  | ref a =>
    have h : (match M a with | some m => ctO m | none => none) = some (.dc ks ds) := h
    cases hm : M a with
    | none => rw [hm] at h; cases h
    | some m =>
      rw [hm] at h
      cases m with
      | dct es ys =>
        cases h
        obtain ⟨_, o, ho, xs, rfl, hr, hl, hz⟩ := S.mu _ _ hm
        cases r
        exact ⟨_, _, rfl, .inl ho, hr, hl, hz⟩
      | _ => cases h
  | _ => cases h
theorem ct_dt {ks : List (List Int)} {ds : List D} (S : RepS K H F M) (r : Rep K F v d) (h : ctD d M = some (.dt ks ds)) : ∃ p xs, v = .ref p ∧ H p = some (.dT (kvt ks xs)) ∧ Reps K F xs ds ∧ ks.length = ds.length ∧ ds.length ≤ sizeLine := by
  cases d with
  | dcT es ys => cases h; cases r with | dcT a b c e => exact ⟨_, _, rfl, S.fz _ _ a, b, c, e⟩
  | ref a =>
    have h : (match M a with | some m => ctO m | none => none) = some (.dt ks ds) := h
    cases hm : M a with
    | none => rw [hm] at h; cases h
    | some m =>
      rw [hm] at h
      cases m with
      | dcT es ys =>
        cases h
        obtain ⟨_, o, ho, xs, rfl, hr, hl, hz⟩ := S.mu _ _ hm
        cases r
        exact ⟨_, _, rfl, ho, hr, hl, hz⟩
      | _ => cases h
  | _ => cases h
theorem ct_tx {z : Str} (r : Rep K F v d) (h : ctD d M = some (.tx z)) : v = .str z := by
  cases d with
  | str y => cases h; cases r; rfl
  | ref a =>
    have h : (match M a with | some m => ctO m | none => none) = some (.tx z) := h
    cases hm : M a with
    | none => rw [hm] at h; cases h
    | some m => rw [hm] at h; cases m <;> cases h
  | _ => cases h
end
/-! ### in -/
@[irreducible] def inG (d : D) (ds : List D) : Option Bool :=
  if flatD d = true ∧ ds.all flatD = true then some (inD d ds) else if lays d = true ∧ layss ds = true ∧ dep d ≤ 60 ∧ deps ds ≤ 60 then some (ds.any fun z => eqD z d) else none
theorem inG_flat {d : D} {ds : List D} (h1 : flatD d = true) (h2 : ds.all flatD = true) : inG d ds = some (inD d ds) := by unfold inG; rw [if_pos ⟨h1, h2⟩]
theorem inG_str (z : Str) (xs : List Str) : inG (.str z) (xs.map .str) = some (decide (z ∈ xs)) := by rw [inG_flat rfl (flat_strs xs), inD_strs]
def rInX (g : Bool → Bool) : RD := fun d e M k => match ctD e M with
  | some (.sq ds) => onO (inG d ds) fun b => k (.bl (g b)) M
  | some (.tx j) => match d with
    | .str i => k (.bl (g (occS i j))) M
    | _ => False
  | some (.dc ks _) => match d with
    | .str z => k (.bl (g (decide (z ∈ ks)))) M
    | _ => False
  | _ => False
theorem flatMap_any {d : D} {ds : List D} : (ds.any fun z => eqD z d) = (pyOfs ds).any fun z => PyData.eqv z (pyOf d) := by
  induction ds with
  | nil => rfl
  | cons a t ih => show (eqD a d || t.any fun z => eqD z d) = (PyData.eqv (pyOf a) (pyOf d) || (pyOfs t).any fun z => PyData.eqv z (pyOf d)); rw [ih]; rfl
theorem shaped_of {d : D} (h : lays d = true) (h2 : dep d ≤ 64) : SeqAt.shaped (pyOf d) = true := by
  obtain ⟨_, a, b⟩ := lays_py h
  exact Bool.and_eq_true_iff.mpr ⟨a, decide_eq_true (by rw [b]; exact h2)⟩
section
variable {X : Cx}
/-- x in d, of a dict -/
theorem op_inK (hu : X.A.units + 1 < cLine) : OpR X (compareOp .In) (fun x y H Q => ∃ a o, y = .ref a ∧ DGet H a x o ∧ Q (.bl o.isSome) H) := by
  intro pins s σ H x y v u Q I rx ry h
  obtain ⟨a, o, rfl, g, q⟩ := h
  cases (show u = Value.ref a from ry)
  exact d_in hu I g rx fun s' I' => ⟨.bl _, H, I', rfl, q⟩
theorem op_notInK (hu : X.A.units + 1 < cLine) : OpR X (compareOp .NotIn) (fun x y H Q => ∃ a o, y = .ref a ∧ DGet H a x o ∧ Q (.bl (!o.isSome)) H) := by
  intro pins s σ H x y v u Q I rx ry h
  obtain ⟨a, o, rfl, g, q⟩ := h
  cases (show u = Value.ref a from ry)
  exact d_notIn hu I g rx fun s' I' => ⟨.bl _, H, I', rfl, q⟩
theorem op_notInT (hu : X.A.units + 65 < cLine) : OpR X (compareOp .NotIn) (fun x y H Q => ∃ d ds, Dp X.K H x d ∧ Dp X.K H y (.tuple ds) ∧ SeqAt.shaped d = true ∧ SeqAt.shaped (.tuple ds) = true ∧ Q (.bl (!ds.any fun z => PyData.eqv z d)) H) := by
  intro pins s σ H x y v u Q I rx ry h
  obtain ⟨d, ds, hd, he, sd, se, q⟩ := h
  obtain ⟨as, r1⟩ := Dp.reads I d x v hd rx
  obtain ⟨bs, r2⟩ := Dp.reads I (.tuple ds) y u he ry
  exact SeqAt.notIn_tuple_reads r2 r1 (SeqAt.canLay_of_shaped se) (SeqAt.canLay_of_shaped sd) (room_in_shaped sd hu) ⟨.bl _, H, I, rfl, q⟩
/-- what the rules want, by data -/
theorem inX_cases {K : PySem.W.Frag} {H F : Hp} {M : MH} (S : RepS K H F M) {g : Bool → Bool} {d e : D} {v u : V} {k : KD} (rd : Rep K F v d) (re : Rep K F u e) (h : rInX g d e M k) :
    (∃ p xs, u = .ref p ∧ (SqL K H p xs ∨ SqT K H p xs) ∧ flatV v = true ∧ xs.all flatV = true ∧ k (.bl (g (inV v xs))) M) ∨ (∃ i j, v = .str i ∧ u = .str j ∧ k (.bl (g (occS i j))) M) ∨
    (∃ a o, u = .ref a ∧ DGet H a v o ∧ k (.bl (g o.isSome)) M) ∨ (∃ p ps, Dp K H v p ∧ Dp K H u (.list ps) ∧ SeqAt.shaped p = true ∧ SeqAt.shaped (.list ps) = true ∧ k (.bl (g (ps.any fun z => PyData.eqv z p))) M) ∨
    (∃ p ps, Dp K H v p ∧ Dp K H u (.tuple ps) ∧ SeqAt.shaped p = true ∧ SeqAt.shaped (.tuple ps) = true ∧ k (.bl (g (ps.any fun z => PyData.eqv z p))) M) := by
  unfold rInX at h
  cases hc : ctD e M with
  | none => rw [hc] at h; exact h.elim
  | some c =>
    rw [hc] at h
    cases c with
    | tx j =>
      cases d with
      | str i => cases rd; exact .inr (.inl ⟨i, j, rfl, ct_tx re hc, h⟩)
      | _ => exact h.elim
    | dc ks xs =>
      cases d with
      | str z =>
        cases rd
        obtain ⟨p, ys, rfl, hp, hr, hl, hz⟩ := ct_dc S re hc
        refine .inr (.inr (.inl ⟨p, valV (kvz ks ys) (.inr z), rfl, .inl ⟨_, .inr z, hp, rfl, rfl⟩, ?_⟩))
        rw [valV_kvz, getL_some (by rw [hr.length]; exact hl)]
        exact h
      | _ => exact h.elim
    | dt ks xs => exact h.elim
    | sq ds =>
      obtain ⟨b, h1, h2⟩ := onO_of h
      unfold inG at h1
      split at h1
      · rename_i hf
        cases h1
        obtain ⟨p, xs, rfl, hp, hr, hl⟩ := ct_sq S re hc
        obtain ⟨a, b⟩ := fV_of rd hf.1
        obtain ⟨c, f⟩ := fVs_of hr hf.2
        exact .inl ⟨_, _, rfl, hp, b, f, by rw [a, c]; exact h2⟩
      · split at h1
        · rename_i hf
          cases h1
          rw [flatMap_any] at h2
          have l1 := lays_py hf.1
          have dv : Dp K H v (pyOf d) := dp_of S.fz rd l1.1
          have s1 := shaped_of hf.1 (by omega : dep d ≤ 64)
          have l2 := layss_py hf.2.1
          have sz : ∀ {q : D}, (q = .lst ds ∨ q = .tup ds) → lays q = true ∧ dep q ≤ 64 := fun {q} hq => by
            rcases hq with rfl | rfl
            · exact ⟨hf.2.1, by show deps ds + 1 ≤ 64; omega⟩
            · exact ⟨hf.2.1, by show deps ds + 1 ≤ 64; omega⟩
          cases e with
          | tup es =>
            cases hc
            have q := sz (.inr rfl)
            exact .inr (.inr (.inr (.inr ⟨_, _, dv, dp_of S.fz re (lays_py q.1).1, s1, shaped_of q.1 q.2, h2⟩)))
          | lst es =>
            cases hc
            have q := sz (.inl rfl)
            exact .inr (.inr (.inr (.inl ⟨_, _, dv, dp_of S.fz re (lays_py q.1).1, s1, shaped_of q.1 q.2, h2⟩)))
          | ref a =>
            have hc : (match M a with | some m => ctO m | none => none) = some (.sq ds) := hc
            cases hm : M a with
            | none => rw [hm] at hc; cases hc
            | some m =>
              rw [hm] at hc
              cases m with
              | lst es =>
                cases hc
                cases re
                have q := sz (.inl rfl)
                exact .inr (.inr (.inr (.inl ⟨_, _, dv, dp_ref S hm (lays_py q.1).1, s1, shaped_of q.1 q.2, h2⟩)))
              | _ => cases hc
          | _ => cases hc
        · cases h1
theorem od_inX (hu : X.A.units + 65 < cLine) : OpD X (compareOp .In) (rInX fun b => b) := by
  refine ⟨_, op_in_seq.or (op_in_str.or ((op_inK (by omega)).or ((op_inD hu).or (op_inT hu)))), fun d e v u H F M k Q S rd re h pv => ?_⟩
  rcases inX_cases S rd re h with ⟨p, xs, rfl, h1, h2, h3, h4⟩ | ⟨i, j, rfl, rfl, h4⟩ | ⟨a, o, rfl, h1, h4⟩ | ⟨p, ps, h0, h1, h2, h3, h4⟩ | ⟨p, ps, h0, h1, h2, h3, h4⟩
  · exact .inl ⟨p, xs, rfl, h1, h2, h3, pv.at S (.bl _) h4⟩
  · exact .inr (.inl ⟨i, j, rfl, rfl, pv.at S (.bl _) h4⟩)
  · exact .inr (.inr (.inl ⟨a, o, rfl, h1, pv.at S (.bl _) h4⟩))
  · exact .inr (.inr (.inr (.inl ⟨p, ps, h0, h1, h2, h3, pv.at S (.bl _) h4⟩)))
  · exact .inr (.inr (.inr (.inr ⟨p, ps, h0, h1, h2, h3, pv.at S (.bl _) h4⟩)))
theorem od_notInX (hu : X.A.units + 65 < cLine) : OpD X (compareOp .NotIn) (rInX fun b => !b) := by
  refine ⟨_, op_notIn_seq.or (op_notIn_str.or ((op_notInK (by omega)).or ((op_notInD hu).or (op_notInT hu)))), fun d e v u H F M k Q S rd re h pv => ?_⟩
  rcases inX_cases S rd re h with ⟨p, xs, rfl, h1, h2, h3, h4⟩ | ⟨i, j, rfl, rfl, h4⟩ | ⟨a, o, rfl, h1, h4⟩ | ⟨p, ps, h0, h1, h2, h3, h4⟩ | ⟨p, ps, h0, h1, h2, h3, h4⟩
  · exact .inl ⟨p, xs, rfl, h1, h2, h3, pv.at S (.bl _) h4⟩
  · exact .inr (.inl ⟨i, j, rfl, rfl, pv.at S (.bl _) h4⟩)
  · exact .inr (.inr (.inl ⟨a, o, rfl, h1, pv.at S (.bl _) h4⟩))
  · exact .inr (.inr (.inr (.inl ⟨p, ps, h0, h1, h2, h3, pv.at S (.bl _) h4⟩)))
  · exact .inr (.inr (.inr (.inr ⟨p, ps, h0, h1, h2, h3, pv.at S (.bl _) h4⟩)))
end
def fIn (g : Bool → Bool) : Vl → Vl → Option D := fun u v => match ctV v, u with
  | some (.sq ds), .v d => match inG d ds with
    | some b => some (.bl (g b))
    | none => none
  | some (.tx j), .v (.str i) => some (.bl (g (occS i j)))
  | some (.dc ks _), .v (.str z) => some (.bl (g (decide (z ∈ ks))))
  | _, _ => none
theorem om_inX {g : Bool → Bool} : OpM (rInX g) (fIn g) := fun M0 M u v d e k hu hv q => by
  unfold fIn at q
  cases hc : ctV v with
  | none => rw [hc] at q; exact q.elim
  | some c =>
    rw [hc] at q
    unfold rInX
    rw [ctV_D hv hc]
    cases u with
    | o n => cases c <;> exact q.elim
    | v x =>
      cases hu
      cases c with
      | sq ds =>
        dsimp only at q ⊢
        cases hi : inG d ds with
        | none => rw [hi] at q; exact q.elim
        | some b => rw [hi] at q; exact q
      | tx j => cases d <;> first | exact q | exact q.elim
      | dc ks xs => cases d <;> first | exact q | exact q.elim
      | dt ks xs => cases d <;> exact q.elim
/-! ### subscripts -/
def wIxX (wa wb : WE) : WE := fun ρ M k x => wa ρ M (fun d M1 => wb ρ M1 (fun e M2 => match ctD d M2 with
  | some (.sq ds) => onInt e fun i => onO (atI ds i) fun y => k y M2
  | some (.tx z) => onInt e fun i => z.length ≤ sizeLine ∧ onO (atI z.cps.toList i) fun c => k (.str ⟨#[c]⟩) M2
  | some (.dc ks xs) => onStr e fun z => onO (getL ks xs z) fun y => k y M2
  | _ => False) x) x
section
variable {X : Cx} {a b : Expr} {wa wb : WE} {ma mb : WM} {pos : Pos}
theorem ix_K (hu : X.A.units + 1 < cLine) : IxR X (fun x y H Q => ∃ p v, x = .ref p ∧ DGet H p y (some v) ∧ Q v H) := by
  intro value slice pins s σ H x y v u Q I rx ry h hs
  obtain ⟨p, z, rfl, g, q⟩ := h
  cases (show v = Value.ref p from rx)
  exact tail_any (dict_typeIs I g) PySem.F.slot_dict_getitem.lookup (d_getItem hu I g ry fun w' s' I' rw' => ⟨z, H, I', rw', q⟩) hs
theorem de_ixX (hu : X.A.units + 65 < cLine) (ha : DE X a wa) (hb : DE X b wb) (hs : PlainIx b := by intro _ _; rfl) : DE X (.Subscript a b pos) (wIxX wa wb) := by
  refine ⟨fun W tk => pe_imp (pe_ix (ix_seq.or (ix_K (by omega))) (ha.pe W tk) (hb.pe W tk) hs) fun σ H Q q => ?_⟩
  obtain ⟨F, M, ρ, k, x, S, E, w, pv, px⟩ := q
  refine two S E w px fun v u d e H2 F2 M2 e2 S2 r1 r2 w2 => ?_
  have pv2 := pv.on e2
  cases hc : ctD d M2 with
  | none => rw [hc] at w2; exact w2.elim
  | some c =>
    rw [hc] at w2
    cases c with
    | sq ds =>
      obtain ⟨i, rfl, w3⟩ := int_of r2 w2
      obtain ⟨y, h1, h2⟩ := onO_of w3
      obtain ⟨p, xs, rfl, hp, hr, hl⟩ := ct_sq S2 r1 hc
      obtain ⟨z, h3, h4⟩ := hr.atI h1
      rcases hp with hp | hp
      · exact .inl (.inl ⟨_, xs, _, z, rfl, rfl, hp, h3, pv2.at S2 h4 h2⟩)
      · exact .inl (.inr (.inl ⟨_, xs, _, z, rfl, rfl, hp, h3, pv2.at S2 h4 h2⟩))
    | tx z =>
      obtain ⟨i, rfl, hz, w3⟩ := int_of r2 w2
      obtain ⟨y, h1, h2⟩ := onO_of w3
      rw [ct_tx r1 hc]
      exact .inl (.inr (.inr ⟨_, _, y, rfl, rfl, hz, h1, pv2.at S2 (.str _) h2⟩))
    | dc ks xs =>
      obtain ⟨z, rfl, w3⟩ := str_of r2 w2
      obtain ⟨p, ys, rfl, hp, hr, hl, hz⟩ := ct_dc S2 r1 hc
      obtain ⟨y, h1, h2⟩ := onO_of w3
      obtain ⟨v, h3, h4⟩ := hr.getL h1
      exact .inr ⟨p, v, rfl, by rw [← h3, ← valV_kvz]; exact .inl ⟨_, .inr z, hp, rfl, rfl⟩, pv2.at S2 h4 h2⟩
    | dt ks xs => exact w2.elim
def fIx : Vl → Vl → Option D := fun u v => match ctV u, v with
  | some (.sq ds), .v (.int i) => atI ds i
  | some (.tx z), .v (.int i) => match Nat.ble z.length 16777216 with
    | true => match atI z.cps.toList i with
      | some c => some (.str ⟨#[c]⟩)
      | none => none
    | false => none
  | some (.dc ks xs), .v (.str z) => getL ks xs z
  | _, _ => none
theorem om_ix {M0 : M0T} {M : MH} {u v : Vl} {d e : D} {k : KD} (hu : RelV M0 M u d) (hv : RelV M0 M v e) (q : kO (fIx u v) k M) : (match ctD d M with
    | some (.sq ds) => onInt e fun i => onO (atI ds i) fun y => k y M
    | some (.tx z) => onInt e fun i => z.length ≤ sizeLine ∧ onO (atI z.cps.toList i) fun c => k (.str ⟨#[c]⟩) M
    | some (.dc ks xs) => onStr e fun z => onO (getL ks xs z) fun y => k y M
    | _ => False) := by
  unfold fIx at q
  cases hc : ctV u with
  | none => rw [hc] at q; exact q.elim
  | some c =>
    rw [hc] at q
    rw [ctV_D hu hc]
    cases v with
    | o n => cases c <;> exact q.elim
    | v y =>
      cases hv
      cases c with
      | sq ds =>
        cases e with
        | int i =>
          dsimp only at q ⊢
          cases h : atI ds i with
          | none => rw [h] at q; exact q.elim
          | some y => rw [h] at q; show onO (atI ds i) _; rw [h]; exact q
        | _ => exact q.elim
      | tx z =>
        cases e with
        | int i =>
          dsimp only at q ⊢
          cases hb : Nat.ble z.length 16777216 with
          | false => rw [hb] at q; exact q.elim
          | true =>
            rw [hb] at q
            refine ⟨ble_line hb, ?_⟩
            dsimp only at q ⊢
            cases h : atI z.cps.toList i with
            | none => rw [h] at q; exact q.elim
            | some y => rw [h] at q; exact q
        | _ => exact q.elim
      | dc ks xs =>
        cases e with
        | str z =>
          dsimp only at q ⊢
          cases h : getL ks xs z with
          | none => rw [h] at q; exact q.elim
          | some y => rw [h] at q; show onO (getL ks xs z) _; rw [h]; exact q
        | _ => exact q.elim
      | dt ks xs => cases e <;> exact q.elim
theorem me_ix (hu : X.A.units + 65 < cLine) (ha : ME X a ma) (hb : ME X b mb) (hs : PlainIx b := by intro _ _; rfl) : ME X (.Subscript a b pos) (mOp fIx ma mb) :=
  de_weak (de_ixX hu ha hb hs) fun ρ M k x ⟨M0, r, K, XX, G, O, L, hk, g⟩ => ⟨M0, r, _, XX, G, O, L, fun u d hu g => ⟨M0, r, _, XX, G, O, L, fun v e hv g => om_ix hu hv (kO_of L hk g), g⟩, g⟩
end
end DM

namespace DM
open PySem PySem.Spec PyProof.Rows L2 DL

/-! ### slices -/
abbrev WMO := Rm → (Option Int → Ans) → XV → Ans
def mNoPart : WMO := fun _ K _ => K none
def mPart (m : WM) : WMO := fun r K X => m r (fun u => onVl u fun d => match d with
  | .int i => K (some i)
  | _ => .bad) X
def wO (m : WMO) : WO := fun ρ M k x => ∃ M0 r K X G, Own M0 M r ρ ∧ Lk G M X x ∧ (∀ o, G (K o) → k o M) ∧ G (m r K X)
abbrev MOp (X : Cx) (e : Option Expr) (m : WMO) : Prop := DO X e (wO m)
def fSl (u : Vl) (lo hi : Option Int) : Option D := match u with
  | .v (.tup ds) => some (.tup (cutD ds lo hi))
  | .v (.lst ds) => some (.lst (cutD ds lo hi))
  | .o (.lst ds) => some (.lst (cutD ds lo hi))
  | .v (.str z) => match Nat.ble z.length 16777216 with
    | true => some (.str (cutS z lo hi))
    | false => none
  | _ => none
def mSl (ma : WM) (ml mh : WMO) : WM := fun r K X => ma r (fun u => ml r (fun lo => mh r (fun hi => vK (fSl u lo hi) K) X) X) X
section
variable {X : Cx} {a : Expr} {ma : WM} {pos : Pos}
theorem do_weak {e : Option Expr} {w w' : WO} (h : DO X e w) (i : ∀ ρ M k x, w' ρ M k x → w ρ M k x) : DO X e w' := ⟨fun W tk => po_imp (h.po W tk) fun σ H Q q => by
  obtain ⟨F, M, ρ, k, x, S, E, w, r⟩ := q
  exact ⟨F, M, ρ, k, x, S, E, i _ _ _ _ w, r⟩⟩
theorem mo_none : MOp X none mNoPart := do_weak do_none fun ρ M k x ⟨M0, r, K, XX, G, O, L, hk, g⟩ => hk _ g
theorem mo_some {e : Expr} {m : WM} (h : ME X e m) : MOp X (some e) (mPart m) := do_weak (do_some h) fun ρ M k x ⟨M0, r, K, XX, G, O, L, hk, g⟩ =>
  ⟨M0, r, _, XX, G, O, L, fun u d hu g => onVl_in L.nb hu g fun g => by
    cases d with
    | int i => exact hk _ g
    | _ => exact (L.nb g).elim, g⟩
theorem me_sl {lo hi : Option Expr} {ml mh : WMO} {p2 : Pos} (ha : ME X a ma) (hl : MOp X lo ml) (hh : MOp X hi mh) : ME X (.Subscript a (.Slice lo hi none p2) pos) (mSl ma ml mh) := de_weak (de_sl ha hl hh) fun ρ M k x ⟨M0, r, K, XX, G, O, L, hk, g⟩ => by
  refine ⟨M0, r, _, XX, G, O, L, fun u d hu g => ⟨M0, r, _, XX, G, O, L, fun lo g => ⟨M0, r, _, XX, G, O, L, fun hi g => ?_, g⟩, g⟩, g⟩
  have q := kO_of L hk g
  cases u with
  | o m =>
    obtain ⟨b, rfl, h1, _⟩ := hu
    cases m with
    | lst ds => exact ⟨ds, h1, q⟩
    | _ => exact q.elim
  | v z =>
    cases hu
    cases d with
    | tup ds => exact q
    | lst ds => exact q
    | str z => obtain ⟨h1, h2⟩ := kO_if q; exact ⟨ble_line h1, h2⟩
    | _ => exact q.elim
/-- t[::-1] of a tuple -/
def mRevT (m : WM) : WM := fun r K X => m r (fun u => onVl u fun d => match d with
  | .tup ds => K (.v (.tup ds.reverse))
  | _ => .bad) X
theorem me_revT {e : Expr} {m : WM} {k : Nat} {p1 p2 p3 : Pos} (he : ME X e m) : ME X (.Subscript e (.Slice none none (some (.UnaryOp .USub (.Constant (.int 1) k p1) p2)) p3) pos) (mRevT m) := de_weak (de_revT he) fun ρ M k x ⟨M0, r, K, XX, G, O, L, hk, g⟩ =>
  ⟨M0, r, _, XX, G, O, L, fun u d hu g => onVl_in L.nb hu g fun g => by
    cases d with
    | tup ds => exact hk (.v _) _ rfl g
    | _ => exact (L.nb g).elim, g⟩
end
/-! ### built-in functions -/
def on1V (f : Vl → Option D) : List Vl → Option D
  | [u] => f u
  | _ => none
def on2V (f : Vl → Vl → Option D) : List Vl → Option D
  | [u, v] => f u v
  | _ => none
theorem cm1 {p : D → MH → KD → Prop} {f : Vl → Option D} (h : UnM p f) : CallM (fun ds M k => on1 ds fun d => p d M k) (on1V f) := fun M0 M us ds k hu q => by
  cases hu with
  | nil => exact q.elim
  | cons h1 h2 =>
    cases h2 with
    | nil => exact h M0 M _ _ k h1 q
    | cons _ _ => exact q.elim
theorem cm2 {p : RD} {f : Vl → Vl → Option D} (h : OpM p f) : CallM (fun ds M k => on2 ds fun d e => p d e M k) (on2V f) := fun M0 M us ds k hu q => by
  cases hu with
  | nil => exact q.elim
  | cons h1 h2 =>
    cases h2 with
    | nil => exact q.elim
    | cons h3 h4 =>
      cases h4 with
      | nil => exact h M0 M _ _ _ _ k h1 h3 q
      | cons _ _ => exact q.elim
def rLnX : RB := fun ds M k => on1 ds fun d => match ctD d M with
  | some (.sq es) => k (.int es.length) M
  | some (.dc ks _) => k (.int ks.length) M
  | some (.dt ks _) => k (.int ks.length) M
  | some (.tx z) => z.length ≤ sizeLine ∧ k (.int z.length) M
  | none => False
theorem call_lenRd {X : Cx} : CallR X (.builtin "len") (fun xs H Q => ∃ a kvs, xs = [V.ref a] ∧ Rd H a (.dK kvs) ∧ Q (.int kvs.length) H) := fun pins s σ H xs us Q I r ⟨a, kvs, e, ha, q⟩ => by
  subst e
  obtain ⟨u, rfl, ru⟩ := vals1 r
  cases ru
  exact d_len I ha fun t s' I' => ⟨.int kvs.length, H, I', ⟨t, rfl⟩, q⟩
theorem cd_lenX {X : Cx} : CallD X (.builtin "len") rLnX := by
  obtain ⟨r2, h, s⟩ := cd_len (X := X)
  refine ⟨_, h.or (call_lenRd.or call_len_dT), fun ds vs H F M k Q S r w pv => ?_⟩
  obtain ⟨d, e0, w2⟩ := on1_of w
  clear w
  subst e0
  obtain ⟨v, rfl, r1⟩ := reps1 r
  have w := w2
  clear w2
  cases hc : ctD d M with
  | none => rw [hc] at w; exact w.elim
  | some c =>
    rw [hc] at w
    cases c with
    | dc ks es =>
      obtain ⟨p, xs, rfl, hp, hr, hl, hz⟩ := ct_dc S r1 hc
      refine .inr (.inl ⟨p, _, rfl, hp, pv.at S (.int _) ?_⟩)
      rw [kvz_len (by rw [hr.length]; exact hl), hr.length, ← hl]
      exact w
    | dt ks es =>
      obtain ⟨p, xs, rfl, hp, hr, hl, hz⟩ := ct_dt S r1 hc
      refine .inr (.inr ⟨p, _, rfl, hp, pv.at S (.int _) ?_⟩)
      have e : (kvt ks xs).length = ks.length := by unfold kvt; rw [List.length_map, List.length_zip, hr.length, hl, Nat.min_self]
      rw [e]
      exact w
    | sq es =>
      refine .inl (s [d] [v] H F M k Q S r ?_ pv)
      cases d with
      | tup _ => cases hc; exact w
      | lst _ => cases hc; exact w
      | ref a =>
        have hc : (match M a with | some m => ctO m | none => none) = some (.sq es) := hc
        cases hm : M a with
        | none => rw [hm] at hc; cases hc
        | some m => rw [hm] at hc; cases m <;> cases hc; exact ⟨es, hm, w⟩
      | _ => cases hc
    | tx z =>
      refine .inl (s [d] [v] H F M k Q S r ?_ pv)
      cases d with
      | str _ => cases hc; exact w
      | ref a =>
        have hc : (match M a with | some m => ctO m | none => none) = some (.tx z) := hc
        cases hm : M a with
        | none => rw [hm] at hc; cases hc
        | some m => rw [hm] at hc; cases m <;> cases hc
      | _ => cases hc
def fLen := on1V fun u => match ctV u with
  | some (.sq es) => some (.int es.length)
  | some (.dc ks _) => some (.int ks.length)
  | some (.dt ks _) => some (.int ks.length)
  | some (.tx z) => match Nat.ble z.length 16777216 with
    | true => some (.int z.length)
    | false => none
  | none => none
theorem cm_len : CallM rLnX fLen := cm1 fun M0 M u d k hu q => by
  cases hc : ctV u with
  | none => rw [hc] at q; exact q.elim
  | some c =>
    rw [hc] at q
    rw [ctV_D hu hc]
    cases c with
    | tx z => obtain ⟨h1, h2⟩ := kO_if q; exact ⟨ble_line h1, h2⟩
    | _ => exact q
/-- the items of a list or a tuple -/
def itemsV : Vl → Option (List D)
  | .v (.tup ds) => some ds | .v (.lst ds) => some ds | .o (.lst ds) => some ds
  | _ => none
theorem itemsV_ok {M0 : M0T} {M : MH} {u : Vl} {d : D} {es : List D} {k : List D → Prop} (h : RelV M0 M u d) (e : itemsV u = some es) (q : k es) : itemsD d M k := by
  cases u with
  | v x => cases h; cases d <;> cases e <;> exact q
  | o m =>
    obtain ⟨a, rfl, h1, _⟩ := h
    cases m <;> cases e
    exact ⟨es, h1, q⟩
def fList := on1V fun u => match itemsV u with
  | some es => some (.lst es)
  | none => none
theorem cm_list : CallM rList fList := cm1 fun M0 M u d k hu q => by
  cases hc : itemsV u with
  | none => rw [hc] at q; exact q.elim
  | some es => rw [hc] at q; exact itemsV_ok hu hc q
def fTuple := on1V fun u => match itemsV u with
  | some es => some (.tup es)
  | none => none
theorem cm_tuple : CallM rTuple fTuple := cm1 fun M0 M u d k hu q => by
  cases hc : itemsV u with
  | none => rw [hc] at q; exact q.elim
  | some es => rw [hc] at q; exact itemsV_ok hu hc q
def fInt1 := on1V (onV1 fun d => match d with
  | .int i => some (.int i)
  | .bl b => some (.int (if b then 1 else 0))
  | _ => none)
theorem cm_int : CallM rInt1 fInt1 := cm1 (unM fun M d k q => by
  cases d with
  | int i => exact q
  | bl b => exact q
  | _ => exact q.elim)
def fAbs := on1V (onV1 fun d => match d with
  | .int i => some (.int (if i < 0 then -i else i))
  | _ => none)
theorem cm_abs : CallM rAbs fAbs := cm1 (unM fun M d k q => by
  cases d with
  | int i => exact q
  | _ => exact q.elim)
def fMax2 := on2V (onV2 (fI0 fun i j => .int (if j > i then j else i)))
theorem cm_max2 : CallM rMax2 fMax2 := cm2 (opM fun M d e k q => by
  cases d with
  | int i => cases e with
    | int j => exact q
    | _ => exact q.elim
  | _ => exact q.elim)
def fMin2 := on2V (onV2 (fI0 fun i j => .int (if j < i then j else i)))
theorem cm_min2 : CallM rMin2 fMin2 := cm2 (opM fun M d e k q => by
  cases d with
  | int i => cases e with
    | int j => exact q
    | _ => exact q.elim
  | _ => exact q.elim)
def fSum := on1V (onV1 fun d => match d with
  | .lst es => match intsOf es with
    | some ns => some (.int ns.sum)
    | none => none
  | _ => none)
theorem cm_sum : CallM rSum fSum := cm1 (unM fun M d k q => by
  cases d with
  | lst es =>
    show onO (intsOf es) _
    dsimp only at q
    cases h : intsOf es with
    | none => rw [h] at q; exact q.elim
    | some ns => rw [h] at q; exact q
  | _ => exact q.elim)
def fBls (g : List Bool → Bool) := on1V (onV1 fun d => match d with
  | .lst es => match blsOf es with
    | some ns => some (.bl (g ns))
    | none => none
  | _ => none)
def fAll := fBls fun ns => ns.all fun b => b
def fAny := fBls fun ns => ns.any fun b => b
theorem cm_all : CallM rAll fAll := cm1 (unM fun M d k q => by
  cases d with
  | lst es =>
    show onO (blsOf es) _
    dsimp only at q
    cases h : blsOf es with
    | none => rw [h] at q; exact q.elim
    | some ns => rw [h] at q; exact q
  | _ => exact q.elim)
theorem cm_any : CallM rAny fAny := cm1 (unM fun M d k q => by
  cases d with
  | lst es =>
    show onO (blsOf es) _
    dsimp only at q
    cases h : blsOf es with
    | none => rw [h] at q; exact q.elim
    | some ns => rw [h] at q; exact q
  | _ => exact q.elim)
def fIsi := on2V (onV2 fun d e => match e with
  | .ty t => match kdOf d with
    | some q => some (.bl (isiK q t))
    | none => none
  | _ => none)
theorem cm_isi : CallM rIsi fIsi := cm2 (opM fun M d e k q => by
  cases e with
  | ty t =>
    show onO (kdOf d) _
    dsimp only at q
    cases h : kdOf d with
    | none => rw [h] at q; exact q.elim
    | some z => rw [h] at q; exact q
  | _ => exact q.elim)
/-- sep.join(texts) -/
def fJoin (a : Str) (v : Vl) : Option D := match seqOf v with
  | some es => match strsOf es with
    | some ys => match Nat.ble ((ys.map (·.length)).sum + ys.length * a.length) 16777216 with
      | true => some (.str (Txt.join a ys))
      | false => none
    | none => none
  | none => none
def mJoin (mo me : WM) : WM := fun r K X => mo r (fun u => onVl u fun d => match d with
  | .str a => me r (fun v => vK (fJoin a v) K) X
  | _ => .bad) X
theorem seqOf_ok {M0 : M0T} {M : MH} {u : Vl} {d : D} {es : List D} {p : List D → Prop} (h : RelV M0 M u d) (e : seqOf u = some es) (q : p es) : onSeq d p := by
  cases u with
  | v x => cases h; cases d <;> cases e <;> exact q
  | o m => cases e
section
variable {X : Cx} {pos : Pos}
theorem me_join {o e : Expr} {mo me : WM} {apos : Pos} (ho : ME X o mo) (he : ME X e me) (hs : starEach [e] X.env = [(false, eval e X.env)] := by rfl) (hbase : attributeBase o "join" X.env (eval o X.env) = eval o X.env := by rfl) (hline : (apos.endLine == pos.line) = true := by rfl) :
    ME X (.Call (.Attribute o "join" apos) [e] [] pos) (mJoin mo me) := de_weak (de_join ho he hs hbase hline) fun ρ M k x ⟨M0, r, K, XX, G, O, L, hk, g⟩ => by
  refine ⟨M0, r, _, XX, G, O, L, fun u d hu g => onVl_in L.nb hu g fun g => ?_, g⟩
  cases d with
  | str a =>
    refine ⟨M0, r, _, XX, G, O, L, fun v e hv g => ?_, g⟩
    have q := kO_of L hk g
    unfold fJoin at q
    cases h1 : seqOf v with
    | none => rw [h1] at q; exact q.elim
    | some es =>
      rw [h1] at q
      refine seqOf_ok hv h1 ?_
      dsimp only at q
      cases h2 : strsOf es with
      | none => rw [h2] at q; exact q.elim
      | some ys =>
        rw [h2] at q
        obtain ⟨h3, h4⟩ := kO_if q
        exact ⟨Nat.le_of_ble_eq_true h3, h4⟩
  | _ => exact (L.nb g).elim
/-- max(xs, default=d) of ints -/
def mMaxD (me md : WM) : WM := fun r K X => me r (fun u => onVl u fun d => match d with
  | .lst es => oK (intsOf es) fun ns => md r (fun v => onVl v fun z => match z with
    | .int i => K (.v (.int (mxD i ns)))
    | _ => .bad) X
  | _ => .bad) X
theorem me_maxD {call : Expr} {me md : WM} (h : DE X call (wMaxD (wE me) (wE md))) : ME X call (mMaxD me md) := de_weak h fun ρ M k x ⟨M0, r, K, XX, G, O, L, hk, g⟩ => by
  refine ⟨M0, r, _, XX, G, O, L, fun u d hu g => onVl_in L.nb hu g fun g => ?_, g⟩
  cases d with
  | lst es =>
    show onO (intsOf es) _
    dsimp only at g
    cases h1 : intsOf es with
    | none => rw [h1] at g; exact L.nb g
    | some ns =>
      rw [h1] at g
      refine ⟨M0, r, _, XX, G, O, L, fun v z hv g => onVl_in L.nb hv g fun g => ?_, g⟩
      cases z with
      | int i => exact hk (.v _) _ rfl g
      | _ => exact (L.nb g).elim
  | _ => exact (L.nb g).elim
/-- {k1: v1, k2: v2}[e] -/
def mPick2 (k1 v1 k2 v2 : Str) (me : WM) : WM := fun r K X => me r (fun u => onVl u fun d => match d with
  | .str z => match decide (z = k1) with
    | true => K (.v (.str v1))
    | false => match decide (z = k2) with
      | true => K (.v (.str v2))
      | false => .bad
  | _ => .bad) X
theorem me_pick2 {me : WM} {k1 v1 k2 v2 : Str} {sub : Expr} (h : DE X sub (wPick2 k1 v1 k2 v2 (wE me))) : ME X sub (mPick2 k1 v1 k2 v2 me) := de_weak h fun ρ M k x ⟨M0, r, K, XX, G, O, L, hk, g⟩ => by
  refine ⟨M0, r, _, XX, G, O, L, fun u d hu g => onVl_in L.nb hu g fun g => ?_, g⟩
  cases d with
  | str y =>
    unfold onStr
    dsimp only at g ⊢
    cases h1 : decide (y = k1) with
    | true => rw [h1] at g; exact hk (.v _) _ rfl g
    | false =>
      rw [h1] at g
      dsimp only at g ⊢
      cases h2 : decide (y = k2) with
      | true => rw [h2] at g; exact hk (.v _) _ rfl g
      | false => rw [h2] at g; exact L.nb g
  | _ => exact (L.nb g).elim
/-! ### further statements -/
def mAug (i : Nat) (f : Vl → Vl → Option D) (me : WM) : WMS := fun r E => match r[i]? with
  | some (some (.v d)) => me r (fun u => oK (f (.v d) u) fun z => E.nx (r.set i (some (.v z)))) E.xc
  | _ => .bad
theorem ms_aug {i : Nat} {me : WM} {st : Stmt} {rd : RD} {f : Vl → Vl → Option D} (hf : OpM rd f) (h : DS X st (wAug i rd (wE me))) : MS X st (mAug i f me) := ds_weak h fun ρ M E ⟨M0, r, EK, G, O, L, g⟩ => by
  unfold mAug at g
  split at g
  · rename_i d e1
    obtain ⟨z, e2, hz⟩ := O.at_ i _ e1
    refine ⟨z, e2, M0, r, _, EK.xc, G, O, L.lk O.sub, fun u e hu g => hf M0 M _ _ _ _ _ hz hu ?_, g⟩
    cases h : f (.v d) u with
    | none => rw [h] at g; exact L.nb g
    | some y => rw [h] at g; exact L.nx _ _ M (O.set i y) g
  · exact (L.nb g).elim
def mPar (i j : Nat) (ma : WMA) : WMS := fun r E => ma r (fun us => onVs us fun ds => match ds with
  | [d, e] => E.nx ((r.set i (some (.v d))).set j (some (.v e)))
  | _ => .bad) E.xc
theorem ms_par {i j : Nat} {ma : WMA} {st : Stmt} (h : DS X st (wPar i j (wA ma))) : MS X st (mPar i j ma) := ds_weak h fun ρ M E ⟨M0, r, EK, G, O, L, g⟩ =>
  ⟨M0, r, _, EK.xc, G, O, L.lk O.sub, fun us ds hu g => by
    have g := onVs_in L.nb hu g
    split at g
    · rename_i d e
      exact L.nx _ _ M ((O.set i _).set j _) g
    · exact (L.nb g).elim, g⟩
/-- raise C(e) -/
def mRaise (nm f tg : Str) (me : WM) : WMS := fun r E => me r (fun u => onVl u fun d => E.xc nm [("tag", .str tg), (f, d)]) E.xc
theorem ms_raise {st : Stmt} {nm f tg : Str} {me : WM} (h : DS X st (wRaise nm f tg (wE me))) : MS X st (mRaise nm f tg me) := ds_weak h fun ρ M E ⟨M0, r, EK, G, O, L, g⟩ =>
  ⟨M0, r, _, EK.xc, G, O, L.lk O.sub, fun u d hu g => onVl_in L.nb hu g fun g => L.xc _ _ M O.sub g, g⟩
end
/-! ### match -/
/-- some none: no match; none: stuck -/
abbrev WMP := D → Option (Option (List (Nat × D)))
abbrev WMPs := List D → Option (Option (List (Nat × D)))
def KPof (o : Option (Option (List (Nat × D)))) (k : KP) : Prop := match o with
  | some b => k b
  | none => False
def PatM (w : WP) (p : WMP) : Prop := ∀ d M k, KPof (p d) k → w d M k
def PatsM (w : WPs) (p : WMPs) : Prop := ∀ d M k, KPof (p d) k → w d M k
def mpStr (x : Str) : WMP := fun d => match scalD d (.str x) with
  | some true => some (some [])
  | some false => some none
  | none => none
def mpN (i : Nat) : WMP := fun d => some (some [(i, d)])
def mpAny : WMP := fun _ => some (some [])
def mpNil : WMPs := fun ds => match ds with
  | [] => some (some [])
  | _ => none
def mpCons (p : WMP) (ps : WMPs) : WMPs := fun ds => match ds with
  | d :: r => match p d with
    | none => none
    | some none => some none
    | some (some b) => match ps r with
      | none => none
      | some none => some none
      | some (some b2) => some (some (b ++ b2))
  | [] => none
def mpSeq (n : Nat) (ps : WMPs) : WMP := fun d => match d with
  | .tup ds => match Nat.beq ds.length n with
    | true => ps ds
    | false => some none
  | _ => none
theorem pm_str {x : Str} : PatM (wpStr x) (mpStr x) := fun d M k q => by
  unfold mpStr at q
  unfold wpStr
  cases h : scalD d (.str x) with
  | none => rw [h] at q; exact q.elim
  | some b => rw [h] at q; cases b <;> exact q
theorem pm_n {i : Nat} : PatM (wpN i) (mpN i) := fun d M k q => q
theorem pm_any : PatM wpAnyP mpAny := fun d M k q => q
theorem pms_nil : PatsM wpNil mpNil := fun ds M k q => by
  cases ds with
  | nil => exact q
  | cons _ _ => exact q
theorem pms_cons {w : WP} {ws : WPs} {p : WMP} {ps : WMPs} (h1 : PatM w p) (h2 : PatsM ws ps) : PatsM (wpCons w ws) (mpCons p ps) := fun ds M k q => by
  cases ds with
  | nil => exact q
  | cons d r =>
    refine h1 d M _ ?_
    have q : KPof (match p d with
      | none => none
      | some none => some none
      | some (some b) => match ps r with
        | none => none
        | some none => some none
        | some (some b2) => some (some (b ++ b2))) k := q
    cases e1 : p d with
    | none => rw [e1] at q; exact q
    | some o =>
      rw [e1] at q
      cases o with
      | none => exact q
      | some b =>
        refine h2 r M _ ?_
        dsimp only at q
        cases e2 : ps r with
        | none => rw [e2] at q; exact q
        | some o2 => rw [e2] at q; cases o2 <;> exact q
theorem pm_seq {n : Nat} {ws : WPs} {ps : WMPs} (h : PatsM ws ps) : PatM (wpSeq n ws) (mpSeq n ps) := fun d M k q => by
  cases d with
  | tup ds =>
    show match Nat.beq ds.length n with
      | true => ws ds M k
      | false => k none
    have q : KPof (match Nat.beq ds.length n with
      | true => ps ds
      | false => some none) k := q
    cases e : Nat.beq ds.length n with
    | true => rw [e] at q; exact h ds M k q
    | false => rw [e] at q; exact q
  | _ => exact q.elim
def setM (r : Rm) : List (Nat × D) → Rm
  | [] => r
  | (i, d) :: t => setM (r.set i (some (.v d))) t
theorem Own.setB {M0 : M0T} {M : MH} : ∀ (bs : List (Nat × D)) {r : Rm} {ρ : Rh}, Own M0 M r ρ → Own M0 M (setM r bs) (setB ρ bs)
  | [], _, _, h => h
  | (i, d) :: t, _, _, h => Own.setB t (h.set i d)
def mmNil : D → WMS := fun _ => mNext
def mmCons (p : WMP) (s : WMS) (t : D → WMS) : D → WMS := fun d r E => oK (p d) fun o => match o with
  | none => t d r E
  | some bs => s (setM r bs) E
def mMatch (me : WM) (mm : D → WMS) : WMS := fun r E => me r (fun u => onVl u fun d => mm d r E) E.xc
/-- cases by their functions -/
def CasM (w : D → WS) (m : D → WMS) : Prop := ∀ d ρ M E, wS (m d) ρ M E → w d ρ M E
theorem cm_nil : CasM wmNil mmNil := fun d ρ M E ⟨M0, r, EK, G, O, L, g⟩ => L.nx r ρ M O g
theorem cm_cons {wp : WP} {p : WMP} {s : WMS} {wr : D → WS} {t : D → WMS} (h1 : PatM wp p) (h2 : CasM wr t) : CasM (wmCons wp (wS s) wr) (mmCons p s t) := fun d ρ M E ⟨M0, r, EK, G, O, L, g⟩ => by
  refine h1 d M _ ?_
  unfold mmCons at g
  cases e : p d with
  | none => rw [e] at g; exact L.nb g
  | some o =>
    rw [e] at g
    cases o with
    | none => exact h2 d ρ M E ⟨M0, r, EK, G, O, L, g⟩
    | some bs => exact ⟨M0, _, EK, G, O.setB bs, L, g⟩
theorem ms_match {X : Cx} {pos : Pos} {e : Expr} {cs : List MatchCase} {me : WM} {wm : D → WS} {mm : D → WMS} (h : DS X (.Match e cs pos) (wMatch (wE me) wm)) (hm : CasM wm mm) : MS X (.Match e cs pos) (mMatch me mm) := ds_weak h fun ρ M E ⟨M0, r, EK, G, O, L, g⟩ =>
  ⟨M0, r, _, EK.xc, G, O, L.lk O.sub, fun u d hu g => onVl_in L.nb hu g fun g => hm d ρ M E ⟨M0, r, EK, G, O, L, g⟩, g⟩
end DM

namespace DM
open PySem PySem.Spec PyProof.Rows L2 DL

/-! ### own dicts with text keys -/
def mNewD (i : Nat) : WMS := fun r E => E.nx (r.set i (some (.o (.dct [] []))))
/-- d[k] = e -/
def mDput (i : Nat) (mi me : WM) : WMS := fun r E => me r (fun u => onVl u fun d => match r[i]? with
  | some (some (.o (.dct ks ds))) => mi r (fun v => onVl v fun z => match z with
    | .str y => gdR (Nat.blt ds.length 4096) (E.nx (r.set i (some (.o (.dct (putKs ks y) (putXs ks ds y d))))))
    | _ => .bad) E.xc
  | _ => .bad) E.xc
section
variable {X : Cx} {st : Stmt} {e : Expr} {me mi : WM} {pos : Pos}
theorem ms_newD {i : Nat} {x : Str} {pos' dp : Pos} (hN : X.N.Nodup) (hi : X.N[i]? = some x) (hx : Loc X.env.scope x) (hs : swapsWith (.Dict [] [] dp) (some (.Name x pos')) pos.line X.env = pure false := by rfl) (hf : X.fn x = true ∨ X.env.scope.names.lookup x = some .local := by first | exact .inl rfl | exact .inr rfl | assumption) (hi0 : i ≠ 0 := by decide) :
    MS X (.Assign [.Name x pos'] (.Dict [] [] dp) pos) (mNewD i) := ds_weak (ds_set hN hi hx de_dnew hs hf) fun ρ M E ⟨M0, r, EK, G, O, L, g⟩ => fun a ha => L.nx _ _ _ (O.new i ha _ hi0) g
theorem ms_dput {i : Nat} (h : DS X st (wDput (wVar i) (wE mi) (wE me))) : MS X st (mDput i mi me) := ds_weak h fun ρ M E ⟨M0, r, EK, G, O, L, g⟩ => by
  refine ⟨M0, r, _, EK.xc, G, O, L.lk O.sub, fun u d hu g => onVl_in L.nb hu g fun g => ?_, g⟩
  split at g
  · rename_i ks ds e1
    obtain ⟨z, e2, a, rfl, e3, e4⟩ := O.at_ i _ e1
    unfold wVar
    rw [e2]
    refine ⟨M0, r, _, EK.xc, G, O, L.lk O.sub, fun u iv hu g => onVl_in L.nb hu g fun g => ?_, g⟩
    split at g
    · rename_i y
      obtain ⟨hl, g⟩ := gd_of (gdR_in L.nb g fun g => g)
      exact ⟨a, ks, ds, rfl, e3, Nat.le_of_ble_eq_true hl, L.nx _ _ _ (O.upd e1 e2 _) g⟩
    · exact (L.nb g).elim
  · exact (L.nb g).elim
end
/-! ### sorting -/
section
variable {α : Type}
theorem perm_sorted {le : α → α → Prop} (anti : ∀ a b, le a b → le b a → a = b) : ∀ {xs ys : List α}, xs.Perm ys → xs.Pairwise le → ys.Pairwise le → xs = ys
  | [], ys, p, _, _ => by rw [List.nil_perm.mp p]
  | a :: t, [], p, _, _ => by have := p.length_eq; simp at this
  | a :: t, b :: r, p, h1, h2 => by
    obtain ⟨h3, h4⟩ := List.pairwise_cons.mp h1
    obtain ⟨h5, h6⟩ := List.pairwise_cons.mp h2
    have e : a = b := by
      rcases List.mem_cons.mp (p.mem_iff.mp List.mem_cons_self : a ∈ b :: r) with e | ha
      · exact e
      · rcases List.mem_cons.mp (p.mem_iff.mpr List.mem_cons_self : b ∈ a :: t) with e | hb
        · exact e.symm
        · exact anti a b (h3 b hb) (h5 a ha)
    subst e
    rw [perm_sorted anti (List.Perm.cons_inv p) h4 h6]
def ins (le : α → α → Bool) (x : α) : List α → List α
  | [] => [x]
  | y :: r => match le x y with
    | true => x :: y :: r
    | false => y :: ins le x r
def isort (le : α → α → Bool) : List α → List α
  | [] => []
  | x :: r => ins le x (isort le r)
theorem ins_perm (le : α → α → Bool) (x : α) : ∀ l : List α, (ins le x l).Perm (x :: l)
  | [] => List.Perm.refl _
  | y :: r => by
    unfold ins
    cases le x y with
    | true => exact List.Perm.refl _
    | false => exact ((ins_perm le x r).cons y).trans (List.Perm.swap x y r)
theorem isort_perm (le : α → α → Bool) : ∀ l : List α, (isort le l).Perm l
  | [] => List.Perm.refl _
  | x :: r => (ins_perm le x _).trans ((isort_perm le r).cons x)
theorem ins_sorted {le : α → α → Bool} (tot : ∀ a b, le a b = false → le b a = true) (tr : ∀ a b c, le a b = true → le b c = true → le a c = true) (x : α) : ∀ {l : List α}, l.Pairwise (fun a b => le a b = true) → (ins le x l).Pairwise (fun a b => le a b = true)
  | [], _ => List.pairwise_singleton _ _
  | y :: r, h => by
    obtain ⟨h1, h2⟩ := List.pairwise_cons.mp h
    unfold ins
    cases e : le x y with
    | true => exact List.pairwise_cons.mpr ⟨fun z hz => by
        rcases List.mem_cons.mp hz with rfl | hz
        · exact e
        · exact tr _ _ _ e (h1 z hz), h⟩
    | false => exact List.pairwise_cons.mpr ⟨fun z hz => by
        rcases List.mem_cons.mp ((ins_perm le x r).mem_iff.mp hz) with rfl | hz
        · exact tot _ _ e
        · exact h1 z hz, ins_sorted tot tr x h2⟩
theorem isort_sorted {le : α → α → Bool} (tot : ∀ a b, le a b = false → le b a = true) (tr : ∀ a b c, le a b = true → le b c = true → le a c = true) : ∀ l : List α, (isort le l).Pairwise (fun a b => le a b = true)
  | [] => .nil
  | x :: r => ins_sorted tot tr x (isort_sorted tot tr r)
end
/-- texts in order -/
def leS (a b : Str) : Bool := !decide (b.cps.toList < a.cps.toList)
theorem leS_tot (a b : Str) (h : leS a b = false) : leS b a = true := by
  unfold leS at *
  simp only [Bool.not_eq_false', decide_eq_true_eq] at h
  simp only [Bool.not_eq_true', decide_eq_false_iff_not]
  exact List.lt_asymm h
theorem leS_iff {a b : Str} : leS a b = true ↔ a.cps.toList ≤ b.cps.toList := by
  unfold leS
  simp only [Bool.not_eq_true', decide_eq_false_iff_not]
  exact List.not_lt
theorem leS_tr (a b c : Str) (h1 : leS a b = true) (h2 : leS b c = true) : leS a c = true := leS_iff.mpr (List.le_trans (leS_iff.mp h1) (leS_iff.mp h2))
theorem str_ext {a b : Str} (h : a.cps.toList = b.cps.toList) : a = b := by
  cases a; cases b
  simp only at h
  rw [Array.toList_inj.mp h]
theorem leS_anti (a b : Str) (h1 : leS a b = true) (h2 : leS b a = true) : a = b := str_ext (List.le_antisymm (leS_iff.mp h1) (leS_iff.mp h2))
def sortS (xs : List Str) : List Str := isort leS xs
theorem rising_pair : ∀ {xs : List Str} {p : Str}, risingS p xs = true → (p :: xs).Pairwise (fun a b => leS a b = true)
  | [], p, _ => List.pairwise_singleton _ _
  | x :: r, p, h => by
    have h := Bool.and_eq_true_iff.mp h
    have h1 : leS p x = true := by unfold leS; rw [← ltCps_eq]; exact h.1
    have ih := rising_pair h.2
    refine List.pairwise_cons.mpr ⟨fun z hz => ?_, ih⟩
    rcases List.mem_cons.mp hz with rfl | hz
    · exact h1
    · exact leS_tr _ _ _ h1 ((List.pairwise_cons.mp ih).1 z hz)
theorem sortedS_pair {xs : List Str} (h : sortedS xs = true) : xs.Pairwise (fun a b => leS a b = true) := by
  cases xs with
  | nil => exact .nil
  | cons x r => exact rising_pair h
theorem sortS_uniq {xs ys : List Str} (p : ys.Perm xs) (h : sortedS ys = true) : ys = sortS xs :=
  perm_sorted leS_anti (p.trans (isort_perm leS xs).symm) (sortedS_pair h) (isort_sorted leS_tot leS_tr xs)
/-- the items of a list -/
def lstD (d : D) (M : MH) : Option (List D) := match d with
  | .lst es => some es
  | .ref a => match M a with
    | some (.lst es) => some es
    | _ => none
  | _ => none
def lstV : Vl → Option (List D)
  | .v (.lst es) => some es
  | .o (.lst es) => some es
  | _ => none
theorem lstV_D {M0 : M0T} {M : MH} {u : Vl} {d : D} {es : List D} (h : RelV M0 M u d) (e : lstV u = some es) : lstD d M = some es := by
  cases u with
  | v x => cases h; cases d <;> first | exact e | cases e
  | o m =>
    obtain ⟨a, rfl, h1, _⟩ := h
    cases m <;> cases e
    show (match M a with | some (.lst es) => some es | _ => none) = _
    rw [h1]
theorem ls_of {K : PySem.W.Frag} {H F : Hp} {M : MH} {v : V} {d : D} {es : List D} (S : RepS K H F M) (r : Rep K F v d) (h : lstD d M = some es) : ∃ p xs, v = .ref p ∧ SqL K H p xs ∧ Reps K F xs es ∧ es.length ≤ sizeLine := by
  cases d with
  | lst ds => cases h; cases r with | lst a b c => exact ⟨_, _, rfl, SqL.of (S.fz _ _ a), b, c⟩
  | ref a =>
    have h : (match M a with | some (.lst es) => some es | _ => none) = some es := h
    cases hm : M a with
    | none => rw [hm] at h; cases h
    | some m =>
      rw [hm] at h
      cases m with
      | lst ds =>
        cases h
        obtain ⟨_, hl, xs, hx, hr⟩ := S.mlst hm
        cases r
        exact ⟨_, _, rfl, SqL.of hx, hr, hl⟩
      | _ => cases h
  | _ => cases h
/-- sorted(x): of texts, of a dict with text keys -/
def rSortedX : RB := fun ds M k => on1 ds fun d => match lstD d M with
  | some es => onO (strsOf es) fun xs => xs.length < 64 ∧ k (.lst ((sortS xs).map .str)) M
  | none => match ctD d M with
    | some (.dc ks _) => ks.length < 64 ∧ k (.lst ((sortS ks).map .str)) M
    | _ => False
theorem strsOf_eq : ∀ {ds : List D} {ns : List Str}, strsOf ds = some ns → ds = ns.map .str
  | [], _, e => by cases e; rfl
  | .str z :: r, _, e => by
    unfold strsOf at e
    cases h : strsOf r with
    | none => rw [h] at e; cases e
    | some y => rw [h] at e; cases e; rw [strsOf_eq h]; rfl
  | .non :: _, _, e => by cases e
  | .bl _ :: _, _, e => by cases e
  | .int _ :: _, _, e => by cases e
  | .ref _ :: _, _, e => by cases e
  | .ty _ :: _, _, e => by cases e
  | .tup _ :: _, _, e => by cases e
  | .lst _ :: _, _, e => by cases e
  | .scr _ :: _, _, e => by cases e
  | .dct _ _ :: _, _, e => by cases e
  | .dcT _ _ :: _, _, e => by cases e
  | .dcl _ _ :: _, _, e => by cases e
  | .obj _ _ _ :: _, _, e => by cases e
theorem strsOf_map : ∀ xs : List Str, strsOf (xs.map .str) = some xs
  | [] => rfl
  | x :: r => by show (strsOf (r.map .str)).map (x :: ·) = _; rw [strsOf_map r]; rfl
theorem kvz_keys : ∀ {ks : List Str} {xs : List V}, ks.length = xs.length → (kvz ks xs).map (·.1) = ks.map Sum.inr
  | [], _, _ => rfl
  | _ :: _, [], h => by simp at h
  | k :: ks, x :: xs, h => by rw [kvz_cons, List.map_cons, List.map_cons, kvz_keys (by simpa using h)]
theorem cd_sorted {X : Cx} (hc : X.calm = true) : CallD X (.builtin "sorted") rSortedX := by
  refine ⟨_, cr_sortedS.or (call_sortedD hc), fun ds vs H F M k Q S r w pv => ?_⟩
  obtain ⟨d, e0, w2⟩ := on1_of w
  clear w
  subst e0
  obtain ⟨v, rfl, r1⟩ := reps1 r
  have w := w2
  clear w2
  have fin : ∀ {p : Addr} {xs : List Str}, H p = none → xs.length < 64 → k (.lst ((sortS xs).map .str)) M → Q (.ref p) (upd H p (.lst ((sortS xs).map V.str))) := fun {p xs} hp hl q => by
    obtain ⟨S2, e2⟩ := S.lay hp (.lst ((sortS xs).map V.str))
    refine pv _ _ _ _ _ e2 S2 (.lst upd_same (Reps.of_strs _) ?_) q
    rw [List.length_map, show (sortS xs).length = xs.length from (isort_perm leS xs).length_eq, sizeLine_eq]
    omega
  cases h0 : lstD d M with
  | some es =>
    rw [h0] at w
    obtain ⟨xs, h1, h2, h3⟩ := onO_of w
    have e := strsOf_eq h1
    subst e
    obtain ⟨p, ys, rfl, hp, hr, hl⟩ := ls_of S r1 h0
    have e2 := Reps.strs hr
    subst e2
    exact .inl ⟨p, xs, rfl, hp, h2, fun ys' q hperm hs hq => by rw [sortS_uniq hperm hs]; exact fin hq h2 h3⟩
  | none =>
    rw [h0] at w
    dsimp only at w
    cases hc2 : ctD d M with
    | none => rw [hc2] at w; exact w.elim
    | some c =>
      rw [hc2] at w
      cases c with
      | dc ks es =>
        obtain ⟨h2, h3⟩ := w
        obtain ⟨p, ys, rfl, hp, hr, hl, hz⟩ := ct_dc S r1 hc2
        exact .inr ⟨p, _, ks, rfl, hp, kvz_keys (by rw [hr.length]; exact hl), h2, fun ys' q hperm hs hq => by rw [sortS_uniq hperm hs]; exact fin hq h2 h3⟩
      | _ => exact w.elim
def fSorted := on1V fun u => match lstV u with
  | some es => match strsOf es with
    | some xs => match Nat.blt xs.length 64 with
      | true => some (.lst ((sortS xs).map .str))
      | false => none
    | none => none
  | none => match ctV u with
    | some (.dc ks _) => match Nat.blt ks.length 64 with
      | true => some (.lst ((sortS ks).map .str))
      | false => none
    | _ => none
theorem ctV_lst {u : Vl} {ks : List Str} {xs : List D} (h : ctV u = some (.dc ks xs)) : ∀ {M0 : M0T} {M : MH} {d : D}, RelV M0 M u d → lstD d M = none := fun {M0 M d} hu => by
  cases u with
  | v x => cases hu; cases d <;> first | rfl | cases h
  | o m =>
    obtain ⟨a, rfl, h1, _⟩ := hu
    show (match M a with | some (.lst es) => some es | _ => none) = _
    rw [h1]
    cases m <;> first | rfl | cases h
theorem cm_sorted : CallM rSortedX fSorted := cm1 fun M0 M u d k hu q => by
  cases h0 : lstV u with
  | some es =>
    rw [h0] at q
    rw [lstV_D hu h0]
    show onO (strsOf es) _
    dsimp only at q
    cases h1 : strsOf es with
    | none => rw [h1] at q; exact q.elim
    | some xs => rw [h1] at q; obtain ⟨h2, h3⟩ := kO_if q; exact ⟨Nat.le_of_ble_eq_true h2, h3⟩
  | none =>
    rw [h0] at q
    dsimp only at q
    cases hc : ctV u with
    | none => rw [hc] at q; exact q.elim
    | some c =>
      rw [hc] at q
      cases c with
      | dc ks xs =>
        rw [ctV_lst hc hu, ctV_D hu hc]
        obtain ⟨h2, h3⟩ := kO_if q
        exact ⟨Nat.le_of_ble_eq_true h2, h3⟩
      | _ => exact q.elim
end DM

namespace DM
open PySem PySem.Spec PyProof.Rows L2 DL

/-- the promise of nothing -/
theorem fn_noW {P : Program} {w : World} {K : PySem.W.Frag} {mg : Str → Option Value} {base : Heap} {x qual : Str} {st : Stmt} {f : Addr} {fd : FuncData} {N ps : List Str} {k : Nat} {wf : WF} (hf : ∀ ds M k x, ¬ wf ds M k x) (G : Fun K x qual st f fd) (S : FnScope N ps (defScope st)) : FnOk P w K mg base (L2.CX P w) (k + 1) f fd ps (spD K ps.length wf) :=
  (fn_no G S).imp fun vs H Q E h => by
    obtain ⟨F, M, ds, k, x, _, _, _, q, _⟩ := h
    exact (hf ds M k x q).elim
theorem hw_mE {m : List D → Ans} {s : WMS} {N : List Str} (e : ∀ ds, m ds = callM s N ds) {n : Nat} (ds : List D) (M : MH) (k : KD) (x : KE) (_ : ds.length = n) (h : wfOf m ds M k x) : wS s (startD N ds) M (retE k x) := by
  refine hw_m ds M k x ?_
  unfold wfOf at h ⊢
  rw [← e ds]
  exact h
/-- a def's answer, told -/
theorem wf_ok {m : List D → Ans} {ds : List D} {d : D} {M : MH} {k : KD} {x : KE} (e : m ds = .ok d) (h : k d M) : wfOf m ds M k x := by
  unfold wfOf
  rw [e]
  exact h
theorem wf_exc {m : List D → Ans} {ds : List D} {n : Str} {fs : List (Str × D)} {M : MH} {k : KD} {x : KE} (e : m ds = .exc n fs) (h : x n fs M) : wfOf m ds M k x := by
  unfold wfOf
  rw [e]
  exact h
/-! ### loops and comprehensions, told -/
theorem wipeM_get (r : Rm) : ∀ (vs : List Nat) (j : Nat), (wipeM r vs)[j]? = if j < r.length then (if j ∈ vs then some none else r[j]?) else none
  | [], j => by
    by_cases hj : j < r.length
    · rw [if_pos hj]; simp [wipeM]
    · rw [if_neg hj]; exact List.getElem?_eq_none (Nat.not_lt.mp hj)
  | v :: vs, j => by
    have len : ∀ ws : List Nat, (wipeM r ws).length = r.length := fun ws => by
      induction ws with
      | nil => rfl
      | cons w ws ih => show ((wipeM r ws).set w none).length = _; rw [List.length_set, ih]
    have ih := wipeM_get r vs j
    show ((wipeM r vs).set v none)[j]? = _
    by_cases hj : j < r.length
    · rw [if_pos hj] at ih ⊢
      by_cases e : v = j
      · subst e
        rw [List.getElem?_set_self (by rw [len]; exact hj), if_pos List.mem_cons_self]
      · rw [List.getElem?_set_ne e, ih]
        by_cases hm : j ∈ vs
        · rw [if_pos hm, if_pos (List.mem_cons_of_mem _ hm)]
        · rw [if_neg hm, if_neg (fun z => (List.mem_cons.mp z).elim (fun z => e z.symm) hm)]
    · rw [if_neg hj]
      exact List.getElem?_eq_none (by rw [List.length_set, len]; exact Nat.not_lt.mp hj)
theorem wipeM_len (r : Rm) (vs : List Nat) : (wipeM r vs).length = r.length := by
  induction vs with
  | nil => rfl
  | cons w ws ih => show ((wipeM r ws).set w none).length = _; rw [List.length_set, ih]
theorem wipeM_idem (r : Rm) (vs : List Nat) : wipeM (wipeM r vs) vs = wipeM r vs := List.ext_getElem? fun j => by
  rw [wipeM_get, wipeM_get, wipeM_len]
  by_cases hj : j < r.length
  · rw [if_pos hj, if_pos hj]
    by_cases hm : j ∈ vs
    · rw [if_pos hm, if_pos hm]
    · rw [if_neg hm, if_neg hm]
  · rw [if_neg hj, if_neg hj]
/-- a loop sees its slots wiped -/
theorem loopM_wipe {is : List Nat} {g : WMG} {s : WMS} {ds : List D} {r : Rm} {E : EndsK} : loopM is g s ds r E = loopM is g s ds (wipeM r is) E := by
  cases ds with
  | nil => rw [loopM_nil, loopM_nil, wipeM_idem]
  | cons d t => rw [loopM_cons, loopM_cons, wipeM_idem]
theorem comp_nil {g : WMG} {mt : WMT} {me : WM} {r : Rm} {K : List D → Ans} : compM g mt me r [] K = K [] := by unfold compM; rfl
theorem comp_cons {g : WMG} {mt : WMT} {me : WM} {r : Rm} {d : D} {t : List D} {K : List D → Ans} : compM g mt me r (d :: t) K = oK (g d r) fun r1 => mt r1 (fun b => match b with
    | true => me r1 (fun u => onVl u fun e => compM g mt me r t fun es => K (e :: es)) fun _ _ => .bad
    | false => compM g mt me r t K) fun _ _ => .bad := by unfold compM; rfl
/-- a comprehension over what a function lays out -/
theorem comp_map {α : Type} {g : WMG} {me : WM} {r : Rm} (t f : α → D) : ∀ (xs : List α) {K : List D → Ans}, (∀ a, a ∈ xs → ∀ (K' : KV) X', oK (g (t a) r) (fun r1 => me r1 K' X') = K' (.v (f a))) → compM g mYes me r (xs.map t) K = K (xs.map f)
  | [], K, h => comp_nil
  | a :: xs, K, h => by
    rw [List.map_cons, comp_cons]
    show oK (g (t a) r) (fun r1 => me r1 (fun u => onVl u fun e => compM g mYes me r (xs.map t) fun es => K (e :: es)) fun _ _ => .bad) = _
    rw [h a List.mem_cons_self]
    show compM g mYes me r (xs.map t) (fun es => K (f a :: es)) = _
    rw [comp_map t f xs fun b hb => h b (List.mem_cons_of_mem _ hb)]
    rfl
/-- with a test -/
theorem comp_filter {α : Type} {g : WMG} {mt : WMT} {me : WM} {r : Rm} (t f : α → D) (p : α → Bool) : ∀ (xs : List α) {K : List D → Ans}, (∀ a, a ∈ xs → ∃ r1, g (t a) r = some r1 ∧ (∀ (K' : Bool → Ans) X', mt r1 K' X' = K' (p a)) ∧ (p a = true → ∀ (K' : KV) X', me r1 K' X' = K' (.v (f a)))) → compM g mt me r (xs.map t) K = K ((xs.filter p).map f)
  | [], K, h => comp_nil
  | a :: xs, K, h => by
    obtain ⟨r1, h1, h2, h3⟩ := h a List.mem_cons_self
    rw [List.map_cons, comp_cons, h1]
    show mt r1 _ _ = _
    rw [h2]
    cases e : p a with
    | true =>
      show me r1 _ _ = _
      rw [h3 e, List.filter_cons_of_pos e]
      show compM g mt me r (xs.map t) (fun es => K (f a :: es)) = _
      rw [comp_filter t f p xs fun b hb => h b (List.mem_cons_of_mem _ hb)]
      rfl
    | false =>
      rw [List.filter_cons_of_neg (by rw [e]; decide)]
      exact comp_filter t f p xs fun b hb => h b (List.mem_cons_of_mem _ hb)
/-- over a list as it is -/
theorem comp_each {g : WMG} {me : WM} {r : Rm} (f : D → D) (ds : List D) {K : List D → Ans} (h : ∀ d, d ∈ ds → ∀ (K' : KV) X', oK (g d r) (fun r1 => me r1 K' X') = K' (.v (f d))) : compM g mYes me r ds K = K (ds.map f) := by
  have q := comp_map (g := g) (me := me) (r := r) (fun d => d) f ds (K := K) h
  rw [List.map_id'] at q
  exact q
theorem fAll_map {α : Type} (f : α → Bool) (xs : List α) : fAll [.v (.lst (xs.map fun a => .bl (f a)))] = some (.bl (xs.all f)) := by
  show (match blsOf (xs.map fun a => .bl (f a)) with | some ns => some (D.bl (ns.all fun b => b)) | none => none) = _
  have h : ∀ xs : List α, blsOf (xs.map fun a => .bl (f a)) = some (xs.map f) := fun xs => by
    induction xs with
    | nil => rfl
    | cons a t ih => show (blsOf (t.map fun a => .bl (f a))).map (f a :: ·) = _; rw [ih]; rfl
  rw [h]
  show some (D.bl ((xs.map f).all fun b => b)) = _
  rw [List.all_map]
  rfl
theorem fAny_map {α : Type} (f : α → Bool) (xs : List α) : fAny [.v (.lst (xs.map fun a => .bl (f a)))] = some (.bl (xs.any f)) := by
  show (match blsOf (xs.map fun a => .bl (f a)) with | some ns => some (D.bl (ns.any fun b => b)) | none => none) = _
  have h : ∀ xs : List α, blsOf (xs.map fun a => .bl (f a)) = some (xs.map f) := fun xs => by
    induction xs with
    | nil => rfl
    | cons a t ih => show (blsOf (t.map fun a => .bl (f a))).map (f a :: ·) = _; rw [ih]; rfl
  rw [h]
  show some (D.bl ((xs.map f).any fun b => b)) = _
  rw [List.any_map]
  rfl
theorem fSum_map {α : Type} (f : α → Int) (xs : List α) : fSum [.v (.lst (xs.map fun a => .int (f a)))] = some (.int (xs.map f).sum) := by
  have e : (xs.map fun a => D.int (f a)) = (xs.map f).map D.int := by rw [List.map_map]; rfl
  rw [e]
  show (match intsOf ((xs.map f).map D.int) with | some ns => some (D.int ns.sum) | none => none) = _
  rw [intsOf_map]
/-- == of scalars and what lays -/
theorem eq0_lays {d e : D} (h1 : lays d = true) (h2 : lays e = true) (h3 : dep d ≤ 64) (h4 : dep e ≤ 64) : eq0 d e = some (eqD d e) := by
  unfold eq0
  cases h : scalD d e with
  | some b => rw [scal_eqv h]
  | none => exact eqG_of h1 h2 h3 h4
theorem fEq_lays {g : Bool → Bool} {d e : D} (h1 : lays d = true) (h2 : lays e = true) (h3 : dep d ≤ 64) (h4 : dep e ≤ 64) : fEq g (.v d) (.v e) = some (.bl (g (eqD d e))) := by
  show (match eq0 d e with | some b => some (D.bl (g b)) | none => none) = _
  rw [eq0_lays h1 h2 h3 h4]
/-- is it the text z? -/
def isS (d : D) (z : Str) : Bool := match d with
  | .str y => decide (y = z)
  | _ => false
theorem eqD_strS {d : D} {z : Str} (hl : lays d = true) : eqD d (.str z) = isS d z := by
  cases d with
  | str y => exact scal_eqv (d := .str y) (e := .str z) rfl
  | tup ds => rfl
  | lst ds => rfl
  | non => rfl
  | bl b => rfl
  | int i => rfl
  | _ => cases hl
theorem fEq_str {g : Bool → Bool} {d : D} {z : Str} (h1 : lays d = true) (h3 : dep d ≤ 64) (hz : PyData.strOk z = true) : fEq g (.v d) (.v (.str z)) = some (.bl (g (isS d z))) := by
  rw [fEq_lays h1 (show lays (.str z) = true from hz) h3 (Nat.zero_le 64), eqD_strS h1]
theorem fIn_gen {g : Bool → Bool} {u v : Vl} {d : D} {ds : List D} {b : Bool} (hu : u = .v d) (h : ctV v = some (.sq ds)) (e : inG d ds = some b) : fIn g u v = some (.bl (g b)) := by
  subst hu
  unfold fIn
  rw [h]
  show (match inG d ds with | some b => some (D.bl (g b)) | none => none) = _
  rw [e]
theorem inG_any {d : D} {ds : List D} (h1 : lays d = true) (h2 : layss ds = true) (h3 : dep d ≤ 60) (h4 : deps ds ≤ 60) (b : Bool) (hb : (ds.any fun z => eqD z d) = b) : inG d ds = some b ∨ (flatD d = true ∧ ds.all flatD = true) := by
  by_cases hf : flatD d = true ∧ ds.all flatD = true
  · exact .inr hf
  · left
    unfold inG
    rw [if_neg hf, if_pos ⟨h1, h2, h3, h4⟩, hb]
end DM

/-! enumerate over tuples -/
namespace EnT
open PySem
open Sem (wp)
section
variable {prog : Program} {w : World} {A : Around} {E : Value → Shared → Prop} {s : Shared}
/-- the next pair, whatever the inner iterator is -/
theorem step {e it : Addr} {i : Nat} {x old : Value} {t2 : Tok} {P : Heap → Prop} {Q : Value → Shared → Prop} (enm : IsEnum s.heap e it i old) (apart : e ≠ it)
    (inner : ∀ Q' : Value → Shared → Prop, (∀ k, P k → Heap.SameBut it s.heap k → Q' x { s with heap := k, toks := t2 }) → wpAny (model prog w) A (Builtin.SmallTypes.nextOf (.ref it)) Q' E s)
    (keep : ∀ k k', P k → (∀ o, k.get? it = some o → k'.get? it = some o) → P k')
    (fin : ∀ k, IsEnumOut k e it ((i : Int) + 1) x s.heap.objs.size → P k → k.get? s.heap.objs.size = some { cls := .type "tuple", data := .seq #[.int i t2, x] } → k.objs.size = s.heap.objs.size + 1 →
      (∀ b o, b ≠ e → b ≠ it → s.heap.get? b = some o → k.get? b = some o) → Q (.ref s.heap.objs.size) { s with heap := k, toks := t2 + 1 }) :
    wpAny (model prog w) A (Builtin.«enumerate.__next__» ⟨[.ref e], []⟩) (fun r s' => ∃ v, r = .done (.ret v) ∧ Q v s') E s := by
  obtain ⟨hp, g, d, tk, os⟩ := s
  have far : ∀ {k k' : Heap}, Heap.SameBut e k k' → P k → P k' := fun sb p => keep _ _ p fun o q => sb.extBut _ _ (Ne.symm apart) q
  have lt : e < hp.objs.size := Heap.lt_size enm
  refine wpAny_bind (m := field (.ref e) 2) (wpAny_field enm rfl (x := .ref it) rfl ?_)
  refine wpAny_bind (inner _ fun k1 p1 b1 => ?_)
  replace b1 : Heap.SameBut it hp k1 := b1
  have en1 : IsEnum k1 e it i old := (b1.2 e apart).trans enm
  refine wpAny_bind (m := field (.ref e) 3) (wpAny_field (s := ⟨k1, g, d, t2, os⟩) en1 rfl (x := rawInt i) rfl ?_)
  refine wpAny_bind (m := field (.ref e) 4) (wpAny_field (s := ⟨k1, g, d, t2, os⟩) en1 rfl (x := .none) rfl ?_)
  refine wpAny_bind (m := mkInt i) (wpAny_mkInt ?_)
  refine wpAny_bind (m := setField (.ref e) 3 (rawInt ((i : Int) + 1))) (wpAny_setField_rec (s := ⟨k1, g, d, t2 + 1, os⟩) en1 (by simp) fun k2 en2 b2 => ?_)
  replace b2 : Heap.SameBut e k1 k2 := b2
  replace en2 : IsEnum k2 e it ((i : Int) + 1) old := en2
  refine wpAny_bind (m := setField (.ref e) 4 .none) (wpAny_setField_rec (s := ⟨k2, g, d, t2 + 1, os⟩) en2 (by simp) fun k3 en3 b3 => ?_)
  replace b3 : Heap.SameBut e k2 k3 := b3
  replace en3 : IsEnum k3 e it ((i : Int) + 1) old := en3
  refine wpAny_bind (m := newTuple [.int i t2, x]) (wpAny_newTuple ?_)
  have en4 : IsEnum (k3.push { cls := .type "tuple", data := .seq #[.int i t2, x] }) e it ((i : Int) + 1) old := Heap.get?_push_of_some _ en3
  have p4 : P (k3.push { cls := .type "tuple", data := .seq #[.int i t2, x] }) := keep _ _ (far b3 (far b2 p1)) fun o q => Heap.get?_push_of_some _ q
  generalize ek : k3.push { cls := .type "tuple", data := .seq #[.int i t2, x] } = k4 at en4 p4
  have sz : k3.objs.size = hp.objs.size := by rw [b3.1, b2.1, b1.1]
  have tp4 : k4.get? hp.objs.size = some { cls := .type "tuple", data := .seq #[.int i t2, x] } := by
    rw [← ek, ← sz]
    exact Heap.get?_push_size _ rfl
  have sz4 : k4.objs.size = hp.objs.size + 1 := by rw [← ek, Heap.size_push, sz]
  have old4 : ∀ b o, b ≠ e → b ≠ it → hp.get? b = some o → k4.get? b = some o := fun b o n1 n2 q => by
    rw [← ek]
    exact Heap.get?_push_of_some _ (b3.extBut b o n1 (b2.extBut b o n1 (b1.extBut b o n2 q)))
  rw [show (⟨k3, g, d, t2 + 1, os⟩ : Shared).heap.objs.size = hp.objs.size from sz]
  refine wpAny_bind (m := Builtin.SmallTypes.ownedTupleIsFree (.ref e)) ?_
  unfold Builtin.SmallTypes.ownedTupleIsFree
  refine wpAny_bind (wpAny_field (s := ⟨k4, g, d, t2 + 1, os⟩) en4 rfl (x := .none) rfl (wpAny_pure ?_))
  simp only [if_true]
  refine wpAny_bind (wpAny_rule ?_)
  refine wpAny_bind (m := field (.ref e) 5) (wpAny_field (s := ⟨k4, g, d, t2 + 1, os⟩) en4 rfl (x := old) rfl ?_)
  refine wpAny_bind (wpAny_setField_rec (s := ⟨k4, g, d, t2 + 1, os⟩) en4 (by simp) fun k5 en5 b5 => ?_)
  replace b5 : Heap.SameBut e k4 k5 := b5
  replace en5 : IsEnum k5 e it ((i : Int) + 1) x := en5
  refine wpAny_bind (m := Builtin.SmallTypes.ownedTupleHandOut (.ref e) (.ref hp.objs.size)) ?_
  unfold Builtin.SmallTypes.ownedTupleHandOut
  refine wpAny_bind (wpAny_setField_rec (s := ⟨k5, g, d, t2 + 1, os⟩) en5 (by simp) fun k6 en6 b6 => ?_)
  replace b6 : Heap.SameBut e k5 k6 := b6
  replace en6 : IsEnumOut k6 e it ((i : Int) + 1) x hp.objs.size := en6
  refine wpAny_setField_rec (s := ⟨k6, g, d, t2 + 1, os⟩) en6 (by simp) fun k7 en7 b7 => ?_
  replace b7 : Heap.SameBut e k6 k7 := b7
  replace en7 : IsEnumOut k7 e it ((i : Int) + 1) x hp.objs.size := en7
  have up : ∀ b o, b ≠ e → k4.get? b = some o → k7.get? b = some o := fun b o n1 q => b7.extBut b o n1 (b6.extBut b o n1 (b5.extBut b o n1 q))
  exact wpAny_bind (wpAny_letGo (wpAny_pure ⟨_, rfl, fin k7 en7 (far b7 (far b6 (far b5 p4))) (up _ _ (Nat.ne_of_gt lt) tp4) (by rw [b7.1, b6.1, b5.1, sz4]) fun b o n1 n2 q => up b o n1 (old4 b o n1 n2 q)⟩))
/-- of a tuple -/
theorem next_tup {e it l : Addr} {i : Nat} {items : Array Value} {x old : Value} {Q : Option Value → Shared → Prop}
    (enm : IsEnum s.heap e it i old) (hit : s.heap.IsTupleIter it l i) (ht : s.heap.IsTuple l items) (hx : items[i]? = some x) (apart : e ≠ it)
    (fin : ∀ k, IsEnumOut k e it ((i : Int) + 1) x s.heap.objs.size → k.IsTupleIter it l (i + 1) → k.get? s.heap.objs.size = some { cls := .type "tuple", data := .seq #[.int i s.toks, x] } → k.objs.size = s.heap.objs.size + 1 →
      (∀ b o, b ≠ e → b ≠ it → s.heap.get? b = some o → k.get? b = some o) → Q (some (.ref s.heap.objs.size)) { s with heap := k, toks := s.toks + 1 }) : wpAny (model prog w) A (pyNext (.ref e)) Q E s := by
  have ty : s.TypeIs (.ref e) "enumerate" := ⟨_, enm, rfl⟩
  unfold pyNext
  refine wpAny_bind (wpAny_attempt (wpAny_callSpecial?_slot (name := Str.ofString "__next__") ty F.slot_enumerate_next (wpAny_call_entry F.slot_enumerate_next ty F.entry_enumerate_next ?_ (F.args_enumerate_next_1 _))))
  exact step (P := fun k => k.IsTupleIter it l (i + 1)) (t2 := s.toks) enm apart (fun Q' h => RZ.nextOf_tuple_item hit ht hx h) (fun k k' p h => p.at h) fun k a b c d f => wpAny_pure (fin k a b c d f)
theorem end_tup {e it l : Addr} {i : Nat} {items : Array Value} {old : Value} {Q : Option Value → Shared → Prop} (calm : A.handled = none)
    (enm : IsEnum s.heap e it i old) (hit : s.heap.IsTupleIter it l i) (ht : s.heap.IsTuple l items) (hx : items[i]? = none)
    (fin : ∀ k, Heap.ExtBut it s.heap k → Q none { s with heap := k }) : wpAny (model prog w) A (pyNext (.ref e)) Q E s := by
  have ty : s.TypeIs (.ref e) "enumerate" := ⟨_, enm, rfl⟩
  unfold pyNext
  refine wpAny_bind (wpAny_attempt (wpAny_callSpecial?_slot (name := Str.ofString "__next__") ty F.slot_enumerate_next (wpAny_call_entry F.slot_enumerate_next ty F.entry_enumerate_next ?_ (F.args_enumerate_next_1 _))))
  refine wpAny_bind (m := field (.ref e) 2) (wpAny_field enm rfl (x := .ref it) rfl ?_)
  refine wpAny_bind (RZ.nextOf_tuple_end calm hit ht hx fun k ex xb hx2 => ?_)
  obtain ⟨o, ho, hc⟩ := hx2
  exact wpAny_bind (wpAny_isInstance (T := "StopIteration") (b := true) ⟨o, ho, hc⟩ isSubtype_stop (wpAny_pure (fin _ xb)))
theorem new_tup (l : Addr) (items : Array Value) (o : Obj) (hc : o.cls = .type "tuple") (n : Nat) (hd : o.data = .seq items n) :
    Meets (Builtin.«enumerate.__new__» ⟨[.type "enumerate", .ref l], []⟩) (fun _ R s => s.heap.get? l = some o ∧
      R (.ok (.ret (.ref (s.heap.push { cls := .type "tuple_iterator", data := .fields #[.ref l, .int 0 0] }).objs.size)))
        { s with heap := (s.heap.push { cls := .type "tuple_iterator", data := .fields #[.ref l, .int 0 0] }).push { cls := .type "enumerate", data := .fields #[.none, .bool false, .ref s.heap.objs.size, rawInt 0, .none, .none] } }) :=
  .of_wp fun prog w A R s h => by
    obtain ⟨hp, g, d, tk, os⟩ := s
    obtain ⟨hl, h⟩ := h
    have sub := sub_enumerate
    have tp : Heap.IsTuple (Shared.heap ⟨hp, g, d, tk, os⟩) l items := ⟨o, hl, hc, n, hd⟩
    wp_walk using AutoSeq1.wpAny_loadPart' hl
    refine wpAny_stack_any fun st => wpAny_pure ?_
    split
    · rename_i c _ _ _ _ _
      cases (c == Value.type "enumerate") <;> (wp_walk using AutoSeq1.wpAny_loadPart' hl, wpAny_pyIter_tuple tp; exact ⟨_, rfl, h⟩)
    · wp_walk using AutoSeq1.wpAny_loadPart' hl, wpAny_pyIter_tuple tp
      exact ⟨_, rfl, h⟩
theorem make_tup {l : Addr} {items : Array Value} {Q : Value → Shared → Prop} (ht : s.heap.IsTuple l items)
    (h : ∀ k, IsEnum k (s.heap.objs.size + 1) s.heap.objs.size 0 .none → k.IsTupleIter s.heap.objs.size l 0 → k.objs.size = s.heap.objs.size + 2 → (∀ b o, s.heap.get? b = some o → k.get? b = some o) → Q (.ref (s.heap.objs.size + 1)) { s with heap := k }) :
    wpAny (model prog w) A (call (.type "enumerate") [.ref l]) Q E s := by
  obtain ⟨o, ho, hc, n, hd⟩ := ht
  refine callType_new F.called_enumerate (by decide) (F.typeCall_enumerate_1 _) (F.newCall_enumerate_1 _) (fun obj => F.args_object_init_2 obj _) F.entry_enumerate_new (new_tup l items o hc n hd) ⟨ho, ?_⟩
  have z : (s.heap.push { cls := .type "tuple_iterator", data := .fields #[.ref l, .int 0 0] }).objs.size = s.heap.objs.size + 1 := Heap.size_push ..
  show _ ∧ _
  rw [z]
  have en : IsEnum ((s.heap.push { cls := .type "tuple_iterator", data := .fields #[.ref l, .int 0 0] }).push { cls := .type "enumerate", data := .fields #[.none, .bool false, .ref s.heap.objs.size, rawInt 0, .none, .none] }) (s.heap.objs.size + 1) s.heap.objs.size 0 .none := by
    have q := Heap.get?_push_size (s.heap.push { cls := .type "tuple_iterator", data := .fields #[.ref l, .int 0 0] }) (o := { cls := .type "enumerate", data := .fields #[.none, .bool false, .ref s.heap.objs.size, rawInt 0, .none, .none] }) rfl
    rw [z] at q
    exact q
  exact ⟨⟨_, en, rfl⟩, h _ en ⟨_, Heap.get?_push_of_some _ (Heap.get?_push_size _ rfl), rfl, rfl⟩ (by rw [Heap.size_push, z]) fun b u y => Heap.get?_push_of_some _ (Heap.get?_push_of_some _ y)⟩
end
/-! over the hand layer -/
open PySem.Spec PyProof.Rows L2
def IteT (K : PySem.W.Frag) (a : Addr) : It :=
  ⟨fun i H => ∃ (xs : List V) (x : V), SqT K H a xs ∧ xs[i]? = some x, fun i H v H' => ∃ T x, v = .ref T ∧ H T = none ∧ H' = upd H T (.tup [.int (i : Nat), x]) ∧ ∀ xs, SqT K H a xs → xs[i]? = some x, fun i H => ∃ xs : List V, SqT K H a xs ∧ xs.length ≤ i⟩
theorem turnT {P : Program} {w : World} {K : PySem.W.Frag} {elts : List Expr} {kk : Nat} {tpos : Pos} (a e it : Addr) :
    Turn P w K (.Tuple elts kk tpos) (IteT K a) [e, it] e (fun i h => (∃ old, IsEnum h e it ((i : Nat) : Int) old) ∧ h.IsTupleIter it a i ∧ e ≠ it) where
  mem := by simp
  obj := fun i h st b hb => by
    obtain ⟨⟨old, he⟩, ⟨o, ho, hc, hd⟩, _⟩ := st
    rcases (by simpa using hb : b = e ∨ b = it) with z | z
    · rw [z]; exact ⟨_, he, fun v q => nomatch q⟩
    · rw [z]; exact ⟨o, ho, fun v q => by rw [hd] at q; cases q⟩
  keep := fun i h h' st k => let ⟨⟨old, he⟩, hi, hne⟩ := st; ⟨⟨old, k e (by simp) _ he⟩, hi.at fun o q => k it (by simp) o q, hne⟩
  item := by
    intro X hP hw hK hc i pins s σ H E I hf st hg
    subst hP hw hK
    obtain ⟨⟨old, he⟩, hit, hne⟩ := st
    obtain ⟨xs, x, hq, hx⟩ := hg
    obtain ⟨its, rv, p, hz⟩ := I.tuple hq
    obtain ⟨u, hu, ru⟩ := rv.get hx
    have lte : e < s.heap.objs.size := Heap.lt_size he
    have lti : it < s.heap.objs.size := by obtain ⟨_, q, _⟩ := hit; exact Heap.lt_size q
    refine next_tup he hit (show s.heap.IsTuple a its.toArray from p) (x := u) (by simpa using hu) hne fun k ho hit' hT hsz hk => ?_
    refine ⟨_, rfl, wpAny_letOwnedTupleGo_enum (s := { s with heap := k, toks := s.toks + 1 }) ho fun k2 he' sb => ?_⟩
    have hT2 : k2.get? s.heap.objs.size = some { cls := .type "tuple", data := .seq #[.int i s.toks, u] } := (sb.2 _ (Nat.ne_of_gt lte)).trans hT
    have new : ObjOk X.prog X.w (upd H s.heap.objs.size (.tup [.int (i : Nat), x])) k2 s.heap.objs.size (.tup [.int (i : Nat), x]) := ⟨by show 2 ≤ sizeLine; decide, [.int i s.toks, u], .cons ⟨_, rfl⟩ (.cons ru .nil), ⟨_, hT2, rfl, _, rfl⟩⟩
    have I1 : Inv X pins σ (upd H s.heap.objs.size (.tup [.int (i : Nat), x])) { s with heap := k2, toks := s.toks + 1 } :=
      I.turnedNew (ch := [e, it]) (fun b ob hb q => (sb.2 b (fun z => hb (by simp [z]))).trans (hk b ob (fun z => hb (by simp [z])) (fun z => hb (by simp [z])) q)) hf (Nat.le_refl _) new
    refine ⟨.ref s.heap.objs.size, _, I1, rfl, ⟨_, x, rfl, I.hok.fresh (Nat.le_refl _), rfl, fun ys hy => by rw [I.tuple_inj hy hq]; exact hx⟩, ⟨⟨u, ?_⟩, hit'.at fun o q => (sb.2 it (Ne.symm hne)).trans q, hne⟩, fun b hb => ?_⟩
    · rw [show ((i + 1 : Nat) : Int) = (i : Int) + 1 by omega]
      exact he'
    · have hb' : b < s.heap.objs.size := by
        rcases (by simpa using hb : b = e ∨ b = it) with z | z
        · rw [z]; exact lte
        · rw [z]; exact lti
      rw [upd_ne (Nat.ne_of_lt hb')]
      exact (hf b hb).1
  done := by
    intro X hP hw hK hc i pins s σ H E I hf st hg
    subst hP hw hK
    obtain ⟨⟨old, he⟩, hit, hne⟩ := st
    obtain ⟨xs, hq, hx⟩ := hg
    obtain ⟨its, rv, p, hz⟩ := I.tuple hq
    obtain ⟨f0, f1, f2, f3, f4, f5⟩ := hf it (by simp)
    have hl := rv.length
    exact end_tup (I.ok.hd hc) he hit (show s.heap.IsTuple a its.toArray from p) (by simp; omega) fun k eb => ⟨rfl, I.turned (t' := s.toks) (fun b o hb q => eb b o hb q) f0 f1 f3 f4 f5⟩
  self := fun A i s Q E st h => let ⟨⟨_, he⟩, _⟩ := st; wpAny_pyIter_enum he h
def iEnT (K : PySem.W.Frag) (ta : TA) : TI := fun σ H R => ta σ H fun vs H1 => ∃ a xs, vs = [.ref a] ∧ ((SqL K H1 a xs ∧ R (Ite K a) H1) ∨ (SqT K H1 a xs ∧ R (IteT K a) H1))
theorem pi_enT {X : Cx} {e : Expr} {ta : TA} {p pos tpos : Pos} {elts : List Expr} {kk : Nat} (hg : Gl X "enumerate") (hm : X.mg "enumerate" = none) (ha : PA X [e] ta) (hs : starEach [e] X.env = [(false, eval e X.env)] := by rfl) :
    PI X (.Tuple elts kk tpos) (.Call (.Name "enumerate" p) [e] [] pos) (iEnT X.K ta) := by
  refine ⟨fun pins s σ H R I h => Call_ (ld_blt I hg hm boot_enumerate (PyProof.Rows.callWith_type1 (thn (ha.run pos pins s σ H _ I h) fun us s1 ⟨vs, H1, I1, r1, q1⟩ => ?_) hs rfl))⟩
  obtain ⟨a, xs, ex, q⟩ := q1
  subst ex
  cases r1 with
  | cons r rr =>
    cases rr
    cases r
    have fresh : ∀ b, b ∈ [s1.heap.objs.size + 1, s1.heap.objs.size] → FpOk X pins H1 b := fun b hb => by
      have le : s1.heap.objs.size ≤ b := by
        rcases (by simpa using hb : b = s1.heap.objs.size + 1 ∨ b = s1.heap.objs.size) with z | z <;> rw [z]
        · exact Nat.le_add_right _ _
        · exact Nat.le_refl _
      exact I1.fpOk le (I1.hok.fresh le)
    rcases q with ⟨hq, q⟩ | ⟨hq, q⟩
    · obtain ⟨its, rv, p', hz⟩ := I1.list hq
      refine call_enumerate_list p'.isList fun k he hit hsz hk => wpAny_pyIter_enum he ?_
      have I2 : Inv X pins σ H1 { s1 with heap := k } := I1.kept (t' := s1.toks) hk
      exact ⟨s1.heap.objs.size + 1, [s1.heap.objs.size + 1, s1.heap.objs.size], _, _, H1, rfl, I2, turn_enum a (s1.heap.objs.size + 1) s1.heap.objs.size, ⟨⟨.none, he⟩, hit, Nat.succ_ne_self _⟩, fresh, q⟩
    · obtain ⟨its, rv, p', hz⟩ := I1.tuple hq
      refine make_tup (show s1.heap.IsTuple a its.toArray from p') fun k he hit hsz hk => wpAny_pyIter_enum he ?_
      have I2 : Inv X pins σ H1 { s1 with heap := k } := I1.kept (t' := s1.toks) hk
      exact ⟨s1.heap.objs.size + 1, [s1.heap.objs.size + 1, s1.heap.objs.size], _, _, H1, rfl, I2, turnT a (s1.heap.objs.size + 1) s1.heap.objs.size, ⟨⟨.none, he⟩, hit, Nat.succ_ne_self _⟩, fresh, q⟩
end EnT
namespace DL
open PySem PySem.Spec PyProof.Rows L2
theorem wks_enumT {K : PySem.W.Frag} {F : Hp} {a : Addr} {xs : List V} {as : List D} (h1 : SqT K F a xs) (r1 : Reps K F xs as) (l1 : as.length ≤ sizeLine) : Wks K F (EnT.IteT K a) (enumD 0 as) (fun _ => True) where
  sz := by rw [enumD_len]; exact l1
  go := fun i H F' M hi s S _ => by
    rw [enumD_len] at hi
    have hi' : i < xs.length := by rw [r1.length]; exact hi
    exact ⟨xs, xs[i], seqT S.fz (seqT s h1), by simp [hi']⟩
  stop := fun H F' M s S _ => ⟨xs, seqT S.fz (seqT s h1), by rw [r1.length, enumD_len]; exact Nat.le_refl _⟩
  yld := fun i H v H3 F' M hi s S _ y => by
    rw [enumD_len] at hi
    obtain ⟨T, x, rfl, hT, rfl, hx⟩ := y
    obtain ⟨d, h3, h4⟩ := r1.getV (hx xs (seqT S.fz (seqT s h1)))
    obtain ⟨F3, e3, S3, h6⟩ := pair_yld S hT (Rep.int (K := K) (F := F') (i : Nat)) (h4.mono s)
    refine ⟨F3, _, e3, S3, enumD_get as 0 i d h3, ?_⟩
    rw [Int.zero_add]
    exact h6
/-- enumerate of a list or a tuple -/
def wiEnumX (wa : WE) : WI := fun ρ M k x => wa ρ M (fun d M1 => onSeq d fun xs => k (enumD 0 xs) (fun _ => True) M1) x
theorem di_enumX {X : Cx} {a : Expr} {wa : WE} {p pos tpos : Pos} {elts : List Expr} {kk : Nat} (hm : X.mg "enumerate" = none) (ha : DE X a wa) (hg : Gl X "enumerate" := by rfl) (hs : starEach [a] X.env = [(false, eval a X.env)] := by rfl) (h00 : starEach (a :: []) X.env = (false, eval a X.env) :: starEach [] X.env := by rfl) :
    DI X (.Tuple elts kk tpos) (.Call (.Name "enumerate" p) [a] [] pos) (wiEnumX wa) := by
  refine ⟨fun W tk => pi_imp (EnT.pi_enT hg hm (pa_cons (ha.pe W tk) pa_nil h00) hs) fun σ H R q => ?_⟩
  obtain ⟨F, M, ρ, k, x, S, E, w, f, px⟩ := q
  refine ⟨F, M, ρ, _, x, S, E, w, fun v d H1 F1 M1 e1 S1 r1 w1 => ?_, px⟩
  cases d with
  | lst ds => cases r1 with | lst h1 h2 h3 => exact ⟨_, _, rfl, .inl ⟨SqL.of (S1.fz _ _ h1), f _ _ _ _ _ _ e1 S1 (wks_enum h1 h2 h3) w1⟩⟩
  | tup ds => cases r1 with | tup h1 h2 h3 => exact ⟨_, _, rfl, .inr ⟨seqT S1.fz h1, f _ _ _ _ _ _ e1 S1 (wks_enumT h1 h2 h3) w1⟩⟩
  | _ => exact w1.elim
end DL
namespace DM
open PySem PySem.Spec PyProof.Rows L2 DL
def miEnumX (m : WM) : WMI := fun r K X => m r (fun u => oK (seqOf u) fun ds => K (enumD 0 ds)) X
theorem mi_enumX {X : Cx} {tg it : Expr} {m : WM} (h : DI X tg it (wiEnumX (wE m))) : MI X tg it (miEnumX m) := di_weak h fun ρ M k x ⟨M0, r, K, XX, G, O, L, hk, g⟩ => by
  refine ⟨M0, r, _, XX, G, O, L, fun u d hu g => ?_, g⟩
  cases u with
  | o n => exact (L.nb g).elim
  | v z =>
    cases hu
    cases d with
    | lst ds => exact hk _ g
    | tup ds => exact hk _ g
    | _ => exact (L.nb g).elim
end DM

/-! A def is handed a thing of its caller's own, which it only reads and does not give back. -/
namespace DL
open PySem PySem.Spec PyProof.Rows L2 _root_.DM
mutual
/-- tuples of plain values -/
def tupT : D → Bool
  | .non => true | .bl _ => true | .int _ => true | .str _ => true | .ty _ => true
  | .tup ds => tupTs ds
  | _ => false
def tupTs : List D → Bool
  | [] => true
  | d :: r => tupT d && tupTs r
end
inductive FrzA (M : MH) : List D → List D → List Addr → Prop
  | nil : FrzA M [] [] []
  | val {d : D} {ds es : List D} {A : List Addr} : FrzA M ds es A → FrzA M (d :: ds) (d :: es) A
  | own {a : Addr} {m : MO} {e : D} {ds es : List D} {A : List Addr} : M a = some m → frzD m = some e → FrzA M ds es A → FrzA M (.ref a :: ds) (e :: es) (a :: A)
theorem FrzA.mem {M : MH} {ds es : List D} {A : List Addr} (h : FrzA M ds es A) : ∀ {a : Addr}, a ∈ A → ∃ m e, M a = some m ∧ frzD m = some e := by
  induction h with
  | nil => intro a h; cases h
  | val _ ih => exact ih
  | own h1 h2 _ ih =>
    intro a h
    rcases List.mem_cons.mp h with rfl | h
    · exact ⟨_, _, h1, h2⟩
    · exact ih h
def noM : MH := fun _ => none
section
variable {K : PySem.W.Frag} {H F : Hp} {M : MH} {A : List Addr}
/-- what is lent is frozen for a while -/
def lent (H F : Hp) (A : List Addr) : Hp := fun b => if b ∈ A then H b else F b
/-- and then no more -/
def back (F : Hp) (A : List Addr) : Hp := fun b => if b ∈ A then none else F b
theorem lent_same (S : RepS K H F M) (hA : ∀ a, a ∈ A → ∃ m e, M a = some m ∧ frzD m = some e) : Same F (lent H F A) := fun b o q => by
  unfold lent
  by_cases h : b ∈ A
  · obtain ⟨m, _, hm, _⟩ := hA b h
    rw [(S.mu b m hm).1] at q
    cases q
  · rw [if_neg h]; exact q
theorem lent_rep (S : RepS K H F M) (hA : ∀ a, a ∈ A → ∃ m e, M a = some m ∧ frzD m = some e) {vs : List V} {ds es : List D} {B : List Addr} (h : FrzA M ds es B) (hB : ∀ a, a ∈ B → a ∈ A) (r : Reps K F vs ds) : Reps K (lent H F A) vs es := by
  induction h generalizing vs with
  | nil => cases r; exact .nil
  | val _ ih =>
    cases r with
    | cons r1 r2 => exact .cons (r1.mono (lent_same S hA)) (ih hB r2)
  | @own a m e ds es B h1 h2 _ ih =>
    cases r with
    | cons r1 r2 =>
      cases r1
      obtain ⟨_, o, ho, hr⟩ := S.mu a m h1
      refine .cons (hr.frz h2 (lent_same S hA) ?_) (ih (fun b hb => hB b (List.mem_cons_of_mem _ hb)) r2)
      unfold lent
      rw [if_pos (hB a List.mem_cons_self)]
      exact ho
theorem lent_S (S : RepS K H F M) : RepS K H (lent H F A) noM := ⟨fun b o q => by
  unfold lent at q
  by_cases h : b ∈ A
  · rw [if_pos h] at q; exact q
  · rw [if_neg h] at q; exact S.fz b o q, fun b m q => by cases q⟩
/-- the object of a mutable thing is no tuple -/
theorem repO_tup {m : MO} {o : HO} {e : D} (hr : RepO K F m o) (he : frzD m = some e) : (∀ xs, o ≠ .tup xs) ∧ ∀ u xs, o ≠ .frz u (.tup xs) := by
  cases m with
  | lst ds => obtain ⟨xs, rfl, _⟩ := hr; exact ⟨fun _ h => (by cases h), fun _ _ h => (by cases h)⟩
  | dct ks ds => obtain ⟨xs, rfl, _⟩ := hr; exact ⟨fun _ h => (by cases h), fun _ _ h => (by cases h)⟩
  | dcT ks ds => obtain ⟨xs, rfl, _⟩ := hr; exact ⟨fun _ h => (by cases h), fun _ _ h => (by cases h)⟩
  | ins C ks ds => obtain ⟨dx, xs, rfl, _⟩ := hr; exact ⟨fun _ h => (by cases h), fun _ _ h => (by cases h)⟩
  | tab q => cases he
variable {H' F' : Hp}
mutual
theorem back_rep (hA : ∀ a, a ∈ A → ∀ o, F' a = some o → (∀ xs, o ≠ .tup xs) ∧ ∀ u xs, o ≠ .frz u (.tup xs)) : ∀ {d : D} {v : V}, tupT d = true → Rep K F' v d → Rep K (back F' A) v d
  | .tup ds, _, h, .tup hq hr hl => by
    refine .tup ?_ (back_reps hA (ds := ds) h hr) hl
    rcases hq with (q | ⟨u, q⟩) | q
    · refine .inl (.inl ?_)
      unfold back
      rw [if_neg fun z => (hA _ z _ q).1 _ rfl]
      exact q
    · refine .inl (.inr ⟨u, ?_⟩)
      unfold back
      rw [if_neg fun z => (hA _ z _ q).2 _ _ rfl]
      exact q
    · exact .inr q
  | .non, _, _, .non => .non
  | .bl b, _, _, .bl _ => .bl b
  | .int i, _, _, .int _ => .int i
  | .str x, _, _, .str _ => .str x
  | .ty n, _, _, .ty _ => .ty n
  | .ref _, _, h, _ => by cases h
  | .lst _, _, h, _ => by cases h
  | .scr _, _, h, _ => by cases h
  | .dct _ _, _, h, _ => by cases h
  | .dcT _ _, _, h, _ => by cases h
  | .dcl _ _, _, h, _ => by cases h
  | .obj _ _ _, _, h, _ => by cases h
theorem back_reps (hA : ∀ a, a ∈ A → ∀ o, F' a = some o → (∀ xs, o ≠ .tup xs) ∧ ∀ u xs, o ≠ .frz u (.tup xs)) : ∀ {ds : List D} {vs : List V}, tupTs ds = true → Reps K F' vs ds → Reps K (back F' A) vs ds
  | [], _, _, .nil => .nil
  | d :: ds, _, h, .cons r1 r2 => by
    obtain ⟨h1, h2⟩ := Bool.and_eq_true_iff.mp (show (tupT d && tupTs ds) = true from h)
    exact .cons (back_rep hA h1 r1) (back_reps hA h2 r2)
end
/-- the caller's state behind the call -/
theorem back_S (S : RepS K H F M) (hA : ∀ a, a ∈ A → ∃ m e, M a = some m ∧ frzD m = some e) {M' : MH} (e : Ext H (lent H F A) noM H' F' M') (S' : RepS K H' F' M') :
    RepS K H' (back F' A) M ∧ Ext H F M H' (back F' A) M ∧ ∀ a, a ∈ A → ∀ o, F' a = some o → (∀ xs, o ≠ .tup xs) ∧ ∀ u xs, o ≠ .frz u (.tup xs) := by
  have sF : Same F (back F' A) := fun b o q => by
    unfold back
    by_cases h : b ∈ A
    · obtain ⟨m, _, hm, _⟩ := hA b h
      rw [(S.mu b m hm).1] at q
      cases q
    · rw [if_neg h]; exact e.sm _ _ (lent_same S hA b o q)
  have own : ∀ a, a ∈ A → ∀ o, H a = some o → F' a = some o := fun a ha o q => e.sm _ _ (by unfold lent; rw [if_pos ha]; exact q)
  refine ⟨⟨fun b o q => ?_, fun b m q => ?_⟩, ⟨sF, fun b o q1 q2 q3 => ?_⟩, fun a ha o q => ?_⟩
  · unfold back at q
    by_cases h : b ∈ A
    · rw [if_pos h] at q; cases q
    · rw [if_neg h] at q; exact S'.fz b o q
  · obtain ⟨h1, o, h2, h3⟩ := S.mu b m q
    by_cases h : b ∈ A
    · exact ⟨by unfold back; rw [if_pos h], o, S'.fz _ _ (own b h o h2), h3.mono sF⟩
    · obtain ⟨g1, g2, _⟩ := e.fr b o h2 (by unfold lent; rw [if_neg h]; exact h1) rfl
      exact ⟨by unfold back; rw [if_neg h]; exact g2, o, g1, h3.mono sF⟩
  · by_cases h : b ∈ A
    · obtain ⟨m, _, hm, _⟩ := hA b h
      rw [hm] at q3
      cases q3
    · obtain ⟨g1, g2, _⟩ := e.fr b o q1 (by unfold lent; rw [if_neg h]; exact q2) rfl
      exact ⟨g1, by unfold back; rw [if_neg h]; exact g2, q3⟩
  · obtain ⟨m, d, hm, hd⟩ := hA a ha
    obtain ⟨_, u, h2, h3⟩ := S.mu a m hm
    rw [own a ha u h2] at q
    cases q
    exact repO_tup h3 hd
end
def wCallO (m : List D → Ans) (n : Nat) (wa : WA) : WE := fun ρ M k x => wa ρ M (fun ds M1 => ∃ es A, FrzA M1 ds es A ∧ es.length = n ∧ match m es with
  | .ok d => tupT d = true ∧ k d M1
  | .exc nm fs => tupTs (fs.map (·.2)) = true ∧ x nm fs M1
  | .bad => False) x
theorem RepF.back {K : PySem.W.Frag} {F' : Hp} {A : List Addr} (hA : ∀ a, a ∈ A → ∀ o, F' a = some o → (∀ xs, o ≠ .tup xs) ∧ ∀ u xs, o ≠ .frz u (.tup xs)) : ∀ {vs : List (Str × V)} {fs : List (Str × D)}, tupTs (fs.map (·.2)) = true → RepF K F' vs fs → RepF K (DL.back F' A) vs fs
  | _, _, _, .nil => .nil
  | _, (_, d) :: ds, h, .cons r1 r2 => by
    obtain ⟨h1, h2⟩ := Bool.and_eq_true_iff.mp (show (tupT d && tupTs (ds.map (·.2))) = true from h)
    exact .cons (back_rep hA h1 r1) (RepF.back hA h2 r2)
section
variable {X : Cx} {pos p : Pos} {f : Str} {e : Expr} {es : List Expr} {k n : Nat} {m : List D → Ans} {wa : WA}
theorem de_callO (F : FnD X.prog X.w X.K X.mg X.base f k n (wfOf m)) (hr : Room k X.A) (ha : DA X (e :: es) wa) (hg : Gl X f := by rfl) (hd : (f == ("__debug__" : Str)) = false := by decide)
    (he : starEach (e :: es) X.env = (false, eval e X.env) :: starEach es X.env := by rfl) (hpl : (backTo pos (starEach es X.env)).any (·.1) = false := by rfl) : DE X (.Call (.Name f p) (e :: es) [] pos) (wCallO m n wa) := by
  obtain ⟨a, fd, ps, hn, G, hm, hk, hb⟩ := F.ex
  refine ⟨fun W tk => pe_imp (pe_callS G hr hg hm hk hb (fun σ => passAt tk σ) (ha.pa W tk) hd he hpl) fun σ H Q q => ?_⟩
  obtain ⟨F, M, ρ, k, x, S, R, w, pv, px⟩ := q
  refine ⟨F, M, ρ, _, x, S, R, w, fun vs ds H1 F1 M1 e1 S1 r1 w1 => ?_, px⟩
  obtain ⟨es, A, hf, hl, w1⟩ := w1
  have hA : ∀ a, a ∈ A → ∃ m e, M1 a = some m ∧ frzD m = some e := fun a h => hf.mem h
  refine ⟨lent H1 F1 A, noM, es, fun d _ => tupT d = true ∧ k d M1, fun nm fs _ => tupTs (fs.map (·.2)) = true ∧ x nm fs M1, lent_S S1, lent_rep S1 hA hf (fun _ h => h) r1, hl, ?_, ?_, ?_⟩
  · unfold wfOf
    exact w1
  · intro v d H2 F2 M2 e2 S2 r2 ⟨h1, h2⟩
    obtain ⟨S3, e3, hA3⟩ := back_S S1 hA e2 S2
    exact pv v d H2 _ M1 (e1.trans e3) S3 (back_rep hA3 h1 r2) h2
  · intro nm dd vfs fs H2 F2 M2 e2 S2 hd2 r2 ⟨h1, h2⟩
    obtain ⟨S3, e3, hA3⟩ := back_S S1 hA e2 S2
    exact px nm dd vfs fs H2 _ M1 (e1.trans e3) S3 hd2 (RepF.back hA3 h1 r2) h2
end
end DL
namespace DM
open PySem PySem.Spec PyProof.Rows L2 DL
/-- values, own things as they stand -/
def fzOf : List Vl → Option (List D)
  | [] => some []
  | .v d :: r => (fzOf r).map (d :: ·)
  | .o m :: r => match frzD m with
    | some e => (fzOf r).map (e :: ·)
    | none => none
theorem fz_A {M0 : M0T} {M : MH} : ∀ {us : List Vl} {ds es : List D}, fzOf us = some es → RelVs M0 M us ds → ∃ A, FrzA M ds es A
  | [], _, _, h, .nil => by cases h; exact ⟨_, .nil⟩
  | .v d :: r, _, _, h, .cons h1 h2 => by
    cases h1
    have h : (fzOf r).map (d :: ·) = _ := h
    cases e : fzOf r with
    | none => rw [e] at h; cases h
    | some y => rw [e] at h; cases h; obtain ⟨A, q⟩ := fz_A e h2; exact ⟨A, .val q⟩
  | .o m :: r, _, _, h, .cons h1 h2 => by
    obtain ⟨a, rfl, h3, _⟩ := h1
    have h : (match frzD m with | some e => (fzOf r).map (e :: ·) | none => none) = _ := h
    cases e1 : frzD m with
    | none => rw [e1] at h; cases h
    | some z =>
      rw [e1] at h
      dsimp only at h
      cases e : fzOf r with
      | none => rw [e] at h; cases h
      | some y => rw [e] at h; cases h; obtain ⟨A, q⟩ := fz_A e h2; exact ⟨_, .own h3 e1 q⟩
/-- behind an answer that holds nothing of the caller's own -/
def onRT (a : Ans) (K : KV) (X : XV) : Ans := match a with
  | .ok d => gdR (tupT d) (K (.v d))
  | .exc n fs => gdR (tupTs (fs.map (·.2))) (X n fs)
  | .bad => .bad
def mCallO (m : List D → Ans) (n : Nat) (ma : WMA) : WM := fun r K X => ma r (fun us => oK (fzOf us) fun ds => gdR (Nat.beq ds.length n) (onRT (m ds) K X)) X
theorem me_callO {X : Cx} {pos p : Pos} {f : Str} {e : Expr} {es : List Expr} {k n : Nat} {m : List D → Ans} {ma : WMA} (F : FnD X.prog X.w X.K X.mg X.base f k n (wfOf m)) (hr : Room k X.A) (ha : MA X (e :: es) ma) (hg : Gl X f := by rfl) (hd : (f == ("__debug__" : Str)) = false := by decide)
    (he : starEach (e :: es) X.env = (false, eval e X.env) :: starEach es X.env := by rfl) (hpl : (backTo pos (starEach es X.env)).any (·.1) = false := by rfl) : ME X (.Call (.Name f p) (e :: es) [] pos) (mCallO m n ma) :=
  de_weak (de_callO F hr ha hg hd he hpl) fun ρ M k x ⟨M0, r, K, XX, G, O, L, hk, g⟩ => ⟨M0, r, _, XX, G, O, L, fun us ds hu g => by
    cases e1 : fzOf us with
    | none => rw [e1] at g; exact (L.nb g).elim
    | some es =>
      rw [e1] at g
      obtain ⟨A, hA⟩ := fz_A e1 hu
      obtain ⟨h1, g⟩ := gd_of (gdR_in L.nb g fun g => g)
      refine ⟨es, A, hA, Nat.eq_of_beq_eq_true h1, ?_⟩
      revert g
      cases m es with
      | ok d => intro g; obtain ⟨h2, g⟩ := gd_of (gdR_in L.nb g fun g => g); exact ⟨h2, hk (.v _) _ rfl g⟩
      | exc nm fs => intro g; obtain ⟨h2, g⟩ := gd_of (gdR_in L.nb g fun g => g); exact ⟨h2, L.xc _ _ g⟩
      | bad => exact fun g => L.nb g, g⟩
end DM

/-! Displays of dicts with written text keys; list + list as a new list that may be changed. -/
namespace DL
open PySem PySem.Spec PyProof.Rows L2
/-- a thing at p that nobody was told of becomes another, frozen one -/
theorem RepS.told {K : PySem.W.Frag} {H F : Hp} {M : MH} {p : Addr} (S : RepS K H F M) (hf : F p = none) (hm : M p = none) (o : HO) : RepS K (upd H p o) (upd F p o) M ∧ Same F (upd F p o) := by
  have sF : Same F (upd F p o) := fun b u q => by rw [upd_ne (ne_of_none q hf)]; exact q
  refine ⟨⟨fun b u q => ?_, fun b m q => ?_⟩, sF⟩
  · by_cases hb : b = p
    · subst hb; rw [upd_same] at q ⊢; exact q
    · rw [upd_ne hb] at q ⊢; exact S.fz b u q
  · have hb : b ≠ p := fun z => by rw [z, hm] at q; cases q
    obtain ⟨q1, u, q2, q3⟩ := S.mu b m q
    exact ⟨by rw [upd_ne hb]; exact q1, u, by rw [upd_ne hb]; exact q2, q3.mono sF⟩
theorem Ext.told {H F : Hp} {M : MH} {H' F' : Hp} {M' : MH} {p : Addr} (e : Ext H F M H' F' M') (hp : H p = none) (sF : Same F' (upd F' p o)) : Ext H F M (upd H' p o) (upd F' p o) M' :=
  ⟨e.sm.trans sF, fun b u q1 q2 q3 => by
    have hb : b ≠ p := fun z => by rw [z, hp] at q1; cases q1
    rw [upd_ne hb, upd_ne hb]
    exact e.fr b u q1 q2 q3⟩
structure DKs (X : Cx) (pos : Pos) (keys : List (Option Expr)) (values : List Expr) (ks : List Str) (wa : WA) : Prop where
  run : ∀ W, Takes X W → ∃ trs, PPs X pos keys values trs ∧ keys.length = ks.length ∧ values.length = ks.length ∧ keys.all (·.isSome) = true ∧
    ∀ σ H F M ρ k x (Q : List (V × V) → Hp → Prop), RepS X.K H F M → RepE X.K F σ ρ → wa ρ M k x → PostX X.K H F M x (fun c d => W c d σ) →
      (∀ vs ds H' F' M', Ext H F M H' F' M' → RepS X.K H' F' M' → Reps X.K F' vs ds → ds.length = ks.length → k ds M' → Q ((ks.zip vs).map fun p => (.str p.1, p.2)) H') → tPairs trs σ H Q
theorem dks_nil {X : Cx} {pos : Pos} : DKs X pos [] [] [] wNil := ⟨fun W _ => ⟨[], pps_nil, rfl, rfl, rfl, fun σ H F M ρ k x Q S R w px f => f [] [] H F M (Ext.refl _ _ _) S .nil rfl w⟩⟩
theorem dks_cons {X : Cx} {pos p : Pos} {z : Str} {j} {v : Expr} {keys : List (Option Expr)} {values : List Expr} {ks : List Str} {we : WE} {wa : WA} (he : DE X v we) (h : DKs X pos keys values ks wa) :
    DKs X pos (some (.Constant (.str z) j p) :: keys) (v :: values) (z :: ks) (wCons we wa) := ⟨fun W tk => by
  obtain ⟨trs, h1, h2, h3, h4, h5⟩ := h.run W tk
  refine ⟨_, pps_cons pe_str (he.pe W tk) h1, by simp [h2], by simp [h3], by simpa using h4, fun σ H F M ρ k x Q S R w px f => ?_⟩
  show tOf X.K W we σ H fun y H2 => tPairs trs σ H2 fun ps H3 => Q ((.str z, y) :: ps) H3
  refine ⟨F, M, ρ, _, x, S, R, w, fun y d H1 F1 M1 e1 S1 r1 w1 => ?_, px⟩
  exact h5 σ H1 F1 M1 ρ _ x _ S1 (R.mono e1.sm) w1 (px.on e1) fun vs ds H2 F2 M2 e2 S2 r2 l2 w2 => f (y :: vs) (d :: ds) H2 F2 M2 (e1.trans e2) S2 (.cons (r1.mono e2.sm) r2) (by simp [l2]) w2⟩
/-- {'a': e, ..}: a dict that is only read -/
def wDsp (ks : List Str) (wa : WA) : WE := fun ρ M k x => wa ρ M (fun ds M1 => k (.dct ks ds) M1) x
theorem merge_kvz : ∀ (ks : List Str) (vs : List V) (acc : List (Key × V)), ks.length = vs.length → ks.Nodup → (∀ z, z ∈ ks → valV acc (.inr z) = none) → mergeK acc (kvz ks vs) = acc ++ kvz ks vs
  | [], _, acc, _, _, _ => by show acc = acc ++ []; rw [List.append_nil]
  | _ :: _, [], _, h, _, _ => by simp at h
  | z :: ks, v :: vs, acc, h, hn, ha => by
    obtain ⟨n1, n2⟩ := List.nodup_cons.mp hn
    rw [kvz_cons]
    show mergeK (putK acc (.inr z) v) (kvz ks vs) = _
    rw [putK_new v (ha z List.mem_cons_self)]
    rw [merge_kvz ks vs (acc ++ [((.inr z : Key), v)]) (by simpa using h) n2 fun y hy => ?_, List.append_assoc]
    · rfl
    · rw [valV_snoc _ _ _ _ (ha z List.mem_cons_self), if_neg fun e => n1 (by cases e; exact hy)]
      exact ha y (List.mem_cons_of_mem _ hy)
theorem kvz_pairs (ks : List Str) (vs : List V) : ((ks.zip vs).map fun p => (V.str p.1, p.2)) = (kvz ks vs).map fun kv => (kV kv.1, kv.2) := by
  unfold kvz
  rw [List.map_map]
  rfl
theorem de_dsp {X : Cx} {pos : Pos} {keys : List (Option Expr)} {values : List Expr} {ks : List Str} {wa : WA} (h : DKs X pos keys values ks wa) (h0 : ks ≠ [] := by intro h; cases h) (hn : ks.Nodup := by decide +kernel) (h15 : ks.length ≤ 15 := by decide) : DE X (.Dict keys values pos) (wDsp ks wa) := by
  refine ⟨fun W tk => ?_⟩
  obtain ⟨trs, h1, h2, h3, h4, h5⟩ := h.run W tk
  refine pe_imp (pe_disp h1 h4 (h2.trans h3.symm) (fun e => h0 (by rw [e] at h2; exact List.length_eq_zero_iff.mp h2.symm)) (by rw [h2]; exact h15)) fun σ H Q q => ?_
  obtain ⟨F, M, ρ, k, x, S, R, w, pv, px⟩ := q
  intro p hp
  have fp := S.fno hp
  have mp := S.mno hp
  have e0 : Ext H F M (upd H p (.dK [])) F M := (Ext.refl H F M).at_new hp _
  refine h5 σ _ F M ρ _ x _ (S.untold fp mp _) R w (px.on e0) fun vs ds H2 F2 M2 e2 S2 r2 l2 w2 => ?_
  obtain ⟨g1, g2, g3⟩ := e2.fr p _ upd_same fp mp
  have hv : ks.length = vs.length := by rw [r2.length, l2]
  refine ⟨g1, kvz ks vs, kvz_pairs ks vs, by rw [kvz_len hv, r2.length, l2]; exact h15, ?_⟩
  have em : mergeK [] (kvz ks vs) = kvz ks vs := merge_kvz ks vs [] hv hn fun z _ => rfl
  rw [em]
  obtain ⟨S3, sF⟩ := S2.told g2 g3 (.dK (kvz ks vs))
  have e3 : Ext H F M (upd H2 p (.dK (kvz ks vs))) (upd F2 p (.dK (kvz ks vs))) M2 := (e0.trans e2).told hp sF
  exact pv _ _ _ _ _ e3 S3 (.dct upd_same (r2.mono sF) l2.symm (by rw [l2, sizeLine_eq]; omega)) w2
/-- list + list, to be changed -/
def rAddM : RD := fun d e M k => match d, e with
  | .lst a, .lst b => a.length + b.length ≤ sizeLine ∧ ∀ p, M p = none → k (.ref p) (mupd M p (.lst (a ++ b)))
  | _, _ => False
theorem od_addM {X : Cx} : OpD X (binaryOp .Add) rAddM := by
  refine ⟨_, op_cat, fun d e v u H F M k Q S rd re h pv => ?_⟩
  cases d with
  | lst as =>
    cases e with
    | lst bs =>
      cases rd with
      | @lst a xs _ ha ra la =>
      cases re with
      | @lst b ys _ hb rb lb =>
      have hz : xs.length + ys.length ≤ sizeLine := by rw [ra.length, rb.length]; exact h.1
      refine ⟨a, b, xs, ys, rfl, rfl, S.fz _ _ ha, S.fz _ _ hb, hz, fun p hp => ?_⟩
      obtain ⟨S2, e2⟩ := S.layM hp (o := .lst (xs ++ ys)) (m := .lst (as ++ bs)) ⟨_, rfl, ra.append rb, by rw [List.length_append]; exact h.1⟩
      exact pv _ _ _ _ _ e2 S2 (.ref p) (h.2 p (S.mno hp))
    | _ => exact h.elim
  | _ => exact h.elim
end DL

namespace DL
open PySem PySem.Spec PyProof.Rows L2
/-- an own exception by the facts of the top -/
theorem ex_of {P : Program} {w : World} {K : PySem.W.Frag} {mg : Str → Option Value} {base : Heap} {nm qual p f tg : Str} {st : Stmt} {fI : Addr} {fd : FuncData} {p1 p2 p3 p4 p5 p6 p7 p8 : Pos} {j : Nat} {rs : List (Str × Option Str)} {tb : XTab} (hx : excsB rs tb K = true) (hm : (nm, some f) ∈ rs)
    (hI : L2.Meth K (He.ga K nm) "__init__" fI) (G : Fun K "__init__" qual st fI fd) (S : FnScope ["self", p] ["self", p] (defScope st))
    (hb : defBody st = [.Assign [.Attribute (.Name "self" p1) f p2] (.Name p p3) p4, .Assign [.Attribute (.Name "self" p5) "tag" p6] (.Constant (.str tg) j p7) p8])
    (hps : Vis (defScope st) "self" ∧ Vis (defScope st) p) (hd : (p == ("__debug__" : Str)) = false) (hcd : (p == ("__classdict__" : Str)) = false) (hg : mg nm = some (.ref (He.ga K nm)))
    (bi : ∀ (kV doc pm : Value) (an : Option Addr) (cdv ct : Value) (us : List Value), us.length = 2 → bindArgs (PySem.W.fnOf "__init__" qual (defArgs st) (defBody st) (defScope st) .none kV doc pm an cdv ct) ⟨us, []⟩ = pure (([("self" : Str), p] : List Str).zip us)) :
    ExD P w K mg base nm f tg 1 := by
  obtain ⟨h1, h2, h3⟩ := excsB_one hx hm
  exact ⟨h1, ⟨fI, fd, ["self", p], hI.at_, by have := hI.fn; unfold PySem.W.isFn at this; exact eq_of_beq this, fn_X G S hb hps hd hcd h1 (h3 f rfl).2 h2.2, G.binds bi⟩, hg⟩
end DL

/-! Instances: their attributes. -/
namespace DL
open PySem PySem.Spec PyProof.Rows L2
/-- an attribute of instances of the class named C -/
structure AtF (K : PySem.W.Frag) (C f : Str) : Prop where
  cls : Cls K (He.ga K C)
  no : NoAttr K (He.ga K C) f
def fldD (C f : Str) (d : D) (M : MH) : Option D := match d with
  | .obj C' ks xs => if C' = C then getL ks xs f else none
  | .ref a => match M a with
    | some (.ins C' ks xs) => if C' = C then getL ks xs f else none
    | _ => none
  | _ => none
def wFld (C f : Str) (wa : WE) : WE := fun ρ M k x => wa ρ M (fun d M1 => onO (fldD C f d M1) fun y => k y M1) x
theorem lookup_zip {α : Type} : ∀ {ks : List Str} {xs : List α} {f : Str} {y : α}, getL ks xs f = some y → (ks.zip xs).lookup f = some y
  | [], _, _, _, h => by cases h
  | _ :: _, [], _, _, h => by cases h
  | k :: ks, x :: xs, f, y, h => by
    have h : (if k = f then some x else getL ks xs f) = some y := h
    show List.lookup f ((k, x) :: ks.zip xs) = some y
    rw [List.lookup_cons]
    by_cases e : k = f
    · subst e
      rw [if_pos rfl] at h
      rw [beq_self_eq_true]
      exact h
    · rw [if_neg e] at h
      rw [show (f == k) = false from beq_eq_false_iff_ne.mpr fun z => e z.symm]
      exact lookup_zip h
section
variable {X : Cx} {e : Expr} {pos : Pos} {wa : WE}
theorem de_fld {C f : Str} (A : AtF X.K C f) (ha : DE X e wa) (hb : attributeBase e f X.env (eval e X.env) = eval e X.env := by rfl) : DE X (.Attribute e f pos) (wFld C f wa) := by
  refine ⟨fun W tk => pe_imp (pe_fld (ha.pe W tk) hb) fun σ H Q q => ?_⟩
  obtain ⟨F, M, ρ, k, x, S, E, w, pv, px⟩ := q
  refine ⟨F, M, ρ, _, x, S, E, w, fun v d H1 F1 M1 e1 S1 r1 w1 => ?_, px⟩
  have pv1 := pv.on e1
  obtain ⟨y, h1, h2⟩ := onO_of w1
  cases d with
  | obj C' ks ds =>
    have h1 : (if C' = C then getL ks ds f else none) = some y := h1
    by_cases hC : C' = C
    · subst hC
      rw [if_pos rfl] at h1
      cases r1 with
      | obj hx hr hl =>
        obtain ⟨z, h3, h4⟩ := hr.getL h1
        exact ⟨_, _, _, _, z, rfl, S1.fz _ _ hx, A.cls, A.no, lookup_zip h3, pv1.at S1 h4 h2⟩
    · rw [if_neg hC] at h1; cases h1
  | ref a =>
    cases r1
    have h1 : (match M1 a with
      | some (.ins C' ks xs) => if C' = C then getL ks xs f else none
      | _ => none) = some y := h1
    cases hm : M1 a with
    | none => rw [hm] at h1; cases h1
    | some m =>
      rw [hm] at h1
      cases m with
      | ins C' ks ds =>
        have h1 : (if C' = C then getL ks ds f else none) = some y := h1
        by_cases hC : C' = C
        · subst hC
          rw [if_pos rfl] at h1
          obtain ⟨_, o, ho, dx, xs, rfl, hr, hl⟩ := S1.mu a _ hm
          obtain ⟨z, h3, h4⟩ := hr.getL h1
          exact ⟨_, _, _, _, z, rfl, ho, A.cls, A.no, lookup_zip h3, pv1.at S1 h4 h2⟩
        · rw [if_neg hC] at h1; cases h1
      | lst _ => cases h1
      | dct _ _ => cases h1
      | dcT _ _ => cases h1
      | tab _ => cases h1
  | _ => cases h1
end
/-- an attribute set: the values in the order of the names -/
def setX {α : Type} : List Str → List α → Str → α → List α
  | [], _, _, v => [v]
  | k :: ks, x :: xs, f, v => if k = f then v :: xs else x :: setX ks xs f v
  | _ :: _, [], _, _ => []
def setK : List Str → Str → List Str
  | [], f => [f]
  | k :: ks, f => if k = f then k :: ks else k :: setK ks f
theorem putF_zip {f : Str} {v : V} : ∀ {ks : List Str} {xs : List V}, ks.length = xs.length → putF f v (ks.zip xs) = (setK ks f).zip (setX ks xs f v)
  | [], [], _ => rfl
  | k :: ks, x :: xs, h => by
    show (if k = f then (k, v) :: ks.zip xs else (k, x) :: putF f v (ks.zip xs)) = (if k = f then k :: ks else k :: setK ks f).zip (if k = f then v :: xs else x :: setX ks xs f v)
    by_cases e : k = f
    · rw [if_pos e, if_pos e, if_pos e]; rfl
    · rw [if_neg e, if_neg e, if_neg e, putF_zip (Nat.succ.inj h)]; rfl
  | [], _ :: _, h => by cases h
  | _ :: _, [], h => by cases h
theorem Reps.setX {K : PySem.W.Frag} {F : Hp} {f : Str} {v : V} {d : D} (hv : Rep K F v d) : ∀ {ks : List Str} {xs : List V} {ds : List D}, Reps K F xs ds → ks.length = ds.length → Reps K F (DL.setX ks xs f v) (DL.setX ks ds f d)
  | [], _, _, .nil, _ => .cons hv .nil
  | k :: ks, _, _, .cons h r, e => by
    show Reps K F (if k = f then _ else _) (if k = f then _ else _)
    by_cases z : k = f
    · rw [if_pos z, if_pos z]; exact .cons hv r
    · rw [if_neg z, if_neg z]; exact .cons h (Reps.setX hv r (Nat.succ.inj e))
  | [], _, _, .cons _ _, e => by cases e
  | _ :: _, _, _, .nil, e => by cases e
theorem setX_len {α : Type} {f : Str} {v : α} : ∀ {ks : List Str} {xs : List α}, ks.length = xs.length → (setK ks f).length = (setX ks xs f v).length
  | [], [], _ => rfl
  | k :: ks, x :: xs, h => by
    show (if k = f then k :: ks else k :: setK ks f).length = (if k = f then v :: xs else x :: setX ks xs f v).length
    by_cases z : k = f
    · rw [if_pos z, if_pos z]; exact h
    · rw [if_neg z, if_neg z, List.length_cons, List.length_cons, setX_len (Nat.succ.inj h)]
  | [], _ :: _, h => by cases h
  | _ :: _, [], h => by cases h
/-- o.f = e -/
def wSetA (C f : Str) (wo we : WE) : WS := fun ρ M E => we ρ M (fun d M1 => wo ρ M1 (fun o M2 => ∃ a ks ds, o = .ref a ∧ M2 a = some (.ins C ks ds) ∧ ks.length < 1000 ∧ E.nx ρ (mupd M2 a (.ins C (setK ks f) (setX ks ds f d)))) E.xc) E.xc
section
variable {X : Cx} {o e : Expr} {pos pt : Pos} {wo we : WE}
theorem ds_setA {C f : Str} (A : AtF X.K C f) (ho : DE X o wo) (he : DE X e we) (hs : swapsWith e (some (.Attribute o f pt)) pos.line X.env = pure false := by rfl) : DS X (.Assign [.Attribute o f pt] e pos) (wSetA C f wo we) := by
  refine ⟨fun W tk _ => ps_imp (ps_fld (ho.pe W tk) (he.pe W tk) hs) fun D σ H q => ?_⟩
  obtain ⟨F, M, ρ, E, S, R, w, fi⟩ := q
  refine ⟨F, M, ρ, _, _, S, R, w, fun v d H1 F1 M1 e1 S1 r1 w1 => ?_, fi.xc σ⟩
  refine ⟨F1, M1, ρ, _, _, S1, R.mono e1.sm, w1, fun vo od H2 F2 M2 e2 S2 r2 w2 => ?_, (fi.xc σ).on e1⟩
  have e12 := e1.trans e2
  obtain ⟨a, ks, ds, rfl, hm, hl, w3⟩ := w2
  cases r2
  obtain ⟨_, u, hx, dx, xs, rfl, hr, hk⟩ := S2.mu a _ hm
  have hz : ks.length = xs.length := hk.trans hr.length.symm
  obtain ⟨S3, e3⟩ := S2.write hm (o := .ins (He.ga X.K C) dx (putF f v (ks.zip xs))) (m := .ins C (setK ks f) (setX ks ds f d)) ⟨dx, setX ks xs f v, by rw [putF_zip hz], hr.setX (r1.mono e2.sm) hk, setX_len hk⟩
  have e := e12.trans e3
  refine ⟨a, _, dx, _, rfl, hx, A.cls, A.no, ?_, fi.nx _ _ _ _ _ e S3 (R.mono e.sm) w3⟩
  rw [List.length_zip]
  omega
end
end DL

/-! Methods called, instances made: what an exception leaves is told by the slots. -/
namespace DL
open PySem PySem.Spec PyProof.Rows L2
section
variable {X : Cx} {CX : CXT} {k : Nat} {f C : Addr} {fd : FuncData} {ps : List Str} {sp : Sp} {E : L2.St → XK} {x m : Str} {p pos apos : Pos} {e o : Expr} {es : List Expr} {ta : TE} {t : TA}
def tMethS (C : Addr) (m : Str) (sp : Sp) (E : L2.St → XK) (ta : TE) (t : TA) : TE := fun σ H Q => ta σ H fun x H1 => ∃ a dx fs, x = .ref a ∧ H1 a = some (.ins C dx fs) ∧ fs.lookup m = none ∧
  t σ H1 fun vs H2 => sp (x :: vs) H2 Q (E σ)
theorem pe_methAt {pl : Sem Bool} (he : PE X o ta) (c : Cls X.K C) (hm : Meth X.K C m f) (F : FnOk X.prog X.w X.K X.mg X.base CX k f fd ps sp) (hr : Room k X.A) (hb : Binds X.K fd ps []) (hx : ∀ σ, PassesAt CX X σ (E σ)) (ha : PA X (e :: es) t)
    (hst : starEach (e :: es) X.env = (false, eval e X.env) :: starEach es X.env := by rfl) (hpl : (backTo pos (starEach es X.env)).any (·.1) = false := by rfl)
    (ht : eval (.Call (.Attribute o m apos) (e :: es) [] pos) X.env = (do
      let ov ← eval o X.env
      standAt apos.atName
      let (f, first) ← holding [ov] (getMethod ov m pl)
      callWith pos f first (backTo pos (starEach (e :: es) X.env)) (backToKw pos (keywordEach [] X.env))) := by rfl) :
    PE X (.Call (.Attribute o m apos) (e :: es) [] pos) (tMethS C m sp E ta t) := by
  refine ⟨fun pins s σ H Q I h => ?_⟩
  refine PySem.W.methodCall_KW (pl := pl) (thn (he.run pins s σ H _ I h) fun u s1 ⟨x, H1, I1, rx, a, dx, fs, ex, ea, l, q⟩ => ?_) ht
  subst ex
  obtain rfl : u = Value.ref a := rx
  refine getmeth_ok I1 ea c hm l ?_
  refine PySem.W.callWith_K (first := [.ref a]) (h₀ := X.base) I.ok.mod.kin hm.kp (thn (ha.run pos pins s1 σ H1 _ I1 q) fun us s2 ⟨vs, H2, I2, r, q2⟩ => ⟨I2.kIn, ?_⟩) hst hpl
  exact run_fnS (us := .ref a :: us) (vs := .ref a :: vs) F hr hb (hx σ) I2 (.cons rfl r) q2
theorem pe_methAt0 {pl : Sem Bool} (he : PE X o ta) (c : Cls X.K C) (hm : Meth X.K C m f) (F : FnOk X.prog X.w X.K X.mg X.base CX k f fd ps sp) (hr : Room k X.A) (hb : Binds X.K fd ps []) (hx : ∀ σ, PassesAt CX X σ (E σ))
    (ht : eval (.Call (.Attribute o m apos) [] [] pos) X.env = (do
      let ov ← eval o X.env
      standAt apos.atName
      let (f, first) ← holding [ov] (getMethod ov m pl)
      callWith pos f first (backTo pos (starEach [] X.env)) (backToKw pos (keywordEach [] X.env))) := by rfl) :
    PE X (.Call (.Attribute o m apos) [] [] pos) (tMethS C m sp E ta tNil) := by
  refine ⟨fun pins s σ H Q I h => ?_⟩
  refine PySem.W.methodCall_KW (pl := pl) (thn (he.run pins s σ H _ I h) fun u s1 ⟨x, H1, I1, rx, a, dx, fs, ex, ea, l, q⟩ => ?_) ht
  subst ex
  obtain rfl : u = Value.ref a := rx
  refine getmeth_ok I1 ea c hm l ?_
  exact PySem.W.callWith_K0 (first := [.ref a]) I1.kIn hm.kp (run_fnS (us := [.ref a]) (vs := [.ref a]) F hr hb (hx σ) I1 (.cons rfl .nil) q)
end
end DL

/-! Instances made and frozen, methods, properties: the wishes. -/
namespace DL
open PySem PySem.Spec PyProof.Rows L2 _root_.DM
/-- an instance of the class named C without an attribute named m -/
def insB (C m : Str) (d : D) (M : MH) : Bool := match d with
  | .obj C' ks _ => decide (C' = C) && decide (m ∉ ks)
  | .ref a => match M a with
    | some (.ins C' ks _) => decide (C' = C) && decide (m ∉ ks)
    | _ => false
  | _ => false
theorem lookup_none {α : Type} {m : Str} : ∀ {ks : List Str} {xs : List α}, m ∉ ks → (ks.zip xs).lookup m = none
  | [], _, _ => rfl
  | _ :: _, [], _ => rfl
  | k :: ks, x :: xs, h => by
    show List.lookup m ((k, x) :: ks.zip xs) = none
    rw [List.lookup_cons, show (m == k) = false from beq_eq_false_iff_ne.mpr fun z => h (by rw [z]; exact List.mem_cons_self)]
    exact lookup_none fun z => h (List.mem_cons_of_mem _ z)
theorem ins_of {K : PySem.W.Frag} {H F : Hp} {M : MH} {C m : Str} {d : D} {v : V} (S : RepS K H F M) (r : Rep K F v d) (h : insB C m d M = true) : ∃ a dx fs, v = .ref a ∧ H a = some (.ins (He.ga K C) dx fs) ∧ fs.lookup m = none := by
  cases d with
  | obj C' ks xs =>
    obtain ⟨h1, h2⟩ := Bool.and_eq_true_iff.mp (show (decide (C' = C) && decide (m ∉ ks)) = true from h)
    obtain rfl := of_decide_eq_true h1
    cases r with
    | obj hx hr hl => exact ⟨_, _, _, rfl, S.fz _ _ hx, lookup_none (of_decide_eq_true h2)⟩
  | ref a =>
    cases r
    have h : (match M a with
      | some (.ins C' ks _) => decide (C' = C) && decide (m ∉ ks)
      | _ => false) = true := h
    cases hm : M a with
    | none => rw [hm] at h; cases h
    | some o =>
      rw [hm] at h
      cases o with
      | ins C' ks ds =>
        obtain ⟨h1, h2⟩ := Bool.and_eq_true_iff.mp (show (decide (C' = C) && decide (m ∉ ks)) = true from h)
        obtain rfl := of_decide_eq_true h1
        obtain ⟨_, o, ho, dx, xs, rfl, hr, hl⟩ := S.mu a _ hm
        exact ⟨_, _, _, rfl, ho, lookup_none (of_decide_eq_true h2)⟩
      | _ => cases h
  | _ => cases h
/-- a method m of the class named C -/
structure MethD (P : Program) (w : World) (K : PySem.W.Frag) (base : Heap) (mg : Str → Option Value) (C m : Str) (k n : Nat) (wf : WF) : Prop where
  cls : Cls K (He.ga K C)
  ex : ∃ (a : Addr) (fd : FuncData) (ps : List Str), ps.length = n ∧ FnOk P w K mg base (L2.CX P w) k a fd ps (spD K n wf) ∧ L2.Meth K (He.ga K C) m a ∧ Binds K fd ps []
/-- o.m(..); n: how many arguments, self among them -/
def wMeth (C m : Str) (wf : WF) (n : Nat) (wo : WE) (wa : WA) : WE := fun ρ M k x => wo ρ M (fun d M1 => gd (insB C m d M1) (wa ρ M1 (fun ds M2 => gd (Nat.beq (ds.length + 1) n) (wf (d :: ds) M2 k x)) x)) x
section
variable {X : Cx} {pos apos p : Pos} {C m : Str} {o e : Expr} {es : List Expr} {k n : Nat} {wf : WF} {wo : WE} {wa : WA}
theorem de_meth {pl : Sem Bool} (F : MethD X.prog X.w X.K X.base X.mg C m k n wf) (hr : Room k X.A) (ho : DE X o wo) (ha : DA X (e :: es) wa)
    (hst : starEach (e :: es) X.env = (false, eval e X.env) :: starEach es X.env := by rfl) (hpl : (backTo pos (starEach es X.env)).any (·.1) = false := by rfl)
    (ht : eval (.Call (.Attribute o m apos) (e :: es) [] pos) X.env = (do
      let ov ← eval o X.env
      standAt apos.atName
      let (f, first) ← holding [ov] (getMethod ov m pl)
      callWith pos f first (backTo pos (starEach (e :: es) X.env)) (backToKw pos (keywordEach [] X.env))) := by rfl) :
    DE X (.Call (.Attribute o m apos) (e :: es) [] pos) (wMeth C m wf n wo wa) := by
  obtain ⟨a, fd, ps, hn, G, hm, hb⟩ := F.ex
  refine ⟨fun W tk => pe_imp (pe_methAt (ho.pe W tk) F.cls hm G hr hb (fun σ => passAt tk σ) (ha.pa W tk) hst hpl ht) fun σ H Q q => ?_⟩
  obtain ⟨F1, M, ρ, k, x, S, R, w, pv, px⟩ := q
  refine ⟨F1, M, ρ, _, x, S, R, w, fun v d H1 F1 M1 e1 S1 r1 w1 => ?_, px⟩
  obtain ⟨hi, w1⟩ := gd_of w1
  obtain ⟨a, dx, fs, rfl, h1, h2⟩ := ins_of S1 r1 hi
  refine ⟨a, dx, fs, rfl, h1, h2, F1, M1, ρ, _, x, S1, R.mono e1.sm, w1, fun vs ds H2 F2 M2 e2 S2 r2 w2 => ?_, px.on e1⟩
  obtain ⟨hl, w2⟩ := gd_of w2
  exact ⟨F2, M2, d :: ds, k, x, S2, .cons (r1.mono e2.sm) r2, Nat.eq_of_beq_eq_true hl, w2, pv.on (e1.trans e2), px.on (e1.trans e2)⟩
theorem de_meth0 {pl : Sem Bool} (F : MethD X.prog X.w X.K X.base X.mg C m k n wf) (hr : Room k X.A) (ho : DE X o wo)
    (ht : eval (.Call (.Attribute o m apos) [] [] pos) X.env = (do
      let ov ← eval o X.env
      standAt apos.atName
      let (f, first) ← holding [ov] (getMethod ov m pl)
      callWith pos f first (backTo pos (starEach [] X.env)) (backToKw pos (keywordEach [] X.env))) := by rfl) :
    DE X (.Call (.Attribute o m apos) [] [] pos) (wMeth C m wf n wo wNil) := by
  obtain ⟨a, fd, ps, hn, G, hm, hb⟩ := F.ex
  refine ⟨fun W tk => pe_imp (pe_methAt0 (ho.pe W tk) F.cls hm G hr hb (fun σ => passAt tk σ) ht) fun σ H Q q => ?_⟩
  obtain ⟨F1, M, ρ, k, x, S, R, w, pv, px⟩ := q
  refine ⟨F1, M, ρ, _, x, S, R, w, fun v d H1 F1 M1 e1 S1 r1 w1 => ?_, px⟩
  obtain ⟨hi, w1⟩ := gd_of w1
  obtain ⟨a, dx, fs, rfl, h1, h2⟩ := ins_of S1 r1 hi
  refine ⟨a, dx, fs, rfl, h1, h2, ?_⟩
  obtain ⟨hl, w2⟩ := gd_of w1
  exact ⟨F1, M1, [d], k, x, S1, .cons r1 .nil, Nat.eq_of_beq_eq_true hl, w2, pv.on e1, px.on e1⟩
end
/-! ### instances made, told frozen -/
/-- what an __init__ does to a new instance -/
def mkWf (C : Str) (m : List D → Ans) : WF := fun ds M k x => match ds with
  | .ref a :: args => M a = some (.ins C [] []) ∧ match m args with
    | .ok d => ∀ ks xs, d = .obj C ks xs → k .non (mupd M a (.ins C ks xs))
    | .exc nm fs => x nm fs (mdel M a)
    | .bad => False
  | _ => False
structure MakeD (P : Program) (w : World) (K : PySem.W.Frag) (mg : Str → Option Value) (base : Heap) (C : Str) (k n : Nat) (m : List D → Ans) : Prop where
  ex : ∃ (f : Addr) (fd : FuncData) (ps : List Str), ps.length = n + 1 ∧ FnOk P w K mg base (L2.CX P w) k f fd ps (spD K (n + 1) (mkWf C m)) ∧ Mk K (He.ga K C) f ∧ mg C = some (.ref (He.ga K C)) ∧ Binds K fd ps []
section
variable {X : Cx} {k : Nat} {f C : Addr} {fd : FuncData} {ps : List Str} {sp : Sp} {E : L2.St → XK}
theorem run_makeS {pins : List (Addr × Obj)} {σ : L2.St} {H : Hp} {s : Shared} {Q : VK} {us : List Value} {vs : List V} {CX : CXT} (M : Mk X.K C f) (F : FnOk X.prog X.w X.K X.mg X.base CX k f fd ps sp) (hr : Room (k + 1) X.A) (hb : Binds X.K fd ps [])
    (hx : PassesAt CX X σ (E σ)) (I : Inv X pins σ H s) (r : Vals vs us)
    (h : ∀ x dx, H x = none → H dx = none → dx ≠ x → sp (.ref x :: vs) (upd (upd H dx (.own x)) x (.ins C dx [])) (fun v H2 => v = .non ∧ Q (.ref x) H2) (E σ)) :
    wpAny (model X.prog X.w) X.A (call (.ref C) us) (EP X pins σ Q) X.xe s := by
  have hq := h (s.heap.objs.size + 1) s.heap.objs.size (I.hok.fresh (Nat.le_succ _)) (I.hok.fresh (Nat.le_refl _)) (Nat.ne_of_lt (Nat.lt_succ_self _))
  have I2 := Inv.made (C := C) I
  have r2 : Vals (V.ref (s.heap.objs.size + 1) :: vs) (Value.ref (s.heap.objs.size + 1) :: us) := .cons rfl r
  have hl : (Value.ref (s.heap.objs.size + 1) :: us).length = ps.length := by
    have e := r2.length
    rw [F.len _ _ _ _ hq] at e
    exact e.symm
  have b := hb _ (Value.ref (s.heap.objs.size + 1) :: us) I2.kIn (by rw [List.append_nil]; exact hl)
  rw [List.append_nil] at b
  refine wpAny_call (make_map (f := f) I.kIn M.makes M.init (beq_iff_eq.mp M.fn) (codeAny_mono (F.run _ X.stack _ _ ⟨Value.ref (s.heap.objs.size + 1) :: us, []⟩ (Value.ref (s.heap.objs.size + 1) :: us) _ _ (E σ) (hr.make C us [])
    (I2.env0.make C us []) b r2 hq) fun r s' hq' => ?_))
  cases r with
  | error e => exact hx pins _ _ e s' I2 hq'
  | ok fl =>
    cases fl with
    | ret u =>
      obtain ⟨v, H', I3, rv, ev, q3⟩ := I2.after hq'
      subst ev
      exact ⟨rv, ⟨V.ref (s.heap.objs.size + 1), H', I3, rfl, q3⟩⟩
    | next => exact False.elim hq'
    | brk => exact False.elim hq'
    | cont => exact False.elim hq'
end
theorem mdel_upd {M : MH} {a : Addr} {o : MO} (h : M a = none) : mdel (mupd M a o) a = M := by
  funext b
  unfold mdel mupd
  by_cases e : b = a
  · rw [if_pos e, e, h]
  · rw [if_neg e, if_neg e]
section
variable {X : Cx} {pos p : Pos} {C : Str} {e : Expr} {es : List Expr} {k n : Nat} {m : List D → Ans} {wa : WA}
/-- the wish of a frozen new instance, at the machine's call -/
theorem make_in {W : WX} (tk : Takes X W) {σ : L2.St} {H F : Hp} {M : MH} {K : KD} {x : KE} {Q : VK} {ds : List D} {vs : List V} (S : RepS X.K H F M) (r : Reps X.K F vs ds) (hl : ds.length = n) (w : wfOf m ds M K x) (pv : PostV X.K H F M K Q) (px : PostX X.K H F M x (fun c d => W c d σ)) :
    ∀ a dx, H a = none → H dx = none → dx ≠ a → spD X.K (n + 1) (mkWf C m) (.ref a :: vs) (upd (upd H dx (.own a)) a (.ins (He.ga X.K C) dx [])) (fun v H2 => v = .non ∧ Q (.ref a) H2) (fun c d => W c d σ) := by
  intro a dx ha hdx hne
  obtain ⟨S1, e1⟩ := S.lay hdx (.own a)
  have ha1 : upd H dx (.own a) a = none := by rw [upd_ne (fun z => hne z.symm)]; exact ha
  obtain ⟨S2, e2⟩ := S1.layM ha1 (o := .ins (He.ga X.K C) dx []) (m := .ins C [] []) ⟨dx, [], rfl, .nil, rfl⟩
  have e := e1.trans e2
  have hM : M a = none := S.mno ha
  refine ⟨_, _, .ref a :: ds, fun d M' => d = .non ∧ ∃ ks xs, M' = mupd (mupd M a (.ins C [] [])) a (.ins C ks xs) ∧ K (.obj C ks xs) M, fun nm fs M' => M' = M ∧ x nm fs M, S2, .cons (.ref a) (r.mono e.sm), by rw [List.length_cons, hl], ?_, ?_, ?_⟩
  · refine ⟨mupd_same, ?_⟩
    unfold wfOf at w
    revert w
    cases hmd : m ds with
    | ok d => exact fun w ks xs z => ⟨rfl, ks, xs, rfl, z ▸ w⟩
    | exc nm fs => exact fun w => ⟨mdel_upd hM, w⟩
    | bad => exact fun w => w
  · rintro v d H3 F3 M3 e3 S3 r3 ⟨rfl, ks, xs, hM3, w3⟩
    cases r3
    refine ⟨rfl, ?_⟩
    have h3 : M3 a = some (.ins C ks xs) := by rw [hM3, mupd_same]
    obtain ⟨hf3, o, ho, hr⟩ := S3.mu a _ h3
    obtain ⟨S4, e4⟩ := S3.freeze h3 ho
    have sF : Same F3 (upd F3 a o) := e4.sm
    have hd : mdel M3 a = M := by
      rw [hM3]
      funext b
      unfold mdel mupd
      by_cases z : b = a
      · rw [if_pos z, z, hM]
      · rw [if_neg z, if_neg z, if_neg z]
    rw [hd] at S4 e4
    exact pv (.ref a) _ H3 _ M (e.trans (e3.trans e4)) S4 (hr.frz rfl sF upd_same) w3
  · rintro nm dd vfs fs H3 F3 M3 e3 S3 hd r3 ⟨rfl, w3⟩
    exact px nm dd vfs fs H3 F3 M3 (e.trans e3) S3 hd r3 w3
def tMakeS (C : Addr) (sp : Sp) (E : L2.St → XK) (t : TA) : TE := fun σ H Q => t σ H fun vs H1 => ∀ x dx, H1 x = none → H1 dx = none → dx ≠ x → sp (.ref x :: vs) (upd (upd H1 dx (.own x)) x (.ins C dx [])) (fun v H2 => v = .non ∧ Q (.ref x) H2) (E σ)
theorem pe_makeS {CX : CXT} {f Ca : Addr} {fd : FuncData} {ps : List Str} {sp : Sp} {E : L2.St → XK} {t : TA} (M : Mk X.K Ca f) (F : FnOk X.prog X.w X.K X.mg X.base CX k f fd ps sp) (hr : Room (k + 1) X.A) (hg : Gl X C) (hm : X.mg C = some (.ref Ca)) (hb : Binds X.K fd ps []) (hx : ∀ σ, PassesAt CX X σ (E σ))
    (ha : PA X (e :: es) t) (hdb : (C == ("__debug__" : Str)) = false := by decide) (he : starEach (e :: es) X.env = (false, eval e X.env) :: starEach es X.env := by rfl) (hpl : (backTo pos (starEach es X.env)).any (·.1) = false := by rfl) :
    PE X (.Call (.Name C p) (e :: es) [] pos) (tMakeS Ca sp E t) := by
  refine ⟨fun pins s σ H Q I h => ?_⟩
  refine wpAny_Call_Name_kw (ld_glob I hg hm ?_ hdb)
  refine PySem.W.callWith_K (h₀ := X.base) I.ok.mod.kin M.kp (thn (ha.run pos pins s σ H _ I h) fun us s1 ⟨vs, H1, I1, r, q⟩ => ⟨I1.kIn, ?_⟩) he hpl
  exact run_makeS M F hr hb (hx σ) I1 r q
theorem de_make (F : MakeD X.prog X.w X.K X.mg X.base C k n m) (hr : Room (k + 1) X.A) (ha : DA X (e :: es) wa) (hg : Gl X C := by rfl) (hd : (C == ("__debug__" : Str)) = false := by decide)
    (he : starEach (e :: es) X.env = (false, eval e X.env) :: starEach es X.env := by rfl) (hpl : (backTo pos (starEach es X.env)).any (·.1) = false := by rfl) : DE X (.Call (.Name C p) (e :: es) [] pos) (wCall (wfOf m) n wa) := by
  obtain ⟨f, fd, ps, hn, G, hM, hm, hb⟩ := F.ex
  refine ⟨fun W tk => pe_imp (pe_makeS hM G hr hg hm hb (fun σ => passAt tk σ) (ha.pa W tk) hd he hpl) fun σ H Q q => ?_⟩
  obtain ⟨F1, M, ρ, K, x, S, R, w, pv, px⟩ := q
  refine ⟨F1, M, ρ, _, x, S, R, w, fun vs ds H1 F1 M1 e1 S1 r1 w1 => ?_, px⟩
  obtain ⟨hl, w1⟩ := gd_of w1
  exact make_in tk S1 r1 (Nat.eq_of_beq_eq_true hl) w1 (pv.on e1) (px.on e1)
/-! ### properties -/
structure PropD (P : Program) (w : World) (K : PySem.W.Frag) (base : Heap) (mg : Str → Option Value) (C f : Str) (k : Nat) (m : List D → Ans) : Prop where
  cls : Cls K (He.ga K C)
  ex : ∃ (p a : Addr) (fd : FuncData), FnOk P w K mg base (L2.CX P w) k a fd ["self"] (spD K 1 (wfOf m)) ∧ PropOf K (He.ga K C) f p a ∧ Binds K fd ["self"] []
/-- an instance of the class -/
def insC (C : Str) (d : D) (M : MH) : Bool := match d with
  | .obj C' _ _ => decide (C' = C)
  | .ref a => match M a with
    | some (.ins C' _ _) => decide (C' = C)
    | _ => false
  | _ => false
theorem insC_of {K : PySem.W.Frag} {H F : Hp} {M : MH} {C : Str} {d : D} {v : V} (S : RepS K H F M) (r : Rep K F v d) (h : insC C d M = true) : ∃ a dx fs, v = .ref a ∧ H a = some (.ins (He.ga K C) dx fs) := by
  cases d with
  | obj C' ks xs =>
    obtain rfl := of_decide_eq_true (show decide (C' = C) = true from h)
    cases r with
    | obj hx hr hl => exact ⟨_, _, _, rfl, S.fz _ _ hx⟩
  | ref a =>
    cases r
    have h : (match M a with
      | some (.ins C' _ _) => decide (C' = C)
      | _ => false) = true := h
    cases hm : M a with
    | none => rw [hm] at h; cases h
    | some o =>
      rw [hm] at h
      cases o with
      | ins C' ks ds =>
        obtain rfl := of_decide_eq_true (show decide (C' = C) = true from h)
        obtain ⟨_, o, ho, dx, xs, rfl, hr, hl⟩ := S.mu a _ hm
        exact ⟨_, _, _, rfl, ho⟩
      | _ => cases h
  | _ => cases h
def okD (a : Ans) (k : D → Prop) : Prop := match a with
  | .ok d => k d
  | _ => False
def wProp (C : Str) (m : List D → Ans) (wo : WE) : WE := fun ρ M k x => wo ρ M (fun d M1 => gd (insC C d M1) (okD (m [d]) fun z => k z M1)) x
theorem de_prop {f : Str} {o : Expr} {wo : WE} (F : PropD X.prog X.w X.K X.base X.mg C f k m) (hr : Room (k + 1) X.A) (ho : DE X o wo) (hb : attributeBase o f X.env (eval o X.env) = eval o X.env := by rfl) : DE X (.Attribute o f pos) (wProp C m wo) := by
  obtain ⟨p, a, fd, G, hp, hbi⟩ := F.ex
  refine ⟨fun W tk => pe_imp (pe_prop (E := fun _ _ _ => False) (dvs := []) (ds := []) (ho.pe W tk) F.cls hp G hr hbi .nil (fun pins σ H s e s' I c => ?_) hb) fun σ H Q q => ?_⟩
  · obtain ⟨_, _, _, _, _, _, _, _, _, _, _, _, z⟩ := c
    exact z.elim
  · obtain ⟨F1, M, ρ, K, x, S, R, w, pv, px⟩ := q
    refine ⟨F1, M, ρ, _, x, S, R, w, fun v d H1 F1 M1 e1 S1 r1 w1 => ?_, px⟩
    obtain ⟨hi, w1⟩ := gd_of w1
    obtain ⟨a, dx, fs, rfl, h1⟩ := insC_of S1 r1 hi
    refine ⟨a, dx, fs, rfl, h1, F1, M1, [d], K, fun _ _ _ => False, S1, .cons r1 .nil, rfl, ?_, pv.on e1, fun _ _ _ _ _ _ _ _ _ _ _ z => z.elim⟩
    unfold wfOf
    revert w1
    cases m [d] with
    | ok z => exact fun w => w
    | _ => exact fun w => w
end
end DL

/-! Instances in direct mode. -/
namespace DM
open PySem PySem.Spec PyProof.Rows L2 DL
/-- attribute f of an instance of the class named C -/
def fFld (C f : Str) (u : Vl) : Option D := match u with
  | .v (.obj C' ks xs) => match decide (C' = C) with
    | true => getL ks xs f
    | false => none
  | .o (.ins C' ks xs) => match decide (C' = C) with
    | true => getL ks xs f
    | false => none
  | _ => none
def mFld (C f : Str) (mo : WM) : WM := fun r K X => mo r (fun u => vK (fFld C f u) K) X
theorem fFld_ok {C f : Str} {M0 : M0T} {M : MH} {u : Vl} {d y : D} (h : RelV M0 M u d) (e : fFld C f u = some y) : fldD C f d M = some y := by
  cases u with
  | v z =>
    cases h
    cases d with
    | obj C' ks xs =>
      have e : (match decide (C' = C) with | true => getL ks xs f | false => none) = some y := e
      show (if C' = C then getL ks xs f else none) = some y
      by_cases hC : C' = C
      · rw [if_pos hC]; rw [decide_eq_true hC] at e; exact e
      · rw [decide_eq_false hC] at e; cases e
    | _ => cases e
  | o m =>
    obtain ⟨a, rfl, hM, _⟩ := h
    cases m with
    | ins C' ks xs =>
      have e : (match decide (C' = C) with | true => getL ks xs f | false => none) = some y := e
      show (match M a with | some (.ins C' ks xs) => if C' = C then getL ks xs f else none | _ => none) = some y
      rw [hM]
      show (if C' = C then getL ks xs f else none) = some y
      by_cases hC : C' = C
      · rw [if_pos hC]; rw [decide_eq_true hC] at e; exact e
      · rw [decide_eq_false hC] at e; cases e
    | _ => cases e
/-- o.f = e, o in slot i, a thing of its own -/
def mSetA (C f : Str) (i : Nat) (me : WM) : WMS := fun r E => me r (fun u => onVl u fun d => match r[i]? with
  | some (some (.o (.ins C' ks ds))) => gdR (decide (C' = C) && Nat.blt ks.length 1000) (E.nx (r.set i (some (.o (.ins C (setK ks f) (setX ks ds f d))))))
  | _ => .bad) E.xc
/-- a method's call; what it is called at: a value, or a thing of its own, which is lent -/
def insV (C m : Str) (u : Vl) : Option D := match u with
  | .v (.obj C' ks xs) => match decide (C' = C) && decide (m ∉ ks) with
    | true => some (.obj C' ks xs)
    | false => none
  | _ => none
def mMeth (C nm : Str) (m : List D → Ans) (n : Nat) (mo : WM) (ma : WMA) : WM := fun r K X => mo r (fun u => oK (insV C nm u) fun d => ma r (fun us => onVs us fun ds => gdR (Nat.beq (ds.length + 1) n) (onR (m (d :: ds)) K X)) X) X
def mProp (C : Str) (m : List D → Ans) (mo : WM) : WM := fun r K X => mo r (fun u => match u with
  | .v (.obj C' ks xs) => gdR (decide (C' = C)) (match m [.obj C' ks xs] with
    | .ok d => K (.v d)
    | _ => .bad)
  | _ => .bad) X
theorem insV_ok {C m : Str} {M0 : M0T} {M : MH} {u : Vl} {d y : D} (h : RelV M0 M u d) (e : insV C m u = some y) : y = d ∧ insB C m d M = true := by
  cases u with
  | v z =>
    cases h
    cases d with
    | obj C' ks xs =>
      have e : (match decide (C' = C) && decide (m ∉ ks) with | true => some (D.obj C' ks xs) | false => none) = some y := e
      cases hb : (decide (C' = C) && decide (m ∉ ks)) with
      | true => rw [hb] at e; cases e; exact ⟨rfl, hb⟩
      | false => rw [hb] at e; cases e
    | _ => cases e
  | o m => cases e
section
variable {X : Cx} {pos apos p pt : Pos} {C f nm : Str} {o e : Expr} {es : List Expr} {k n : Nat} {m : List D → Ans} {mo me : WM} {ma : WMA}
theorem me_fld (A : AtF X.K C f) (ho : ME X o mo) (hb : attributeBase o f X.env (eval o X.env) = eval o X.env := by rfl) : ME X (.Attribute o f pos) (mFld C f mo) :=
  de_weak (de_fld A ho hb) fun ρ M k x ⟨M0, r, K, XX, G, O, L, hk, g⟩ => ⟨M0, r, _, XX, G, O, L, fun u d hu g => by
    cases e1 : fFld C f u with
    | none => rw [e1] at g; exact (L.nb g).elim
    | some y =>
      rw [e1] at g
      rw [fFld_ok hu e1]
      exact hk (.v _) _ rfl g, g⟩
theorem ms_setA {i : Nat} {x : Str} {p1 : Pos} (A : AtF X.K C f) (he : ME X e me) (hN : X.N[i]? = some x := by rfl) (hv : Vis X.env.scope x := by first | exact Or.inl rfl | exact Or.inr (Or.inl rfl) | exact Or.inr (Or.inr rfl)) (hd : (x == ("__debug__" : Str)) = false := by decide)
    (hcd : (x == ("__classdict__" : Str)) = false := by decide) (hs : swapsWith e (some (.Attribute (.Name x p1) f pt)) pos.line X.env = pure false := by rfl) : MS X (.Assign [.Attribute (.Name x p1) f pt] e pos) (mSetA C f i me) :=
  ds_weak (ds_setA A (dv i hN hv hd hcd) he hs) fun ρ M E ⟨M0, r, EK, G, O, L, g⟩ =>
  ⟨M0, r, _, EK.xc, G, O, L.lk O.sub, fun u d hu g => onVl_in L.nb hu g fun g => by
    split at g
    · rename_i C' ks ds e1
      obtain ⟨hb, g⟩ := gd_of (gdR_in L.nb g fun g => g)
      obtain ⟨hC, hl⟩ := Bool.and_eq_true_iff.mp hb
      obtain rfl := of_decide_eq_true hC
      obtain ⟨z, e2, a, rfl, e3, e4⟩ := O.at_ i _ e1
      unfold wVar
      rw [e2]
      exact ⟨a, ks, ds, rfl, e3, Nat.le_of_ble_eq_true hl, L.nx _ _ _ (O.upd e1 e2 _) g⟩
    · exact (L.nb g).elim, g⟩
theorem meth_weak {wo : WE} {ρ : Rh} {M : MH} {k : KD} {x : KE} (h : wE (mMeth C nm m n mo ma) ρ M k x) : wMeth C nm (wfOf m) n (wE mo) (wA ma) ρ M k x := by
  obtain ⟨M0, r, K, XX, G, O, L, hk, g⟩ := h
  refine ⟨M0, r, _, XX, G, O, L, fun u d hu g => ?_, g⟩
  cases e1 : insV C nm u with
  | none => rw [e1] at g; exact (L.nb g).elim
  | some y =>
    rw [e1] at g
    obtain ⟨rfl, hi⟩ := insV_ok hu e1
    refine gd_mk hi ⟨M0, r, _, XX, G, O, L, fun us ds hus g => ?_, g⟩
    exact gdR_in L.nb (onVs_in L.nb hus g) (wf_in L hk)
theorem me_meth {pl : Sem Bool} (F : MethD X.prog X.w X.K X.base X.mg C nm k n (wfOf m)) (hr : Room k X.A) (ho : ME X o mo) (ha : MA X (e :: es) ma)
    (hst : starEach (e :: es) X.env = (false, eval e X.env) :: starEach es X.env := by rfl) (hpl : (backTo pos (starEach es X.env)).any (·.1) = false := by rfl)
    (ht : eval (.Call (.Attribute o nm apos) (e :: es) [] pos) X.env = (do
      let ov ← eval o X.env
      standAt apos.atName
      let (f, first) ← holding [ov] (getMethod ov nm pl)
      callWith pos f first (backTo pos (starEach (e :: es) X.env)) (backToKw pos (keywordEach [] X.env))) := by rfl) :
    ME X (.Call (.Attribute o nm apos) (e :: es) [] pos) (mMeth C nm m n mo ma) := de_weak (de_meth F hr ho ha hst hpl ht) fun ρ M k x h => meth_weak (wo := wE mo) h
theorem me_meth0 {pl : Sem Bool} (F : MethD X.prog X.w X.K X.base X.mg C nm k n (wfOf m)) (hr : Room k X.A) (ho : ME X o mo)
    (ht : eval (.Call (.Attribute o nm apos) [] [] pos) X.env = (do
      let ov ← eval o X.env
      standAt apos.atName
      let (f, first) ← holding [ov] (getMethod ov nm pl)
      callWith pos f first (backTo pos (starEach [] X.env)) (backToKw pos (keywordEach [] X.env))) := by rfl) :
    ME X (.Call (.Attribute o nm apos) [] [] pos) (mMeth C nm m n mo mNil) := de_weak (de_meth0 F hr ho ht) fun ρ M k x ⟨M0, r, K, XX, G, O, L, hk, g⟩ => ⟨M0, r, _, XX, G, O, L, fun u d hu g => by
    cases e1 : insV C nm u with
    | none => rw [e1] at g; exact (L.nb g).elim
    | some y =>
      rw [e1] at g
      obtain ⟨rfl, hi⟩ := insV_ok hu e1
      have g : G (onVs [] fun ds => gdR (Nat.beq (ds.length + 1) n) (onR (m (y :: ds)) K XX)) := g
      exact gd_mk hi (gdR_in L.nb (onVs_in (M0 := M0) (M := M) L.nb .nil g) (wf_in L hk)), g⟩
theorem me_prop (F : PropD X.prog X.w X.K X.base X.mg C f k m) (hr : Room (k + 1) X.A) (ho : ME X o mo) (hb : attributeBase o f X.env (eval o X.env) = eval o X.env := by rfl) : ME X (.Attribute o f pos) (mProp C m mo) :=
  de_weak (de_prop F hr ho hb) fun ρ M k x ⟨M0, r, K, XX, G, O, L, hk, g⟩ => ⟨M0, r, _, XX, G, O, L, fun u d hu g => by
    cases u with
    | o _ => exact (L.nb g).elim
    | v z =>
      cases hu
      cases d with
      | obj C' ks xs =>
        refine gdR_in (p := okD (m [.obj C' ks xs]) fun z => k z M) L.nb g fun g => ?_
        revert g
        cases m [D.obj C' ks xs] with
        | ok z => exact fun g => hk (.v _) _ rfl g
        | _ => exact fun g => L.nb g
      | _ => exact (L.nb g).elim, g⟩
theorem me_make (F : MakeD X.prog X.w X.K X.mg X.base C k n m) (hr : Room (k + 1) X.A) (ha : MA X (e :: es) ma) (hg : Gl X C := by rfl) (hd : (C == ("__debug__" : Str)) = false := by decide)
    (he : starEach (e :: es) X.env = (false, eval e X.env) :: starEach es X.env := by rfl) (hpl : (backTo pos (starEach es X.env)).any (·.1) = false := by rfl) : ME X (.Call (.Name C p) (e :: es) [] pos) (mCall m n ma) :=
  de_weak (de_make F hr ha hg hd he hpl) fun ρ M k x ⟨M0, r, K, XX, G, O, L, hk, g⟩ => ⟨M0, r, _, XX, G, O, L, fun us ds hu g => gdR_in L.nb (onVs_in L.nb hu g) (wf_in L hk), g⟩
end

/-! ### an __init__, by its function -/
def endN (C : Str) (r : Rm) : Ans := match (r[0]? : Option (Option Vl)) with
  | some (some (.o (.ins C' ks xs))) => match decide (C' = C) with
    | true => .ok (.obj C ks xs)
    | false => .bad
  | _ => .bad
def endI (C : Str) : EndsK := { nx := endN C, rt := fun _ => .bad, bk := fun _ => .bad, ct := fun _ => .bad, xc := .exc }
def initM (C : Str) (s : WMS) (N : List Str) (ds : List D) : Ans := s (some (.o (.ins C [] [])) :: (ds.map (fun d => some (.v d)) ++ List.replicate (N.length - (ds.length + 1)) none)) (endI C)
theorem Own.startI {M : MH} {a : Addr} {C : Str} (ha : M a = some (.ins C [] [])) (N : List Str) (ds : List D) : Own ⟨mdel M a, some a⟩ M (some (.o (.ins C [] [])) :: (ds.map (fun d => some (.v d)) ++ List.replicate (N.length - (ds.length + 1)) none)) (startD N (.ref a :: ds)) where
  len := by unfold startD; simp
  sub := fun b o h => by
    by_cases e : b = a
    · have h : mdel M a b = some o := h
      rw [e, mdel_same] at h; cases h
    · have h : mdel M a b = some o := h
      rw [mdel_ne e] at h; exact h
  slf := fun b m e1 e2 => by
    have e1 : some a = some b := e1
    cases e1
    rfl
  at_ := fun i u e => by
    have O := Own.start M N ds
    cases i with
    | zero => cases e; exact ⟨.ref a, rfl, a, rfl, ha, mdel_same⟩
    | succ i =>
      have e : (ds.map (fun d => some (Vl.v d)) ++ List.replicate (N.length - (ds.length + 1)) none)[i]? = some (some u) := e
      show ∃ d, (ds.map some ++ List.replicate (N.length - (ds.length + 1)) none)[i]? = some (some d) ∧ _
      by_cases hi : i < ds.length
      · rw [List.getElem?_append_left (by rw [List.length_map]; exact hi), List.getElem?_map, List.getElem?_eq_getElem hi] at e
        rw [List.getElem?_append_left (by rw [List.length_map]; exact hi), List.getElem?_map, List.getElem?_eq_getElem hi]
        cases e
        exact ⟨_, rfl, rfl⟩
      · rw [List.getElem?_append_right (by rw [List.length_map]; omega)] at e
        obtain ⟨_, e2⟩ := List.getElem?_eq_some_iff.mp e
        rw [List.getElem_replicate] at e2
        cases e2
  inj := fun i j m m' b e1 e2 _ _ => by
    have key : ∀ (i : Nat) (m : MO), (some (Vl.o (.ins C [] [])) :: (ds.map (fun d => some (Vl.v d)) ++ List.replicate (N.length - (ds.length + 1)) none))[i]? = some (some (.o m)) → i = 0 := fun i m e => by
      cases i with
      | zero => rfl
      | succ i =>
        have e : (ds.map (fun d => some (Vl.v d)) ++ List.replicate (N.length - (ds.length + 1)) none)[i]? = some (some (.o m)) := e
        by_cases hi : i < ds.length
        · rw [List.getElem?_append_left (by rw [List.length_map]; exact hi), List.getElem?_map, List.getElem?_eq_getElem hi] at e
          cases e
        · rw [List.getElem?_append_right (by rw [List.length_map]; omega)] at e
          obtain ⟨_, e2⟩ := List.getElem?_eq_some_iff.mp e
          rw [List.getElem_replicate] at e2
          cases e2
    rw [key i m e1, key j m' e2]
def mkG (C : Str) (a : Addr) (M : MH) (k : KD) (x : KE) (z : Ans) : Prop := match z with
  | .ok d => ∀ ks xs, d = .obj C ks xs → k .non (mupd M a (.ins C ks xs))
  | .exc n fs => x n fs (mdel M a)
  | .bad => False
theorem hw_mI {C : Str} {s : WMS} {N : List Str} {m : List D → Ans} (hm : ∀ ds, m ds = initM C s N ds) (ds : List D) (M : MH) (k : KD) (x : KE) (h : mkWf C m ds M k x) : wS s (startD N ds) M (retE k x) := by
  unfold mkWf at h
  split at h
  · rename_i a args
    obtain ⟨ha, h⟩ := h
    refine ⟨⟨mdel M a, some a⟩, _, endI C, mkG C a M k x, Own.startI ha N args, ⟨fun q => q, fun r ρ M1 O q => ?_, fun u d M1 hs hu q => False.elim q, fun r ρ M1 O q => False.elim q, fun r ρ M1 O q => False.elim q, fun n fs M1 hs q => ⟨mdel M a, hs, q⟩⟩, ?_⟩
    · have q : mkG C a M k x (endN C r) := q
      unfold endN at q
      split at q
      · rename_i C' ks xs e0
        by_cases hC : C' = C
        · subst hC
          rw [decide_eq_true rfl] at q
          have hr := O.slf a _ rfl e0
          obtain ⟨d, e1, b, rfl, h1, h2⟩ := O.at_ 0 _ e0
          rw [hr] at e1
          cases e1
          refine Lt.drop (M' := mupd M a (.ins C' ks xs)) (fun b o z => ?_) (q ks xs rfl)
          by_cases hb : b = a
          · rw [hb, mupd_same] at z; cases z; rw [hb]; exact h1
          · rw [mupd_ne hb] at z
            exact O.sub b o (by show mdel M a b = some o; rw [mdel_ne hb]; exact z)
        · rw [decide_eq_false hC] at q; exact False.elim q
      · exact False.elim q
    · show mkG C a M k x (initM C s N args)
      rw [← hm]
      exact h
  · exact h.elim
end DM

/-! Dicts that are locked and walked, comprehensions of dicts, copies; pop, extend. -/
namespace DL
open PySem PySem.Spec PyProof.Rows L2 _root_.DM
/-- what an expression made is locked for good -/
def tLockNew (t : TE) : TE := fun σ H Q => t σ H fun v H' => ∃ d u, v = .ref d ∧ H' d = some u ∧ Mut (some u) ∧ ∀ od, Q v (upd H' d (.frz od u))
theorem pe_lockNew {X : Cx} {e : Expr} {t : TE} (h : PE X e t) : PE X e (tLockNew t) := ⟨fun pins s σ H Q I hw => by
  refine thn (h.run pins s σ H _ I hw) fun u s1 ⟨v, H1, I1, r, d, o, ev, hd, mu, q⟩ => ?_
  obtain ⟨od, I2⟩ := I1.lock hd mu
  exact ⟨v, _, I2, r, q od⟩⟩
def tLockS (d : Addr) (u : HO) (t : TS) : TS := fun D σ H => H d = some u ∧ Mut (some u) ∧ ∀ od, t D σ (upd H d (.frz od u))
def wLck (w : WE) : WE := fun ρ M k x => w ρ M (fun d M1 => ∃ a ks xs, d = .ref a ∧ M1 a = some (.dct ks xs) ∧ k (.dcl ks xs) (mdel M1 a)) x
theorem RepS.lock {K : PySem.W.Frag} {H F : Hp} {M : MH} {a : Addr} {ks : List Str} {xs : List V} {ds : List D} (S : RepS K H F M) (hm : M a = some (.dct ks ds)) (od : Obj) :
    RepS K (upd H a (.frz od (.dK (kvz ks xs)))) (upd F a (.frz od (.dK (kvz ks xs)))) (mdel M a) ∧ Ext H F M (upd H a (.frz od (.dK (kvz ks xs)))) (upd F a (.frz od (.dK (kvz ks xs)))) (mdel M a) := by
  obtain ⟨hf, _⟩ := S.mu a _ hm
  have sF : Same F (upd F a (.frz od (.dK (kvz ks xs)))) := fun b u q => by rw [upd_ne (ne_of_none q hf)]; exact q
  refine ⟨⟨fun b u q => ?_, fun b n q => ?_⟩, sF, fun b u q1 q2 q3 => ?_⟩
  · by_cases hb : b = a
    · subst hb; rw [upd_same] at q ⊢; exact q
    · rw [upd_ne hb] at q ⊢; exact S.fz b u q
  · have hb : b ≠ a := fun z => by rw [z, mdel_same] at q; cases q
    rw [mdel_ne hb] at q
    obtain ⟨q1, u, q2, q3⟩ := S.mu b n q
    exact ⟨by rw [upd_ne hb]; exact q1, u, by rw [upd_ne hb]; exact q2, q3.mono sF⟩
  · have hb : b ≠ a := fun z => by rw [z, hm] at q3; cases q3
    exact ⟨by rw [upd_ne hb]; exact q1, by rw [upd_ne hb]; exact q2, by rw [mdel_ne hb]; exact q3⟩
theorem de_lck {X : Cx} {e : Expr} {w : WE} (h : DE X e w) : DE X e (wLck w) := ⟨fun W tk => pe_imp (pe_lockNew (h.pe W tk)) fun σ H Q q => by
  obtain ⟨F, M, ρ, k, x, S, E, w, pv, px⟩ := q
  refine ⟨F, M, ρ, _, x, S, E, w, fun v d H1 F1 M1 e1 S1 r1 w1 => ?_, px⟩
  obtain ⟨a, ks, ds, rfl, hm, w2⟩ := w1
  cases r1
  obtain ⟨hf, o, ho, xs, rfl, hr, hl, hz⟩ := S1.mu a _ hm
  refine ⟨a, _, rfl, ho, trivial, fun od => ?_⟩
  obtain ⟨S2, e2⟩ := S1.lock (xs := xs) hm od
  exact pv _ _ _ _ _ (e1.trans e2) S2 (.dcl upd_same (hr.mono e2.sm) hl hz) w2⟩
/-- an own dict in slot i is written no more: it is locked -/
def wFrzL (i : Nat) (w : WS) : WS := fun ρ M E => ∃ a ks xs, ρ[i]? = some (some (.ref a)) ∧ M a = some (.dct ks xs) ∧ w (ρ.set i (some (.dcl ks xs))) (mdel M a) E
theorem pss_lockS {X : Cx} {st : List Stmt} {t : TS} (h : PSs X st t) : PSs X st (fun D σ H => ∃ d u, tLockS d u t D σ H) := ⟨fun pins s σ H D I hw => by
  obtain ⟨d, u, hd, mu, q⟩ := hw
  obtain ⟨od, I2⟩ := I.lock hd mu
  exact h.run pins s σ _ D I2 (q od)⟩
theorem dss_frzL {X : Cx} {rest : List Stmt} {w : WS} (i : Nat) (h : DSs X rest w) : DSs X rest (wFrzL i w) := ⟨fun W tk hp => pss_imp (pss_lockS (h.ps W tk hp)) fun D σ H q => by
  obtain ⟨F, M, ρ, E, S, R, ⟨a, ks, ds, hr, hm, w⟩, f⟩ := q
  obtain ⟨hf, o, ho, xs, rfl, hx, hl, hz⟩ := S.mu a _ hm
  refine ⟨a, _, ho, trivial, fun od => ?_⟩
  obtain ⟨S2, e2⟩ := S.lock (xs := xs) hm od
  obtain ⟨v, h1, h2⟩ := R.get hr
  cases h2
  exact ⟨_, _, _, E, S2, (R.mono e2.sm).setD i h1 (.dcl upd_same (hx.mono e2.sm) hl hz), w, f.on e2⟩⟩
/-! ### a dict copied, its keys as a list, walked -/
def rDcopyM : RB := fun ds M k => on1 ds fun d => match ctD d M with
  | some (.dc ks xs) => ∀ a, M a = none → k (.ref a) (mupd M a (.dct ks xs))
  | _ => False
theorem cd_dcopyM {X : Cx} : CallD X (.type "dict") rDcopyM := by
  refine ⟨_, call_dictD, fun ds vs H F M k Q S r0 h0 pv => ?_⟩
  obtain ⟨d, rfl, h⟩ := on1_of h0
  obtain ⟨v, rfl, r⟩ := reps1 r0
  cases hc : ctD d M with
  | none => rw [hc] at h; exact h.elim
  | some c =>
    rw [hc] at h
    cases c with
    | dc ks xs =>
      obtain ⟨p, ys, rfl, hp, hr, hl, hz⟩ := ct_dc S r hc
      refine ⟨p, _, rfl, hp, fun l hn => ?_⟩
      obtain ⟨S2, e2⟩ := S.layM hn (o := .dK (kvz ks ys)) (m := .dct ks xs) ⟨ys, rfl, hr, hl, hz⟩
      exact pv _ _ _ _ _ e2 S2 (.ref l) (h l (S.mno hn))
    | _ => exact h.elim
theorem call_list_dKR {X : Cx} (hc : X.calm = true) : CallR X (.type "list") (fun xs H Q => ∃ p kvs, xs = [.ref p] ∧ Rd H p (.dK kvs) ∧ ∀ q, H q = none → Q (.ref q) (upd H q (.lst (kvs.map fun kv => kV kv.1)))) := fun pins s σ H xs us Q I r ⟨p, kvs, e, hk, q⟩ => by
  subst e
  obtain ⟨u, eu, rx⟩ := vals1 r
  subst eu
  obtain rfl : u = Value.ref p := rx
  obtain ⟨z, lo, vs, rk, hd⟩ := (show ObjOk X.prog X.w H s.heap p (.dK kvs) from hk.ok I.hok)
  obtain ⟨ep, hat⟩ := hd.dictAt
  have hl := Paired.length rk
  refine PySem.W.kdl_call (PySem.W.kdl_dict (knd := mixKind X.prog X.w) (kvs := vs) (ep := ep) lo) (I.ok.hd hc) hat (by rw [← hl]; exact z) fun h' tk acc n hkeep hS hacc => ?_
  have ea : acc.toList.length = acc.size := by simp
  have rel : Vals (kvs.map fun kv => kV kv.1) acc.toList := vals_of_at (by rw [List.length_map, ea, hacc.1, hl]) fun j x w h1 h2 => by
    obtain ⟨k, y, hky, hi⟩ := hacc.2 j w (by rw [← Array.getElem?_toList]; exact h2)
    have e1 : (kvs.map fun kv => kv.1)[j]? = some k := by rw [show (kvs.map fun kv => kv.1) = kvs.map (·.1) from rfl, KV.keys rk, List.getElem?_map, hky]; rfl
    rw [List.getElem?_map] at h1 e1
    cases hj : kvs[j]? with
    | none => rw [hj] at h1; cases h1
    | some p =>
      rw [hj] at h1 e1
      have e1 : some p.1 = some k := e1
      cases e1
      cases h1
      exact keyIs_rel hi
  have new : ObjOk X.prog X.w (upd H s.heap.objs.size (.lst (kvs.map fun kv => kV kv.1))) h' s.heap.objs.size (.lst (kvs.map fun kv => kV kv.1)) := ⟨by rw [List.length_map]; exact z, acc.toList, n, rel, by rw [Array.toArray_toList]; exact hS⟩
  exact ⟨.ref s.heap.objs.size, _, I.laid hkeep (Nat.le_refl _) new, rfl, q _ (I.hok.fresh (Nat.le_refl _))⟩
theorem kvz_keysV : ∀ {ks : List Str} {xs : List V}, ks.length = xs.length → ((kvz ks xs).map fun kv => kV kv.1) = ks.map V.str
  | [], [], _ => rfl
  | k :: ks, x :: xs, h => by rw [kvz_cons, List.map_cons, List.map_cons, kvz_keysV (Nat.succ.inj h)]; rfl
  | [], _ :: _, h => by cases h
  | _ :: _, [], h => by cases h
def rListX : RB := fun ds M k => on1 ds fun d => match ctD d M with
  | some (.dc ks _) => k (.lst (ks.map .str)) M
  | _ => itemsD d M fun xs => k (.lst xs) M
theorem cd_listX {X : Cx} (hc : X.calm = true) : CallD X (.type "list") rListX := by
  obtain ⟨r2, h2, s2⟩ := cd_list (X := X)
  refine ⟨_, h2.or (call_list_dKR hc), fun ds vs H F M k Q S r0 h0 pv => ?_⟩
  obtain ⟨d, rfl, h⟩ := on1_of h0
  obtain ⟨v, rfl, r⟩ := reps1 r0
  have other : itemsD d M (fun xs => k (.lst xs) M) → r2 [v] H Q := fun h => s2 [d] [v] H F M k Q S r0 h pv
  cases hcc : ctD d M with
  | none => rw [hcc] at h; exact .inl (other h)
  | some c =>
    rw [hcc] at h
    cases c with
    | dc ks xs =>
      obtain ⟨p, ys, rfl, hp, hr, hl, hz⟩ := ct_dc S r hcc
      refine .inr ⟨p, _, rfl, hp, fun l hn => ?_⟩
      obtain ⟨S2, e2⟩ := S.lay hn (.lst (ks.map V.str))
      rw [kvz_keysV (hl.trans hr.length.symm)]
      exact pv _ _ _ _ _ e2 S2 (.lst upd_same (Reps.of_strs _) (by rw [List.length_map, hl]; exact hz)) h
    | _ => exact .inl (other h)
/-- the keys of a locked dict, in order -/
def wiKeys (w : WE) : WI := fun ρ M k x => w ρ M (fun d M1 => ∃ ks xs, d = .dcl ks xs ∧ k (ks.map .str) (fun _ => True) M1) x
theorem wks_keys {K : PySem.W.Frag} {F : Hp} {a : Addr} {o : Obj} {ks : List Str} {xs : List V} (h : F a = some (.frz o (.dK (kvz ks xs)))) (hl : ks.length = xs.length) (hz : ks.length ≤ sizeLine) : Wks K F (Itk a o (kvz ks xs)) (ks.map .str) (fun _ => True) where
  sz := by rw [List.length_map]; exact hz
  go := fun i H F' M hi s S _ => ⟨S.fz _ _ (s _ _ h), by rw [kvz_len hl, ← hl]; rw [List.length_map] at hi; exact hi⟩
  stop := fun H F' M s S _ => ⟨S.fz _ _ (s _ _ h), by rw [kvz_len hl, ← hl, List.length_map]; exact Nat.le_refl _⟩
  yld := fun i H v H3 F' M hi s S _ y => by
    obtain ⟨e, k, w, hk, rfl⟩ := y
    subst e
    have e2 : (ks.map V.str)[i]? = some (kV k) := by rw [← kvz_keysV hl, List.getElem?_map, hk]; rfl
    rw [List.getElem?_map] at e2
    cases hj : ks[i]? with
    | none => rw [hj] at e2; cases e2
    | some z =>
      rw [hj] at e2
      have e2 : V.str z = kV k := Option.some.inj e2
      rw [← e2]
      exact ⟨F', .str z, Ext.refl _ _ _, S, by rw [List.getElem?_map, hj]; rfl, .str z⟩
theorem di_keys {X : Cx} {tg e : Expr} {w : WE} (h : DE X e w) : DI X tg e (wiKeys w) := by
  refine ⟨fun W tk => pi_imp (pi_keys (h.pe W tk)) fun σ H R q => ?_⟩
  obtain ⟨F, M, ρ, k, x, S, E, w, f, px⟩ := q
  refine ⟨F, M, ρ, _, x, S, E, w, fun v d H1 F1 M1 e1 S1 r1 w1 => ?_, px⟩
  obtain ⟨ks, ds, rfl, w2⟩ := w1
  cases r1 with
  | dcl ha hr hl hz =>
    have hx := hl.trans hr.length.symm
    exact ⟨_, _, rfl, .inl ⟨_, S1.fz _ _ ha, f _ _ _ _ _ _ e1 S1 (wks_keys ha hx (by rw [hl]; exact hz)) w2⟩⟩
/-! ### a list that gives its last item away, or takes those of another -/
def wPop (wo : WE) : WE := fun ρ M k x => wo ρ M (fun o M1 => ∃ a ds d, o = .ref a ∧ M1 a = some (.lst ds) ∧ ds[ds.length - 1]? = some d ∧ k d (mupd M1 a (.lst ds.dropLast))) x
def wExtend (wo we : WE) : WE := fun ρ M k x => wo ρ M (fun o M1 => ∃ a0 ds0, o = .ref a0 ∧ M1 a0 = some (.lst ds0) ∧ we ρ M1 (fun e M2 => ∃ es ds, e = .lst es ∧ M2 a0 = some (.lst ds) ∧ ds.length + es.length ≤ 16777216 ∧ k .non (mupd M2 a0 (.lst (ds ++ es)))) x) x
theorem Reps.dropLast {K : PySem.W.Frag} {F : Hp} {vs : List V} {ds : List D} (r : Reps K F vs ds) : Reps K F vs.dropLast ds.dropLast := by
  rw [List.dropLast_eq_take, List.dropLast_eq_take, r.length]
  exact r.take _
section
variable {X : Cx} {o e : Expr} {wo we : WE} {apos cpos : Pos}
theorem de_pop (ho : DE X o wo) (hbase : attributeBase o "pop" X.env (eval o X.env) = eval o X.env := by rfl) (hline : (apos.endLine == cpos.line) = true := by rfl) : DE X (.Call (.Attribute o "pop" apos) [] [] cpos) (wPop wo) := by
  refine ⟨fun W tk => pe_imp (pe_bm0 PySem.F.plainAttrs_list PySem.F.slot_list_pop PySem.F.type_list_pop mt_pop (ho.pe W tk) hbase hline) fun σ H Q q => ?_⟩
  obtain ⟨F, M, ρ, k, x, S, R, w, pv, px⟩ := q
  refine ⟨F, M, ρ, _, x, S, R, w, fun v d H1 F1 M1 e1 S1 r1 w1 => ?_, px⟩
  obtain ⟨a, ds, d, rfl, hm, hd, w2⟩ := w1
  cases r1
  obtain ⟨_, hl, xs, hx, hr⟩ := S1.mlst hm
  obtain ⟨v, hv, rv⟩ := hr.get hd
  obtain ⟨S2, e2⟩ := S1.write hm (o := .lst xs.dropLast) (m := .lst ds.dropLast) ⟨_, rfl, hr.dropLast, by rw [List.length_dropLast]; omega⟩
  exact ⟨Or.inl ⟨rfl, _, SqL.of hx⟩, a, xs, v, rfl, rfl, hx, by rw [hr.length]; exact hv, pv _ _ _ _ _ (e1.trans e2) S2 (rv.mono e2.sm) w2⟩
theorem de_extend (ho : DE X o wo) (he : DE X e we) (hs : starEach (e :: []) X.env = (false, eval e X.env) :: starEach [] X.env := by rfl)
    (hbase : attributeBase o "extend" X.env (eval o X.env) = eval o X.env := by rfl)
    (hfew : ((backTo cpos (starEach (e :: []) X.env)).all (fun x => !x.1) && (backToKw cpos (keywordEach [] X.env)).all (fun x => x.1.isSome)
      && decide ((e :: []).length + ([] : List Keyword).length + (if ([] : List Keyword).isEmpty then 0 else 1) < 30)) = true := by rfl)
    (hline : (apos.endLine == cpos.line) = true := by rfl) (hplain : (backTo cpos (starEach [] X.env)).any (·.1) = false := by rfl) :
    DE X (.Call (.Attribute o "extend" apos) [e] [] cpos) (wExtend wo we) := by
  refine ⟨fun W tk => pe_imp (pe_bm PySem.F.plainAttrs_list PySem.F.slot_list_extend PySem.F.type_list_extend mt_extend (ho.pe W tk) (pa_cons (he.pe W tk) pa_nil hs) hbase hfew hline hs hplain) fun σ H Q q => ?_⟩
  obtain ⟨F, M, ρ, k, x, S, R, w, pv, px⟩ := q
  refine ⟨F, M, ρ, _, x, S, R, w, fun v d H1 F1 M1 e1 S1 r1 w1 => ?_, px⟩
  obtain ⟨a, ds0, rfl, hm0, w2⟩ := w1
  cases r1
  obtain ⟨_, _, xs0, hx0, _⟩ := S1.mlst hm0
  refine ⟨Or.inl ⟨rfl, _, SqL.of hx0⟩, F1, M1, ρ, _, x, S1, R.mono e1.sm, w2, fun u e H2 F2 M2 e2 S2 r2 w3 => ?_, px.on e1⟩
  obtain ⟨es, ds, rfl, hm, hl, w4⟩ := w3
  obtain ⟨_, _, xs, hx, hr⟩ := S2.mlst hm
  cases r2 with
  | lst hb rb lb =>
    obtain ⟨S3, e3⟩ := S2.write hm (o := .lst (xs ++ _)) (m := .lst (ds ++ es)) ⟨_, rfl, hr.append rb, by rw [List.length_append, sizeLine_eq]; exact hl⟩
    exact ⟨a, _, xs, _, rfl, rfl, hx, S2.fz _ _ hb, by rw [hr.length, rb.length, sizeLine_eq]; exact hl, pv _ _ _ _ _ ((e1.trans e2).trans e3) S3 .non w4⟩
end
/-! ### {k: v for x in ..} -/
def compDD (gt : WG) (wt : WT) (wk wv : WE) (g : MH → Prop) (ρ : Rh) : List D → MH → List Str → List D → (List Str → List D → MH → Prop) → Prop
  | [], M, ks, xs, k => g M ∧ k ks xs M
  | d :: r, M, ks, xs, k => g M ∧ gt d ρ M fun ρ1 M1 => wt ρ1 M1 (fun b M2 => match b with
    | true => wk ρ1 M2 (fun y M3 => wv ρ1 M3 (fun z M4 => onStr y fun s => compDD gt wt wk wv g ρ r M4 (putKs ks s) (putXs ks xs s z) k) noX) noX
    | false => compDD gt wt wk wv g ρ r M2 ks xs k) noX
def wDcM (wi : WI) (gt : WG) (wt : WT) (wk wv : WE) (own : List Nat) : WE := fun ρ M k x => wi ρ M (fun ds g M1 => compDD gt wt wk wv g (wipeD ρ own) ds M1 [] [] fun ks xs M2 => ∀ a, M2 a = none → k (.ref a) (mupd M2 a (.dct ks xs))) x
theorem putX_len {α : Type} {ks : List Str} {xs : List α} {z : Str} {v : α} (h : ks.length = xs.length) : (putKs ks z).length = (putXs ks xs z v).length ∧ (putXs ks xs z v).length ≤ xs.length + 1 := by
  unfold putKs putXs
  by_cases e : z ∈ ks
  · rw [if_pos e, if_pos e, putL_len h]; exact ⟨h, Nat.le_succ _⟩
  · rw [if_neg e, if_neg e, List.length_append, List.length_append, h]; exact ⟨rfl, Nat.le_refl _⟩
theorem Reps.putX {K : PySem.W.Frag} {F : Hp} {v : V} {d : D} {ks : List Str} {xs : List V} {ds : List D} {z : Str} (r : Reps K F xs ds) (q : Rep K F v d) : Reps K F (putXs ks xs z v) (putXs ks ds z d) := by
  unfold putXs
  by_cases e : z ∈ ks
  · rw [if_pos e, if_pos e]; exact Reps.putL q r
  · rw [if_neg e, if_neg e]; exact r.snoc q
theorem dc_in {K : PySem.W.Frag} {wi : WI} {is : List Nat} {gt : WG} {wt : WT} {wk wv : WE} {own : List Nat} (hsub : ∀ i ∈ is, i ∈ own) {W : WX} {σ : L2.St} {H : Hp} {Q : VK} {F : Hp} {M : MH} {ρ : Rh} {x : KE} {k : List Str → List D → MH → Prop}
    (S : RepS K H F M) (R : RepE K F σ ρ) (w : wi ρ M (fun ds g M1 => compDD gt wt wk wv g (wipeD ρ own) ds M1 [] [] k) x) (px : PostX K H F M x (fun c d => W c d σ))
    (fin : ∀ (H1 F1 : Hp) (M1 : MH) (D : Addr) ks vs es H' F' M', Ext H F M H1 F1 M1 → H1 D = none → Ext H1 F1 M1 H' F' M' → RepS K H' F' M' → H' D = some (.dK (kvz ks vs)) → F' D = none → M' D = none → Reps K F' vs es → ks.length = es.length → es.length ≤ sizeLine → k ks es M' → Q (.ref D) H') :
    tDc (iOf K W wi) (gOf K is gt) (tOfT K noW wt) (tOf K noW wk) (tOf K noW wv) own σ H Q := by
  refine ⟨F, M, ρ, _, x, S, R, w, fun J ds g H1 F1 M1 e1 S1 wk1 w1 => ?_, px⟩
  intro D hD
  have R1 : RepE K F1 (L2.wipe σ own) (wipeD ρ own) := (R.mono e1.sm).wipe own
  refine ⟨fun i m H' => m = ds.length - i ∧ i ≤ ds.length ∧ ∃ F' M' ks vs acc, Ext H1 F1 M1 H' F' M' ∧ RepS K H' F' M' ∧ H' D = some (.dK (kvz ks vs)) ∧ F' D = none ∧ M' D = none ∧ Reps K F' vs acc ∧ ks.length = acc.length ∧ acc.length ≤ i ∧
      compDD gt wt wk wv g (wipeD ρ own) (ds.drop i) M' ks acc k,
    ⟨_, rfl, Nat.zero_le _, F1, M1, [], [], [], (Ext.refl _ _ _).at_new hD _, S1.untold (S1.fno hD) (S1.mno hD) _, upd_same, S1.fno hD, S1.mno hD, .nil, rfl, Nat.le_refl _, w1⟩, ?_⟩
  rintro i m H' ⟨rfl, hi, F', M', ks, vs, acc, e', S', hD', fD, mD, ra, lk, la, w'⟩
  by_cases hlt : i < ds.length
  · obtain ⟨d, hd⟩ : ∃ d, ds[i]? = some d := ⟨ds[i], by simp [hlt]⟩
    rw [drop_cons hd] at w'
    obtain ⟨gm, w'⟩ := w'
    refine .inr ⟨wk1.go i H' F' M' hlt e'.sm S' gm, fun H2 => ∃ F2 M2 ks vs acc, Ext H1 F1 M1 H2 F2 M2 ∧ RepS K H2 F2 M2 ∧ H2 D = some (.dK (kvz ks vs)) ∧ F2 D = none ∧ M2 D = none ∧ Reps K F2 vs acc ∧ ks.length = acc.length ∧ acc.length ≤ i + 1 ∧
      compDD gt wt wk wv g (wipeD ρ own) (ds.drop (i + 1)) M2 ks acc k, fun H2 n2 => ⟨_, by omega, rfl, hlt, n2⟩, fun v H3 y => ?_⟩
    obtain ⟨F3, d', e3, S3, hd', r3⟩ := wk1.yld i H' v H3 F' M' hlt e'.sm S' gm y
    rw [hd] at hd'
    cases hd'
    obtain ⟨hD3, fD3, mD3⟩ := e3.fr D _ hD' fD mD
    refine ⟨d, F3, M', _, _, S3, R1.mono (e'.trans e3).sm, r3, w', fun σ4 ρ4 H4 F4 M4 e4 S4 R4 c4 w4 => ⟨c4.wipe hsub |>.trans ?_, ?_⟩⟩
    · exact wipe_wipe σ own
    obtain ⟨hD4, fD4, mD4⟩ := e4.fr D _ hD3 fD3 mD3
    refine ⟨F4, M4, ρ4, _, noX, S4, R4, w4, fun b H5 F5 M5 e5 S5 w5 => ?_, noX_post⟩
    obtain ⟨hD5, fD5, mD5⟩ := e5.fr D _ hD4 fD4 mD4
    have e05 := ((e'.trans e3).trans e4).trans e5
    have e35 := (e3.trans e4).trans e5
    cases b with
    | true =>
      refine iteT ?_
      refine ⟨F5, M5, ρ4, _, noX, S5, R4.mono e5.sm, w5, fun u e H6 F6 M6 e6 S6 r6 w6 => ?_, noX_post⟩
      obtain ⟨hD6, fD6, mD6⟩ := e6.fr D _ hD5 fD5 mD5
      refine ⟨F6, M6, ρ4, _, noX, S6, R4.mono (e5.trans e6).sm, w6, fun u2 z H7 F7 M7 e7 S7 r7 w7 => ?_, noX_post⟩
      obtain ⟨hD7, fD7, mD7⟩ := e7.fr D _ hD6 fD6 mD6
      obtain ⟨s, rfl, w7⟩ := str_of (r6.mono e7.sm) w7
      have e67 := e6.trans e7
      have rv := ra.mono (e35.trans e67).sm
      have lv : ks.length = vs.length := lk.trans rv.length.symm
      obtain ⟨l1, l2⟩ := putX_len (z := s) (v := z) lk
      refine ⟨_, .inr s, rfl, hD7, by rw [kvz_len lv, rv.length]; have := wk1.sz; omega, F7, M7, putKs ks s, putXs ks vs s u2, putXs ks acc s z, (e05.trans e67).at_new hD _, S7.untold fD7 mD7 _, ?_, fD7, mD7, rv.putX r7, l1, by omega, w7⟩
      rw [upd_same, putK_kvz _ _ _ _ lv]
    | false =>
      refine iteF ?_
      exact ⟨F5, M5, ks, vs, acc, e05, S5, hD5, fD5, mD5, ra.mono e35.sm, lk, Nat.le_succ_of_le la, w5⟩
  · have e : i = ds.length := by omega
    subst e
    rw [List.drop_length] at w'
    exact .inl ⟨wk1.stop H' F' M' e'.sm S' w'.1, fin H1 F1 M1 D ks vs acc H' F' M' e1 hD e' S' hD' fD mD ra lk (Nat.le_trans la wk1.sz) w'.2⟩
theorem fin_mutD {K : PySem.W.Frag} {H F : Hp} {M : MH} {k : KD} {Q : VK} (pv : PostV K H F M k Q) (H1 F1 : Hp) (M1 : MH) (L : Addr) (ks : List Str) (vs : List V) (es : List D) (H' F' : Hp) (M' : MH) (e1 : Ext H F M H1 F1 M1) (hD : H1 L = none) (e' : Ext H1 F1 M1 H' F' M')
    (S' : RepS K H' F' M') (hD' : H' L = some (.dK (kvz ks vs))) (fD : F' L = none) (mD : M' L = none) (r : Reps K F' vs es) (lk : ks.length = es.length) (hl : es.length ≤ sizeLine) (w : ∀ a, M' a = none → k (.ref a) (mupd M' a (.dct ks es))) : Q (.ref L) H' := by
  have S2 : RepS K H' F' (mupd M' L (.dct ks es)) := ⟨S'.fz, fun b m q => by
    by_cases hb : b = L
    · subst hb; rw [mupd_same] at q; cases q; exact ⟨fD, _, hD', vs, rfl, r, lk, hl⟩
    · rw [mupd_ne hb] at q; exact S'.mu b m q⟩
  have e2 : Ext H1 F1 M1 H' F' (mupd M' L (.dct ks es)) := ⟨e'.sm, fun b u q1 q2 q3 => by
    have hb : b ≠ L := fun z => by rw [z, hD] at q1; cases q1
    rw [mupd_ne hb]
    exact e'.fr b u q1 q2 q3⟩
  exact pv _ _ _ _ _ (e1.trans e2) S2 (.ref L) (w L mD)
section
variable {X : Cx} {kx vx tg iter : Expr} {ifs : List Expr} {scope : Scope} {own : List (Str × Nat)} {pos : Pos} {wi : WI} {is : List Nat} {gt : WG} {wt : WT} {wk wv : WE}
theorem de_dcM (hc : X.calm = true) (hN : X.N.Nodup) (hi : DI X tg iter wi) (ok : BlkOk X.N X.env.scope scope own) (hsub : ∀ i ∈ is, i ∈ own.map (·.2))
    (hg : ∀ (s : Shared) (H : Hp) (C : Addr) (cl : List (Str × Addr)) (fp : List Addr), DG (X.blk s H scope (compEnvC scope cl C X.env) fp) tg is gt) (ht : ∀ (s : Shared) (H : Hp) (C : Addr) (cl : List (Str × Addr)) (fp : List Addr), DTs (X.blk s H scope (compEnvC scope cl C X.env) fp) ifs wt)
    (hk : ∀ (s : Shared) (H : Hp) (C : Addr) (cl : List (Str × Addr)) (fp : List Addr), DE (X.blk s H scope (compEnvC scope cl C X.env) fp) kx wk)
    (hv : ∀ (s : Shared) (H : Hp) (C : Addr) (cl : List (Str × Addr)) (fp : List Addr), DE (X.blk s H scope (compEnvC scope cl C X.env) fp) vx wv) (hs : ∀ x, foldedSetIterable iter X.env x = pure x := by intro _; rfl) :
    DE X (.DictComp kx vx [⟨tg, iter, ifs, 0⟩] scope pos) (wDcM wi gt wt wk wv (own.map (·.2))) := by
  refine ⟨fun W tk => pe_imp (pe_dc (tk := tOf X.K noW wk) (tv := tOf X.K noW wv) (tt := tOfT X.K noW wt) (g := gOf X.K is gt) hc hN (hi.pi W tk) ok (fun s H C cl fp => (hg s H C cl fp).pg) (fun s H C cl fp => (ht s H C cl fp).pt noW takes0) (fun s H C cl fp => (hk s H C cl fp).pe noW takes0) (fun s H C cl fp => (hv s H C cl fp).pe noW takes0) hs) fun σ H Q q => ?_⟩
  obtain ⟨F, M, ρ, k, x, S, R, w, pv, px⟩ := q
  exact dc_in hsub S R w px (fin_mutD pv)
end
end DL

/-! In direct mode: dicts copied, walked, comprehended; lists that a callee hands back as the caller's own; pop, extend; self lent to a method. -/
namespace DL
open PySem PySem.Spec PyProof.Rows L2 _root_.DM
/-- the answer, a list, is the caller's own -/
def wfOwn (m : List D → Ans) : WF := fun ds M k x => match m ds with
  | .ok (.lst xs) => ∀ a, M a = none → k (.ref a) (mupd M a (.lst xs))
  | .exc n fs => x n fs M
  | _ => False
theorem spD_frz {K : PySem.W.Frag} {n : Nat} {m : List D → Ans} {vs : List V} {H : Hp} {Q : VK} {E : XK} (h : spD K n (wfOf m) vs H Q E) (hm : ∀ ds d, m ds = .ok d → ∃ xs, d = .lst xs) : spD K n (wfOwn m) vs H Q E := by
  obtain ⟨F, M, ds, k, x, S, r, hl, w, pv, px⟩ := h
  refine ⟨F, M, ds, fun d M' => ∃ a xs, d = .ref a ∧ M a = none ∧ M' = mupd M a (.lst xs) ∧ k (.lst xs) M, x, S, r, hl, ?_, ?_, px⟩
  · unfold wfOf at w
    unfold wfOwn
    revert w
    cases e : m ds with
    | ok d =>
      obtain ⟨xs, rfl⟩ := hm ds d e
      exact fun w a ha => ⟨a, xs, rfl, ha, rfl, w⟩
    | exc nm fs => exact fun w => w
    | bad => exact fun w => w
  · rintro v d H1 F1 M1 e1 S1 r1 ⟨a, xs, rfl, ha, rfl, w1⟩
    cases r1
    obtain ⟨_, o, ho, hr⟩ := S1.mu a _ mupd_same
    obtain ⟨S2, e2⟩ := S1.freeze mupd_same ho
    rw [mdel_upd ha] at S2 e2
    exact pv (.ref a) _ H1 _ M (e1.trans e2) S2 (hr.frz rfl e2.sm upd_same) w1
theorem FnOk.weak {P : Program} {w : World} {K : PySem.W.Frag} {mg : Str → Option Value} {base : Heap} {CX : CXT} {k : Nat} {f : Addr} {fd : FuncData} {ps : List Str} {sp sp' : Sp} (F : FnOk P w K mg base CX k f fd ps sp) (i : ∀ vs H Q E, sp' vs H Q E → sp vs H Q E) : FnOk P w K mg base CX k f fd ps sp' :=
  { F with
    len := fun vs H Q E h => F.len vs H Q E (i _ _ _ _ h)
    run := fun A outer s H as us vs Q E hr e b r h => F.run A outer s H as us vs Q E hr e b r (i _ _ _ _ h) }
/-- handed back frozen -/
theorem FnD.frz {P : Program} {w : World} {K : PySem.W.Frag} {mg : Str → Option Value} {base : Heap} {f : Str} {k n : Nat} {m : List D → Ans} (F : FnD P w K mg base f k n (wfOwn m)) (hm : ∀ ds d, m ds = .ok d → ∃ xs, d = .lst xs) : FnD P w K mg base f k n (wfOf m) := by
  obtain ⟨a, fd, ps, hn, G, h⟩ := F.ex
  exact ⟨a, fd, ps, hn, FnOk.weak G fun vs H Q E q => spD_frz q hm, h⟩
/-- a method at a thing that is lent -/
def wMethO (C nm : Str) (m : List D → Ans) (n : Nat) (wo : WE) (wa : WA) : WE := fun ρ M k x => wo ρ M (fun d M1 => gd (insB C nm d M1) (wa ρ M1 (fun ds M2 => ∃ es A, FrzA M2 (d :: ds) es A ∧ es.length = n ∧ match m es with
  | .ok d => tupT d = true ∧ k d M2
  | .exc nm fs => tupTs (fs.map (·.2)) = true ∧ x nm fs M2
  | .bad => False) x)) x
section
variable {X : Cx} {pos apos p : Pos} {C nm : Str} {o e : Expr} {es : List Expr} {k n : Nat} {m : List D → Ans} {wo : WE} {wa : WA}
theorem de_methO {pl : Sem Bool} (F : MethD X.prog X.w X.K X.base X.mg C nm k n (wfOf m)) (hr : Room k X.A) (ho : DE X o wo) (ha : DA X (e :: es) wa)
    (hst : starEach (e :: es) X.env = (false, eval e X.env) :: starEach es X.env := by rfl) (hpl : (backTo pos (starEach es X.env)).any (·.1) = false := by rfl)
    (ht : eval (.Call (.Attribute o nm apos) (e :: es) [] pos) X.env = (do
      let ov ← eval o X.env
      standAt apos.atName
      let (f, first) ← holding [ov] (getMethod ov nm pl)
      callWith pos f first (backTo pos (starEach (e :: es) X.env)) (backToKw pos (keywordEach [] X.env))) := by rfl) :
    DE X (.Call (.Attribute o nm apos) (e :: es) [] pos) (wMethO C nm m n wo wa) := by
  obtain ⟨a, fd, ps, hn, G, hm, hb⟩ := F.ex
  refine ⟨fun W tk => pe_imp (pe_methAt (ho.pe W tk) F.cls hm G hr hb (fun σ => passAt tk σ) (ha.pa W tk) hst hpl ht) fun σ H Q q => ?_⟩
  obtain ⟨F1, M, ρ, k, x, S, R, w, pv, px⟩ := q
  refine ⟨F1, M, ρ, _, x, S, R, w, fun v d H1 F1 M1 e1 S1 r1 w1 => ?_, px⟩
  obtain ⟨hi, w1⟩ := gd_of w1
  obtain ⟨a, dx, fs, rfl, h1, h2⟩ := ins_of S1 r1 hi
  refine ⟨a, dx, fs, rfl, h1, h2, F1, M1, ρ, _, x, S1, R.mono e1.sm, w1, fun vs ds H2 F2 M2 e2 S2 r2 w2 => ?_, px.on e1⟩
  obtain ⟨es, A, hf, hl, w2⟩ := w2
  have e12 := e1.trans e2
  have hA : ∀ a, a ∈ A → ∃ m e, M2 a = some m ∧ frzD m = some e := fun a h => hf.mem h
  refine ⟨lent H2 F2 A, noM, es, fun d _ => tupT d = true ∧ k d M2, fun nm fs _ => tupTs (fs.map (·.2)) = true ∧ x nm fs M2, lent_S S2, lent_rep S2 hA hf (fun _ h => h) (.cons (r1.mono e2.sm) r2), hl, ?_, ?_, ?_⟩
  · unfold wfOf
    exact w2
  · intro v d H3 F3 M3 e3 S3 r3 ⟨h1, h2⟩
    obtain ⟨S4, e4, hA3⟩ := back_S S2 hA e3 S3
    exact pv v d H3 _ M2 (e12.trans e4) S4 (back_rep hA3 h1 r3) h2
  · intro nm dd vfs fs H3 F3 M3 e3 S3 hd2 r3 ⟨h1, h2⟩
    obtain ⟨S4, e4, hA3⟩ := back_S S2 hA e3 S3
    exact px nm dd vfs fs H3 _ M2 (e12.trans e4) S4 hd2 (RepF.back hA3 h1 r3) h2
end
end DL
namespace DM
open PySem PySem.Spec PyProof.Rows L2 DL
/-! ### dicts -/
def fDcopy := on1V fun u => match ctV u with
  | some (.dc ks xs) => some (.dcl ks xs)
  | _ => none
def fListX := on1V fun u => match ctV u with
  | some (.dc ks _) => some (.lst (ks.map .str))
  | _ => match itemsV u with
    | some xs => some (.lst xs)
    | none => none
theorem cm_listX : CallM rListX fListX := cm1 fun M0 M u d k hu q => by
  have other : itemsV u = none ∨ (∃ xs, itemsV u = some xs ∧ k (.lst xs) M) → itemsV u = none ∨ itemsD d M fun xs => k (.lst xs) M := fun h => by
    rcases h with h | ⟨xs, h, w⟩
    · exact .inl h
    · exact .inr (itemsV_ok hu h w)
  cases hc : ctV u with
  | some c =>
    rw [hc] at q
    rw [ctV_D hu hc]
    cases c with
    | dc ks xs => exact q
    | _ =>
      dsimp only at q ⊢
      cases hi : itemsV u with
      | none => rw [hi] at q; exact q.elim
      | some xs => rw [hi] at q; exact itemsV_ok hu hi q
  | none =>
    rw [hc] at q
    dsimp only at q
    cases hi : itemsV u with
    | none => rw [hi] at q; exact q.elim
    | some xs =>
      rw [hi] at q
      have w := itemsV_ok (k := fun xs => k (.lst xs) M) hu hi q
      cases hcd : ctD d M with
      | none => exact w
      | some c =>
        cases c with
        | dc ks ys =>
          cases u with
          | v z => cases hu; cases d <;> first | (cases hcd; done) | (cases hi; done) | cases hc
          | o m =>
            obtain ⟨a, rfl, h1, _⟩ := hu
            have hcd : (match M a with | some m => ctO m | none => none) = some (Ct.dc ks ys) := hcd
            rw [h1] at hcd
            have hc : ctO m = none := hc
            dsimp only at hcd
            rw [hc] at hcd
            cases hcd
        | _ => exact w
def miKeys (m : WM) : WMI := fun r K X => m r (fun u => match u with
  | .v (.dcl ks _) => K (ks.map .str)
  | _ => .bad) X
def mDcopy (ma : WM) : WM := fun r K X => ma r (fun u => match ctV u with
  | some (.dc ks xs) => K (.v (.dcl ks xs))
  | _ => .bad) X
def comp0D (g : WMG) (mt : WMT) (mk mv : WM) (r : Rm) : List D → List Str → List D → (List Str → List D → Ans) → Ans
  | [], ks, xs, K => K ks xs
  | d :: t, ks, xs, K => oK (g d r) fun r1 => mt r1 (fun b => match b with
    | true => mk r1 (fun u => onVl u fun y => mv r1 (fun w => onVl w fun z => match y with
      | .str s => comp0D g mt mk mv r t (putKs ks s) (putXs ks xs s z) K
      | _ => .bad) fun _ _ => .bad) fun _ _ => .bad
    | false => comp0D g mt mk mv r t ks xs K) fun _ _ => .bad
@[irreducible] def compDM (g : WMG) (mt : WMT) (mk mv : WM) (r : Rm) (ds : List D) (ks : List Str) (xs : List D) (K : List Str → List D → Ans) : Ans := comp0D g mt mk mv r ds ks xs K
theorem compDM_nil {g : WMG} {mt : WMT} {mk mv : WM} {r : Rm} {ks : List Str} {xs : List D} {K : List Str → List D → Ans} : compDM g mt mk mv r [] ks xs K = K ks xs := by unfold compDM; rfl
theorem compDM_cons {g : WMG} {mt : WMT} {mk mv : WM} {r : Rm} {d : D} {t : List D} {ks : List Str} {xs : List D} {K : List Str → List D → Ans} : compDM g mt mk mv r (d :: t) ks xs K = oK (g d r) fun r1 => mt r1 (fun b => match b with
    | true => mk r1 (fun u => onVl u fun y => mv r1 (fun w => onVl w fun z => match y with
      | .str s => compDM g mt mk mv r t (putKs ks s) (putXs ks xs s z) K
      | _ => .bad) fun _ _ => .bad) fun _ _ => .bad
    | false => compDM g mt mk mv r t ks xs K) fun _ _ => .bad := by unfold compDM; rfl
def mDc (mi : WMI) (g : WMG) (mt : WMT) (mk mv : WM) (own : List Nat) : WM := fun r K X => mi r (fun ds => compDM g mt mk mv (wipeM r own) ds [] [] fun ks xs => K (.v (.dcl ks xs))) X
theorem comp_DD {g : WMG} {mt : WMT} {mk mv : WM} {M0 : M0T} {M : MH} {r : Rm} {ρ : Rh} {G : Ans → Prop} (nb : ¬ G .bad) (O : Own M0 M r ρ) : ∀ (ds : List D) {ks : List Str} {xs : List D} {K : List Str → List D → Ans} {k : List Str → List D → MH → Prop}, (∀ ks xs, G (K ks xs) → k ks xs M) → G (comp0D g mt mk mv r ds ks xs K) → compDD (wG g) (wT mt) (wE mk) (wE mv) (fun _ => True) ρ ds M ks xs k
  | [], ks, xs, K, k, hk, q => ⟨trivial, hk _ _ q⟩
  | d :: t, ks, xs, K, k, hk, q => by
    refine ⟨trivial, M0, r, O, ?_⟩
    unfold comp0D at q
    cases e1 : g d r with
    | none => rw [e1] at q; exact (nb q).elim
    | some r1 =>
      rw [e1] at q
      refine fun ρ1 O1 => ⟨M0, r1, _, _, G, O1, ⟨nb, fun n fs q => nb q⟩, fun b q => ?_, q⟩
      cases b with
      | false => exact comp_DD nb O t hk q
      | true => exact ⟨M0, r1, _, _, G, O1, ⟨nb, fun n fs q => nb q⟩, fun u y hu q => onVl_in nb hu q fun q => ⟨M0, r1, _, _, G, O1, ⟨nb, fun n fs q => nb q⟩, fun w z hw q => onVl_in nb hw q fun q => by
          cases y with
          | str s => exact comp_DD nb O t hk q
          | _ => exact nb q, q⟩, q⟩
/-! ### own lists -/
def mPopS (i j : Nat) : WMS := fun r E => match r[j]? with
  | some (some (.o (.lst ds))) => match ds[ds.length - 1]? with
    | some d => E.nx ((r.set j (some (.o (.lst ds.dropLast)))).set i (some (.v d)))
    | none => .bad
  | _ => .bad
def mExt (j : Nat) (me : WM) : WMS := fun r E => match r[j]? with
  | some (some (.o (.lst ds))) => me r (fun u => match u with
    | .v (.lst es) => gdR (Nat.ble (ds.length + es.length) 16777216) (E.nx (r.set j (some (.o (.lst (ds ++ es))))))
    | _ => .bad) E.xc
  | _ => .bad
def mNewCall (i : Nat) (m : List D → Ans) (n : Nat) (ma : WMA) : WMS := fun r E => ma r (fun us => onVs us fun ds => gdR (Nat.beq ds.length n) (match m ds with
  | .ok (.lst xs) => E.nx (r.set i (some (.o (.lst xs))))
  | .exc n fs => E.xc n fs
  | _ => .bad)) E.xc
def mFrzL (i : Nat) (s : WMS) : WMS := fun r E => match r[i]? with
  | some (some (.o (.dct ks xs))) => s (r.set i (some (.v (.dcl ks xs)))) E
  | _ => .bad
/-- own content of a receiver -/
def insO (C m : Str) (u : Vl) : Bool := match u with
  | .o (.ins C' ks _) => decide (C' = C) && decide (m ∉ ks)
  | _ => false
def mMethO (C nm : Str) (m : List D → Ans) (n : Nat) (mo : WM) (ma : WMA) : WM := fun r K X => mo r (fun u => gdR (insO C nm u) (ma r (fun us => oK (fzOf (u :: us)) fun ds => gdR (Nat.beq ds.length n) (onRT (m ds) K X)) X)) X
section
variable {X : Cx} {pos apos cpos p p1 p2 p3 : Pos} {e o : Expr} {es : List Expr} {me mo : WM} {ma : WMA} {k n : Nat} {m : List D → Ans} {tg : Expr}
theorem me_dcopy {d0 : Expr} (h : DE X d0 (wCB rDcopyM (wA (mCons me mNil)))) : ME X d0 (mDcopy me) := de_weak (de_lck h) fun ρ M k x ⟨M0, r, K, XX, G, O, L, hk, g⟩ => by
  refine ⟨M0, r, fun us => match us with
    | [u] => (match ctV u with | some (.dc ks xs) => K (.v (.dcl ks xs)) | _ => .bad)
    | _ => .bad, XX, G, O, L, fun us ds hu g => ?_, g⟩
  cases hu with
  | nil => exact (L.nb g).elim
  | @cons u d us2 ds2 h1 h2 =>
    cases h2 with
    | cons _ _ => exact (L.nb g).elim
    | nil =>
    have g : G (match ctV u with | some (.dc ks xs) => K (.v (.dcl ks xs)) | _ => .bad) := g
    cases hc : ctV u with
    | none => rw [hc] at g; exact (L.nb g).elim
    | some c =>
      rw [hc] at g
      cases c with
      | dc ks xs =>
        show (match ctD d M with | some (.dc ks xs) => _ | _ => False)
        rw [ctV_D h1 hc]
        exact fun a ha => ⟨a, ks, xs, rfl, mupd_same, by rw [mdel_upd ha]; exact hk (.v _) _ rfl g⟩
      | _ => exact (L.nb g).elim
theorem mi_keys (h : ME X e me) : MI X tg e (miKeys me) := di_weak (di_keys h) fun ρ M k x ⟨M0, r, K, XX, G, O, L, hk, g⟩ => by
  refine ⟨M0, r, _, XX, G, O, L, fun u d hu g => ?_, g⟩
  cases u with
  | o n => exact (L.nb g).elim
  | v z =>
    cases hu
    cases d with
    | dcl ks xs => exact ⟨ks, xs, rfl, hk _ g⟩
    | _ => exact (L.nb g).elim
theorem me_dc {kx vx iter : Expr} {ifs : List Expr} {scope : Scope} {own : List (Str × Nat)} {mi : WMI} {is : List Nat} {g : WMG} {mt : WMT} {mk mv : WM} (hc : X.calm = true) (hN : X.N.Nodup) (hi : MI X tg iter mi) (ok : BlkOk X.N X.env.scope scope own) (hsub : ∀ i ∈ is, i ∈ own.map (·.2))
    (hg : ∀ (s : Shared) (H : Hp) (C : Addr) (cl : List (Str × Addr)) (fp : List Addr), MG (X.blk s H scope (compEnvC scope cl C X.env) fp) tg is g) (ht : ∀ (s : Shared) (H : Hp) (C : Addr) (cl : List (Str × Addr)) (fp : List Addr), MTs (X.blk s H scope (compEnvC scope cl C X.env) fp) ifs mt)
    (hk : ∀ (s : Shared) (H : Hp) (C : Addr) (cl : List (Str × Addr)) (fp : List Addr), ME (X.blk s H scope (compEnvC scope cl C X.env) fp) kx mk)
    (hv : ∀ (s : Shared) (H : Hp) (C : Addr) (cl : List (Str × Addr)) (fp : List Addr), ME (X.blk s H scope (compEnvC scope cl C X.env) fp) vx mv) (hs : ∀ x, foldedSetIterable iter X.env x = pure x := by intro _; rfl) :
    ME X (.DictComp kx vx [⟨tg, iter, ifs, 0⟩] scope pos) (mDc mi g mt mk mv (own.map (·.2))) := de_weak (de_lck (de_dcM hc hN hi ok hsub hg ht hk hv hs)) fun ρ M k x ⟨M0, r, K, XX, G, O, L, hk, q⟩ =>
  ⟨M0, r, _, XX, G, O, L, fun ds q => by
    unfold compDM at q
    exact comp_DD L.nb (O.wipeD _) ds (fun ks xs q a ha => ⟨a, ks, xs, rfl, mupd_same, by rw [mdel_upd ha]; exact hk (.v _) _ rfl q⟩) q, q⟩
theorem ms_pop {i j : Nat} {x y : Str} {px : Pos} (hN : X.N.Nodup) (hi : X.N[i]? = some x) (hx : Loc X.env.scope x) (hj : X.N[j]? = some y := by rfl) (hv : Vis X.env.scope y := by first | exact Or.inl rfl | exact Or.inr (Or.inl rfl) | exact Or.inr (Or.inr rfl)) (hd : (y == ("__debug__" : Str)) = false := by decide) (hcd : (y == ("__classdict__" : Str)) = false := by decide)
    (hbase : attributeBase (.Name y p1) "pop" X.env (eval (.Name y p1) X.env) = eval (.Name y p1) X.env := by rfl) (hline : (apos.endLine == cpos.line) = true := by rfl)
    (hs : swapsWith (.Call (.Attribute (.Name y p1) "pop" apos) [] [] cpos) (some (.Name x px)) pos.line X.env = pure false := by rfl) (hf : X.fn x = true ∨ X.env.scope.names.lookup x = some .local := by first | exact .inl rfl | exact .inr rfl | assumption) (hij : i ≠ j := by decide) :
    MS X (.Assign [.Name x px] (.Call (.Attribute (.Name y p1) "pop" apos) [] [] cpos) pos) (mPopS i j) := ds_weak (ds_set hN hi hx (de_pop (dv j hj hv hd hcd) hbase hline) hs hf) fun ρ M E ⟨M0, r, EK, G, O, L, g⟩ => by
  unfold mPopS at g
  split at g
  · rename_i ds e1
    obtain ⟨z, e2, a, rfl, e3, e4⟩ := O.at_ j _ e1
    show (match ρ[j]? with | some (some d) => _ | _ => False)
    rw [e2]
    cases hl : ds[ds.length - 1]? with
    | none => rw [hl] at g; exact (L.nb g).elim
    | some d =>
      rw [hl] at g
      exact ⟨a, ds, d, rfl, e3, hl, L.nx _ _ _ ((O.upd e1 e2 _).set i d) g⟩
  · exact (L.nb g).elim
theorem ms_ext {j : Nat} {y : Str} (h : DE X (.Call (.Attribute (.Name y p1) "extend" p2) [e] [] p3) (wExtend (wVar j) (wE me)))
    (hs : swapsWith (.Call (.Attribute (.Name y p1) "extend" p2) [e] [] p3) none pos.line X.env = pure false := by rfl) : MS X (.Expr (.Call (.Attribute (.Name y p1) "extend" p2) [e] [] p3) pos) (mExt j me) := ds_weak (ds_expr h hs) fun ρ M E ⟨M0, r, EK, G, O, L, g⟩ => by
  unfold mExt at g
  split at g
  · rename_i ds e1
    obtain ⟨z, e2, a, rfl, e3, e4⟩ := O.at_ j _ e1
    show (match ρ[j]? with | some (some d) => _ | _ => False)
    rw [e2]
    refine ⟨a, ds, rfl, e3, M0, r, _, EK.xc, G, O, L.lk O.sub, fun u d hu g => ?_, g⟩
    cases u with
    | o _ => exact (L.nb g).elim
    | v z =>
      cases hu
      cases d with
      | lst es =>
        obtain ⟨hb, g⟩ := gd_of (gdR_in L.nb g fun g => g)
        exact ⟨es, ds, rfl, e3, Nat.le_of_ble_eq_true hb, L.nx _ _ _ (O.upd e1 e2 _) g⟩
      | _ => exact (L.nb g).elim
  · exact (L.nb g).elim
theorem ms_newCall {i : Nat} {x f : Str} {px : Pos} (F : FnD X.prog X.w X.K X.mg X.base f k n (wfOwn m)) (hr : Room k X.A) (hN : X.N.Nodup) (hi : X.N[i]? = some x) (hx : Loc X.env.scope x) (ha : MA X (e :: es) ma) (hg : Gl X f := by rfl) (hd : (f == ("__debug__" : Str)) = false := by decide)
    (he : starEach (e :: es) X.env = (false, eval e X.env) :: starEach es X.env := by rfl) (hpl : (backTo cpos (starEach es X.env)).any (·.1) = false := by rfl)
    (hs : swapsWith (.Call (.Name f p) (e :: es) [] cpos) (some (.Name x px)) pos.line X.env = pure false := by rfl) (hf : X.fn x = true ∨ X.env.scope.names.lookup x = some .local := by first | exact .inl rfl | exact .inr rfl | assumption) (hi0 : i ≠ 0 := by decide) :
    MS X (.Assign [.Name x px] (.Call (.Name f p) (e :: es) [] cpos) pos) (mNewCall i m n ma) := ds_weak (ds_set hN hi hx (de_call F hr ha hg hd he hpl) hs hf) fun ρ M E ⟨M0, r, EK, G, O, L, g⟩ =>
  ⟨M0, r, _, EK.xc, G, O, L.lk O.sub, fun us ds hu g => gdR_in L.nb (onVs_in L.nb hu g) fun g => by
    unfold wfOwn
    revert g
    cases m ds with
    | ok d =>
      cases d with
      | lst xs => exact fun g a ha => L.nx _ _ _ (O.new i ha _ hi0) g
      | _ => exact fun g => L.nb g
    | exc nm fs => exact fun g => L.xc _ _ _ O.sub g
    | bad => exact fun g => L.nb g, g⟩
theorem mss_frzL {rest : List Stmt} {s : WMS} (i : Nat) (h : MSs X rest s) : MSs X rest (mFrzL i s) := dss_weak (dss_frzL i h) fun ρ M E ⟨M0, r, EK, G, O, L, g⟩ => by
  unfold mFrzL at g
  split at g
  · rename_i ks xs e
    obtain ⟨z, e2, a, rfl, e3, e4⟩ := O.at_ i _ e
    exact ⟨a, ks, xs, e2, e3, M0, _, EK, G, O.frz e e2 _, L, g⟩
  · exact (L.nb g).elim
theorem me_methO {C nm : Str} {pl : Sem Bool} (F : MethD X.prog X.w X.K X.base X.mg C nm k n (wfOf m)) (hr : Room k X.A) (ho : ME X o mo) (ha : MA X (e :: es) ma)
    (hst : starEach (e :: es) X.env = (false, eval e X.env) :: starEach es X.env := by rfl) (hpl : (backTo pos (starEach es X.env)).any (·.1) = false := by rfl)
    (ht : eval (.Call (.Attribute o nm apos) (e :: es) [] pos) X.env = (do
      let ov ← eval o X.env
      standAt apos.atName
      let (f, first) ← holding [ov] (getMethod ov nm pl)
      callWith pos f first (backTo pos (starEach (e :: es) X.env)) (backToKw pos (keywordEach [] X.env))) := by rfl) :
    ME X (.Call (.Attribute o nm apos) (e :: es) [] pos) (mMethO C nm m n mo ma) := de_weak (de_methO F hr ho ha hst hpl ht) fun ρ M k x ⟨M0, r, K, XX, G, O, L, hk, g⟩ =>
  ⟨M0, r, _, XX, G, O, L, fun u d hu g => by
    have g0 := g
    obtain ⟨hb, g⟩ := gd_of (gdR_in L.nb g fun g => g)
    refine gd_mk ?_ ⟨M0, r, _, XX, G, O, L, fun us ds hus g => ?_, g⟩
    · cases u with
      | v _ => cases hb
      | o mm =>
        obtain ⟨a, rfl, h1, _⟩ := hu
        show (match M a with | some (.ins C' ks _) => decide (C' = C) && decide (nm ∉ ks) | _ => false) = true
        rw [h1]
        cases mm with
        | ins C' ks xs => exact hb
        | _ => cases hb
    · cases e1 : fzOf (u :: us) with
      | none => rw [e1] at g; exact (L.nb g).elim
      | some es =>
        rw [e1] at g
        obtain ⟨A, hA⟩ := fz_A e1 (.cons hu hus)
        obtain ⟨h1, g⟩ := gd_of (gdR_in L.nb g fun g => g)
        refine ⟨es, A, hA, Nat.eq_of_beq_eq_true h1, ?_⟩
        revert g
        cases m es with
        | ok d => intro g; obtain ⟨h2, g⟩ := gd_of (gdR_in L.nb g fun g => g); exact ⟨h2, hk (.v _) _ rfl g⟩
        | exc nm fs => intro g; obtain ⟨h2, g⟩ := gd_of (gdR_in L.nb g fun g => g); exact ⟨h2, L.xc _ _ g⟩
        | bad => exact fun g => L.nb g, g⟩
end
/-! ### a def that hands back its own list -/
def vDO : Vl → Ans
  | .o (.lst xs) => .ok (.lst xs)
  | _ => .bad
def endKO : EndsK := { nx := fun _ => .bad, rt := vDO, bk := fun _ => .bad, ct := fun _ => .bad, xc := .exc }
def callMO (s : WMS) (N : List Str) (ds : List D) : Ans := s (startM N ds) endKO
def ownG (M : MH) (k : KD) (x : KE) (z : Ans) : Prop := match z with
  | .ok (.lst xs) => ∀ b, M b = none → k (.ref b) (mupd M b (.lst xs))
  | .exc n fs => x n fs M
  | _ => False
theorem hw_mO {m : List D → Ans} {s : WMS} {N : List Str} (e : ∀ ds, m ds = callMO s N ds) {n : Nat} (ds : List D) (M : MH) (k : KD) (x : KE) (_ : ds.length = n) (h : wfOwn m ds M k x) : wS s (startD N ds) M (retE k x) := by
  refine ⟨⟨M, none⟩, startM N ds, endKO, ownG M k x, Own.start M N ds, ⟨fun q => q, fun r ρ M1 O q => False.elim q, fun u d M1 hs hu q => ?_, fun r ρ M1 O q => False.elim q, fun r ρ M1 O q => False.elim q, fun n fs M1 hs q => ⟨M, hs, q⟩⟩, ?_⟩
  · cases u with
    | v z => exact False.elim q
    | o mm =>
      cases mm with
      | lst xs =>
        obtain ⟨a, rfl, h1, h2⟩ := hu
        refine Lt.drop (M' := mupd M a (.lst xs)) (fun b o z => ?_) (q a h2)
        by_cases hb : b = a
        · rw [hb, mupd_same] at z; cases z; rw [hb]; exact h1
        · rw [mupd_ne hb] at z; exact hs b o z
      | _ => exact False.elim q
  · show ownG M k x (callMO s N ds)
    rw [← e]
    unfold wfOwn at h
    unfold ownG
    revert h
    cases m ds with
    | ok d => cases d <;> exact fun h => h
    | exc nm fs => exact fun h => h
    | bad => exact fun h => h
end DM

/-! What is never reached; the facts of the top with properties, class and static methods. -/
namespace DL
open PySem PySem.Spec PyProof.Rows L2 _root_.DM
/-- a statement, an expression that is never reached -/
def wNoS : WS := fun _ _ _ => False
theorem ds_no {X : Cx} {st : Stmt} : DS X st wNoS := ⟨fun W tk hp => ⟨fun pins s σ H E I q => by
  obtain ⟨F, M, ρ, E, S, R, w, f⟩ := q
  exact w.elim⟩⟩
def wNoE : WE := fun _ _ _ _ => False
theorem de_no {X : Cx} {e : Expr} : DE X e wNoE := ⟨fun W tk => ⟨fun pins s σ H Q I q => by
  obtain ⟨F, M, ρ, k, x, S, E, w, pv, px⟩ := q
  exact w.elim⟩⟩
/-! ### the hook -/
def asP (g : Addr → Option Obj) (n : Nat) : List Addr := He.asD g n ++ [cStatics]
structure SaysP (fa : List He.Fa) (fn : List He.DefD) (f2 : List He5.DefA) (tf : List He.Defn) (ex : PySem.W.Frag → Bool) (w : World) (h : Heap) (K : PySem.W.Frag) : Prop where
  x : He.SaysX fa fn [] tf ex w h K
  a : He5.SaysA [] f2 K
abbrev AlP : Type := He.AlX × He.AlD
def obsP (n : Nat) (fa : List He.Fa) (fn : List He.DefD) (f2 : List He5.DefA) (tf : List He.Defn) (ex : PySem.W.Frag → Bool) (g : Addr → Option Obj) : AlP :=
  ((He.obsT fa fn [] (He.frT g (asP g n)), ex (He.frT g (asP g n)) && He.tabsB g tf (He.frT g (asP g n))), He5.obsA [] f2 (He.frT g (asP g n)))
def valP (fn : List He.DefD) (f2 : List He5.DefA) (w : World) : AlP := (He.valX fn [] w, He5.valA f2)
theorem saysP_of {n : Nat} {fa : List He.Fa} {fn : List He.DefD} {f2 : List He5.DefA} {tf : List He.Defn} {ex : PySem.W.Frag → Bool} {w : World} {h : Heap} (e : obsP n fa fn f2 tf ex h.get? = valP fn f2 w) : SaysP fa fn f2 tf ex w h (He.frT h.get? (asP h.get? n)) := by
  have e1 : He.obsT fa fn [] (He.frT h.get? (asP h.get? n)) = He.valT fn [] w := congrArg (fun z : AlP => z.1.1) e
  have e2 : (ex (He.frT h.get? (asP h.get? n)) && He.tabsB h.get? tf (He.frT h.get? (asP h.get? n))) = true := congrArg (fun z : AlP => z.1.2) e
  have e3 : He5.obsA [] f2 (He.frT h.get? (asP h.get? n)) = He5.valA f2 := congrArg (fun z : AlP => z.2) e
  obtain ⟨h1, h2⟩ := Bool.and_eq_true_iff.mp e2
  have one : ∀ p ∈ tf, PySem.W.codeHdIn (He.frT h.get? (asP h.get? n)) (He.cT (He.frT h.get? (asP h.get? n)) p).1 (He.cT (He.frT h.get? (asP h.get? n)) p).2 = true ∧ ∃ o, h.get? (He.cT (He.frT h.get? (asP h.get? n)) p).2 = some o ∧ He.emptyTab o = true := fun p hp => by
    obtain ⟨h3, h4⟩ := Bool.and_eq_true_iff.mp (List.all_eq_true.mp h2 p hp)
    refine ⟨h3, ?_⟩
    revert h4
    cases h.get? (He.cT (He.frT h.get? (asP h.get? n)) p).2 with
    | none => intro h4; cases h4
    | some o => exact fun h4 => ⟨o, rfl, h4⟩
  exact ⟨⟨e1, h1, fun p hp => (one p hp).1, fun p hp => by
    obtain ⟨_, o, q, z⟩ := one p hp
    exact He.frT_none q z, fun p hp => by
    obtain ⟨_, o, q, z⟩ := one p hp
    rw [q, He.emptyTab_eq z]⟩, e3⟩
def hookP (n : Nat) (fa : List He.Fa) (fn : List He.DefD) (f2 : List He5.DefA) (tf : List He.Defn) (ex : PySem.W.Frag → Bool) : PySem.W.Hook where
  α := AlP
  obs := fun s => obsP n fa fn f2 tf ex s.heap.get?
  val := fun w => valP fn f2 w
  says := fun w h => ∃ K : PySem.W.Frag, K.In h ∧ SaysP fa fn f2 tf ex w h K
  of := fun _ _ e => ⟨_, He.frT_in, saysP_of e⟩
  keeps := fun _ _ _ ⟨K, hK, c⟩ k => ⟨K, PySem.W.Frag.In.keeps hK k, ⟨⟨c.x.t, c.x.more, c.x.hd, c.x.out, fun p hp => k _ _ (c.x.empty p hp)⟩, c.a⟩⟩
theorem obsP_eq {n : Nat} {fa : List He.Fa} {fn : List He.DefD} {f2 : List He5.DefA} {tf : List He.Defn} {ex : PySem.W.Frag → Bool} {g : Addr → Option Obj} {s : Shared} (h : ∀ a, g a = s.heap.get? a) : obsP n fa fn f2 tf ex g = (hookP n fa fn f2 tf ex).obs s := by
  have e : g = s.heap.get? := funext h
  rw [e]
  rfl
/-! ### properties -/
/-- the getter -/
def wfP (K : PySem.W.Frag) (C f : Str) : Addr := He5.wf K (He.ga K C) "property" f
def propB (K : PySem.W.Frag) (C f : Str) : Bool := decide (PySem.W.findIn K (.ref (He.ga K C)) f = some (some (.ref (He.ma K (He.ga K C) f)))) && (decide (PySem.W.specialIn K (.ref (He.ma K (He.ga K C) f)) "__get__" = some (some (.builtin "property.__get__"))) && (decide (PySem.W.takesIn K (.ref (He.ma K (He.ga K C) f)) = some true) && (match PySem.W.recIn K (He.ma K (He.ga K C) f) "property" with
  | some (.ref _ :: _) => true
  | _ => false)))
theorem propB_ok {K : PySem.W.Frag} {C f : Str} (h : propB K C f = true) : PropOf K (He.ga K C) f (He.ma K (He.ga K C) f) (wfP K C f) := by
  obtain ⟨h1, h⟩ := Bool.and_eq_true_iff.mp h
  obtain ⟨h2, h⟩ := Bool.and_eq_true_iff.mp h
  obtain ⟨h3, h4⟩ := Bool.and_eq_true_iff.mp h
  refine ⟨of_decide_eq_true h1, of_decide_eq_true h2, of_decide_eq_true h3, ?_⟩
  unfold wfP He5.wf
  split at h4
  · rename_i g r e
    exact ⟨r, by rw [e]⟩
  · cases h4
def propsB (ps : List (Str × Str)) (K : PySem.W.Frag) : Bool := ps.all fun p => propB K p.1 p.2
theorem propsB_one {ps : List (Str × Str)} {K : PySem.W.Frag} (h : propsB ps K = true) {C f : Str} (hp : (C, f) ∈ ps) : PropOf K (He.ga K C) f (He.ma K (He.ga K C) f) (wfP K C f) := propB_ok (List.all_eq_true.mp h (C, f) hp)
end DL
namespace DM
open PySem PySem.Spec PyProof.Rows L2 DL
def mNoS : WMS := fun _ _ => .bad
theorem ms_no {X : Cx} {st : Stmt} : MS X st mNoS := ds_weak ds_no fun ρ M E ⟨M0, r, EK, G, O, L, g⟩ => (L.nb g).elim
def mNoE : WM := fun _ _ _ => .bad
theorem me_no {X : Cx} {e : Expr} : ME X e mNoE := de_weak de_no fun ρ M k x ⟨M0, r, K, XX, G, O, L, hk, g⟩ => (L.nb g).elim
end DM
namespace DM
open PySem PySem.Spec PyProof.Rows L2 DL
/-- a list, or an exception -/
def onlyL (a : Ans) : Ans := match a with
  | .ok (.lst xs) => .ok (.lst xs)
  | .exc n fs => .exc n fs
  | _ => .bad
theorem onlyL_ok {a : Ans} {d : D} (h : onlyL a = .ok d) : ∃ xs, d = .lst xs := by
  cases a with
  | ok e =>
    cases e with
    | lst xs => cases h; exact ⟨xs, rfl⟩
    | _ => cases h
  | _ => cases h
theorem hw_mOL {m : List D → Ans} {s : WMS} {N : List Str} (e : ∀ ds, m ds = onlyL (callMO s N ds)) {n : Nat} (ds : List D) (M : MH) (k : KD) (x : KE) (hn : ds.length = n) (h : wfOwn m ds M k x) : wS s (startD N ds) M (retE k x) := by
  refine hw_mO (m := callMO s N) (fun _ => rfl) ds M k x hn ?_
  unfold wfOwn at h ⊢
  rw [e] at h
  revert h
  unfold onlyL
  cases callMO s N ds with
  | ok d => cases d <;> exact fun h => h
  | exc nm fs => exact fun h => h
  | bad => exact fun h => h
/-- a def that hands back its own list -/
structure FnO (P : Program) (w : World) (K : PySem.W.Frag) (mg : Str → Option Value) (base : Heap) (f : Str) (k n : Nat) (m : List D → Ans) : Prop where
  own : FnD P w K mg base f k n (wfOwn m)
  lst : ∀ ds d, m ds = .ok d → ∃ xs, d = .lst xs
theorem FnO.d {P : Program} {w : World} {K : PySem.W.Frag} {mg : Str → Option Value} {base : Heap} {f : Str} {k n : Nat} {m : List D → Ans} (F : FnO P w K mg base f k n m) : FnD P w K mg base f k n (wfOf m) := F.own.frz F.lst
end DM
namespace DL
open PySem PySem.Spec PyProof.Rows L2
/-- {'a': e, ..}, a dict of its own -/
def wDspM (ks : List Str) (wa : WA) : WE := fun ρ M k x => wa ρ M (fun ds M1 => ∀ a, M1 a = none → k (.ref a) (mupd M1 a (.dct ks ds))) x
theorem de_dspM {X : Cx} {pos : Pos} {keys : List (Option Expr)} {values : List Expr} {ks : List Str} {wa : WA} (h : DKs X pos keys values ks wa) (h0 : ks ≠ [] := by intro h; cases h) (hn : ks.Nodup := by decide +kernel) (h15 : ks.length ≤ 15 := by decide) : DE X (.Dict keys values pos) (wDspM ks wa) := by
  refine ⟨fun W tk => ?_⟩
  obtain ⟨trs, h1, h2, h3, h4, h5⟩ := h.run W tk
  refine pe_imp (pe_disp h1 h4 (h2.trans h3.symm) (fun e => h0 (by rw [e] at h2; exact List.length_eq_zero_iff.mp h2.symm)) (by rw [h2]; exact h15)) fun σ H Q q => ?_
  obtain ⟨F, M, ρ, k, x, S, R, w, pv, px⟩ := q
  intro p hp
  have fp := S.fno hp
  have mp := S.mno hp
  have e0 : Ext H F M (upd H p (.dK [])) F M := (Ext.refl H F M).at_new hp _
  refine h5 σ _ F M ρ _ x _ (S.untold fp mp _) R w (px.on e0) fun vs ds H2 F2 M2 e2 S2 r2 l2 w2 => ?_
  obtain ⟨g1, g2, g3⟩ := e2.fr p _ upd_same fp mp
  have hv : ks.length = vs.length := by rw [r2.length, l2]
  refine ⟨g1, kvz ks vs, kvz_pairs ks vs, by rw [kvz_len hv, r2.length, l2]; exact h15, ?_⟩
  have em : mergeK [] (kvz ks vs) = kvz ks vs := merge_kvz ks vs [] hv hn fun z _ => rfl
  rw [em]
  have e := e0.trans e2
  have S3 : RepS X.K (upd H2 p (.dK (kvz ks vs))) F2 (mupd M2 p (.dct ks ds)) := ⟨fun b u q => by rw [upd_ne (ne_of_none q g2)]; exact S2.fz b u q, fun b m q => by
    by_cases hb : b = p
    · subst hb; rw [mupd_same] at q; cases q
      exact ⟨g2, _, upd_same, vs, rfl, r2, l2.symm, by rw [l2, sizeLine_eq]; omega⟩
    · rw [mupd_ne hb] at q
      obtain ⟨q1, u, q2, q3⟩ := S2.mu b m q
      exact ⟨q1, u, by rw [upd_ne hb]; exact q2, q3⟩⟩
  have e3 : Ext H F M (upd H2 p (.dK (kvz ks vs))) F2 (mupd M2 p (.dct ks ds)) := ⟨e.sm, fun b u q1 q2 q3 => by
    have hb : b ≠ p := fun z => by rw [z, hp] at q1; cases q1
    obtain ⟨c1, c2, c3⟩ := e.fr b u q1 q2 q3
    exact ⟨by rw [upd_ne hb]; exact c1, c2, by rw [mupd_ne hb]; exact c3⟩⟩
  exact pv _ _ _ _ _ e3 S3 (.ref p) (w2 p g3)
end DL

/-! Defs of the program and of many laws as functions (printed by gen2.py). -/
namespace DP
open PySem PySem.Spec PyProof.Rows L2 DL DM
def N_is_whole : List Str := ["thing"]
def M_is_whole : WMS := (mRet (mAnd (mCB fIsi (mCons (mVar 0) (mCons (mC (.ty .int)) mNil))) (mNot (mCB fIsi (mCons (mVar 0) (mCons (mC (.ty .bool)) mNil))))))
@[irreducible] def m_is_whole (ds : List D) : Rs D := callM M_is_whole N_is_whole ds
theorem m_is_whole_eq (ds : List D) : m_is_whole ds = callM M_is_whole N_is_whole ds := by unfold m_is_whole; rfl
def N_is_place : List Str := ["thing", "dimension", "one"]
def M_is_place : WMS := (mRet (mAnd (mCB fIsi (mCons (mVar 0) (mCons (mC (.ty .tuple)) mNil))) (mAnd (mOp (fEq fun b => b) (mCB fLen (mCons (mVar 0) mNil)) (mVar 1)) (mCB fAll (mCons (mLc (miSeq (mVar 0)) (mgN 2) mYes (mCall m_is_whole 1 (mCons (mVar 2) mNil)) [2]) mNil)))))
@[irreducible] def m_is_place (ds : List D) : Rs D := callM M_is_place N_is_place ds
theorem m_is_place_eq (ds : List D) : m_is_place ds = callM M_is_place N_is_place ds := by unfold m_is_place; rfl
def N_is_name : List Str := ["text", "sign"]
def M_is_name : WMS := (mRet (mAnd (mChain fLe fLe (mC (.int 1)) (mCB fLen (mCons (mVar 0) mNil)) (mC (.int 8))) (mCB fAll (mCons (mLc (miStr (mVar 0)) (mgN 1) mYes (mOp (fIn fun b => b) (mVar 1) (mC (.str "abcdefghijklmnopqrstuvwxyz"))) [1]) mNil))))
@[irreducible] def m_is_name (ds : List D) : Rs D := callM M_is_name N_is_name ds
theorem m_is_name_eq (ds : List D) : m_is_name ds = callM M_is_name N_is_name ds := by unfold m_is_name; rfl
def N_is_within : List Str := ["number", "bound"]
def M_is_within : WMS := (mRet (mAnd (mCall m_is_whole 1 (mCons (mVar 0) mNil)) (mChain fLe fLe (mUn fNeg (mVar 1)) (mVar 0) (mVar 1))))
@[irreducible] def m_is_within (ds : List D) : Rs D := callM M_is_within N_is_within ds
theorem m_is_within_eq (ds : List D) : m_is_within ds = callM M_is_within N_is_within ds := by unfold m_is_within; rfl
def N_is_vector : List Str := ["thing", "dimension", "one"]
def M_is_vector : WMS := (mRet (mAnd (mCall m_is_place 2 (mCons (mVar 0) (mCons (mVar 1) mNil))) (mCB fAll (mCons (mLc (miSeq (mVar 0)) (mgN 2) mYes (mCall m_is_within 2 (mCons (mVar 2) (mCons (mC (.int 1000000000000)) mNil))) [2]) mNil))))
@[irreducible] def m_is_vector (ds : List D) : Rs D := callM M_is_vector N_is_vector ds
theorem m_is_vector_eq (ds : List D) : m_is_vector ds = callM M_is_vector N_is_vector ds := by unfold m_is_vector; rfl
def N_has_form : List Str := ["statement", "dimension", "word", "one"]
def M_has_form : WMS := (mSeq (mIfS (mOrT (mNotT (mTest (mCB fIsi (mCons (mVar 0) (mCons (mC (.ty .tuple)) mNil))))) (mTest (mOp (fIn fun b => !b) (mCB fLen (mCons (mVar 0) mNil)) (mTup (mCons (mC (.int 2)) (mCons (mC (.int 3)) mNil)))))) (mRet (mC (.bl false))) mNext)
  (mSeq (mAsg (mSl (mVar 0) mNoPart (mPart (mC (.int 2)))) (mgTup 2 (mgCons (mgN 2) (mgCons (mgN 3) mgNil))))
  (mSeq (mIfS (mTest (mOp (fEq fun b => b) (mVar 2) (mC (.str "repeat")))) (mRet (mAnd (mOp (fEq fun b => b) (mCB fLen (mCons (mVar 0) mNil)) (mC (.int 3))) (mAnd (mCall m_is_within 2 (mCons (mVar 3) (mCons (mC (.int 1000000000000000000000000000000)) mNil))) (mCB fIsi (mCons (mOp fIx (mVar 0) (mC (.int 2))) (mCons (mC (.ty .tuple)) mNil)))))) mNext)
  (mSeq (mIfS (mTest (mOp (fEq fun b => b) (mCB fLen (mCons (mVar 0) mNil)) (mC (.int 3)))) (mRet (mC (.bl false))) mNext)
  (mSeq (mIfS (mTest (mOp (fEq fun b => b) (mVar 2) (mC (.str "go")))) (mRet (mCall m_is_vector 2 (mCons (mVar 3) (mCons (mVar 1) mNil)))) mNext)
  (mSeq (mIfS (mTest (mOp (fEq fun b => b) (mVar 2) (mC (.str "put")))) (mRet (mCall m_is_within 2 (mCons (mVar 3) (mCons (mC (.int 1000000000000)) mNil)))) mNext)
  (mRet (mAnd (mOp (fIn fun b => b) (mVar 2) (mTup (mCons (mC (.str "do")) (mCons (mC (.str "undo")) mNil)))) (mAnd (mCB fIsi (mCons (mVar 3) (mCons (mC (.ty .str)) mNil))) (mCall m_is_name 1 (mCons (mVar 3) mNil)))))))))))
@[irreducible] def m_has_form (ds : List D) : Rs D := callM M_has_form N_has_form ds
theorem m_has_form_eq (ds : List D) : m_has_form ds = callM M_has_form N_has_form ds := by unfold m_has_form; rfl
def N_fault : List Str := ["block", "dimension", "at", "statement", "inner"]
def M_fault (sr : List D → Rs D) : WMS := (mSeq (mFor [2, 3, 4] (miEnumX (mVar 0)) (mgTup 2 (mgCons (mgN 2) (mgCons (mgN 3) mgNil))) (mSeq (mIfS (mNotT (mTest (mCall m_has_form 2 (mCons (mVar 3) (mCons (mVar 1) mNil))))) (mRet (mTup (mCons (mVar 2) mNil))) mNext)
  (mIfS (mTest (mOp (fEq fun b => b) (mOp fIx (mVar 3) (mC (.int 0))) (mC (.str "repeat")))) (mSeq (mSet 4 (mCall sr 2 (mCons (mOp fIx (mVar 3) (mC (.int 2))) (mCons (mVar 1) mNil))))
  (mIfS (mTest (mOp (fIs fun b => !b) (mVar 4) (mC .non))) (mRet (mOp fAdd (mTup (mCons (mVar 2) mNil)) (mVar 4))) mNext)) mNext)))
  (mRet (mC .non)))
def m0_fault : Nat → List D → Rs D
  | 0, _ => .bad
  | n + 1, ds => callM (M_fault (m0_fault n)) N_fault ds
@[irreducible] def m_fault (n : Nat) (ds : List D) : Rs D := m0_fault n ds
theorem m_fault_0 (ds : List D) : m_fault 0 ds = .bad := by unfold m_fault; rfl
theorem m_fault_fun (n : Nat) : m_fault n = m0_fault n := by funext ds; unfold m_fault; rfl
theorem m_fault_s (n : Nat) (ds : List D) : m_fault (n + 1) ds = callM (M_fault (m_fault n)) N_fault ds := by rw [m_fault_fun n]; unfold m_fault; rfl
def N_is_block : List Str := ["block", "dimension"]
def M_is_block : WMS := (mRet (mOp (fIs fun b => b) (mCall (m_fault 24) 2 (mCons (mVar 0) (mCons (mVar 1) mNil))) (mC .non)))
@[irreducible] def m_is_block (ds : List D) : Rs D := callM M_is_block N_is_block ds
theorem m_is_block_eq (ds : List D) : m_is_block ds = callM M_is_block N_is_block ds := by unfold m_is_block; rfl
def N_inner_blocks : List Str := ["block", "statement"]
def M_inner_blocks : WMS := (mRet (mLc (miSeq (mVar 0)) (mgN 1) (mTest (mOp (fEq fun b => b) (mOp fIx (mVar 1) (mC (.int 0))) (mC (.str "repeat")))) (mOp fIx (mVar 1) (mC (.int 2))) [1]))
@[irreducible] def m_inner_blocks (ds : List D) : Rs D := callM M_inner_blocks N_inner_blocks ds
theorem m_inner_blocks_eq (ds : List D) : m_inner_blocks ds = callM M_inner_blocks N_inner_blocks ds := by unfold m_inner_blocks; rfl
def N_statements : List Str := ["block", "inner"]
def M_statements (sr : List D → Rs D) : WMS := (mRet (mOp fAdd (mCB fLen (mCons (mVar 0) mNil)) (mCB fSum (mCons (mLc (miSeq (mCall m_inner_blocks 1 (mCons (mVar 0) mNil))) (mgN 1) mYes (mCall sr 1 (mCons (mVar 1) mNil)) [1]) mNil))))
def m0_statements : Nat → List D → Rs D
  | 0, _ => .bad
  | n + 1, ds => callM (M_statements (m0_statements n)) N_statements ds
@[irreducible] def m_statements (n : Nat) (ds : List D) : Rs D := m0_statements n ds
theorem m_statements_0 (ds : List D) : m_statements 0 ds = .bad := by unfold m_statements; rfl
theorem m_statements_fun (n : Nat) : m_statements n = m0_statements n := by funext ds; unfold m_statements; rfl
theorem m_statements_s (n : Nat) (ds : List D) : m_statements (n + 1) ds = callM (M_statements (m_statements n)) N_statements ds := by rw [m_statements_fun n]; unfold m_statements; rfl
def N_check_block : List Str := ["block", "dimension", "path"]
def M_check_block : WMS := (mSeq (mSet 2 (mCall (m_fault 24) 2 (mCons (mVar 0) (mCons (mVar 1) mNil))))
  (mSeq (mIfS (mTest (mOp (fIs fun b => !b) (mVar 2) (mC .non))) (mRaise "InvalidBlock" "path" "InvalidBlock" (mVar 2)) mNext)
  (mIfS (mTest (mOp fGt (mCall (m_statements 24) 1 (mCons (mVar 0) mNil)) (mC (.int 60)))) (mRaise "TooLong" "limit" "TooLong" (mC (.int 60))) mNext)))
@[irreducible] def m_check_block (ds : List D) : Rs D := callM M_check_block N_check_block ds
theorem m_check_block_eq (ds : List D) : m_check_block ds = callM M_check_block N_check_block ds := by unfold m_check_block; rfl
def N__law_whole : List Str := ["_law_found"]
def M__law_whole : WMS := (mRet (mAnd (mCB fIsi (mCons (mVar 0) (mCons (mC (.ty .int)) mNil))) (mNot (mCB fIsi (mCons (mVar 0) (mCons (mC (.ty .bool)) mNil))))))
@[irreducible] def m__law_whole (ds : List D) : Rs D := callM M__law_whole N__law_whole ds
theorem m__law_whole_eq (ds : List D) : m__law_whole ds = callM M__law_whole N__law_whole ds := by unfold m__law_whole; rfl
def N__law_same : List Str := ["_law_found", "_law_due", "_law_one", "_law_other"]
def M__law_same (sr : List D → Rs D) : WMS := (mSeq (mIfS (mTest (mOp (fIs fun b => b) (mVar 1) (mC .non))) (mRet (mOp (fIs fun b => b) (mVar 0) (mC .non))) mNext)
  (mSeq (mIfS (mTest (mCB fIsi (mCons (mVar 1) (mCons (mC (.ty .bool)) mNil)))) (mRet (mAnd (mCB fIsi (mCons (mVar 0) (mCons (mC (.ty .bool)) mNil))) (mOp (fEq fun b => b) (mVar 0) (mVar 1)))) mNext)
  (mSeq (mIfS (mTest (mCB fIsi (mCons (mVar 1) (mCons (mC (.ty .int)) mNil)))) (mRet (mAnd (mCall m__law_whole 1 (mCons (mVar 0) mNil)) (mOp (fEq fun b => b) (mVar 0) (mVar 1)))) mNext)
  (mSeq (mIfS (mTest (mCB fIsi (mCons (mVar 1) (mCons (mC (.ty .str)) mNil)))) (mRet (mAnd (mCB fIsi (mCons (mVar 0) (mCons (mC (.ty .str)) mNil))) (mOp (fEq fun b => b) (mVar 0) (mVar 1)))) mNext)
  (mSeq (mIfS (mOrT (mTest (mOp (fEq fun b => !b) (mCB fIsi (mCons (mVar 1) (mCons (mC (.ty .list)) mNil))) (mCB fIsi (mCons (mVar 0) (mCons (mC (.ty .list)) mNil))))) (mTest (mOp (fEq fun b => !b) (mCB fIsi (mCons (mVar 1) (mCons (mC (.ty .tuple)) mNil))) (mCB fIsi (mCons (mVar 0) (mCons (mC (.ty .tuple)) mNil)))))) (mRet (mC (.bl false))) mNext)
  (mSeq (mIfS (mTest (mOp (fEq fun b => !b) (mCB fLen (mCons (mVar 0) mNil)) (mCB fLen (mCons (mVar 1) mNil)))) (mRet (mC (.bl false))) mNext)
  (mRet (mCB fAll (mCons (mLc (miZip (mVar 0) (mVar 1)) (mgTup 2 (mgCons (mgN 2) (mgCons (mgN 3) mgNil))) mYes (mCall sr 2 (mCons (mVar 2) (mCons (mVar 3) mNil))) [2, 3]) mNil)))))))))
def m0__law_same : Nat → List D → Rs D
  | 0, _ => .bad
  | n + 1, ds => callM (M__law_same (m0__law_same n)) N__law_same ds
@[irreducible] def m__law_same (n : Nat) (ds : List D) : Rs D := m0__law_same n ds
theorem m__law_same_0 (ds : List D) : m__law_same 0 ds = .bad := by unfold m__law_same; rfl
theorem m__law_same_fun (n : Nat) : m__law_same n = m0__law_same n := by funext ds; unfold m__law_same; rfl
theorem m__law_same_s (n : Nat) (ds : List D) : m__law_same (n + 1) ds = callM (M__law_same (m__law_same n)) N__law_same ds := by rw [m__law_same_fun n]; unfold m__law_same; rfl
def N__law_mentioned : List Str := ["_law_block", "_law_found", "_law_one", "_law_inner", "_law_name"]
def M__law_mentioned (sr : List D → Rs D) : WMS := (mSeq (mSet 1 (mLst mNil))
  (mSeq (mFor [2, 3] (miSeq (mVar 0)) (mgN 2) (mSeq (mSet 3 (mOp fMul (mLst (mCons (mOp fIx (mVar 2) (mC (.int 1))) mNil)) (mCB fInt1 (mCons (mOp (fIn fun b => b) (mOp fIx (mVar 2) (mC (.int 0))) (mTup (mCons (mC (.str "do")) (mCons (mC (.str "undo")) mNil)))) mNil))))
  (mSeq (mIfS (mTest (mOp (fEq fun b => b) (mOp fIx (mVar 2) (mC (.int 0))) (mC (.str "repeat")))) (mSet 3 (mCall sr 1 (mCons (mOp fIx (mVar 2) (mC (.int 2))) mNil))) mNext)
  (mSet 1 (mOp fAdd (mVar 1) (mLc (miSeq (mVar 3)) (mgN 4) (mTest (mOp (fIn fun b => !b) (mVar 4) (mVar 1))) (mVar 4) [4]))))))
  (mRet (mVar 1))))
def m0__law_mentioned : Nat → List D → Rs D
  | 0, _ => .bad
  | n + 1, ds => callM (M__law_mentioned (m0__law_mentioned n)) N__law_mentioned ds
@[irreducible] def m__law_mentioned (n : Nat) (ds : List D) : Rs D := m0__law_mentioned n ds
theorem m__law_mentioned_0 (ds : List D) : m__law_mentioned 0 ds = .bad := by unfold m__law_mentioned; rfl
theorem m__law_mentioned_fun (n : Nat) : m__law_mentioned n = m0__law_mentioned n := by funext ds; unfold m__law_mentioned; rfl
theorem m__law_mentioned_s (n : Nat) (ds : List D) : m__law_mentioned (n + 1) ds = callM (M__law_mentioned (m__law_mentioned n)) N__law_mentioned ds := by rw [m__law_mentioned_fun n]; unfold m__law_mentioned; rfl
def N__law_ordered : List Str := ["_law_parts", "_law_found", "_law_turn", "_law_name", "_law_other"]
def M__law_ordered : WMS := (mSeq (mNewL 1 mNil)
  (mSeq (mFor [2, 3] (miR1 (mCB fLen (mCons (mVar 0) mNil))) (mgN 2) (mFor [3] (miSeq (mCB fSorted (mCons (mVar 0) mNil))) (mgN 3) (mIfS (mAndT (mTest (mOp (fIn fun b => !b) (mVar 3) (mVar 1))) (mTest (mCB fAll (mCons (mLc (miSeq (mCall (m__law_mentioned 24) 1 (mCons (mOp fIx (mVar 0) (mVar 3)) mNil))) (mgN 4) mYes (mOp (fIn fun b => b) (mVar 4) (mVar 1)) [4]) mNil)))) (mApp 1 (mVar 3)) mNext)))
  (mFrz 1 (mRet (mVar 1)))))
@[irreducible] def m__law_ordered (ds : List D) : Rs D := callM M__law_ordered N__law_ordered ds
theorem m__law_ordered_eq (ds : List D) : m__law_ordered ds = callM M__law_ordered N__law_ordered ds := by unfold m__law_ordered; rfl
def N__law_measured : List Str := ["_law_block", "_law_known", "_law_statement", "_law_deep", "_law_puts", "_law_many", "_law_beats", "_law_inner"]
def M__law_measured (sr : List D → Rs D) : WMS := (mSeq (mAsg (mTup (mCons (mC (.int 0)) (mCons (mC (.int 0)) (mCons (mCB fLen (mCons (mVar 0) mNil)) (mCons (mC (.int 0)) mNil))))) (mgTup 4 (mgCons (mgN 3) (mgCons (mgN 4) (mgCons (mgN 5) (mgCons (mgN 6) mgNil))))))
  (mSeq (mFor [2, 7] (miSeq (mVar 0)) (mgN 2) (mSeq (mSet 7 (mTup (mCons (mC (.int 0)) (mCons (mCB fInt1 (mCons (mOp (fEq fun b => b) (mOp fIx (mVar 2) (mC (.int 0))) (mC (.str "put"))) mNil)) (mCons (mC (.int 0)) (mCons (mC (.int 1)) mNil))))))
  (mSeq (mIfS (mTest (mOp (fEq fun b => b) (mOp fIx (mVar 2) (mC (.int 0))) (mC (.str "repeat")))) (mSeq (mSet 7 (mCall sr 2 (mCons (mOp fIx (mVar 2) (mC (.int 2))) (mCons (mVar 1) mNil))))
  (mSet 7 (mTup (mCons (mOp fAdd (mOp fIx (mVar 7) (mC (.int 0))) (mC (.int 1))) (mCons (mOp fIx (mVar 7) (mC (.int 1))) (mCons (mOp fIx (mVar 7) (mC (.int 2))) (mCons (mOp fMul (mOp fIx (mVar 7) (mC (.int 3))) (mCB fAbs (mCons (mOp fIx (mVar 2) (mC (.int 1))) mNil))) mNil))))))) (mIfS (mTest (mOp (fIn fun b => b) (mOp fIx (mVar 2) (mC (.int 0))) (mTup (mCons (mC (.str "do")) (mCons (mC (.str "undo")) mNil))))) (mSeq (mSet 7 (mOp fIx (mVar 1) (mOp fIx (mVar 2) (mC (.int 1)))))
  (mSet 7 (mTup (mCons (mOp fIx (mVar 7) (mC (.int 0))) (mCons (mOp fIx (mVar 7) (mC (.int 1))) (mCons (mC (.int 0)) (mCons (mOp fIx (mVar 7) (mC (.int 3))) mNil))))))) mNext))
  (mAsg (mTup (mCons (mCB fMax2 (mCons (mVar 3) (mCons (mOp fIx (mVar 7) (mC (.int 0))) mNil))) (mCons (mOp fAdd (mVar 4) (mOp fIx (mVar 7) (mC (.int 1)))) (mCons (mOp fAdd (mVar 5) (mOp fIx (mVar 7) (mC (.int 2)))) (mCons (mOp fAdd (mVar 6) (mOp fIx (mVar 7) (mC (.int 3)))) mNil))))) (mgTup 4 (mgCons (mgN 3) (mgCons (mgN 4) (mgCons (mgN 5) (mgCons (mgN 6) mgNil)))))))))
  (mRet (mTup (mCons (mVar 3) (mCons (mVar 4) (mCons (mVar 5) (mCons (mVar 6) mNil))))))))
def m0__law_measured : Nat → List D → Rs D
  | 0, _ => .bad
  | n + 1, ds => callM (M__law_measured (m0__law_measured n)) N__law_measured ds
@[irreducible] def m__law_measured (n : Nat) (ds : List D) : Rs D := m0__law_measured n ds
theorem m__law_measured_0 (ds : List D) : m__law_measured 0 ds = .bad := by unfold m__law_measured; rfl
theorem m__law_measured_fun (n : Nat) : m__law_measured n = m0__law_measured n := by funext ds; unfold m__law_measured; rfl
theorem m__law_measured_s (n : Nat) (ds : List D) : m__law_measured (n + 1) ds = callM (M__law_measured (m__law_measured n)) N__law_measured ds := by rw [m__law_measured_fun n]; unfold m__law_measured; rfl
def N__law_measure_of : List Str := ["_law_parts", "_law_block", "_law_known", "_law_name"]
def M__law_measure_of : WMS := (mSeq (mNewD 2)
  (mSeq (mFor [3] (miSeq (mCall m__law_ordered 1 (mCons (mVar 0) mNil))) (mgN 3) (mDput 2 (mVar 3) (mCallO (m__law_measured 24) 2 (mCons (mOp fIx (mVar 0) (mVar 3)) (mCons (mVar 2) mNil)))))
  (mFrz 2 (mRet (mCall (m__law_measured 24) 2 (mCons (mVar 1) (mCons (mVar 2) mNil)))))))
@[irreducible] def m__law_measure_of (ds : List D) : Rs D := callM M__law_measure_of N__law_measure_of ds
theorem m__law_measure_of_eq (ds : List D) : m__law_measure_of ds = callM M__law_measure_of N__law_measure_of ds := by unfold m__law_measure_of; rfl
end DP

namespace DP
open PySem PySem.Spec PyProof.Rows L2 DL DM
local macro_rules | `(tactic| walk_at "r") => `(tactic| conv => lhs; whnf)
theorem is_whole_d (d : D) (h : plain d = true) : m_is_whole [d] = .ok (.bl (isInt d)) := by
  rw [m_is_whole_eq]
  cases d <;> first | rfl | cases h
theorem law_whole_d (d : D) (h : plain d = true) : m__law_whole [d] = .ok (.bl (isInt d)) := by
  rw [m__law_whole_eq]
  cases d <;> first | rfl | cases h
theorem is_within_d (d : D) (b : Int) (h : plain d = true) : m_is_within [d, .int b] = .ok (.bl (withinD d b)) := by
  rw [m_is_within_eq]
  walk_at "r"
  rw [is_whole_d d h]
  cases d with
  | int i =>
    walk_at "r"
    show _ = Rs.ok (D.bl (decide (-b ≤ i) && decide (i ≤ b)))
    cases decide (-b ≤ i) <;> rfl
  | _ => first | rfl | cases h
theorem is_place_d (d : D) (n : Int) (h : plain d = true) : m_is_place [d, .int n] = .ok (.bl (placeD d n)) := by
  rw [m_is_place_eq]
  cases d with
  | tup xs =>
    walk_at "r"
    show _ = Rs.ok (D.bl (decide ((xs.length : Int) = n) && xs.all isInt))
    cases decide ((xs.length : Int) = n) with
    | false => rfl
    | true =>
      walk_at "r"
      rw [comp_each (fun d => .bl (isInt d)) xs fun d hd K X => by
        show onR (m_is_whole [d]) K X = _
        rw [is_whole_d d (plains_mem h hd)]
        rfl]
      show vK (fAll [.v (.lst (xs.map fun d => .bl (isInt d)))]) _ = _
      rw [fAll_map]
      rfl
  | _ => first | rfl | cases h
theorem is_vector_d (d : D) (n : Int) (h : plain d = true) : m_is_vector [d, .int n] = .ok (.bl (vectorD d n)) := by
  rw [m_is_vector_eq]
  walk_at "r"
  rw [is_place_d d n h]
  unfold vectorD
  cases hp : placeD d n with
  | false => rfl
  | true =>
    cases d with
    | tup xs =>
      walk_at "r"
      rw [comp_each (fun d => .bl (withinD d (10 ^ 12))) xs fun d hd K X => by
        show onR (m_is_within [d, .int (10 ^ 12)]) K X = _
        rw [is_within_d d _ (plains_mem h hd)]
        rfl]
      show vK (fAll [.v (.lst (xs.map fun d => .bl (withinD d (10 ^ 12))))]) _ = _
      rw [fAll_map]
      rfl
    | _ => cases hp
theorem is_name_d (z : Str) (h : z.length ≤ 4096) : m_is_name [.str z] = .ok (.bl (nameD z)) := by
  have hb : Nat.ble z.length 16777216 = true := Nat.ble_eq_true_of_le (by omega)
  have hn : Nat.ble z.cps.size 4096 = true := Nat.ble_eq_true_of_le h
  have c1 : decide ((1 : Int) ≤ z.length) = decide (1 ≤ z.length) := by rw [decide_eq_decide]; omega
  have c2 : decide ((z.length : Int) ≤ 8) = decide (z.length ≤ 8) := by rw [decide_eq_decide]; omega
  have fl : fLen [.v (.str z)] = some (.int z.length) := by show (match Nat.ble z.length 16777216 with | true => some (D.int z.length) | false => none) = _; rw [hb]
  rw [m_is_name_eq]
  unfold nameD
  walk_at "r"
  rw [fl]
  walk_at "r"
  rw [c1]
  cases decide (1 ≤ z.length) with
  | false => rfl
  | true =>
    walk_at "r"
    rw [c2]
    cases decide (z.length ≤ 8) with
    | false => rfl
    | true =>
      walk_at "r"
      rw [hn]
      walk_at "r"
      show compM _ _ _ _ (z.cps.toList.map fun c => D.str ⟨#[c]⟩) _ = _
      rw [comp_map (fun c => D.str ⟨#[c]⟩) (fun c => .bl (occS ⟨#[c]⟩ "abcdefghijklmnopqrstuvwxyz")) z.cps.toList fun c hc K X => rfl]
      show vK (fAll [.v (.lst (z.cps.toList.map fun c => .bl (occS ⟨#[c]⟩ "abcdefghijklmnopqrstuvwxyz")))]) _ = _
      rw [fAll_map]
      rfl
theorem inG_int2 (i a b : Int) : inG (.int i) [.int a, .int b] = some (decide (a = i) || decide (b = i)) := by
  rw [inG_flat rfl rfl]
  show some (((a == i) || ((b == i) || false))) = _
  rw [Bool.or_false]
  have e : ∀ x y : Int, (x == y) = decide (x = y) := fun x y => by rw [Bool.eq_iff_iff]; simp
  rw [e, e]
theorem lays_tup {ds : List D} {d : D} (h : lays (.tup ds) = true) (hd : d ∈ ds) : lays d = true := by
  induction ds with
  | nil => cases hd
  | cons a t ih =>
    have h2 := Bool.and_eq_true_iff.mp (show (lays a && layss t) = true from h)
    rcases List.mem_cons.mp hd with rfl | hd
    · exact h2.1
    · exact ih h2.2 hd
theorem dep_tup {ds : List D} {d : D} (hd : d ∈ ds) : dep d + 1 ≤ dep (.tup ds) := Nat.succ_le_succ (deps_mem hd)
theorem strOk_do : PyData.strOk "do" = true := by decide +kernel
theorem isTup_k (d : D) (h : lays d = true) : ∃ q, kdOf d = some q ∧ isiK q .tuple = isTup d := by
  cases d <;> first | exact ⟨_, rfl, rfl⟩ | cases h
/-- x in ("do", "undo") -/
theorem in_do {g : Bool → Bool} {d : D} (h : lays d = true) (hd : dep d ≤ 60) : fIn g (.v d) (.v (.tup [.str "do", .str "undo"])) = some (.bl (g (isS d "do" || isS d "undo"))) := by
  rcases inG_any (d := d) (ds := [.str "do", .str "undo"]) h (by decide +kernel) hd (by decide +kernel) (isS d "do" || isS d "undo") (by
    show (eqD (.str "do") d || (eqD (.str "undo") d || false)) = _
    have sy : ∀ z : Str, eqD (.str z) d = isS d z := fun z => by
      cases d with
      | str y => exact (scal_eqv (d := .str z) (e := .str y) rfl).trans (by rw [Bool.eq_iff_iff]; simp [isS, eq_comm])
      | tup _ => rfl
      | lst _ => rfl
      | non => rfl
      | bl _ => rfl
      | int _ => rfl
      | _ => cases h
    rw [sy, sy, Bool.or_false]) with e | ⟨hf, _⟩
  · exact fIn_gen rfl rfl e
  · refine fIn_gen rfl rfl ?_
    rw [inG_flat hf rfl]
    cases d with
    | str y =>
      show some (inD (.str y) (([Str.ofString "do", Str.ofString "undo"] : List Str).map D.str)) = _
      rw [inD_strs]
      congr 1
      rw [Bool.eq_iff_iff]
      simp [isS]
    | non => rfl
    | bl _ => rfl
    | int _ => rfl
    | _ => cases hf
def isNm (d : D) : Bool := match d with
  | .str z => nameD z
  | _ => false
/-- is it a statement, its loop's block not looked into? -/
def formD (n : Int) (d : D) : Bool := match d with
  | .tup [a, b] => (isS a "go" && vectorD b n) || ((isS a "put" && withinD b 1000000000000) || ((isS a "do" || isS a "undo") && isNm b))
  | .tup [a, b, c] => isS a "repeat" && (withinD b 1000000000000000000000000000000 && isTup c)
  | _ => false
theorem isS_ne {d : D} {y z : Str} (h : isS d y = true) (hn : y ≠ z) : isS d z = false := by
  cases d with
  | str x =>
    have e : x = y := of_decide_eq_true h
    subst e
    exact decide_eq_false hn
  | _ => cases h
/-- texts within are no longer than 4096 signs -/
def shortS : D → Bool
  | .str z => Nat.ble z.length 4096
  | _ => true
theorem has_form_d (d : D) (n : Int) (h : lays d = true) (hd : dep d ≤ 60) (hs : ∀ ds, d = .tup ds → ds.all shortS = true) : m_has_form [d, .int n] = .ok (.bl (formD n d)) := by
  rw [m_has_form_eq]
  cases d with
  | tup ds =>
    have hs := hs ds rfl
    have hl : ∀ b, (!(decide ((2 : Int) = ds.length) || decide ((3 : Int) = ds.length))) = b → fIn (fun b => !b) (.v (.int ds.length)) (.v (.tup [.int 2, .int 3])) = some (.bl b) := fun b e => by rw [← e]; exact fIn_gen rfl rfl (inG_int2 _ _ _)
    match ds, h, hd, hs, hl with
    | [], _, _, _, hl => 
      walk_at "r"
      rw [hl true (by simp)]
      rfl
    | [a], _, _, _, hl =>
      walk_at "r"
      rw [hl true (by simp)]
      rfl
    | [a, b], h, hd, hs, hl =>
      have la := lays_tup h (List.mem_cons_self : a ∈ [a, b])
      have lb := lays_tup h (by simp : b ∈ [a, b])
      have da : dep a ≤ 60 := by have := dep_tup (List.mem_cons_self : a ∈ [a, b]); omega
      have db : dep b ≤ 60 := by have := dep_tup (by simp : b ∈ [a, b]); omega
      have eqs : ∀ z : Str, PyData.strOk z = true → fEq (fun b => b) (.v a) (.v (.str z)) = some (.bl (isS a z)) := fun z hz => fEq_str la (by omega) hz
      have e0 := eqs "repeat" (by decide +kernel)
      have e1 := eqs "go" (by decide +kernel)
      have e2 := eqs "put" (by decide +kernel)
      show _ = Rs.ok (D.bl ((isS a "go" && vectorD b n) || ((isS a "put" && withinD b 1000000000000) || ((isS a "do" || isS a "undo") && isNm b))))
      walk_at "r"
      rw [hl false (by simp)]
      walk_at "r"
      rw [e0]
      walk_at "r"
      cases c0 : isS a "repeat" with
      | true =>
        rw [isS_ne c0 (by decide +kernel : ("repeat" : Str) ≠ "go"), isS_ne c0 (by decide +kernel : ("repeat" : Str) ≠ "put"), isS_ne c0 (by decide +kernel : ("repeat" : Str) ≠ "do"), isS_ne c0 (by decide +kernel : ("repeat" : Str) ≠ "undo")]
        rfl
      | false =>
        walk_at "r"
        rw [e1]
        walk_at "r"
        cases c1 : isS a "go" with
        | true =>
          rw [isS_ne c1 (by decide +kernel : ("go" : Str) ≠ "put"), isS_ne c1 (by decide +kernel : ("go" : Str) ≠ "do"), isS_ne c1 (by decide +kernel : ("go" : Str) ≠ "undo")]
          walk_at "r"
          rw [is_vector_d b n (lays_plain b lb)]
          cases vectorD b n <;> rfl
        | false =>
          walk_at "r"
          rw [e2]
          walk_at "r"
          cases c2 : isS a "put" with
          | true =>
            rw [isS_ne c2 (by decide +kernel : ("put" : Str) ≠ "do"), isS_ne c2 (by decide +kernel : ("put" : Str) ≠ "undo")]
            walk_at "r"
            rw [is_within_d b _ (lays_plain b lb)]
            cases withinD b 1000000000000 <;> rfl
          | false =>
            walk_at "r"
            rw [in_do la da]
            cases (isS a "do" || isS a "undo") with
            | false => rfl
            | true =>
              walk_at "r"
              cases b with
              | str z =>
                walk_at "r"
                rw [is_name_d z (Nat.le_of_ble_eq_true (by have := List.all_eq_true.mp hs (.str z) (by simp); exact this))]
                rfl
              | _ => first | rfl | cases lb
    | [a, b, c], h, hd, hs, hl =>
      have la := lays_tup h (List.mem_cons_self : a ∈ [a, b, c])
      have lb := lays_tup h (by simp : b ∈ [a, b, c])
      have lc := lays_tup h (by simp : c ∈ [a, b, c])
      have da : dep a ≤ 60 := by have := dep_tup (List.mem_cons_self : a ∈ [a, b, c]); omega
      have e0 : fEq (fun b => b) (.v a) (.v (.str "repeat")) = some (.bl (isS a "repeat")) := fEq_str la (by omega) (by decide +kernel)
      show _ = Rs.ok (D.bl (isS a "repeat" && (withinD b 1000000000000000000000000000000 && isTup c)))
      walk_at "r"
      rw [hl false (by simp)]
      walk_at "r"
      rw [e0]
      walk_at "r"
      cases isS a "repeat" with
      | false => rfl
      | true =>
        walk_at "r"
        rw [is_within_d b _ (lays_plain b lb)]
        cases withinD b 1000000000000000000000000000000 with
        | false => rfl
        | true => cases c <;> first | rfl | cases lc
    | a :: b :: c :: e :: t, _, _, _, hl =>
      walk_at "r"
      rw [hl true (by simp; omega)]
      rfl
  | _ => first | rfl | cases h
end DP

namespace DP
open PySem PySem.Spec PyProof.Rows L2 DL DM
local macro_rules | `(tactic| walk_at "r") => `(tactic| conv => lhs; whnf)
/-! ### the path of the first wrong statement -/
mutual
def faultD (n : Int) : D → Option (List Int)
  | .tup ds => faultsD n 0 ds
  | _ => none
def faultsD (n : Int) (at_ : Int) : List D → Option (List Int)
  | [] => none
  | d :: r => if formD n d = false then some [at_] else match innerD n d with
    | some p => some (at_ :: p)
    | none => faultsD n (at_ + 1) r
def innerD (n : Int) : D → Option (List Int)
  | .tup [_, _, b] => faultD n b
  | _ => none
end
mutual
/-- no text within is longer than 4096 signs -/
def shortD : D → Bool
  | .tup ds => shortDs ds
  | d => shortS d
def shortDs : List D → Bool
  | [] => true
  | d :: r => shortD d && shortDs r
end
theorem shortDs_mem : ∀ {ds : List D} {d : D}, shortDs ds = true → d ∈ ds → shortD d = true
  | a :: t, d, h, hd => by
    have h2 := Bool.and_eq_true_iff.mp (show (shortD a && shortDs t) = true from h)
    rcases List.mem_cons.mp hd with rfl | hd
    · exact h2.1
    · exact shortDs_mem h2.2 hd
theorem shortD_S {d : D} (h : shortD d = true) : shortS d = true := by
  cases d <;> first | rfl | exact h
theorem shortDs_all : ∀ {ds : List D}, shortDs ds = true → ds.all shortS = true := fun {ds} h => List.all_eq_true.mpr fun d hd => shortD_S (shortDs_mem h hd)
def optD : Option (List Int) → D
  | none => .non
  | some p => tI p
theorem formD_tup {n : Int} {d : D} (h : formD n d = true) : (∃ a b, d = .tup [a, b] ∧ isS a "repeat" = false) ∨ (∃ a b c, d = .tup [a, b, c] ∧ isS a "repeat" = true ∧ isTup c = true) := by
  match d, h with
  | .tup [a, b], h =>
    refine .inl ⟨a, b, rfl, ?_⟩
    have h : ((isS a "go" && vectorD b n) || ((isS a "put" && withinD b 1000000000000) || ((isS a "do" || isS a "undo") && isNm b))) = true := h
    simp only [Bool.or_eq_true, Bool.and_eq_true] at h
    rcases h with h | h | ⟨h | h, _⟩
    · exact isS_ne h.1 (by decide +kernel)
    · exact isS_ne h.1 (by decide +kernel)
    · exact isS_ne h (by decide +kernel)
    · exact isS_ne h (by decide +kernel)
  | .tup [a, b, c], h =>
    have h : (isS a "repeat" && (withinD b 1000000000000000000000000000000 && isTup c)) = true := h
    simp only [Bool.and_eq_true] at h
    exact .inr ⟨a, b, c, rfl, h.1, h.2.2⟩
  | .tup [], h => cases h
  | .tup [_], h => cases h
  | .tup (_ :: _ :: _ :: _ :: _), h => cases h
  | .non, h => cases h
  | .bl _, h => cases h
  | .int _, h => cases h
  | .str _, h => cases h
  | .ref _, h => cases h
  | .ty _, h => cases h
  | .lst _, h => cases h
  | .scr _, h => cases h
  | .dct _ _, h => cases h
  | .dcT _ _, h => cases h
  | .dcl _ _, h => cases h
  | .obj _ _ _, h => cases h
theorem tI_cons (a : Int) (p : List Int) : D.tup ([.int a] ++ p.map .int) = tI (a :: p) := rfl
mutual
theorem path_len (w : Int) : ∀ (d : D) (p : List Int), faultD w d = some p → p.length ≤ dep d
  | .tup ds, p, h => by
    have := path_lens w ds 0 p h
    exact this
  | .non, _, h => by cases h
  | .bl _, _, h => by cases h
  | .int _, _, h => by cases h
  | .str _, _, h => by cases h
  | .ref _, _, h => by cases h
  | .ty _, _, h => by cases h
  | .lst _, _, h => by cases h
  | .scr _, _, h => by cases h
  | .dct _ _, _, h => by cases h
  | .dcT _ _, _, h => by cases h
  | .dcl _ _, _, h => by cases h
  | .obj _ _ _, _, h => by cases h
theorem path_lens (w : Int) : ∀ (ds : List D) (a : Int) (p : List Int), faultsD w a ds = some p → p.length ≤ deps ds + 1
  | [], _, _, h => by cases h
  | d :: t, a, p, h => by
    have e : deps (d :: t) = max (dep d) (deps t) := rfl
    have h : (if formD w d = false then some [a] else match innerD w d with
      | some p => some (a :: p)
      | none => faultsD w (a + 1) t) = some p := h
    split at h
    · cases h; simp
    · cases hi : innerD w d with
      | some q =>
        rw [hi] at h
        cases h
        have := path_leni w d q hi
        rw [e]
        simp
        omega
      | none =>
        rw [hi] at h
        have := path_lens w t (a + 1) p h
        rw [e]
        omega
theorem path_leni (w : Int) : ∀ (d : D) (p : List Int), innerD w d = some p → p.length ≤ dep d
  | .tup [x, y, b], p, h => by
    have h : faultD w b = some p := h
    have := path_len w b p h
    have := dep_tup (by simp : b ∈ [x, y, b])
    omega
  | .tup [], _, h => by cases h
  | .tup [_], _, h => by cases h
  | .tup [_, _], _, h => by cases h
  | .tup (_ :: _ :: _ :: _ :: _), _, h => by cases h
  | .non, _, h => by cases h
  | .bl _, _, h => by cases h
  | .int _, _, h => by cases h
  | .str _, _, h => by cases h
  | .ref _, _, h => by cases h
  | .ty _, _, h => by cases h
  | .lst _, _, h => by cases h
  | .scr _, _, h => by cases h
  | .dct _ _, _, h => by cases h
  | .dcT _ _, _, h => by cases h
  | .dcl _ _, _, h => by cases h
  | .obj _ _ _, _, h => by cases h
end
/-- one loop -/
theorem fault_loop {w : Int} {sr : List D → Ans} {bd : D} {E : EndsK} : ∀ (ds : List D) (at_ : Int), layss ds = true → deps ds ≤ 59 → shortDs ds = true →
    (∀ b, isTup b = true → (∃ a c, D.tup [a, c, b] ∈ ds) → sr [b, .int w] = .ok (optD (faultD w b))) →
    loopM [2, 3, 4] (mgTup 2 (mgCons (mgN 2) (mgCons (mgN 3) mgNil))) (mSeq (mIfS (mNotT (mTest (mCall m_has_form 2 (mCons (mVar 3) (mCons (mVar 1) mNil))))) (mRet (mTup (mCons (mVar 2) mNil))) mNext)
      (mIfS (mTest (mOp (fEq fun b => b) (mOp fIx (mVar 3) (mC (.int 0))) (mC (.str "repeat")))) (mSeq (mSet 4 (mCall sr 2 (mCons (mOp fIx (mVar 3) (mC (.int 2))) (mCons (mVar 1) mNil))))
      (mIfS (mTest (mOp (fIs fun b => !b) (mVar 4) (mC .non))) (mRet (mOp fAdd (mTup (mCons (mVar 2) mNil)) (mVar 4))) mNext)) mNext))
      (enumD at_ ds) [some (.v bd), some (.v (.int w)), none, none, none] E = match faultsD w at_ ds with
        | some p => E.rt (.v (tI p))
        | none => E.nx [some (.v bd), some (.v (.int w)), none, none, none]
  | [], at_, _, _, _, _ => loopM_nil
  | d :: t, at_, h1, h2, h3, hs => by
    obtain ⟨l1, l2⟩ := Bool.and_eq_true_iff.mp (show (lays d && layss t) = true from h1)
    obtain ⟨s1, s2⟩ := Bool.and_eq_true_iff.mp (show (shortD d && shortDs t) = true from h3)
    have hd : dep d ≤ 59 ∧ deps t ≤ 59 := by
      have e : deps (d :: t) = max (dep d) (deps t) := rfl
      rw [e] at h2
      omega
    have ih := fault_loop (bd := bd) (E := E) t (at_ + 1) l2 hd.2 s2 fun b hb ⟨a, c, hm⟩ => hs b hb ⟨a, c, List.mem_cons_of_mem _ hm⟩
    show loopM _ _ _ (.tup [.int at_, d] :: enumD (at_ + 1) t) _ _ = _
    rw [loopM_cons]
    walk_at "r"
    rw [has_form_d d w l1 (by omega) fun es he => by subst he; exact shortDs_all s1]
    walk_at "r"
    show _ = match (if formD w d = false then some [at_] else match innerD w d with
      | some p => some (at_ :: p)
      | none => faultsD w (at_ + 1) t) with
        | some p => E.rt (.v (tI p))
        | none => E.nx [some (.v bd), some (.v (.int w)), none, none, none]
    cases hf : formD w d with
    | false => rfl
    | true =>
      rw [if_neg (by decide)]
      rcases formD_tup hf with ⟨a, b, rfl, hr⟩ | ⟨a, b, c, rfl, hr, hc⟩
      · have la := lays_tup (ds := [a, b]) l1 List.mem_cons_self
        have da : dep a ≤ 64 := by have := dep_tup (List.mem_cons_self : a ∈ [a, b]); omega
        walk_at "r"
        rw [fEq_str la da (by decide +kernel), hr]
        walk_at "r"
        rw [loopM_wipe]
        exact ih
      · have la := lays_tup (ds := [a, b, c]) l1 List.mem_cons_self
        have da : dep a ≤ 64 := by have := dep_tup (List.mem_cons_self : a ∈ [a, b, c]); omega
        walk_at "r"
        rw [fEq_str la da (by decide +kernel), hr]
        walk_at "r"
        rw [hs c hc ⟨a, b, List.mem_cons_self⟩]
        show _ = match (match faultD w c with
          | some p => some (at_ :: p)
          | none => faultsD w (at_ + 1) t) with
            | some p => E.rt (.v (tI p))
            | none => E.nx [some (.v bd), some (.v (.int w)), none, none, none]
        cases hp : faultD w c with
        | none =>
          walk_at "r"
          rw [loopM_wipe]
          exact ih
        | some p =>
          walk_at "r"
          have hl : p.length ≤ 60 := by
            have := path_len w c p hp
            have := dep_tup (by simp : c ∈ [a, b, c])
            omega
          have ea : fAdd (.v (.tup [.int at_])) (.v (optD (some p))) = some (tI (at_ :: p)) := by
            show (match Nat.ble (1 + (p.map D.int).length) 16777216 with | true => some (D.tup ([D.int at_] ++ p.map D.int)) | false => none) = _
            rw [Nat.ble_eq_true_of_le (by rw [List.length_map]; omega : 1 + (p.map D.int).length ≤ 16777216)]
            rfl
          show vK (fAdd (.v (.tup [.int at_])) (.v (optD (some p)))) _ = _
          rw [ea]
          rfl
/-- the def -/
theorem fault_d : ∀ (h : Nat) (d : D) (w : Int), isTup d = true → lays d = true → dep d ≤ 2 * h + 1 → h ≤ 29 → shortD d = true → m_fault (h + 1) [d, .int w] = .ok (optD (faultD w d))
  | h, .tup ds, w, _, hl, hd, hh, hs => by
    rw [m_fault_s]
    walk_at "r"
    have hb : ∀ b, isTup b = true → (∃ a c, D.tup [a, c, b] ∈ ds) → m_fault h [b, .int w] = .ok (optD (faultD w b)) := fun b hb ⟨a, c, hm⟩ => by
      have l1 := lays_tup hl hm
      have d1 := dep_tup hm
      have lb := lays_tup l1 (by simp : b ∈ [a, c, b])
      have db := dep_tup (by simp : b ∈ [a, c, b])
      have sb : shortD b = true := shortDs_mem (shortDs_mem (ds := ds) hs hm : shortDs [a, c, b] = true) (by simp)
      cases h with
      | zero => 
        exfalso
        omega
      | succ h => exact fault_d h b w hb lb (by omega) (by omega) sb
    refine (fault_loop (bd := .tup ds) ds 0 hl (by have e : dep (.tup ds) = deps ds + 1 := rfl; omega) hs hb).trans ?_
    show _ = Rs.ok (optD (faultsD w 0 ds))
    cases faultsD w 0 ds <;> rfl
end DP

namespace DP
open PySem PySem.Spec PyProof.Rows L2 DL DM
local macro_rules | `(tactic| walk_at "r") => `(tactic| conv => lhs; whnf)
/-! ### code: statements -/
def isRep : Cd → Bool
  | .rep _ _ => true
  | _ => false
def bodyC : Cd → List Cd
  | .rep _ b => b
  | _ => []
def inners (cs : List Cd) : List (List Cd) := (cs.filter isRep).map bodyC
theorem inner_blocks_d (cs : List Cd) : m_inner_blocks [tB cs] = .ok (.lst ((inners cs).map tB)) := by
  rw [m_inner_blocks_eq]
  walk_at "r"
  rw [toDs_map]
  rw [comp_filter toD (fun c => tB (bodyC c)) isRep cs fun c _ => by
    cases c with
    | rep t b => exact ⟨_, rfl, fun K X => rfl, fun _ K X => rfl⟩
    | ref u nm => cases u <;> exact ⟨_, rfl, fun K X => rfl, fun h => by cases h⟩
    | go v => exact ⟨_, rfl, fun K X => rfl, fun h => by cases h⟩
    | put i => exact ⟨_, rfl, fun K X => rfl, fun h => by cases h⟩]
  show Rs.ok (D.lst _) = _
  unfold inners
  rw [List.map_map]
  rfl
theorem szs_inners : ∀ cs : List Cd, cs.length + ((inners cs).map szs).sum = szs cs
  | [] => rfl
  | c :: t => by
    have ih := szs_inners t
    cases c with
    | rep n b =>
      show t.length + 1 + (szs b + ((inners t).map szs).sum) = (szs b + 1) + szs t
      omega
    | go v => show t.length + 1 + ((inners t).map szs).sum = 1 + szs t; omega
    | put v => show t.length + 1 + ((inners t).map szs).sum = 1 + szs t; omega
    | ref u v => show t.length + 1 + ((inners t).map szs).sum = 1 + szs t; omega
theorem inners_dep {cs : List Cd} {b : List Cd} (h : b ∈ inners cs) : dCs b + 1 ≤ dCs cs := by
  induction cs with
  | nil => cases h
  | cons c t ih =>
    have e : dCs (c :: t) = max (dC c) (dCs t) := rfl
    rw [e]
    cases c with
    | rep n b' =>
      have h : b ∈ b' :: inners t := h
      have e2 : dC (.rep n b') = dCs b' + 1 := rfl
      rcases List.mem_cons.mp h with rfl | h
      · omega
      · have := ih h; omega
    | go v => have := ih h; omega
    | put v => have := ih h; omega
    | ref u v => have := ih h; omega
theorem cast_sum (xs : List Nat) : (xs.map fun n : Nat => (n : Int)).sum = ((xs.sum : Nat) : Int) := by
  induction xs with
  | nil => rfl
  | cons a t ih => rw [List.map_cons, List.sum_cons, List.sum_cons, ih]; omega
theorem statements_d : ∀ (n : Nat) (cs : List Cd), dCs cs ≤ n → m_statements (n + 1) [tB cs] = .ok (.int (szs cs))
  | n, cs, h => by
    rw [m_statements_s]
    walk_at "r"
    rw [inner_blocks_d]
    walk_at "r"
    rw [comp_map tB (fun b => .int (szs b)) (inners cs) fun b hb K X => by
      have hd := inners_dep hb
      cases n with
      | zero => omega
      | succ n =>
        show onR (m_statements (n + 1) [tB b]) K X = _
        rw [statements_d n b (by omega)]
        rfl]
    walk_at "r"
    rw [fSum_map]
    show Rs.ok (D.int (((toDs cs).length : Int) + _)) = _
    have e : ((inners cs).map fun b => ((szs b : Nat) : Int)) = ((inners cs).map szs).map fun n : Nat => (n : Int) := by rw [List.map_map]; rfl
    rw [e, cast_sum, toDs_len, ← szs_inners cs]
    congr 2
/-! ### code that is well formed -/
def bdB (b n : Int) : Bool := decide (-b ≤ n) && decide (n ≤ b)
mutual
def okC (w : Int) : Cd → Bool
  | .go v => decide ((v.length : Int) = w) && v.all (bdB 1000000000000)
  | .put n => bdB 1000000000000 n
  | .ref _ nm => nameD nm && Nat.ble nm.length 4096 && PyData.strOk nm
  | .rep t b => bdB 1000000000000000000000000000000 t && okCs w b
def okCs (w : Int) : List Cd → Bool
  | [] => true
  | c :: r => okC w c && okCs w r
end
theorem okCs_mem {w : Int} : ∀ {cs : List Cd} {c : Cd}, okCs w cs = true → c ∈ cs → okC w c = true
  | a :: t, c, h, hc => by
    obtain ⟨h1, h2⟩ := Bool.and_eq_true_iff.mp (show (okC w a && okCs w t) = true from h)
    rcases List.mem_cons.mp hc with rfl | hc
    · exact h1
    · exact okCs_mem h2 hc
theorem okCs_of {w : Int} : ∀ {cs : List Cd}, (∀ c, c ∈ cs → okC w c = true) → okCs w cs = true
  | [], _ => rfl
  | c :: r, h => Bool.and_eq_true_iff.mpr ⟨h c List.mem_cons_self, okCs_of fun e he => h e (List.mem_cons_of_mem _ he)⟩
theorem lays_ints : ∀ v : List Int, layss (v.map .int) = true
  | [] => rfl
  | _ :: r => lays_ints r
theorem deps_ints : ∀ v : List Int, deps (v.map .int) = 0
  | [] => rfl
  | _ :: r => by show max 0 (deps (r.map .int)) = 0; rw [deps_ints r]; rfl
theorem short_ints : ∀ v : List Int, shortDs (v.map .int) = true
  | [] => rfl
  | _ :: r => short_ints r
theorem all_ints (f : D → Bool) (g : Int → Bool) (h : ∀ i, f (.int i) = g i) : ∀ v : List Int, (v.map D.int).all f = v.all g
  | [] => rfl
  | i :: r => by show (f (.int i) && (r.map D.int).all f) = (g i && r.all g); rw [h, all_ints f g h r]
mutual
theorem code_lays {w : Int} : ∀ c : Cd, okC w c = true → lays (toD c) = true ∧ shortD (toD c) = true ∧ dep (toD c) ≤ 2 * dC c + 2 ∧ formD w (toD c) = true
  | .go v, h => by
    have h := Bool.and_eq_true_iff.mp (show (decide ((v.length : Int) = w) && v.all (bdB 1000000000000)) = true from h)
    have sgo : PyData.strOk "go" = true := by decide +kernel
    have e : isS (.str "go") "go" = true := by decide +kernel
    refine ⟨?_, ?_, ?_, ?_⟩
    · show (PyData.strOk "go" && (layss (v.map .int) && true)) = true
      rw [sgo, lays_ints]; rfl
    · show (shortD (.str "go") && (shortDs (v.map .int) && true)) = true
      rw [short_ints]; rfl
    · show max 0 (max (deps (v.map .int) + 1) 0) + 1 ≤ 2 * 0 + 2
      rw [deps_ints]; decide
    · show ((isS (.str "go") "go" && vectorD (tI v) w) || _) = true
      have pl : placeD (tI v) w = true := by
        show (decide (((v.map D.int).length : Int) = w) && (v.map D.int).all isInt) = true
        rw [List.length_map, h.1, all_ints isInt (fun _ => true) (fun _ => rfl)]
        simp
      have vc : vectorD (tI v) w = true := by
        show (placeD (tI v) w && (v.map D.int).all fun x => withinD x (10 ^ 12)) = true
        rw [pl, all_ints (fun x => withinD x (10 ^ 12)) (bdB 1000000000000) (fun _ => rfl), h.2]
        rfl
      rw [e, vc]; rfl
  | .put n, h => by
    have h : bdB 1000000000000 n = true := h
    have s : PyData.strOk "put" = true := by decide +kernel
    have e : isS (.str "put") "put" = true := by decide +kernel
    refine ⟨by show (PyData.strOk "put" && true) = true; rw [s]; rfl, rfl, by show max 0 (max 0 0) + 1 ≤ 2 * 0 + 2; decide, ?_⟩
    show ((isS (.str "put") "go" && vectorD (.int n) w) || ((isS (.str "put") "put" && bdB 1000000000000 n) || ((isS (.str "put") "do" || isS (.str "put") "undo") && isNm (.int n)))) = true
    rw [e, h]; simp
  | .ref u nm, h => by
    obtain ⟨h1, h2⟩ := Bool.and_eq_true_iff.mp (show (nameD nm && Nat.ble nm.length 4096 && PyData.strOk nm) = true from h)
    obtain ⟨h0, h1⟩ := Bool.and_eq_true_iff.mp h1
    have s1 : PyData.strOk "do" = true := by decide +kernel
    have s2 : PyData.strOk "undo" = true := by decide +kernel
    have e1 : isS (.str "do") "do" = true := by decide +kernel
    have e2 : isS (.str "undo") "undo" = true := by decide +kernel
    cases u with
    | true =>
      refine ⟨by show (PyData.strOk "undo" && (PyData.strOk nm && true)) = true; rw [s2, h2]; rfl, by show (shortD (.str "undo") && (Nat.ble nm.length 4096 && true)) = true; rw [h1]; rfl, by show max 0 (max 0 0) + 1 ≤ 2 * 0 + 2; decide, ?_⟩
      show ((isS (.str "undo") "go" && vectorD (.str nm) w) || ((isS (.str "undo") "put" && withinD (.str nm) 1000000000000) || ((isS (.str "undo") "do" || isS (.str "undo") "undo") && nameD nm))) = true
      rw [e2, h0]; simp
    | false =>
      refine ⟨by show (PyData.strOk "do" && (PyData.strOk nm && true)) = true; rw [s1, h2]; rfl, by show (shortD (.str "do") && (Nat.ble nm.length 4096 && true)) = true; rw [h1]; rfl, by show max 0 (max 0 0) + 1 ≤ 2 * 0 + 2; decide, ?_⟩
      show ((isS (.str "do") "go" && vectorD (.str nm) w) || ((isS (.str "do") "put" && withinD (.str nm) 1000000000000) || ((isS (.str "do") "do" || isS (.str "do") "undo") && nameD nm))) = true
      rw [e1, h0]; simp
  | .rep t b, h => by
    obtain ⟨h1, h2⟩ := Bool.and_eq_true_iff.mp (show (bdB 1000000000000000000000000000000 t && okCs w b) = true from h)
    have s : PyData.strOk "repeat" = true := by decide +kernel
    have e : isS (.str "repeat") "repeat" = true := by decide +kernel
    obtain ⟨q1, q2, q3⟩ := codes_lays b h2
    refine ⟨by show (PyData.strOk "repeat" && (true && (layss (toDs b) && true))) = true; rw [s, q1]; rfl, by show (shortD (.str "repeat") && (true && (shortDs (toDs b) && true))) = true; rw [q2]; rfl, ?_, ?_⟩
    · show max 0 (max 0 (max (deps (toDs b) + 1) 0)) + 1 ≤ 2 * (dCs b + 1) + 2
      omega
    · show (isS (.str "repeat") "repeat" && (bdB 1000000000000000000000000000000 t && true)) = true
      rw [e, h1]; rfl
theorem codes_lays {w : Int} : ∀ cs : List Cd, okCs w cs = true → layss (toDs cs) = true ∧ shortDs (toDs cs) = true ∧ deps (toDs cs) ≤ 2 * dCs cs + 2
  | [], _ => ⟨rfl, rfl, Nat.zero_le _⟩
  | c :: r, h => by
    obtain ⟨h1, h2⟩ := Bool.and_eq_true_iff.mp (show (okC w c && okCs w r) = true from h)
    obtain ⟨a1, a2, a3, _⟩ := code_lays c h1
    obtain ⟨b1, b2, b3⟩ := codes_lays r h2
    refine ⟨by show (lays (toD c) && layss (toDs r)) = true; rw [a1, b1]; rfl, by show (shortD (toD c) && shortDs (toDs r)) = true; rw [a2, b2]; rfl, ?_⟩
    show max (dep (toD c)) (deps (toDs r)) ≤ 2 * max (dC c) (dCs r) + 2
    omega
end
mutual
theorem inner_ok {w : Int} : ∀ c : Cd, okC w c = true → innerD w (toD c) = none
  | .rep t b, h => by
    obtain ⟨_, h2⟩ := Bool.and_eq_true_iff.mp (show (bdB 1000000000000000000000000000000 t && okCs w b) = true from h)
    show faultsD w 0 (toDs b) = none
    have := fault_okL b [] 0 h2
    rw [List.append_nil] at this
    rw [this]
    rfl
  | .go _, _ => rfl
  | .put _, _ => rfl
  | .ref u _, _ => by cases u <;> rfl
/-- good statements ahead -/
theorem fault_okL {w : Int} : ∀ (cs : List Cd) (ds : List D) (a : Int), okCs w cs = true → faultsD w a (toDs cs ++ ds) = faultsD w (a + cs.length) ds
  | [], ds, a, _ => by rw [show a + (([] : List Cd).length : Int) = a by simp]; rfl
  | c :: r, ds, a, h => by
    obtain ⟨h1, h2⟩ := Bool.and_eq_true_iff.mp (show (okC w c && okCs w r) = true from h)
    show (if formD w (toD c) = false then some [a] else match innerD w (toD c) with
      | some p => some (a :: p)
      | none => faultsD w (a + 1) (toDs r ++ ds)) = _
    rw [(code_lays c h1).2.2.2, if_neg (by decide), inner_ok c h1]
    show faultsD w (a + 1) (toDs r ++ ds) = _
    rw [fault_okL r ds (a + 1) h2]
    congr 1
    simp only [List.length_cons]
    omega
end
theorem fault_ok {w : Int} (cs : List Cd) (a : Int) (h : okCs w cs = true) : faultsD w a (toDs cs) = none := by
  have := fault_okL cs [] a h
  rw [List.append_nil] at this
  rw [this]
  rfl
/-- a path from a later start -/
theorem fault_from {w : Int} (k : Int) : ∀ (ds : List D) (a : Int), faultsD w (a + k) ds = (faultsD w a ds).map fun p => (match p with | x :: q => (x + k) :: q | [] => [])
  | [], _ => rfl
  | d :: t, a => by
    show (if formD w d = false then some [a + k] else match innerD w d with
      | some p => some ((a + k) :: p)
      | none => faultsD w (a + k + 1) t) = (if formD w d = false then some [a] else match innerD w d with
      | some p => some (a :: p)
      | none => faultsD w (a + 1) t).map _
    split
    · rfl
    · cases innerD w d with
      | some p => rfl
      | none =>
        show faultsD w (a + k + 1) t = (faultsD w (a + 1) t).map _
        rw [show a + k + 1 = a + 1 + k by omega, fault_from k t (a + 1)]
/-! ### the checks -/
theorem is_block_d (d : D) (w : Int) (h1 : isTup d = true) (h2 : lays d = true) (h3 : dep d ≤ 47) (h4 : shortD d = true) : m_is_block [d, .int w] = .ok (.bl (faultD w d).isNone) := by
  rw [m_is_block_eq]
  walk_at "r"
  rw [fault_d 23 d w h1 h2 h3 (by decide) h4]
  cases faultD w d <;> rfl
theorem check_bad (d : D) (w : Int) (p : List Int) (h1 : isTup d = true) (h2 : lays d = true) (h3 : dep d ≤ 47) (h4 : shortD d = true) (h5 : faultD w d = some p) :
    m_check_block [d, .int w] = .exc "InvalidBlock" [("tag", .str "InvalidBlock"), ("path", tI p)] := by
  rw [m_check_block_eq]
  walk_at "r"
  rw [fault_d 23 d w h1 h2 h3 (by decide) h4, h5]
  rfl
theorem check_code (cs : List Cd) (w : Int) (h : okCs w cs = true) (hd : dCs cs ≤ 20) : m_check_block [tB cs, .int w] = if 60 < szs cs then .exc "TooLong" [("tag", .str "TooLong"), ("limit", .int 60)] else .ok .non := by
  rw [m_check_block_eq]
  obtain ⟨l1, l2, l3⟩ := codes_lays cs h
  have l4 : dep (tB cs) ≤ 47 := by have : dep (tB cs) = deps (toDs cs) + 1 := rfl; omega
  walk_at "r"
  rw [fault_d 23 (tB cs) w rfl l1 l4 (by decide) l2]
  have e : faultD w (tB cs) = none := fault_ok cs 0 h
  rw [e]
  walk_at "r"
  rw [statements_d 23 cs (by omega)]
  walk_at "r"
  by_cases hz : 60 < szs cs
  · rw [if_pos hz, show decide ((60 : Int) < (szs cs : Nat)) = true from decide_eq_true (by omega)]
    rfl
  · rw [if_neg hz, show decide ((60 : Int) < (szs cs : Nat)) = false from decide_eq_false (by omega)]
    rfl
end DP

namespace DP
open PySem PySem.Spec PyProof.Rows L2 DL DM
local macro_rules | `(tactic| walk_at "r") => `(tactic| conv => lhs; whnf)
/-! ### code measured: depth, puts, statements, beats -/
structure M4 where
  deep : Int
  puts : Int
  many : Int
  beats : Int
def d4 (m : M4) : D := .tup [.int m.deep, .int m.puts, .int m.many, .int m.beats]
def mx (i j : Int) : Int := if j > i then j else i
def ab (i : Int) : Int := if i < 0 then -i else i
def M4.add (a b : M4) : M4 := ⟨mx a.deep b.deep, a.puts + b.puts, a.many + b.many, a.beats + b.beats⟩
mutual
def meas (kn : Str → M4) : Cd → M4
  | .go _ => ⟨0, 0, 0, 1⟩
  | .put _ => ⟨0, 1, 0, 1⟩
  | .ref _ nm => ⟨(kn nm).deep, (kn nm).puts, 0, (kn nm).beats⟩
  | .rep t b => ⟨(measF kn ⟨0, 0, b.length, 0⟩ b).deep + 1, (measF kn ⟨0, 0, b.length, 0⟩ b).puts, (measF kn ⟨0, 0, b.length, 0⟩ b).many, (measF kn ⟨0, 0, b.length, 0⟩ b).beats * ab t⟩
/-- further from what is measured so far -/
def measF (kn : Str → M4) (m : M4) : List Cd → M4
  | [] => m
  | c :: r => measF kn (m.add (meas kn c)) r
end
def measB (kn : Str → M4) (cs : List Cd) : M4 := measF kn ⟨0, 0, cs.length, 0⟩ cs
mutual
/-- names are known, products are reckoned -/
def knowC (ks : List Str) (vs : List D) (kn : Str → M4) : Cd → Prop
  | .ref _ nm => getL ks vs nm = some (d4 (kn nm))
  | .rep t b => knowCs ks vs kn b ∧ mulB (measF kn ⟨0, 0, b.length, 0⟩ b).beats (ab t) = true
  | _ => True
def knowCs (ks : List Str) (vs : List D) (kn : Str → M4) : List Cd → Prop
  | [] => True
  | c :: r => knowC ks vs kn c ∧ knowCs ks vs kn r
end
theorem meas_loop {sr : List D → Ans} {ks : List Str} {vs : List D} {kn : Str → M4} {bd : D} {E : EndsK} : ∀ (cs : List Cd) (m : M4), knowCs ks vs kn cs →
    (∀ t b, Cd.rep t b ∈ cs → sr [tB b, .dct ks vs] = .ok (d4 (measB kn b))) →
    loopM [2, 7] (mgN 2) (mSeq (mSet 7 (mTup (mCons (mC (.int 0)) (mCons (mCB fInt1 (mCons (mOp (fEq fun b => b) (mOp fIx (mVar 2) (mC (.int 0))) (mC (.str "put"))) mNil)) (mCons (mC (.int 0)) (mCons (mC (.int 1)) mNil))))))
  (mSeq (mIfS (mTest (mOp (fEq fun b => b) (mOp fIx (mVar 2) (mC (.int 0))) (mC (.str "repeat")))) (mSeq (mSet 7 (mCall sr 2 (mCons (mOp fIx (mVar 2) (mC (.int 2))) (mCons (mVar 1) mNil))))
  (mSet 7 (mTup (mCons (mOp fAdd (mOp fIx (mVar 7) (mC (.int 0))) (mC (.int 1))) (mCons (mOp fIx (mVar 7) (mC (.int 1))) (mCons (mOp fIx (mVar 7) (mC (.int 2))) (mCons (mOp fMul (mOp fIx (mVar 7) (mC (.int 3))) (mCB fAbs (mCons (mOp fIx (mVar 2) (mC (.int 1))) mNil))) mNil))))))) (mIfS (mTest (mOp (fIn fun b => b) (mOp fIx (mVar 2) (mC (.int 0))) (mTup (mCons (mC (.str "do")) (mCons (mC (.str "undo")) mNil))))) (mSeq (mSet 7 (mOp fIx (mVar 1) (mOp fIx (mVar 2) (mC (.int 1)))))
  (mSet 7 (mTup (mCons (mOp fIx (mVar 7) (mC (.int 0))) (mCons (mOp fIx (mVar 7) (mC (.int 1))) (mCons (mC (.int 0)) (mCons (mOp fIx (mVar 7) (mC (.int 3))) mNil))))))) mNext))
  (mAsg (mTup (mCons (mCB fMax2 (mCons (mVar 3) (mCons (mOp fIx (mVar 7) (mC (.int 0))) mNil))) (mCons (mOp fAdd (mVar 4) (mOp fIx (mVar 7) (mC (.int 1)))) (mCons (mOp fAdd (mVar 5) (mOp fIx (mVar 7) (mC (.int 2)))) (mCons (mOp fAdd (mVar 6) (mOp fIx (mVar 7) (mC (.int 3)))) mNil))))) (mgTup 4 (mgCons (mgN 3) (mgCons (mgN 4) (mgCons (mgN 5) (mgCons (mgN 6) mgNil))))))))
      (toDs cs) [some (.v bd), some (.v (.dct ks vs)), none, some (.v (.int m.deep)), some (.v (.int m.puts)), some (.v (.int m.many)), some (.v (.int m.beats)), none] E =
    E.nx [some (.v bd), some (.v (.dct ks vs)), none, some (.v (.int (measF kn m cs).deep)), some (.v (.int (measF kn m cs).puts)), some (.v (.int (measF kn m cs).many)), some (.v (.int (measF kn m cs).beats)), none]
  | [], m, _, _ => loopM_nil
  | c :: t, m, h, hs => by
    obtain ⟨h1, h2⟩ := h
    have ih := meas_loop (bd := bd) (E := E) t (m.add (meas kn c)) h2 fun n b hm => hs n b (List.mem_cons_of_mem _ hm)
    show loopM _ _ _ (toD c :: toDs t) _ _ = _
    rw [loopM_cons]
    cases c with
    | go v =>
      walk_at "r"
      rw [in_do (by decide +kernel) (by decide)]
      walk_at "r"
      rw [loopM_wipe]
      exact ih
    | put n =>
      walk_at "r"
      rw [in_do (by decide +kernel) (by decide)]
      walk_at "r"
      rw [loopM_wipe]
      exact ih
    | ref u nm =>
      have e1 : fIx (.v (.dct ks vs)) (.v (.str nm)) = some (d4 (kn nm)) := by
        have h2 : getL ks vs nm = some (d4 (kn nm)) := h1
        exact h2
      cases u with
      | true =>
        walk_at "r"
        rw [in_do (by decide +kernel) (by decide)]
        walk_at "r"
        rw [e1]
        walk_at "r"
        rw [loopM_wipe]
        exact ih
      | false =>
        walk_at "r"
        rw [in_do (by decide +kernel) (by decide)]
        walk_at "r"
        rw [e1]
        walk_at "r"
        rw [loopM_wipe]
        exact ih
    | rep n b =>
      have h1 : mulB (measB kn b).beats (ab n) = true := h1.2
      walk_at "r"
      rw [hs n b List.mem_cons_self]
      walk_at "r"
      have e : fMul (.v (.int (measB kn b).beats)) (.v (.int (if n < 0 then -n else n))) = some (.int ((measB kn b).beats * ab n)) := by
        show (match mulB (measB kn b).beats (ab n) with | true => some (D.int ((measB kn b).beats * ab n)) | false => none) = _
        rw [h1]
      rw [e]
      walk_at "r"
      rw [loopM_wipe]
      exact ih
theorem measured_d {ks : List Str} {vs : List D} {kn : Str → M4} : ∀ (n : Nat) (cs : List Cd), dCs cs ≤ n → knowCs ks vs kn cs → m__law_measured (n + 1) [tB cs, .dct ks vs] = .ok (d4 (measB kn cs)) := fun n cs hd h => by
  rw [m__law_measured_s]
  have hs : ∀ t b, Cd.rep t b ∈ cs → m__law_measured n [tB b, .dct ks vs] = .ok (d4 (measB kn b)) := fun t b hm => by
    have hk : ∀ {cs : List Cd}, knowCs ks vs kn cs → Cd.rep t b ∈ cs → knowCs ks vs kn b ∧ dCs b + 1 ≤ dCs cs := fun {cs} h hm => by
      induction cs with
      | nil => cases hm
      | cons c r ih =>
        have e : dCs (c :: r) = max (dC c) (dCs r) := rfl
        rw [e]
        rcases List.mem_cons.mp hm with rfl | hm
        · exact ⟨h.1.1, by show dCs b + 1 ≤ max (dCs b + 1) _; omega⟩
        · have := ih h.2 hm
          exact ⟨this.1, by omega⟩
    have q := hk h hm
    cases n with
    | zero => omega
    | succ n => exact measured_d n b (by omega) q.1
  walk_at "r"
  show loopM _ _ _ (toDs cs) [some (.v (tB cs)), some (.v (.dct ks vs)), none, some (.v (.int 0)), some (.v (.int 0)), some (.v (.int ((toDs cs).length : Nat))), some (.v (.int 0)), none] _ = _
  rw [toDs_len]
  refine (meas_loop (bd := tB cs) cs ⟨0, 0, cs.length, 0⟩ h hs).trans ?_
  rfl
end DP

/-! Defs of the program and of many laws as functions (printed by gen2.py). -/
namespace DP
open PySem PySem.Spec PyProof.Rows L2 DL DM
def N_names_in : List Str := ["block", "found", "statement", "names", "name"]
def M_names_in (sr : List D → Rs D) : WMS := (mSeq (mNewL 1 mNil)
  (mSeq (mFor [2, 3, 4] (miSeq (mVar 0)) (mgN 2) (mSeq (mSet 3 (mLst mNil))
  (mSeq (mIfS (mTest (mOp (fEq fun b => b) (mOp fIx (mVar 2) (mC (.int 0))) (mC (.str "repeat")))) (mSet 3 (mCall sr 1 (mCons (mOp fIx (mVar 2) (mC (.int 2))) mNil))) (mIfS (mTest (mOp (fIn fun b => b) (mOp fIx (mVar 2) (mC (.int 0))) (mTup (mCons (mC (.str "do")) (mCons (mC (.str "undo")) mNil))))) (mSet 3 (mLst (mCons (mOp fIx (mVar 2) (mC (.int 1))) mNil))) mNext))
  (mFor [4] (miSeq (mVar 3)) (mgN 4) (mIfS (mTest (mOp (fIn fun b => !b) (mVar 4) (mVar 1))) (mApp 1 (mVar 4)) mNext)))))
  (mRet (mVar 1))))
def m0_names_in : Nat → List D → Rs D
  | 0, _ => .bad
  | n + 1, ds => onlyL (callMO (M_names_in (m0_names_in n)) N_names_in ds)
@[irreducible] def m_names_in (n : Nat) (ds : List D) : Rs D := m0_names_in n ds
theorem m_names_in_0 (ds : List D) : m_names_in 0 ds = .bad := by unfold m_names_in; rfl
theorem m_names_in_fun (n : Nat) : m_names_in n = m0_names_in n := by funext ds; unfold m_names_in; rfl
theorem m_names_in_s (n : Nat) (ds : List D) : m_names_in (n + 1) ds = onlyL (callMO (M_names_in (m_names_in n)) N_names_in ds) := by rw [m_names_in_fun n]; unfold m_names_in; rfl
theorem m_names_in_lst : ∀ (n : Nat) (ds : List D) (d : D), m_names_in n ds = .ok d → ∃ xs, d = .lst xs
  | 0, ds, d, h => by rw [m_names_in_0] at h; cases h
  | n + 1, ds, d, h => by rw [m_names_in_s] at h; exact onlyL_ok h
def N_is_circular : List Str := ["blocks", "name", "seen", "waiting", "other"]
def M_is_circular : WMS := (mSeq (mNewL 2 mNil)
  (mSeq (mNewCall 3 (m_names_in 24) 1 (mCons (mOp fIx (mVar 0) (mVar 1)) mNil))
  (mSeq (mWhile [4] (mTest (mOp (fEq fun b => !b) (mVar 3) (mLst mNil))) (mSeq (mPopS 4 3)
  (mIfS (mTest (mOp (fIn fun b => !b) (mVar 4) (mVar 2))) (mSeq (mApp 2 (mVar 4))
  (mExt 3 (mCall (m_names_in 24) 1 (mCons (mOp fIx (mVar 0) (mVar 4)) mNil)))) mNext)))
  (mFrz 3 (mFrz 2 (mRet (mOp (fIn fun b => b) (mVar 1) (mVar 2))))))))
@[irreducible] def m_is_circular (ds : List D) : Rs D := callM M_is_circular N_is_circular ds
theorem m_is_circular_eq (ds : List D) : m_is_circular ds = callM M_is_circular N_is_circular ds := by unfold m_is_circular; rfl
def N_measured : List Str := ["block", "known", "deep", "puts", "statement", "inner"]
def M_measured (sr : List D → Rs D) : WMS := (mSeq (mSet 2 (mC (.int 0)))
  (mSeq (mSet 3 (mC (.int 0)))
  (mSeq (mFor [4, 5] (miSeq (mVar 0)) (mgN 4) (mSeq (mSet 5 (mTup (mCons (mC (.int 0)) (mCons (mCB fInt1 (mCons (mOp (fEq fun b => b) (mOp fIx (mVar 4) (mC (.int 0))) (mC (.str "put"))) mNil)) mNil))))
  (mSeq (mIfS (mTest (mOp (fEq fun b => b) (mOp fIx (mVar 4) (mC (.int 0))) (mC (.str "repeat")))) (mSeq (mSet 5 (mCall sr 2 (mCons (mOp fIx (mVar 4) (mC (.int 2))) (mCons (mVar 1) mNil))))
  (mSet 5 (mTup (mCons (mOp fAdd (mOp fIx (mVar 5) (mC (.int 0))) (mC (.int 1))) (mCons (mOp fIx (mVar 5) (mC (.int 1))) mNil))))) (mIfS (mTest (mOp (fIn fun b => b) (mOp fIx (mVar 4) (mC (.int 0))) (mTup (mCons (mC (.str "do")) (mCons (mC (.str "undo")) mNil))))) (mSet 5 (mOp fIx (mVar 1) (mOp fIx (mVar 4) (mC (.int 1))))) mNext))
  (mSeq (mSet 2 (mCB fMax2 (mCons (mVar 2) (mCons (mOp fIx (mVar 5) (mC (.int 0))) mNil))))
  (mAug 3 (onV2 (fI0 fun i j => .int (i + j))) (mOp fIx (mVar 5) (mC (.int 1))))))))
  (mRet (mTup (mCons (mVar 2) (mCons (mVar 3) mNil)))))))
def m0_measured : Nat → List D → Rs D
  | 0, _ => .bad
  | n + 1, ds => callM (M_measured (m0_measured n)) N_measured ds
@[irreducible] def m_measured (n : Nat) (ds : List D) : Rs D := m0_measured n ds
theorem m_measured_0 (ds : List D) : m_measured 0 ds = .bad := by unfold m_measured; rfl
theorem m_measured_fun (n : Nat) : m_measured n = m0_measured n := by funext ds; unfold m_measured; rfl
theorem m_measured_s (n : Nat) (ds : List D) : m_measured (n + 1) ds = callM (M_measured (m_measured n)) N_measured ds := by rw [m_measured_fun n]; unfold m_measured; rfl
def N_measures : List Str := ["blocks", "known", "name", "other"]
def M_measures : WMS := (mSeq (mNewD 1)
  (mSeq (mWhile [2] (mTest (mOp fLt (mCB fLen (mCons (mVar 1) mNil)) (mCB fLen (mCons (mVar 0) mNil)))) (mFor [2] (miSeq (mCB fSorted (mCons (mVar 0) mNil))) (mgN 2) (mIfS (mAndT (mTest (mOp (fIn fun b => !b) (mVar 2) (mVar 1))) (mTest (mCB fAll (mCons (mLc (miSeq (mCall (m_names_in 24) 1 (mCons (mOp fIx (mVar 0) (mVar 2)) mNil))) (mgN 3) mYes (mOp (fIn fun b => b) (mVar 3) (mVar 1)) [3]) mNil)))) (mDput 1 (mVar 2) (mCallO (m_measured 24) 2 (mCons (mOp fIx (mVar 0) (mVar 2)) (mCons (mVar 1) mNil)))) mNext)))
  (mFrz 1 (mRet (mVar 1)))))
@[irreducible] def m_measures (ds : List D) : Rs D := callM M_measures N_measures ds
theorem m_measures_eq (ds : List D) : m_measures ds = callM M_measures N_measures ds := by unfold m_measures; rfl
def N_check_measure : List Str := ["measure"]
def M_check_measure : WMS := (mSeq (mIfS (mTest (mOp fGt (mOp fIx (mVar 0) (mC (.int 0))) (mC (.int 6)))) (mRaise "TooDeep" "limit" "TooDeep" (mC (.int 6))) mNext)
  (mIfS (mTest (mOp fGt (mOp fIx (mVar 0) (mC (.int 1))) (mC (.int 60)))) (mRaise "TooMany" "limit" "TooMany" (mC (.int 60))) mNext))
@[irreducible] def m_check_measure (ds : List D) : Rs D := callM M_check_measure N_check_measure ds
theorem m_check_measure_eq (ds : List D) : m_check_measure ds = callM M_check_measure N_check_measure ds := by unfold m_check_measure; rfl
def N_Parts_block : List Str := ["self", "name"]
def M_Parts_block : WMS := (mSeq (mIfS (mTest (mOp (fIn fun b => !b) (mVar 1) (mFld "Parts" "kept" (mVar 0)))) mNoS mNext)
  (mRet (mOp fIx (mFld "Parts" "kept" (mVar 0)) (mVar 1))))
@[irreducible] def m_Parts_block (ds : List D) : Rs D := callM M_Parts_block N_Parts_block ds
theorem m_Parts_block_eq (ds : List D) : m_Parts_block ds = callM M_Parts_block N_Parts_block ds := by unfold m_Parts_block; rfl
def N_Parts_check_names : List Str := ["self", "block", "name"]
def M_Parts_check_names : WMS := (mFor [2] (miSeq (mCall (m_names_in 24) 1 (mCons (mVar 1) mNil))) (mgN 2) (mDrop (mMeth "Parts" "block" m_Parts_block 2 (mVar 0) (mCons (mVar 2) mNil))))
@[irreducible] def m_Parts_check_names (ds : List D) : Rs D := callM M_Parts_check_names N_Parts_check_names ds
theorem m_Parts_check_names_eq (ds : List D) : m_Parts_check_names ds = callM M_Parts_check_names N_Parts_check_names ds := by unfold m_Parts_check_names; rfl
def N_Parts___init__ : List Str := ["self", "dimension", "blocks", "name"]
def M_Parts___init__ : WMS := (mSeq (mIfS (mNotT (mTest (mChain fLe fLe (mC (.int 1)) (mVar 1) (mC (.int 3))))) (mRaise "WrongDimension" "given" "WrongDimension" (mVar 1)) mNext)
  (mSeq (mIfS (mTest (mOp fGt (mCB fLen (mCons (mVar 2) mNil)) (mC (.int 12)))) (mRaise "CapacityExceeded" "capacity" "CapacityExceeded" (mC (.int 12))) mNext)
  (mSeq (mFor [] (miSeq (mCB fSorted (mCons (mVar 2) mNil))) (mgN 3) (mSeq (mIfS (mNotT (mTest (mCall m_is_name 1 (mCons (mVar 3) mNil)))) (mRaise "InvalidName" "name" "InvalidName" (mVar 3)) mNext)
  (mDrop (mCall m_check_block 2 (mCons (mOp fIx (mVar 2) (mVar 3)) (mCons (mVar 1) mNil))))))
  (mSeq (mSetA "Parts" "ground" 0 (mVar 1))
  (mSeq (mSetA "Parts" "kept" 0 (mDc (miSeq (mCB fSorted (mCons (mVar 2) mNil))) (mgN 3) mYes (mVar 3) (mOp fIx (mVar 2) (mVar 3)) [3]))
  (mSeq (mFor [3] (miKeys (mFld "Parts" "kept" (mVar 0))) (mgN 3) (mDrop (mMethO "Parts" "check_names" m_Parts_check_names 2 (mVar 0) (mCons (mOp fIx (mFld "Parts" "kept" (mVar 0)) (mVar 3)) mNil))))
  (mSeq (mFor [3] (miKeys (mFld "Parts" "kept" (mVar 0))) (mgN 3) (mIfS (mTest (mCall m_is_circular 2 (mCons (mFld "Parts" "kept" (mVar 0)) (mCons (mVar 3) mNil)))) (mRaise "Circular" "name" "Circular" (mVar 3)) mNext))
  (mSeq (mSetA "Parts" "known" 0 (mCall m_measures 1 (mCons (mFld "Parts" "kept" (mVar 0)) mNil)))
  (mFor [3] (miKeys (mFld "Parts" "kept" (mVar 0))) (mgN 3) (mDrop (mCall m_check_measure 1 (mCons (mOp fIx (mFld "Parts" "known" (mVar 0)) (mVar 3)) mNil))))))))))))
@[irreducible] def m_Parts___init__ (ds : List D) : Rs D := initM "Parts" M_Parts___init__ N_Parts___init__ ds
theorem m_Parts___init___eq (ds : List D) : m_Parts___init__ ds = initM "Parts" M_Parts___init__ N_Parts___init__ ds := by unfold m_Parts___init__; rfl
def N_Parts_measure : List Str := ["self", "block"]
def M_Parts_measure : WMS := (mSeq (mDrop (mCall m_check_block 2 (mCons (mVar 1) (mCons (mFld "Parts" "ground" (mVar 0)) mNil))))
  (mSeq (mDrop (mMeth "Parts" "check_names" m_Parts_check_names 2 (mVar 0) (mCons (mVar 1) mNil)))
  (mRet (mCall (m_measured 24) 2 (mCons (mVar 1) (mCons (mFld "Parts" "known" (mVar 0)) mNil))))))
@[irreducible] def m_Parts_measure (ds : List D) : Rs D := callM M_Parts_measure N_Parts_measure ds
theorem m_Parts_measure_eq (ds : List D) : m_Parts_measure ds = callM M_Parts_measure N_Parts_measure ds := by unfold m_Parts_measure; rfl
def N_Parts_check : List Str := ["self", "block"]
def M_Parts_check : WMS := (mDrop (mCall m_check_measure 1 (mCons (mMeth "Parts" "measure" m_Parts_measure 2 (mVar 0) (mCons (mVar 1) mNil)) mNil)))
@[irreducible] def m_Parts_check (ds : List D) : Rs D := callM M_Parts_check N_Parts_check ds
theorem m_Parts_check_eq (ds : List D) : m_Parts_check ds = callM M_Parts_check N_Parts_check ds := by unfold m_Parts_check; rfl
def N_Parts_depth : List Str := ["self", "block"]
def M_Parts_depth : WMS := (mRet (mOp fIx (mMeth "Parts" "measure" m_Parts_measure 2 (mVar 0) (mCons (mVar 1) mNil)) (mC (.int 0))))
@[irreducible] def m_Parts_depth (ds : List D) : Rs D := callM M_Parts_depth N_Parts_depth ds
theorem m_Parts_depth_eq (ds : List D) : m_Parts_depth ds = callM M_Parts_depth N_Parts_depth ds := by unfold m_Parts_depth; rfl
def N_Parts_puts : List Str := ["self", "block"]
def M_Parts_puts : WMS := (mRet (mOp fIx (mMeth "Parts" "measure" m_Parts_measure 2 (mVar 0) (mCons (mVar 1) mNil)) (mC (.int 1))))
@[irreducible] def m_Parts_puts (ds : List D) : Rs D := callM M_Parts_puts N_Parts_puts ds
theorem m_Parts_puts_eq (ds : List D) : m_Parts_puts ds = callM M_Parts_puts N_Parts_puts ds := by unfold m_Parts_puts; rfl
end DP

namespace DP
open PySem PySem.Spec PyProof.Rows L2 DL DM
local macro_rules | `(tactic| walk_at "r") => `(tactic| conv => lhs; whnf)
/-! ### names of a block -/
def addN (acc ns : List Str) : List Str := ns.foldl (fun a n => if n ∈ a then a else a ++ [n]) acc
mutual
def nmC : Cd → List Str
  | .go _ => []
  | .put _ => []
  | .ref _ nm => [nm]
  | .rep _ b => nmF [] b
def nmF (acc : List Str) : List Cd → List Str
  | [] => acc
  | c :: r => nmF (addN acc (nmC c)) r
end
abbrev namesB (cs : List Cd) : List Str := nmF [] cs
theorem mem_addN {z : Str} : ∀ {ns acc : List Str}, z ∈ addN acc ns ↔ z ∈ acc ∨ z ∈ ns
  | [], acc => by unfold addN; simp
  | n :: r, acc => by
    show z ∈ addN (if n ∈ acc then acc else acc ++ [n]) r ↔ _
    rw [mem_addN]
    by_cases h : n ∈ acc
    · rw [if_pos h, List.mem_cons]
      constructor
      · rintro (h1 | h1)
        · exact .inl h1
        · exact .inr (.inr h1)
      · rintro (h1 | rfl | h1)
        · exact .inl h1
        · exact .inl h
        · exact .inr h1
    · rw [if_neg h, List.mem_append, List.mem_singleton, List.mem_cons, or_assoc]
theorem nodup_addN : ∀ {ns acc : List Str}, acc.Nodup → (addN acc ns).Nodup
  | [], acc, h => h
  | n :: r, acc, h => by
    show (addN (if n ∈ acc then acc else acc ++ [n]) r).Nodup
    refine nodup_addN ?_
    by_cases e : n ∈ acc
    · rw [if_pos e]; exact h
    · rw [if_neg e, List.nodup_append]
      exact ⟨h, by simp, fun a ha b hb => by rw [List.mem_singleton] at hb; subst hb; exact fun z => e (z ▸ ha)⟩
theorem mem_nmF {z : Str} : ∀ {cs : List Cd} {acc : List Str}, z ∈ nmF acc cs ↔ z ∈ acc ∨ ∃ c, c ∈ cs ∧ z ∈ nmC c
  | [], acc => by show z ∈ acc ↔ _; simp
  | c :: r, acc => by
    show z ∈ nmF (addN acc (nmC c)) r ↔ _
    rw [mem_nmF, mem_addN, or_assoc]
    refine or_congr Iff.rfl ?_
    constructor
    · rintro (h | ⟨e, h1, h2⟩)
      · exact ⟨c, List.mem_cons_self, h⟩
      · exact ⟨e, List.mem_cons_of_mem _ h1, h2⟩
    · rintro ⟨e, h1, h2⟩
      rcases List.mem_cons.mp h1 with rfl | h1
      · exact .inl h2
      · exact .inr ⟨e, h1, h2⟩
theorem mem_names {z : Str} {cs : List Cd} : z ∈ namesB cs ↔ ∃ c, c ∈ cs ∧ z ∈ nmC c := by
  rw [mem_nmF]; simp
theorem nodup_nmF : ∀ {cs : List Cd} {acc : List Str}, acc.Nodup → (nmF acc cs).Nodup
  | [], acc, h => h
  | c :: r, acc, h => nodup_nmF (cs := r) (nodup_addN h)
theorem nodup_names (cs : List Cd) : (namesB cs).Nodup := nodup_nmF List.nodup_nil
theorem names_app {a b : List Cd} {z : Str} : z ∈ namesB (a ++ b) ↔ z ∈ namesB a ∨ z ∈ namesB b := by
  rw [mem_names, mem_names, mem_names]
  constructor
  · rintro ⟨c, h1, h2⟩
    rcases List.mem_append.mp h1 with h | h
    · exact .inl ⟨c, h, h2⟩
    · exact .inr ⟨c, h, h2⟩
  · rintro (⟨c, h1, h2⟩ | ⟨c, h1, h2⟩)
    · exact ⟨c, List.mem_append.mpr (.inl h1), h2⟩
    · exact ⟨c, List.mem_append.mpr (.inr h1), h2⟩
theorem len_addN : ∀ {ns acc : List Str}, (addN acc ns).length ≤ acc.length + ns.length
  | [], acc => Nat.le_refl _
  | n :: r, acc => by
    show (addN (if n ∈ acc then acc else acc ++ [n]) r).length ≤ acc.length + (r.length + 1)
    refine Nat.le_trans len_addN ?_
    by_cases e : n ∈ acc
    · rw [if_pos e]; omega
    · rw [if_neg e, List.length_append, List.length_singleton]; omega
mutual
theorem len_nmC : ∀ c : Cd, (nmC c).length ≤ sz c
  | .go _ => Nat.zero_le _
  | .put _ => Nat.zero_le _
  | .ref _ _ => Nat.le_refl _
  | .rep _ b => by
    show (nmF [] b).length ≤ szs b + 1
    have := len_nmF b []
    simp only [List.length_nil] at this
    omega
theorem len_nmF : ∀ (cs : List Cd) (acc : List Str), (nmF acc cs).length ≤ acc.length + szs cs
  | [], acc => Nat.le_refl _
  | c :: r, acc => by
    show (nmF (addN acc (nmC c)) r).length ≤ acc.length + (sz c + szs r)
    have h1 := len_nmF r (addN acc (nmC c))
    have h2 := len_addN (ns := nmC c) (acc := acc)
    have h3 := len_nmC c
    omega
end
theorem len_names (cs : List Cd) : (namesB cs).length ≤ szs cs := by
  have h := len_nmF cs []
  simp only [List.length_nil, Nat.zero_add] at h
  exact h
theorem fIn_S {g : Bool → Bool} {z : Str} {xs : List Str} : fIn g (.v (.str z)) (.o (.lst (xs.map .str))) = some (.bl (g (decide (z ∈ xs)))) := fIn_gen rfl rfl (inG_str z xs)
theorem fIn_SL {g : Bool → Bool} {z : Str} {xs : List Str} : fIn g (.v (.str z)) (.v (lS xs)) = some (.bl (g (decide (z ∈ xs)))) := fIn_gen rfl rfl (inG_str z xs)
theorem fIn_K {g : Bool → Bool} {z : Str} {ks : List Str} {xs : List D} : fIn g (.v (.str z)) (.v (.dct ks xs)) = some (.bl (g (decide (z ∈ ks)))) := rfl
theorem fIn_KL {g : Bool → Bool} {z : Str} {ks : List Str} {xs : List D} : fIn g (.v (.str z)) (.v (.dcl ks xs)) = some (.bl (g (decide (z ∈ ks)))) := rfl
theorem fIn_KO {g : Bool → Bool} {z : Str} {ks : List Str} {xs : List D} : fIn g (.v (.str z)) (.o (.dct ks xs)) = some (.bl (g (decide (z ∈ ks)))) := rfl
/-- for name in names: if name not in found: found.append(name) -/
theorem add_loop {b0 st nms : Option Vl} {E : EndsK} : ∀ (ns acc : List Str), acc.length + ns.length ≤ 100000 →
    loopM [4] (mgN 4) (mIfS (mTest (mOp (fIn fun b => !b) (mVar 4) (mVar 1))) (mApp 1 (mVar 4)) mNext) (ns.map .str) [b0, some (.o (.lst (acc.map .str))), st, nms, none] E = E.nx [b0, some (.o (.lst ((addN acc ns).map .str))), st, nms, none]
  | [], acc, _ => loopM_nil
  | n :: r, acc, hl => by
    have hl' : acc.length + (r.length + 1) ≤ 100000 := hl
    rw [List.map_cons, loopM_cons]
    walk_at "r"
    rw [fIn_S]
    show _ = E.nx [b0, some (.o (.lst ((addN (if n ∈ acc then acc else acc ++ [n]) r).map .str))), st, nms, none]
    by_cases h : n ∈ acc
    · rw [decide_eq_true h, if_pos h]
      walk_at "r"
      rw [loopM_wipe]
      exact add_loop r acc (by omega)
    · rw [decide_eq_false h, if_neg h]
      walk_at "r"
      rw [show Nat.blt (acc.map D.str).length 16777216 = true from Nat.ble_eq_true_of_le (by rw [List.length_map]; omega)]
      walk_at "r"
      rw [loopM_wipe]
      have e : acc.map D.str ++ [.str n] = (acc ++ [n]).map D.str := by rw [List.map_append]; rfl
      have ih := add_loop (b0 := b0) (st := st) (nms := nms) (E := E) r (acc ++ [n]) (by rw [List.length_append, List.length_singleton]; omega)
      rw [← e] at ih
      exact ih
theorem names_loop {sr : List D → Ans} {bd : D} {E : EndsK} : ∀ (cs : List Cd) (acc : List Str), acc.length + szs cs ≤ 100000 →
    (∀ t b, Cd.rep t b ∈ cs → sr [tB b] = .ok (lS (namesB b))) →
    loopM [2, 3, 4] (mgN 2) (mSeq (mSet 3 (mLst mNil))
  (mSeq (mIfS (mTest (mOp (fEq fun b => b) (mOp fIx (mVar 2) (mC (.int 0))) (mC (.str "repeat")))) (mSet 3 (mCall sr 1 (mCons (mOp fIx (mVar 2) (mC (.int 2))) mNil))) (mIfS (mTest (mOp (fIn fun b => b) (mOp fIx (mVar 2) (mC (.int 0))) (mTup (mCons (mC (.str "do")) (mCons (mC (.str "undo")) mNil))))) (mSet 3 (mLst (mCons (mOp fIx (mVar 2) (mC (.int 1))) mNil))) mNext))
  (mFor [4] (miSeq (mVar 3)) (mgN 4) (mIfS (mTest (mOp (fIn fun b => !b) (mVar 4) (mVar 1))) (mApp 1 (mVar 4)) mNext)))) (toDs cs) [some (.v bd), some (.o (.lst (acc.map .str))), none, none, none] E = E.nx [some (.v bd), some (.o (.lst ((nmF acc cs).map .str))), none, none, none]
  | [], acc, _, _ => loopM_nil
  | c :: t, acc, hl, hs => by
    have hl' : acc.length + (sz c + szs t) ≤ 100000 := hl
    have h3 := len_nmC c
    have h2 := len_addN (ns := nmC c) (acc := acc)
    have ih := names_loop (bd := bd) (E := E) t (addN acc (nmC c)) (by omega) fun n b hm => hs n b (List.mem_cons_of_mem _ hm)
    show loopM _ _ _ (toD c :: toDs t) _ _ = _
    rw [loopM_cons]
    cases c with
    | go v =>
      walk_at "r"
      rw [in_do (by decide +kernel) (by decide)]
      walk_at "r"
      rw [loopM_wipe]
      show loopM [4] _ _ ([] : List D) _ _ = _
      rw [loopM_nil]
      walk_at "r"
      rw [loopM_wipe]
      exact ih
    | put n =>
      walk_at "r"
      rw [in_do (by decide +kernel) (by decide)]
      walk_at "r"
      rw [loopM_wipe]
      show loopM [4] _ _ ([] : List D) _ _ = _
      rw [loopM_nil]
      walk_at "r"
      rw [loopM_wipe]
      exact ih
    | ref u nm =>
      have ad := fun E => add_loop (b0 := some (.v bd)) (st := some (.v (toD (.ref u nm)))) (nms := some (.v (.lst [.str nm]))) (E := E) [nm] acc (by simp only [List.length_singleton]; have : sz (.ref u nm) = 1 := rfl; omega)
      cases u with
      | true =>
        walk_at "r"
        rw [in_do (by decide +kernel) (by decide)]
        walk_at "r"
        rw [loopM_wipe]
        refine (ad _).trans ?_
        walk_at "r"
        rw [loopM_wipe]
        exact ih
      | false =>
        walk_at "r"
        rw [in_do (by decide +kernel) (by decide)]
        walk_at "r"
        rw [loopM_wipe]
        refine (ad _).trans ?_
        walk_at "r"
        rw [loopM_wipe]
        exact ih
    | rep n b =>
      walk_at "r"
      rw [hs n b List.mem_cons_self]
      walk_at "r"
      rw [loopM_wipe]
      have hsz : sz (.rep n b) = szs b + 1 := rfl
      have hlb := len_names b
      refine (add_loop (b0 := some (.v bd)) (st := some (.v (toD (.rep n b)))) (nms := some (.v (lS (namesB b)))) (namesB b) acc (by omega)).trans ?_
      walk_at "r"
      rw [loopM_wipe]
      exact ih
theorem sub_dep {cs : List Cd} {t : Int} {b : List Cd} (h : Cd.rep t b ∈ cs) : dCs b + 1 ≤ dCs cs := by
  induction cs with
  | nil => cases h
  | cons c r ih =>
    have e : dCs (c :: r) = max (dC c) (dCs r) := rfl
    rw [e]
    rcases List.mem_cons.mp h with rfl | h
    · show dCs b + 1 ≤ max (dCs b + 1) _; omega
    · have := ih h; omega
theorem sub_sz {cs : List Cd} {t : Int} {b : List Cd} (h : Cd.rep t b ∈ cs) : szs b + 1 ≤ szs cs := by
  induction cs with
  | nil => cases h
  | cons c r ih =>
    have e : szs (c :: r) = sz c + szs r := rfl
    rw [e]
    rcases List.mem_cons.mp h with rfl | h
    · show szs b + 1 ≤ (szs b + 1) + _; omega
    · have := ih h; omega
theorem names_d : ∀ (n : Nat) (cs : List Cd), dCs cs ≤ n → szs cs ≤ 100000 → m_names_in (n + 1) [tB cs] = .ok (lS (namesB cs)) := fun n cs hd hz => by
  rw [m_names_in_s]
  have hs : ∀ t b, Cd.rep t b ∈ cs → m_names_in n [tB b] = .ok (lS (namesB b)) := fun t b hm => by
    have q := sub_dep hm
    have q2 := sub_sz hm
    cases n with
    | zero => omega
    | succ n => exact names_d n b (by omega) (by omega)
  have key : callMO (M_names_in (m_names_in n)) N_names_in [tB cs] = .ok (lS (namesB cs)) := by
    walk_at "r"
    exact names_loop (bd := tB cs) cs [] (by simp only [List.length_nil]; omega) hs
  rw [key]
  rfl
/-! ### depth and puts -/
abbrev M2 := Int × Int
def d2 (m : M2) : D := .tup [.int m.1, .int m.2]
mutual
def me2 (kn : Str → M2) : Cd → M2
  | .go _ => (0, 0)
  | .put _ => (0, 1)
  | .ref _ nm => kn nm
  | .rep _ b => ((me2F kn (0, 0) b).1 + 1, (me2F kn (0, 0) b).2)
def me2F (kn : Str → M2) (m : M2) : List Cd → M2
  | [] => m
  | c :: r => me2F kn (mx m.1 (me2 kn c).1, m.2 + (me2 kn c).2) r
end
abbrev me2B (kn : Str → M2) (cs : List Cd) : M2 := me2F kn (0, 0) cs
theorem me2_loop {sr : List D → Ans} {dc : D} {kn : Str → M2} {bd : D} {E : EndsK} : ∀ (cs : List Cd) (m : M2), (∀ z, (∃ c, c ∈ cs ∧ z ∈ nmC c) → fIx (.v dc) (.v (.str z)) = some (d2 (kn z))) →
    (∀ t b, Cd.rep t b ∈ cs → sr [tB b, dc] = .ok (d2 (me2B kn b))) →
    loopM [4, 5] (mgN 4) (mSeq (mSet 5 (mTup (mCons (mC (.int 0)) (mCons (mCB fInt1 (mCons (mOp (fEq fun b => b) (mOp fIx (mVar 4) (mC (.int 0))) (mC (.str "put"))) mNil)) mNil))))
  (mSeq (mIfS (mTest (mOp (fEq fun b => b) (mOp fIx (mVar 4) (mC (.int 0))) (mC (.str "repeat")))) (mSeq (mSet 5 (mCall sr 2 (mCons (mOp fIx (mVar 4) (mC (.int 2))) (mCons (mVar 1) mNil))))
  (mSet 5 (mTup (mCons (mOp fAdd (mOp fIx (mVar 5) (mC (.int 0))) (mC (.int 1))) (mCons (mOp fIx (mVar 5) (mC (.int 1))) mNil))))) (mIfS (mTest (mOp (fIn fun b => b) (mOp fIx (mVar 4) (mC (.int 0))) (mTup (mCons (mC (.str "do")) (mCons (mC (.str "undo")) mNil))))) (mSet 5 (mOp fIx (mVar 1) (mOp fIx (mVar 4) (mC (.int 1))))) mNext))
  (mSeq (mSet 2 (mCB fMax2 (mCons (mVar 2) (mCons (mOp fIx (mVar 5) (mC (.int 0))) mNil))))
  (mAug 3 (onV2 (fI0 fun i j => .int (i + j))) (mOp fIx (mVar 5) (mC (.int 1))))))) (toDs cs) [some (.v bd), some (.v dc), some (.v (.int m.1)), some (.v (.int m.2)), none, none] E =
    E.nx [some (.v bd), some (.v dc), some (.v (.int (me2F kn m cs).1)), some (.v (.int (me2F kn m cs).2)), none, none]
  | [], m, _, _ => loopM_nil
  | c :: t, m, h, hs => by
    have ih := me2_loop (bd := bd) (E := E) t (mx m.1 (me2 kn c).1, m.2 + (me2 kn c).2) (fun z ⟨e, h1, h2⟩ => h z ⟨e, List.mem_cons_of_mem _ h1, h2⟩) fun n b hm => hs n b (List.mem_cons_of_mem _ hm)
    show loopM _ _ _ (toD c :: toDs t) _ _ = _
    rw [loopM_cons]
    cases c with
    | go v =>
      walk_at "r"
      rw [in_do (by decide +kernel) (by decide)]
      walk_at "r"
      rw [loopM_wipe]
      exact ih
    | put n =>
      walk_at "r"
      rw [in_do (by decide +kernel) (by decide)]
      walk_at "r"
      rw [loopM_wipe]
      exact ih
    | ref u nm =>
      have e1 := h nm ⟨_, List.mem_cons_self, List.mem_cons_self⟩
      cases u with
      | true =>
        walk_at "r"
        rw [in_do (by decide +kernel) (by decide)]
        walk_at "r"
        rw [e1]
        walk_at "r"
        rw [loopM_wipe]
        exact ih
      | false =>
        walk_at "r"
        rw [in_do (by decide +kernel) (by decide)]
        walk_at "r"
        rw [e1]
        walk_at "r"
        rw [loopM_wipe]
        exact ih
    | rep n b =>
      walk_at "r"
      rw [hs n b List.mem_cons_self]
      walk_at "r"
      rw [loopM_wipe]
      exact ih
theorem sub_names {cs : List Cd} {t : Int} {b : List Cd} (h : Cd.rep t b ∈ cs) {z : Str} (hz : ∃ c, c ∈ b ∧ z ∈ nmC c) : ∃ c, c ∈ cs ∧ z ∈ nmC c := ⟨_, h, mem_names.mpr hz⟩
theorem measured2_d {dc : D} {kn : Str → M2} : ∀ (n : Nat) (cs : List Cd), dCs cs ≤ n → (∀ z, (∃ c, c ∈ cs ∧ z ∈ nmC c) → fIx (.v dc) (.v (.str z)) = some (d2 (kn z))) → m_measured (n + 1) [tB cs, dc] = .ok (d2 (me2B kn cs)) := fun n cs hd h => by
  rw [m_measured_s]
  have hs : ∀ t b, Cd.rep t b ∈ cs → m_measured n [tB b, dc] = .ok (d2 (me2B kn b)) := fun t b hm => by
    have q := sub_dep hm
    cases n with
    | zero => omega
    | succ n => exact measured2_d n b (by omega) fun z hz => h z (sub_names hm hz)
  walk_at "r"
  refine (me2_loop (bd := tB cs) cs (0, 0) h hs).trans ?_
  rfl
mutual
theorem me2_congr {kn kn' : Str → M2} : ∀ c : Cd, (∀ z, z ∈ nmC c → kn z = kn' z) → me2 kn c = me2 kn' c
  | .go _, _ => rfl
  | .put _, _ => rfl
  | .ref _ nm, h => h nm List.mem_cons_self
  | .rep t b, h => by
    have e := me2F_congr b (0, 0) (kn := kn) (kn' := kn') fun z hz => h z (mem_names.mpr hz)
    show ((me2F kn (0, 0) b).1 + 1, (me2F kn (0, 0) b).2) = ((me2F kn' (0, 0) b).1 + 1, (me2F kn' (0, 0) b).2)
    rw [e]
theorem me2F_congr {kn kn' : Str → M2} : ∀ (cs : List Cd) (m : M2), (∀ z, (∃ c, c ∈ cs ∧ z ∈ nmC c) → kn z = kn' z) → me2F kn m cs = me2F kn' m cs
  | [], _, _ => rfl
  | c :: r, m, h => by
    show me2F kn (mx m.1 (me2 kn c).1, m.2 + (me2 kn c).2) r = me2F kn' (mx m.1 (me2 kn' c).1, m.2 + (me2 kn' c).2) r
    rw [me2_congr c fun z hz => h z ⟨c, List.mem_cons_self, hz⟩]
    exact me2F_congr r _ fun z ⟨e, h1, h2⟩ => h z ⟨e, List.mem_cons_of_mem _ h1, h2⟩
end
/-! ### parts -/
/-- the object: dimension, the blocks by their sorted names, the measures -/
def partsD (w : Int) (S : List Str) (b : Str → List Cd) (kk : List Str) (kn : Str → M2) : D :=
  .obj "Parts" ["ground", "kept", "known"] [.int w, .dcl S (S.map fun z => tB (b z)), .dct kk (kk.map fun z => d2 (kn z))]
theorem getL_map {α : Type} {f : Str → α} {z : Str} : ∀ {ks : List Str}, z ∈ ks → getL ks (ks.map f) z = some (f z)
  | k :: ks, h => by
    show (if k = z then some (f k) else getL ks (ks.map f) z) = some (f z)
    by_cases e : k = z
    · rw [if_pos e, e]
    · rw [if_neg e]
      rcases List.mem_cons.mp h with rfl | h
      · exact absurd rfl e
      · exact getL_map h
theorem block_d {w : Int} {S kk : List Str} {b : Str → List Cd} {kn : Str → M2} {z : Str} (h : z ∈ S) : m_Parts_block [partsD w S b kk kn, .str z] = .ok (tB (b z)) := by
  rw [m_Parts_block_eq]
  unfold partsD
  walk_at "r"
  rw [decide_eq_true h]
  walk_at "r"
  have e : fIx (.v (.dcl S (S.map fun z => tB (b z)))) (.v (.str z)) = some (tB (b z)) := getL_map h
  rw [e]
  rfl
/-- self as it stands while it is made: only dimension and blocks are there -/
def partsD0 (w : Int) (S : List Str) (b : Str → List Cd) : D := .obj "Parts" ["ground", "kept"] [.int w, .dcl S (S.map fun z => tB (b z))]
theorem block0_d {w : Int} {S : List Str} {b : Str → List Cd} {z : Str} (h : z ∈ S) : m_Parts_block [partsD0 w S b, .str z] = .ok (tB (b z)) := by
  rw [m_Parts_block_eq]
  unfold partsD0
  walk_at "r"
  rw [decide_eq_true h]
  walk_at "r"
  have e : fIx (.v (.dcl S (S.map fun z => tB (b z)))) (.v (.str z)) = some (tB (b z)) := getL_map h
  rw [e]
  rfl
theorem check_loop {self blk : D} {E : EndsK} (hs : insV "Parts" "block" (.v self) = some self) : ∀ (ns : List Str), (∀ z, z ∈ ns → ∃ d, m_Parts_block [self, .str z] = .ok d) →
    loopM [2] (mgN 2) (mDrop (mMeth "Parts" "block" m_Parts_block 2 (mVar 0) (mCons (mVar 2) mNil))) (ns.map .str) [some (.v self), some (.v blk), none] E = E.nx [some (.v self), some (.v blk), none]
  | [], _ => loopM_nil
  | z :: r, h => by
    obtain ⟨d, hd⟩ := h z List.mem_cons_self
    rw [List.map_cons, loopM_cons]
    walk_at "r"
    rw [hs]
    walk_at "r"
    rw [hd]
    walk_at "r"
    rw [loopM_wipe]
    exact check_loop hs r fun y hy => h y (List.mem_cons_of_mem _ hy)
theorem check_names_d {self : D} {cs : List Cd} (hd : dCs cs ≤ 23) (hz : szs cs ≤ 100000) (hs : insV "Parts" "block" (.v self) = some self) (h : ∀ z, z ∈ namesB cs → ∃ d, m_Parts_block [self, .str z] = .ok d) : m_Parts_check_names [self, tB cs] = .ok .non := by
  rw [m_Parts_check_names_eq]
  walk_at "r"
  rw [names_d 23 cs hd hz]
  walk_at "r"
  exact check_loop hs (namesB cs) h
end DP

namespace DP
open PySem PySem.Spec PyProof.Rows L2 DL DM
local macro_rules | `(tactic| walk_at "r") => `(tactic| conv => lhs; whnf)
/-- what a part uses, itself or by others -/
inductive Reach (b : Str → List Cd) (nm : Str) : Str → Prop
  | one {z : Str} : z ∈ namesB (b nm) → Reach b nm z
  | more {y z : Str} : Reach b nm y → z ∈ namesB (b y) → Reach b nm z
theorem layss_strs {xs : List Str} (h : ∀ z, z ∈ xs → PyData.strOk z = true) : layss (xs.map .str) = true := layss_mem fun d hd => by
  obtain ⟨z, hz, rfl⟩ := List.mem_map.mp hd
  exact h z hz
theorem deps_strs : ∀ xs : List Str, deps (xs.map .str) = 0
  | [] => rfl
  | z :: r => by show max 0 (deps (r.map .str)) = 0; rw [deps_strs r]; rfl
theorem eqG_nil {xs : List Str} (h : ∀ z, z ∈ xs → PyData.strOk z = true) : eqG (.lst (xs.map .str)) (.lst []) = some xs.isEmpty := by
  rw [eqG_of (d := .lst (xs.map .str)) (layss_strs h) rfl (by show deps (xs.map .str) + 1 ≤ 64; rw [deps_strs]; decide) (by decide), eqD_nil]
  cases xs <;> rfl
theorem fEq_nilO {g : Bool → Bool} {xs : List Str} (h : ∀ z, z ∈ xs → PyData.strOk z = true) : fEq g (.o (.lst (xs.map .str))) (.v (.lst [])) = some (.bl (g xs.isEmpty)) := by
  show (match eqG (.lst (xs.map .str)) (.lst []) with | some b => some (D.bl (g b)) | none => none) = _
  rw [eqG_nil h]
theorem whileM_wipe {is : List Nat} {mt : WMT} {s : WMS} {n : Nat} {r : Rm} {E : EndsK} : whileM is mt s n r E = whileM is mt s n (wipeM r is) E := by
  cases n with
  | zero => unfold whileM; rfl
  | succ n => rw [whileM_s, whileM_s, wipeM_idem]
theorem last_map (w : List Str) (y : Str) : ((w ++ [y]).map D.str)[((w ++ [y]).map D.str).length - 1]? = some (.str y) := by
  rw [List.map_append, List.length_append, List.map_singleton]
  simp
theorem drop_map (w : List Str) (y : Str) : ((w ++ [y]).map D.str).dropLast = w.map .str := by
  rw [List.map_append, List.map_singleton]
  simp
/-- blocks by names -/
structure Blks (dc : D) (S : List Str) (b : Str → List Cd) : Prop where
  ix : ∀ z, z ∈ S → fIx (.v dc) (.v (.str z)) = some (tB (b z))
  ok : ∀ z, z ∈ S → PyData.strOk z = true
  dep : ∀ z, z ∈ S → dCs (b z) ≤ 20
  siz : ∀ z, z ∈ S → szs (b z) ≤ 60
  clo : ∀ z, z ∈ S → ∀ y, y ∈ namesB (b z) → y ∈ S
structure CInv (b : Str → List Cd) (nm : Str) (seen wait : List Str) : Prop where
  rs : ∀ y, y ∈ seen → Reach b nm y
  rw_ : ∀ y, y ∈ wait → Reach b nm y
  one : ∀ z, z ∈ namesB (b nm) → z ∈ seen ∨ z ∈ wait
  more : ∀ y, y ∈ seen → ∀ z, z ∈ namesB (b y) → z ∈ seen ∨ z ∈ wait
theorem circ_loop {dc : D} {S : List Str} {b : Str → List Cd} {nm : Str} {E : EndsK} (B : Blks dc S b) (hl : S.length ≤ 1000) : ∀ (n : Nat) (seen wait : List Str), (S.length - seen.length) * 61 + wait.length < n → seen.Nodup → (∀ z, z ∈ seen → z ∈ S) → (∀ z, z ∈ wait → z ∈ S) → wait.length ≤ 100000 - (S.length - seen.length) * 61 → CInv b nm seen wait →
    ∃ seen' : List Str, (∀ z, z ∈ seen' ↔ Reach b nm z) ∧
      whileM [4] (mTest (mOp (fEq fun b => !b) (mVar 3) (mLst mNil))) (mSeq (mPopS 4 3)
  (mIfS (mTest (mOp (fIn fun b => !b) (mVar 4) (mVar 2))) (mSeq (mApp 2 (mVar 4))
  (mExt 3 (mCall (m_names_in 24) 1 (mCons (mOp fIx (mVar 0) (mVar 4)) mNil)))) mNext)) n [some (.v dc), some (.v (.str nm)), some (.o (.lst (seen.map .str))), some (.o (.lst (wait.map .str))), none] E =
      E.nx [some (.v dc), some (.v (.str nm)), some (.o (.lst (seen'.map .str))), some (.o (.lst [])), none]
  | 0, _, _, h, _, _, _, _, _ => by omega
  | n + 1, seen, wait, h, hnd, hs, hw, hw2, I => by
    have e1 := fEq_nilO (g := fun b => !b) fun z hz => B.ok z (hw z hz)
    rcases List.eq_nil_or_concat wait with rfl | ⟨w, y, rfl⟩
    · refine ⟨seen, fun z => ⟨I.rs z, fun r => ?_⟩, ?_⟩
      · induction r with
        | one h => rcases I.one _ h with h | h; exact h; cases h
        | more _ h ih => rcases I.more _ ih _ h with h | h; exact h; cases h
      · rw [whileM_s]
        walk_at "r"
        rw [e1]
        rfl
    · rw [List.concat_eq_append] at *
      have e2 : (w ++ [y]).isEmpty = false := by cases w <;> rfl
      rw [e2] at e1
      have hyS : y ∈ S := hw y (List.mem_append.mpr (.inr List.mem_cons_self))
      have hwl : (w ++ [y]).length = w.length + 1 := by simp
      rw [hwl] at h hw2
      by_cases hy : y ∈ seen
      · obtain ⟨s', h1, h2⟩ := circ_loop (E := E) B hl n seen w (by omega) hnd hs (fun z hz => hw z (List.mem_append.mpr (.inl hz))) (by omega) ⟨I.rs, fun z hz => I.rw_ z (List.mem_append.mpr (.inl hz)), fun z hz => by
          rcases I.one z hz with h | h
          · exact .inl h
          · rcases List.mem_append.mp h with h | h
            · exact .inr h
            · rw [List.mem_singleton.mp h]; exact .inl hy, fun x hx z hz => by
          rcases I.more x hx z hz with h | h
          · exact .inl h
          · rcases List.mem_append.mp h with h | h
            · exact .inr h
            · rw [List.mem_singleton.mp h]; exact .inl hy⟩
        refine ⟨s', h1, ?_⟩
        rw [whileM_s]
        walk_at "r"
        rw [e1]
        walk_at "r"
        rw [last_map]
        walk_at "r"
        rw [drop_map, fIn_S, decide_eq_true hy]
        walk_at "r"
        rw [whileM_wipe]
        exact h2
      · have hsl : seen.length < S.length := by
          have h1 : (y :: seen).Nodup := List.nodup_cons.mpr ⟨hy, hnd⟩
          have h2 := List.Nodup.length_le_of_subset h1 (fun z hz => by
            rcases List.mem_cons.mp hz with rfl | hz
            · exact hyS
            · exact hs z hz)
          exact h2
        have hnl : (namesB (b y)).length ≤ 60 := Nat.le_trans (len_names _) (B.siz y hyS)
        have hr : Reach b nm y := I.rw_ y (List.mem_append.mpr (.inr List.mem_cons_self))
        obtain ⟨s', h1, h2⟩ := circ_loop (E := E) B hl n (seen ++ [y]) (w ++ namesB (b y)) (by rw [List.length_append, List.length_append, List.length_singleton]; omega)
          (by rw [List.nodup_append]; exact ⟨hnd, by simp, fun a ha c hc => by rw [List.mem_singleton] at hc; subst hc; exact fun z => hy (z ▸ ha)⟩)
          (fun z hz => by rcases List.mem_append.mp hz with h | h; exact hs z h; rw [List.mem_singleton.mp h]; exact hyS)
          (fun z hz => by rcases List.mem_append.mp hz with h | h; exact hw z (List.mem_append.mpr (.inl h)); exact B.clo y hyS z h)
          (by rw [List.length_append, List.length_append, List.length_singleton]; omega)
          ⟨fun z hz => by rcases List.mem_append.mp hz with h | h; exact I.rs z h; rw [List.mem_singleton.mp h]; exact hr,
           fun z hz => by rcases List.mem_append.mp hz with h | h; exact I.rw_ z (List.mem_append.mpr (.inl h)); exact .more hr h,
           fun z hz => by
            rcases I.one z hz with h | h
            · exact .inl (List.mem_append.mpr (.inl h))
            · rcases List.mem_append.mp h with h | h
              · exact .inr (List.mem_append.mpr (.inl h))
              · rw [List.mem_singleton.mp h]; exact .inl (List.mem_append.mpr (.inr List.mem_cons_self)),
           fun x hx z hz => by
            rcases List.mem_append.mp hx with hx | hx
            · rcases I.more x hx z hz with h | h
              · exact .inl (List.mem_append.mpr (.inl h))
              · rcases List.mem_append.mp h with h | h
                · exact .inr (List.mem_append.mpr (.inl h))
                · rw [List.mem_singleton.mp h]; exact .inl (List.mem_append.mpr (.inr List.mem_cons_self))
            · rw [List.mem_singleton.mp hx] at hz
              exact .inr (List.mem_append.mpr (.inr hz))⟩
        refine ⟨s', h1, ?_⟩
        rw [whileM_s]
        walk_at "r"
        rw [e1]
        walk_at "r"
        rw [last_map]
        walk_at "r"
        rw [drop_map, fIn_S, decide_eq_false hy]
        walk_at "r"
        rw [show Nat.blt (seen.map D.str).length 16777216 = true from Nat.ble_eq_true_of_le (by rw [List.length_map]; omega)]
        walk_at "r"
        rw [B.ix y hyS]
        walk_at "r"
        have hds := B.dep y hyS
        have hsz := B.siz y hyS
        rw [names_d 23 (b y) (by omega) (by omega)]
        walk_at "r"
        rw [show Nat.ble ((w.map D.str).length + ((namesB (b y)).map D.str).length) 16777216 = true from Nat.ble_eq_true_of_le (by rw [List.length_map, List.length_map]; omega)]
        walk_at "r"
        have a1 : seen.map D.str ++ [.str y] = (seen ++ [y]).map .str := by rw [List.map_append]; rfl
        have a2 : w.map D.str ++ (namesB (b y)).map .str = (w ++ namesB (b y)).map .str := by rw [List.map_append]
        rw [← a1, ← a2] at h2
        rw [whileM_wipe]
        exact h2
open Classical in
theorem circular_d {dc : D} {S : List Str} {b : Str → List Cd} {nm : Str} (B : Blks dc S b) (hl : S.length ≤ 1000) (hn : nm ∈ S) : m_is_circular [dc, .str nm] = .ok (.bl (decide (Reach b nm nm))) := by
  rw [m_is_circular_eq]
  have hds := B.dep nm hn
  have hsz := B.siz nm hn
  have hln := len_names (b nm)
  walk_at "r"
  rw [B.ix nm hn]
  walk_at "r"
  rw [names_d 23 (b nm) (by omega) (by omega)]
  walk_at "r"
  obtain ⟨s', h1, h2⟩ := circ_loop (nm := nm) (E := { nx := fun r1 => mFrz 3 (mFrz 2 (mRet (mOp (fIn fun b => b) (mVar 1) (mVar 2)))) r1 endK, rt := endK.rt, bk := endK.bk, ct := endK.ct, xc := endK.xc }) B hl 1000000 [] (namesB (b nm)) (by simp only [List.length_nil]; omega) List.nodup_nil (fun z hz => by cases hz) (fun z hz => B.clo nm hn z hz) (by simp only [List.length_nil]; omega)
    ⟨fun y hy => (by cases hy), fun y hy => .one hy, fun z hz => .inr hz, fun y hy => (by cases hy)⟩
  refine h2.trans ?_
  walk_at "r"
  have e : decide (nm ∈ s') = decide (Reach b nm nm) := by
    by_cases h : Reach b nm nm
    · rw [decide_eq_true h]; exact decide_eq_true ((h1 nm).mpr h)
    · rw [decide_eq_false h]; exact decide_eq_false fun q => h ((h1 nm).mp q)
  rw [fIn_SL, e]
  rfl
end DP

namespace DP
open PySem PySem.Spec PyProof.Rows L2 DL DM
local macro_rules | `(tactic| walk_at "r") => `(tactic| conv => lhs; whnf)
/-! ### the measures of all parts -/
def stepM (b : Str → List Cd) (kk : List Str) (z : Str) : List Str := if z ∉ kk ∧ ((namesB (b z)).all fun y => decide (y ∈ kk)) = true then kk ++ [z] else kk
def passM (b : Str → List Cd) (ns kk : List Str) : List Str := ns.foldl (stepM b) kk
theorem pass_cons {b : Str → List Cd} {z : Str} {ns kk : List Str} : passM b (z :: ns) kk = passM b ns (stepM b kk z) := rfl
theorem step_sub {b : Str → List Cd} {kk : List Str} {z y : Str} (h : y ∈ kk) : y ∈ stepM b kk z := by
  unfold stepM
  split
  · exact List.mem_append.mpr (.inl h)
  · exact h
theorem pass_sub {b : Str → List Cd} {y : Str} : ∀ {ns kk : List Str}, y ∈ kk → y ∈ passM b ns kk
  | [], _, h => h
  | z :: r, kk, h => pass_sub (ns := r) (step_sub h)
theorem pass_in {b : Str → List Cd} {S : List Str} : ∀ {ns kk : List Str}, (∀ z, z ∈ ns → z ∈ S) → (∀ z, z ∈ kk → z ∈ S) → ∀ z, z ∈ passM b ns kk → z ∈ S
  | [], _, _, h, z, hz => h z hz
  | y :: r, kk, hn, h, z, hz => pass_in (ns := r) (fun x hx => hn x (List.mem_cons_of_mem _ hx)) (fun x hx => by
    unfold stepM at hx
    split at hx
    · rcases List.mem_append.mp hx with hx | hx
      · exact h x hx
      · rw [List.mem_singleton.mp hx]; exact hn y List.mem_cons_self
    · exact h x hx) z hz
theorem step_nodup {b : Str → List Cd} {kk : List Str} {z : Str} (h : kk.Nodup) : (stepM b kk z).Nodup := by
  unfold stepM
  split
  · rename_i hz
    rw [List.nodup_append]
    exact ⟨h, by simp, fun a ha c hc => by rw [List.mem_singleton] at hc; subst hc; exact fun e => hz.1 (e ▸ ha)⟩
  · exact h
theorem pass_nodup {b : Str → List Cd} : ∀ {ns kk : List Str}, kk.Nodup → (passM b ns kk).Nodup
  | [], _, h => h
  | z :: r, kk, h => pass_nodup (ns := r) (step_nodup h)
theorem pass_new {b : Str → List Cd} {z : Str} : ∀ {ns kk : List Str}, z ∈ ns → (∀ y, y ∈ namesB (b z) → y ∈ kk) → z ∈ passM b ns kk
  | y :: r, kk, h, hk => by
    rw [pass_cons]
    rcases List.mem_cons.mp h with rfl | h
    · refine pass_sub ?_
      unfold stepM
      by_cases hz : z ∈ kk
      · split
        · exact List.mem_append.mpr (.inl hz)
        · exact hz
      · rw [if_pos ⟨hz, List.all_eq_true.mpr fun y hy => decide_eq_true (hk y hy)⟩]
        exact List.mem_append.mpr (.inr List.mem_cons_self)
    · exact pass_new h fun x hx => step_sub (hk x hx)
/-- ranks: what is named stands lower -/
structure Rank (S : List Str) (b : Str → List Cd) (rk : Str → Nat) : Prop where
  lt : ∀ z, z ∈ S → ∀ y, y ∈ namesB (b z) → rk y < rk z
theorem free_one {S : List Str} {b : Str → List Cd} {rk : Str → Nat} (R : Rank S b rk) (clo : ∀ z, z ∈ S → ∀ y, y ∈ namesB (b z) → y ∈ S) {kk : List Str} : ∀ (n : Nat) (z : Str), rk z ≤ n → z ∈ S → z ∉ kk → ∃ x, x ∈ S ∧ x ∉ kk ∧ ∀ y, y ∈ namesB (b x) → y ∈ kk := fun n => by
  induction n with
  | zero =>
    intro z h hz hk
    exact ⟨z, hz, hk, fun y hy => absurd (R.lt z hz y hy) (by omega)⟩
  | succ n ih =>
    intro z h hz hk
    by_cases hall : ∀ y, y ∈ namesB (b z) → y ∈ kk
    · exact ⟨z, hz, hk, hall⟩
    · obtain ⟨y, hy⟩ := Classical.not_forall.mp hall
      obtain ⟨hy, hyk⟩ := Classical.not_imp.mp hy
      have := R.lt z hz y hy
      exact ih y (by omega) (clo z hz y hy) hyk
theorem sub_full {kk S : List Str} (hn : kk.Nodup) (hs : ∀ z, z ∈ kk → z ∈ S) (hl : S.length ≤ kk.length) : ∀ z, z ∈ S → z ∈ kk := fun z hz => by
  by_cases h : z ∈ kk
  · exact h
  · have := List.Nodup.length_le_of_subset (l₁ := z :: kk) (List.nodup_cons.mpr ⟨h, hn⟩) fun y hy => by
      rcases List.mem_cons.mp hy with rfl | hy
      · exact hz
      · exact hs y hy
    rw [List.length_cons] at this
    omega
section
variable {dc : D} {S : List Str} {b : Str → List Cd} {kn : Str → M2}
theorem pass_loop {E : EndsK} (B : Blks dc S b) (hl : S.length ≤ 1000) (hk : ∀ z, z ∈ S → kn z = me2B kn (b z)) : ∀ (ns kk : List Str), (∀ z, z ∈ ns → z ∈ S) → (∀ z, z ∈ kk → z ∈ S) → kk.Nodup →
    loopM [2] (mgN 2) (mIfS (mAndT (mTest (mOp (fIn fun b => !b) (mVar 2) (mVar 1))) (mTest (mCB fAll (mCons (mLc (miSeq (mCall (m_names_in 24) 1 (mCons (mOp fIx (mVar 0) (mVar 2)) mNil))) (mgN 3) mYes (mOp (fIn fun b => b) (mVar 3) (mVar 1)) [3]) mNil)))) (mDput 1 (mVar 2) (mCallO (m_measured 24) 2 (mCons (mOp fIx (mVar 0) (mVar 2)) (mCons (mVar 1) mNil)))) mNext)
      (ns.map .str) [some (.v dc), some (.o (.dct kk (kk.map fun z => d2 (kn z)))), none, none] E = E.nx [some (.v dc), some (.o (.dct (passM b ns kk) ((passM b ns kk).map fun z => d2 (kn z)))), none, none]
  | [], kk, _, _, _ => loopM_nil
  | z :: r, kk, hn, hs, hd => by
    have hz := hn z List.mem_cons_self
    have hdep := B.dep z hz
    have hsiz := B.siz z hz
    have hkl := List.Nodup.length_le_of_subset hd hs
    have ih := pass_loop (E := E) B hl hk r (stepM b kk z) (fun x hx => hn x (List.mem_cons_of_mem _ hx)) (pass_in (b := b) (ns := [z]) (fun x hx => by rw [List.mem_singleton.mp hx]; exact hz) hs) (step_nodup hd)
    rw [List.map_cons, loopM_cons, pass_cons]
    walk_at "r"
    rw [show decide (z ∈ kk) = decide (z ∈ kk) from rfl]
    by_cases h1 : z ∈ kk
    · rw [decide_eq_true h1]
      walk_at "r"
      rw [loopM_wipe]
      have e : stepM b kk z = kk := by unfold stepM; rw [if_neg fun h => h.1 h1]
      rw [e] at ih ⊢
      exact ih
    · rw [decide_eq_false h1]
      walk_at "r"
      rw [B.ix z hz]
      walk_at "r"
      rw [names_d 23 (b z) (by omega) (by omega)]
      walk_at "r"
      rw [comp_map D.str (fun y => .bl (decide (y ∈ kk))) (namesB (b z)) fun y hy K X => rfl]
      walk_at "r"
      rw [fAll_map]
      walk_at "r"
      by_cases h2 : ((namesB (b z)).all fun y => decide (y ∈ kk)) = true
      · have e : stepM b kk z = kk ++ [z] := by unfold stepM; rw [if_pos ⟨h1, h2⟩]
        rw [h2]
        walk_at "r"
        rw [B.ix z hz]
        walk_at "r"
        rw [measured2_d (dc := .dct kk (kk.map fun z => d2 (kn z))) (kn := kn) 23 (b z) (by omega) fun y hy => getL_map (of_decide_eq_true (List.all_eq_true.mp h2 y (mem_names.mpr hy)))]
        walk_at "r"
        rw [show Nat.blt (kk.map fun z => d2 (kn z)).length 4096 = true from Nat.ble_eq_true_of_le (by rw [List.length_map]; omega)]
        walk_at "r"
        rw [loopM_wipe]
        rw [e] at ih ⊢
        have a1 : putKs kk z = kk ++ [z] := by unfold putKs; rw [if_neg h1]
        have a2 : putXs kk (kk.map fun z => d2 (kn z)) z (d2 (me2B kn (b z))) = (kk ++ [z]).map fun z => d2 (kn z) := by unfold putXs; rw [if_neg h1, List.map_append, ← hk z hz]; rfl
        rw [a1, a2]
        exact ih
      · have h2 : ((namesB (b z)).all fun y => decide (y ∈ kk)) = false := by cases hq : ((namesB (b z)).all fun y => decide (y ∈ kk)) with | true => exact absurd hq h2 | false => rfl
        have e : stepM b kk z = kk := by unfold stepM; rw [if_neg fun h => by rw [h2] at h; cases h.2]
        rw [h2]
        walk_at "r"
        rw [loopM_wipe]
        rw [e] at ih ⊢
        exact ih
theorem measures_loop {E : EndsK} {rk : Str → Nat} (B : Blks dc S b) (hSn : S.Nodup) (hl : S.length ≤ 1000) (hk : ∀ z, z ∈ S → kn z = me2B kn (b z)) (R : Rank S b rk) {S' : List Str} (hS' : ∀ z, z ∈ S' ↔ z ∈ S) (h1 : fLen [.v dc] = some (.int S.length)) (h2 : fSorted [.v dc] = some (lS S')) : ∀ (n : Nat) (kk : List Str), S.length - kk.length < n → (∀ z, z ∈ kk → z ∈ S) → kk.Nodup →
    ∃ k2 : List Str, (∀ z, z ∈ k2 ↔ z ∈ S) ∧
    whileM [2] (mTest (mOp fLt (mCB fLen (mCons (mVar 1) mNil)) (mCB fLen (mCons (mVar 0) mNil)))) (mFor [2] (miSeq (mCB fSorted (mCons (mVar 0) mNil))) (mgN 2) (mIfS (mAndT (mTest (mOp (fIn fun b => !b) (mVar 2) (mVar 1))) (mTest (mCB fAll (mCons (mLc (miSeq (mCall (m_names_in 24) 1 (mCons (mOp fIx (mVar 0) (mVar 2)) mNil))) (mgN 3) mYes (mOp (fIn fun b => b) (mVar 3) (mVar 1)) [3]) mNil)))) (mDput 1 (mVar 2) (mCallO (m_measured 24) 2 (mCons (mOp fIx (mVar 0) (mVar 2)) (mCons (mVar 1) mNil)))) mNext)) n
      [some (.v dc), some (.o (.dct kk (kk.map fun z => d2 (kn z)))), none, none] E = E.nx [some (.v dc), some (.o (.dct k2 (k2.map fun z => d2 (kn z)))), none, none]
  | 0, _, h, _, _ => by omega
  | n + 1, kk, h, hs, hd => by
    have hkl := List.Nodup.length_le_of_subset hd hs
    by_cases hlt : kk.length < S.length
    · obtain ⟨z, hz, hzk⟩ : ∃ z, z ∈ S ∧ z ∉ kk := by
        refine Classical.byContradiction fun hno => ?_
        have hsub : ∀ z, z ∈ S → z ∈ kk := fun z hz => Classical.byContradiction fun q => hno ⟨z, hz, q⟩
        have := List.Nodup.length_le_of_subset hSn hsub
        omega
      obtain ⟨x, hx, hxk, hx2⟩ := free_one R B.clo (kk := kk) (rk z) z (Nat.le_refl _) hz hzk
      have hnew := pass_new (b := b) ((hS' x).mpr hx) hx2
      have hgrow : kk.length + 1 ≤ (passM b S' kk).length := List.Nodup.length_le_of_subset (l₁ := x :: kk) (List.nodup_cons.mpr ⟨hxk, hd⟩) fun y hy => by
        rcases List.mem_cons.mp hy with rfl | hy
        · exact hnew
        · exact pass_sub hy
      obtain ⟨k2, g1, g2⟩ := measures_loop (E := E) B hSn hl hk R hS' h1 h2 n (passM b S' kk) (by omega) (pass_in (fun y hy => (hS' y).mp hy) hs) (pass_nodup hd)
      refine ⟨k2, g1, ?_⟩
      rw [whileM_s]
      walk_at "r"
      rw [h1]
      walk_at "r"
      rw [show decide (((kk.length : Nat) : Int) < (S.length : Nat)) = true from decide_eq_true (by omega)]
      walk_at "r"
      rw [h2]
      walk_at "r"
      refine (pass_loop B hl hk S' kk (fun y hy => (hS' y).mp hy) hs hd).trans ?_
      walk_at "r"
      exact g2
    · refine ⟨kk, fun z => ⟨hs z, sub_full hd hs (by omega) z⟩, ?_⟩
      rw [whileM_s]
      walk_at "r"
      rw [h1]
      walk_at "r"
      rw [show decide (((kk.length : Nat) : Int) < (S.length : Nat)) = false from decide_eq_false (by omega)]
      rfl
theorem measures_d {rk : Str → Nat} (B : Blks dc S b) (hSn : S.Nodup) (hl : S.length ≤ 1000) (hk : ∀ z, z ∈ S → kn z = me2B kn (b z)) (R : Rank S b rk) {S' : List Str} (hS' : ∀ z, z ∈ S' ↔ z ∈ S) (h1 : fLen [.v dc] = some (.int S.length)) (h2 : fSorted [.v dc] = some (lS S')) :
    ∃ k2 : List Str, (∀ z, z ∈ k2 ↔ z ∈ S) ∧ m_measures [dc] = .ok (.dct k2 (k2.map fun z => d2 (kn z))) := by
  obtain ⟨k2, g1, g2⟩ := measures_loop (E := { nx := fun r1 => mFrz 1 (mRet (mVar 1)) r1 endK, rt := endK.rt, bk := endK.bk, ct := endK.ct, xc := endK.xc }) B hSn hl hk R hS' h1 h2 1000000 [] (by simp only [List.length_nil]; omega) (fun z hz => by cases hz) List.nodup_nil
  refine ⟨k2, g1, ?_⟩
  rw [m_measures_eq]
  walk_at "r"
  refine g2.trans ?_
  rfl
end
/-! ### parts made -/
theorem compDM_names {g : WMG} {mk mv : WM} {r : Rm} {f : Str → D} : ∀ (ns acc : List Str) {K : List Str → List D → Ans}, (acc ++ ns).Nodup → (∀ z, z ∈ ns → ∃ r1, g (.str z) r = some r1 ∧ (∀ K X, mk r1 K X = K (.v (.str z))) ∧ ∀ K X, mv r1 K X = K (.v (f z))) →
    compDM g mYes mk mv r (ns.map .str) acc (acc.map f) K = K (acc ++ ns) ((acc ++ ns).map f)
  | [], acc, K, _, _ => by rw [List.map_nil, compDM_nil, List.append_nil]
  | z :: t, acc, K, hn, h => by
    obtain ⟨r1, h1, h2, h3⟩ := h z List.mem_cons_self
    rw [List.map_cons, compDM_cons, h1]
    show mk r1 _ _ = _
    rw [h2]
    show mv r1 _ _ = _
    rw [h3]
    have hz : z ∉ acc := fun hz => by
      rw [List.nodup_append] at hn
      exact hn.2.2 z hz z List.mem_cons_self rfl
    show compDM g mYes mk mv r (t.map .str) (putKs acc z) (putXs acc (acc.map f) z (f z)) K = _
    have a1 : putKs acc z = acc ++ [z] := by unfold putKs; rw [if_neg hz]
    have a2 : putXs acc (acc.map f) z (f z) = (acc ++ [z]).map f := by unfold putXs; rw [if_neg hz, List.map_append]; rfl
    rw [a1, a2, compDM_names t (acc ++ [z]) (by rw [List.append_assoc]; exact hn) fun y hy => h y (List.mem_cons_of_mem _ hy), List.append_assoc]
    rfl
theorem check_measure_ok {m : M2} (h1 : m.1 ≤ 6) (h2 : m.2 ≤ 60) : m_check_measure [d2 m] = .ok .non := by
  rw [m_check_measure_eq]
  walk_at "r"
  rw [show decide ((6 : Int) < m.1) = false from decide_eq_false (by omega)]
  walk_at "r"
  rw [show decide ((60 : Int) < m.2) = false from decide_eq_false (by omega)]
  rfl
/-- what parts must be -/
structure Good (w : Int) (S : List Str) (b : Str → List Cd) (kn : Str → M2) (rk : Str → Nat) : Prop where
  w1 : 1 ≤ w
  w3 : w ≤ 3
  nd : S.Nodup
  len : S.length ≤ 12
  nm : ∀ z, z ∈ S → m_is_name [.str z] = .ok (.bl true)
  st : ∀ z, z ∈ S → PyData.strOk z = true
  ok : ∀ z, z ∈ S → okCs w (b z) = true
  dep : ∀ z, z ∈ S → dCs (b z) ≤ 20
  siz : ∀ z, z ∈ S → szs (b z) ≤ 60
  clo : ∀ z, z ∈ S → ∀ y, y ∈ namesB (b z) → y ∈ S
  rkS : Rank S b rk
  knE : ∀ z, z ∈ S → kn z = me2B kn (b z)
  lim : ∀ z, z ∈ S → (kn z).1 ≤ 6 ∧ (kn z).2 ≤ 60
theorem rank_no {S : List Str} {b : Str → List Cd} {rk : Str → Nat} (R : Rank S b rk) (clo : ∀ z, z ∈ S → ∀ y, y ∈ namesB (b z) → y ∈ S) {z : Str} (hz : z ∈ S) : ¬ Reach b z z := fun h => by
  have key : ∀ y, Reach b z y → y ∈ S ∧ rk y < rk z := fun y h => by
    induction h with
    | one h => exact ⟨clo z hz _ h, R.lt z hz _ h⟩
    | more _ h ih => exact ⟨clo _ ih.1 _ h, Nat.lt_trans (R.lt _ ih.1 _ h) ih.2⟩
  exact Nat.lt_irrefl _ (key z h).2
theorem blks_dcl {S : List Str} {b : Str → List Cd} (ok : ∀ z, z ∈ S → PyData.strOk z = true) (dep : ∀ z, z ∈ S → dCs (b z) ≤ 20) (siz : ∀ z, z ∈ S → szs (b z) ≤ 60) (clo : ∀ z, z ∈ S → ∀ y, y ∈ namesB (b z) → y ∈ S) : Blks (.dcl S (S.map fun z => tB (b z))) S b :=
  ⟨fun z hz => getL_map (f := fun z => tB (b z)) hz, ok, dep, siz, clo⟩
abbrev init1 : WMS := (mSeq (mIfS (mNotT (mTest (mCall m_is_name 1 (mCons (mVar 3) mNil)))) (mRaise "InvalidName" "name" "InvalidName" (mVar 3)) mNext)
  (mDrop (mCall m_check_block 2 (mCons (mOp fIx (mVar 2) (mVar 3)) (mCons (mVar 1) mNil)))))
/-- names and blocks that are in order, ahead of others -/
theorem init1_loop {w : Int} {db : D} {s0 : Option Vl} {b : Str → List Cd} {E : EndsK} : ∀ (ns rest : List Str) (x : Option Vl), (∀ z, z ∈ ns → m_is_name [.str z] = .ok (.bl true) ∧ fIx (.v db) (.v (.str z)) = some (tB (b z)) ∧ okCs w (b z) = true ∧ dCs (b z) ≤ 20 ∧ szs (b z) ≤ 60) →
    ∃ x', loopM [] (mgN 3) init1 ((ns ++ rest).map .str) [s0, some (.v (.int w)), some (.v db), x] E = loopM [] (mgN 3) init1 (rest.map .str) [s0, some (.v (.int w)), some (.v db), x'] E
  | [], rest, x, _ => ⟨x, rfl⟩
  | z :: t, rest, x, h => by
    obtain ⟨h1, h2, h3, h4, h5⟩ := h z List.mem_cons_self
    obtain ⟨x', ih⟩ := init1_loop t rest (some (.v (.str z))) fun y hy => h y (List.mem_cons_of_mem _ hy)
    refine ⟨x', ?_⟩
    rw [List.cons_append, List.map_cons, loopM_cons]
    walk_at "r"
    rw [h1]
    walk_at "r"
    rw [h2]
    walk_at "r"
    rw [check_code (b z) w h3 h4, if_neg (by omega)]
    walk_at "r"
    exact ih
abbrev init2 : WMS := (mSeq (mSetA "Parts" "ground" 0 (mVar 1))
  (mSeq (mSetA "Parts" "kept" 0 (mDc (miSeq (mCB fSorted (mCons (mVar 2) mNil))) (mgN 3) mYes (mVar 3) (mOp fIx (mVar 2) (mVar 3)) [3]))
  (mSeq (mFor [3] (miKeys (mFld "Parts" "kept" (mVar 0))) (mgN 3) (mDrop (mMethO "Parts" "check_names" m_Parts_check_names 2 (mVar 0) (mCons (mOp fIx (mFld "Parts" "kept" (mVar 0)) (mVar 3)) mNil))))
  (mSeq (mFor [3] (miKeys (mFld "Parts" "kept" (mVar 0))) (mgN 3) (mIfS (mTest (mCall m_is_circular 2 (mCons (mFld "Parts" "kept" (mVar 0)) (mCons (mVar 3) mNil)))) (mRaise "Circular" "name" "Circular" (mVar 3)) mNext))
  (mSeq (mSetA "Parts" "known" 0 (mCall m_measures 1 (mCons (mFld "Parts" "kept" (mVar 0)) mNil)))
  (mFor [3] (miKeys (mFld "Parts" "kept" (mVar 0))) (mgN 3) (mDrop (mCall m_check_measure 1 (mCons (mOp fIx (mFld "Parts" "known" (mVar 0)) (mVar 3)) mNil)))))))))
open Classical in
theorem circ_no {dc : D} {S : List Str} {b : Str → List Cd} {nm : Str} (B : Blks dc S b) (hl : S.length ≤ 1000) (hn : nm ∈ S) (h : ¬ Reach b nm nm) : m_is_circular [dc, .str nm] = .ok (.bl false) := by
  rw [circular_d B hl hn, decide_eq_false h]
open Classical in
theorem circ_yes {dc : D} {S : List Str} {b : Str → List Cd} {nm : Str} (B : Blks dc S b) (hl : S.length ≤ 1000) (hn : nm ∈ S) (h : Reach b nm nm) : m_is_circular [dc, .str nm] = .ok (.bl true) := by
  rw [circular_d B hl hn, decide_eq_true h]
abbrev ins0 (w : Int) (S : List Str) (b : Str → List Cd) : MO := .ins "Parts" ["ground", "kept"] [.int w, .dcl S (S.map fun z => tB (b z))]
abbrev ins1 (w : Int) (S : List Str) (b : Str → List Cd) (kk : List Str) (kn : Str → M2) : MO := .ins "Parts" ["ground", "kept", "known"] [.int w, .dcl S (S.map fun z => tB (b z)), .dct kk (kk.map fun z => d2 (kn z))]
section
variable {w : Int} {S : List Str} {b : Str → List Cd} {a1 a2 : Option Vl} {E : EndsK}
theorem init2_loop (dep : ∀ z, z ∈ S → dCs (b z) ≤ 20) (siz : ∀ z, z ∈ S → szs (b z) ≤ 60) : ∀ (ns rest : List Str), (∀ z, z ∈ ns → z ∈ S ∧ ∀ y, y ∈ namesB (b z) → y ∈ S) →
    loopM [3] (mgN 3) (mDrop (mMethO "Parts" "check_names" m_Parts_check_names 2 (mVar 0) (mCons (mOp fIx (mFld "Parts" "kept" (mVar 0)) (mVar 3)) mNil))) ((ns ++ rest).map .str) [some (.o (ins0 w S b)), a1, a2, none] E =
    loopM [3] (mgN 3) (mDrop (mMethO "Parts" "check_names" m_Parts_check_names 2 (mVar 0) (mCons (mOp fIx (mFld "Parts" "kept" (mVar 0)) (mVar 3)) mNil))) (rest.map .str) [some (.o (ins0 w S b)), a1, a2, none] E
  | [], _, _ => rfl
  | z :: t, rest, h => by
    obtain ⟨hz, hy⟩ := h z List.mem_cons_self
    have hd := dep z hz
    have hs := siz z hz
    have e : fIx (.v (.dcl S (S.map fun z => tB (b z)))) (.v (.str z)) = some (tB (b z)) := getL_map (f := fun z => tB (b z)) hz
    rw [List.cons_append, List.map_cons, loopM_cons]
    walk_at "r"
    rw [e]
    walk_at "r"
    rw [show m_Parts_check_names [.obj "Parts" ["ground", "kept"] [.int w, .dcl S (S.map fun z => tB (b z))], tB (b z)] = .ok .non from check_names_d (self := partsD0 w S b) (by omega) (by omega) rfl fun y hy' => ⟨_, block0_d (hy y hy')⟩]
    walk_at "r"
    rw [loopM_wipe]
    exact init2_loop dep siz t rest fun x hx => h x (List.mem_cons_of_mem _ hx)
theorem init3_loop (B : Blks (.dcl S (S.map fun z => tB (b z))) S b) (hl : S.length ≤ 12) : ∀ (ns rest : List Str), (∀ z, z ∈ ns → z ∈ S ∧ ¬ Reach b z z) →
    loopM [3] (mgN 3) (mIfS (mTest (mCall m_is_circular 2 (mCons (mFld "Parts" "kept" (mVar 0)) (mCons (mVar 3) mNil)))) (mRaise "Circular" "name" "Circular" (mVar 3)) mNext) ((ns ++ rest).map .str) [some (.o (ins0 w S b)), a1, a2, none] E =
    loopM [3] (mgN 3) (mIfS (mTest (mCall m_is_circular 2 (mCons (mFld "Parts" "kept" (mVar 0)) (mCons (mVar 3) mNil)))) (mRaise "Circular" "name" "Circular" (mVar 3)) mNext) (rest.map .str) [some (.o (ins0 w S b)), a1, a2, none] E
  | [], _, _ => rfl
  | z :: t, rest, h => by
    obtain ⟨hz, hy⟩ := h z List.mem_cons_self
    rw [List.cons_append, List.map_cons, loopM_cons]
    walk_at "r"
    rw [circ_no B (by omega) hz hy]
    walk_at "r"
    rw [loopM_wipe]
    exact init3_loop B hl t rest fun x hx => h x (List.mem_cons_of_mem _ hx)
theorem init4_loop {kk : List Str} {kn : Str → M2} : ∀ (ns rest : List Str), (∀ z, z ∈ ns → z ∈ kk ∧ (kn z).1 ≤ 6 ∧ (kn z).2 ≤ 60) →
    loopM [3] (mgN 3) (mDrop (mCall m_check_measure 1 (mCons (mOp fIx (mFld "Parts" "known" (mVar 0)) (mVar 3)) mNil))) ((ns ++ rest).map .str) [some (.o (ins1 w S b kk kn)), a1, a2, none] E =
    loopM [3] (mgN 3) (mDrop (mCall m_check_measure 1 (mCons (mOp fIx (mFld "Parts" "known" (mVar 0)) (mVar 3)) mNil))) (rest.map .str) [some (.o (ins1 w S b kk kn)), a1, a2, none] E
  | [], _, _ => rfl
  | z :: t, rest, h => by
    obtain ⟨hz, h1, h2⟩ := h z List.mem_cons_self
    have e : fIx (.v (.dct kk (kk.map fun z => d2 (kn z)))) (.v (.str z)) = some (d2 (kn z)) := getL_map (f := fun z => d2 (kn z)) hz
    rw [List.cons_append, List.map_cons, loopM_cons]
    walk_at "r"
    rw [e]
    walk_at "r"
    rw [check_measure_ok h1 h2]
    walk_at "r"
    rw [loopM_wipe]
    exact init4_loop t rest fun x hx => h x (List.mem_cons_of_mem _ hx)
theorem init2_end (dep : ∀ z, z ∈ S → dCs (b z) ≤ 20) (siz : ∀ z, z ∈ S → szs (b z) ≤ 60) (ns : List Str) (h : ∀ z, z ∈ ns → z ∈ S ∧ ∀ y, y ∈ namesB (b z) → y ∈ S) :
    loopM [3] (mgN 3) (mDrop (mMethO "Parts" "check_names" m_Parts_check_names 2 (mVar 0) (mCons (mOp fIx (mFld "Parts" "kept" (mVar 0)) (mVar 3)) mNil))) (ns.map .str) [some (.o (ins0 w S b)), a1, a2, none] E = E.nx [some (.o (ins0 w S b)), a1, a2, none] := by
  have e := init2_loop (w := w) (a1 := a1) (a2 := a2) (E := E) dep siz ns [] h
  rw [List.append_nil, List.map_nil, loopM_nil] at e
  exact e
theorem init3_end (B : Blks (.dcl S (S.map fun z => tB (b z))) S b) (hl : S.length ≤ 12) (ns : List Str) (h : ∀ z, z ∈ ns → z ∈ S ∧ ¬ Reach b z z) :
    loopM [3] (mgN 3) (mIfS (mTest (mCall m_is_circular 2 (mCons (mFld "Parts" "kept" (mVar 0)) (mCons (mVar 3) mNil)))) (mRaise "Circular" "name" "Circular" (mVar 3)) mNext) (ns.map .str) [some (.o (ins0 w S b)), a1, a2, none] E = E.nx [some (.o (ins0 w S b)), a1, a2, none] := by
  have e := init3_loop (w := w) (a1 := a1) (a2 := a2) (E := E) B hl ns [] h
  rw [List.append_nil, List.map_nil, loopM_nil] at e
  exact e
theorem init4_end {kk : List Str} {kn : Str → M2} (ns : List Str) (h : ∀ z, z ∈ ns → z ∈ kk ∧ (kn z).1 ≤ 6 ∧ (kn z).2 ≤ 60) :
    loopM [3] (mgN 3) (mDrop (mCall m_check_measure 1 (mCons (mOp fIx (mFld "Parts" "known" (mVar 0)) (mVar 3)) mNil))) (ns.map .str) [some (.o (ins1 w S b kk kn)), a1, a2, none] E = E.nx [some (.o (ins1 w S b kk kn)), a1, a2, none] := by
  have e := init4_loop (w := w) (S := S) (b := b) (a1 := a1) (a2 := a2) (E := E) ns [] h
  rw [List.append_nil, List.map_nil, loopM_nil] at e
  exact e
end
theorem parts_made {w : Int} {S : List Str} {b : Str → List Cd} {kn : Str → M2} {rk : Str → Nat} (G : Good w S b kn rk) {db : D} (h1 : fLen [.v db] = some (.int S.length)) (h2 : fSorted [.v db] = some (lS S)) (h3 : ∀ z, z ∈ S → fIx (.v db) (.v (.str z)) = some (tB (b z))) :
    ∃ kk : List Str, (∀ z, z ∈ kk ↔ z ∈ S) ∧ m_Parts___init__ [.int w, db] = .ok (partsD w S b kk kn) := by
  have hlen := G.len
  have B := blks_dcl G.st G.dep G.siz G.clo
  have hso : fSorted [.v (.dcl S (S.map fun z => tB (b z)))] = some (lS (sortS S)) := by
    show (match Nat.blt S.length 64 with | true => some (lS (sortS S)) | false => none) = _
    rw [show Nat.blt S.length 64 = true from Nat.ble_eq_true_of_le (by omega)]
  obtain ⟨kk, k1, k2⟩ := measures_d (dc := .dcl S (S.map fun z => tB (b z))) B G.nd (by omega) G.knE G.rkS (S' := sortS S) (fun z => (isort_perm leS S).mem_iff) rfl hso
  refine ⟨kk, k1, ?_⟩
  rw [m_Parts___init___eq]
  walk_at "r"
  rw [show decide ((1 : Int) ≤ w) = true from decide_eq_true G.w1]
  walk_at "r"
  rw [show decide (w ≤ (3 : Int)) = true from decide_eq_true G.w3]
  walk_at "r"
  rw [h1]
  walk_at "r"
  rw [show decide ((12 : Int) < (S.length : Nat)) = false from decide_eq_false (by omega)]
  walk_at "r"
  rw [h2]
  walk_at "r"
  obtain ⟨x', e1⟩ := init1_loop (w := w) (db := db) (s0 := some (.o (.ins "Parts" [] []))) (b := b) (E := { nx := fun r1 => init2 r1 (endI "Parts"), rt := (endI "Parts").rt, bk := (endI "Parts").bk, ct := (endI "Parts").ct, xc := (endI "Parts").xc }) S [] none fun z hz => ⟨G.nm z hz, h3 z hz, G.ok z hz, G.dep z hz, G.siz z hz⟩
  rw [List.append_nil, List.map_nil, loopM_nil] at e1
  refine e1.trans ?_
  walk_at "r"
  rw [h2]
  walk_at "r"
  refine (compDM_names (f := fun z => tB (b z)) S [] (by rw [List.nil_append]; exact G.nd) fun z hz => ⟨_, rfl, fun K X => rfl, fun K X => ?_⟩).trans ?_
  · show vK (fIx (.v db) (.v (.str z))) K = _
    rw [h3 z hz]
    rfl
  walk_at "r"
  rw [loopM_wipe]
  refine (init2_end (w := w) (a1 := some (.v (.int w))) (a2 := some (.v db)) G.dep G.siz S fun z hz => ⟨hz, G.clo z hz⟩).trans ?_
  walk_at "r"
  refine (init3_end (w := w) (a1 := some (.v (.int w))) (a2 := some (.v db)) B hlen S fun z hz => ⟨hz, rank_no G.rkS G.clo hz⟩).trans ?_
  walk_at "r"
  rw [k2]
  walk_at "r"
  refine (init4_end (w := w) (S := S) (b := b) (a1 := some (.v (.int w))) (a2 := some (.v db)) S fun z hz => ⟨(k1 z).mpr hz, G.lim z hz⟩).trans ?_
  rfl
end DP

namespace DP
open PySem PySem.Spec PyProof.Rows L2 DL DM
local macro_rules | `(tactic| walk_at "r") => `(tactic| conv => lhs; whnf)
section
variable {w : Int} {S : List Str} {b : Str → List Cd} {kk : List Str} {kn : Str → M2} {cs : List Cd}
theorem measure_ok (hk : ∀ z, z ∈ S → z ∈ kk) (hn : ∀ y, y ∈ namesB cs → y ∈ S) (h : okCs w cs = true) (hd : dCs cs ≤ 20) (hz : szs cs ≤ 60) : m_Parts_measure [partsD w S b kk kn, tB cs] = .ok (d2 (me2B kn cs)) := by
  rw [m_Parts_measure_eq]
  walk_at "r"
  rw [check_code cs w h hd, if_neg (by omega)]
  walk_at "r"
  rw [show m_Parts_check_names [.obj "Parts" ["ground", "kept", "known"] [.int w, .dcl S (S.map fun z => tB (b z)), .dct kk (kk.map fun z => d2 (kn z))], tB cs] = .ok .non from check_names_d (self := partsD w S b kk kn) (by omega) (by omega) rfl fun y hy => ⟨_, block_d (hn y hy)⟩]
  walk_at "r"
  rw [measured2_d (dc := .dct kk (kk.map fun z => d2 (kn z))) (kn := kn) 23 cs (by omega) fun y hy => getL_map (f := fun z => d2 (kn z)) (hk y (hn y (mem_names.mpr hy)))]
  rfl
theorem measure_long (h : okCs w cs = true) (hd : dCs cs ≤ 20) (hz : 60 < szs cs) : m_Parts_measure [partsD w S b kk kn, tB cs] = .exc "TooLong" [("tag", .str "TooLong"), ("limit", .int 60)] := by
  rw [m_Parts_measure_eq]
  walk_at "r"
  rw [check_code cs w h hd, if_pos hz]
  rfl
def limE (m : M2) : Ans := if 6 < m.1 then .exc "TooDeep" [("tag", .str "TooDeep"), ("limit", .int 6)] else if 60 < m.2 then .exc "TooMany" [("tag", .str "TooMany"), ("limit", .int 60)] else .ok .non
theorem check_measure_d (m : M2) : m_check_measure [d2 m] = limE m := by
  rw [m_check_measure_eq]
  unfold limE
  walk_at "r"
  by_cases h1 : 6 < m.1
  · rw [decide_eq_true h1, if_pos h1]
    rfl
  · rw [decide_eq_false h1, if_neg h1]
    walk_at "r"
    by_cases h2 : 60 < m.2
    · rw [decide_eq_true h2, if_pos h2]
      rfl
    · rw [decide_eq_false h2, if_neg h2]
      rfl
theorem check_ok {m : M2} (h : m_Parts_measure [partsD w S b kk kn, tB cs] = .ok (d2 m)) : m_Parts_check [partsD w S b kk kn, tB cs] = limE m := by
  rw [m_Parts_check_eq]
  unfold partsD at *
  walk_at "r"
  rw [h]
  walk_at "r"
  rw [check_measure_d]
  unfold limE
  by_cases h1 : 6 < m.1
  · rw [if_pos h1]
    rfl
  · rw [if_neg h1]
    by_cases h2 : 60 < m.2
    · rw [if_pos h2]
      rfl
    · rw [if_neg h2]
      rfl
theorem check_exc {n : Str} {fs : List (Str × D)} (h : m_Parts_measure [partsD w S b kk kn, tB cs] = .exc n fs) : m_Parts_check [partsD w S b kk kn, tB cs] = .exc n fs := by
  rw [m_Parts_check_eq]
  unfold partsD at *
  walk_at "r"
  rw [h]
  rfl
theorem depth_ok {m : M2} (h : m_Parts_measure [partsD w S b kk kn, tB cs] = .ok (d2 m)) : m_Parts_depth [partsD w S b kk kn, tB cs] = .ok (.int m.1) := by
  rw [m_Parts_depth_eq]
  unfold partsD at *
  walk_at "r"
  rw [h]
  rfl
theorem puts_ok {m : M2} (h : m_Parts_measure [partsD w S b kk kn, tB cs] = .ok (d2 m)) : m_Parts_puts [partsD w S b kk kn, tB cs] = .ok (.int m.2) := by
  rw [m_Parts_puts_eq]
  unfold partsD at *
  walk_at "r"
  rw [h]
  rfl
end
end DP

namespace K10
open PySem PySem.Spec PyProof.Rows L2 DL _root_.DM _root_.DP LamX
def top (i : Nat) : Stmt := PySem.Challenge.pw_strewfar_k10_limits_of_parts.main.body.getD i (.Pass ⟨0, 0, 0, 0⟩)
def meth (i j : Nat) : Stmt := match top i with | .ClassDef _ _ _ b _ _ _ _ _ _ _ => b.getD j (.Pass ⟨0, 0, 0, 0⟩) | _ => .Pass ⟨0, 0, 0, 0⟩
/-- the built-in names that the program leaves as they are -/
structure Bl (mg : Str → Option Value) : Prop where
  all : mg "all" = none
  bool : mg "bool" = none
  enumerate : mg "enumerate" = none
  int : mg "int" = none
  isinstance : mg "isinstance" = none
  len : mg "len" = none
  list : mg "list" = none
  max : mg "max" = none
  range : mg "range" = none
  sorted : mg "sorted" = none
  str : mg "str" = none
  sum : mg "sum" = none
  tuple : mg "tuple" = none
  zip : mg "zip" = none
  c_MAX_DEPTH : ∃ t, mg "MAX_DEPTH" = some (.int 6 t)
  c_MAX_DIMENSION : ∃ t, mg "MAX_DIMENSION" = some (.int 3 t)
  c_MAX_NAME : ∃ t, mg "MAX_NAME" = some (.int 8 t)
  c_MAX_PARTS : ∃ t, mg "MAX_PARTS" = some (.int 12 t)
  c_MAX_PUTS : ∃ t, mg "MAX_PUTS" = some (.int 60 t)
  c_MAX_STATEMENTS : ∃ t, mg "MAX_STATEMENTS" = some (.int 60 t)
  c_MAX_STEP : ∃ t, mg "MAX_STEP" = some (.int 1000000000000 t)
  c_MAX_TIMES : ∃ t, mg "MAX_TIMES" = some (.int 1000000000000000000000000000000 t)
/-! is_whole -/
abbrev s_is_whole : Stmt := top 26
theorem sc_is_whole : FnScope ["thing"] ["thing"] (defScope s_is_whole) := ⟨rfl, rfl, rfl, by decide +kernel, rfl, by decide +kernel, by decide +kernel⟩
theorem d_is_whole {P : Program} {w : World} {K : PySem.W.Frag} {mg : Str → Option Value} {base : Heap} {f : Addr} {cdv : Value} {A : Around} {outer : List Env} {s : Shared} {H : Hp} {E : XK} (B : Bl mg) (hr : Room 0 (A.deeper (envOfC "is_whole" (defScope s_is_whole) s.heap.objs.size f cdv))) :
    DSs (cxOf (L2.CX P w) P w K mg base ["thing"] "is_whole" (defScope s_is_whole) f cdv A outer s H E) (defBody s_is_whole) (wS (M_is_whole)) := by
  have sc := sc_is_whole
  exact (mss_one (ms_ret (me_and (me_callB cd_isi cm_isi B.isinstance (by decide +kernel) (ma_cons (mv 0) (ma_cons (me_ty B.int (by decide +kernel)) ma_nil))) (me_one (me_not (me_callB cd_isi cm_isi B.isinstance (by decide +kernel) (ma_cons (mv 0) (ma_cons (me_ty B.bool (by decide +kernel)) ma_nil))))))))
theorem ok_is_whole {P : Program} {w : World} {K : PySem.W.Frag} {mg : Str → Option Value} {base : Heap} {f : Addr} {fd : FuncData} {m : List D → Rs D} (B : Bl mg) (F : Fun K "is_whole" "is_whole" s_is_whole f fd) (hm : mg "is_whole" = some (.ref f))
    (hw : ∀ ds, m ds = callM (M_is_whole) ["thing"] ds) : FnD P w K mg base "is_whole" (0 + 1) 1 (wfOf m) :=
  ⟨_, _, _, rfl, fn_d F sc_is_whole (fun cdv A outer s H E hr => d_is_whole B hr) (hw_mE hw), hm, F.kp, F.binds fun _ _ _ _ _ _ us hl => match us, hl with | [_], _ => rfl⟩
/-! is_place -/
abbrev s_is_place : Stmt := top 27
theorem sc_is_place : FnScope ["thing", "dimension", "one"] ["thing", "dimension"] (defScope s_is_place) := ⟨rfl, rfl, rfl, by decide +kernel, rfl, by decide +kernel, by decide +kernel⟩
theorem d_is_place {P : Program} {w : World} {K : PySem.W.Frag} {mg : Str → Option Value} {base : Heap} {f : Addr} {cdv : Value} {A : Around} {outer : List Env} {s : Shared} {H : Hp} {E : XK} (B : Bl mg) (G_is_whole : FnD P w K mg base "is_whole" 1 1 (wfOf m_is_whole)) (hr : Room 1 (A.deeper (envOfC "is_place" (defScope s_is_place) s.heap.objs.size f cdv))) :
    DSs (cxOf (L2.CX P w) P w K mg base ["thing", "dimension", "one"] "is_place" (defScope s_is_place) f cdv A outer s H E) (defBody s_is_place) (wS (M_is_place)) := by
  have sc := sc_is_place
  exact (mss_one (ms_ret (me_and (me_callB cd_isi cm_isi B.isinstance (by decide +kernel) (ma_cons (mv 0) (ma_cons (me_ty B.tuple (by decide +kernel)) ma_nil))) (me_and (me_cmp (od_eq hr.units) om_eq (me_callB cd_lenX cm_len B.len (by decide +kernel) (ma_cons (mv 0) ma_nil)) (mv 1)) (me_one (me_callB (cd_all rfl) cm_all B.all (by decide +kernel) (ma_cons (me_lc (own := [("one", 2)]) (mt := mYes) (me := (mCall m_is_whole 1 (mCons (mVar 2) mNil))) (g := (mgN 2)) rfl sc.nd (mi_seq (mv 0)) (blkOk_by (N := ["thing", "dimension", "one"]) (sc := defScope s_is_place) (by decide +kernel)) (by decide) (fun _ _ _ _ _ => (mg_name (i := 2) sc.nd rfl (by first | exact Or.inl rfl | exact Or.inr rfl))) (fun _ _ _ _ _ => mts_nil) (fun _ _ _ _ _ => (me_call G_is_whole (hr.mono (by decide)) (ma_cons (mv 2) ma_nil)))) ma_nil)))))))
theorem ok_is_place {P : Program} {w : World} {K : PySem.W.Frag} {mg : Str → Option Value} {base : Heap} {f : Addr} {fd : FuncData} {m : List D → Rs D} (B : Bl mg) (G_is_whole : FnD P w K mg base "is_whole" 1 1 (wfOf m_is_whole)) (F : Fun K "is_place" "is_place" s_is_place f fd) (hm : mg "is_place" = some (.ref f))
    (hw : ∀ ds, m ds = callM (M_is_place) ["thing", "dimension", "one"] ds) : FnD P w K mg base "is_place" (1 + 1) 2 (wfOf m) :=
  ⟨_, _, _, rfl, fn_d F sc_is_place (fun cdv A outer s H E hr => d_is_place B G_is_whole hr) (hw_mE hw), hm, F.kp, F.binds fun _ _ _ _ _ _ us hl => match us, hl with | [_, _], _ => rfl⟩
/-! is_name -/
abbrev s_is_name : Stmt := top 33
theorem sc_is_name : FnScope ["text", "sign"] ["text"] (defScope s_is_name) := ⟨rfl, rfl, rfl, by decide +kernel, rfl, by decide +kernel, by decide +kernel⟩
theorem d_is_name {P : Program} {w : World} {K : PySem.W.Frag} {mg : Str → Option Value} {base : Heap} {f : Addr} {cdv : Value} {A : Around} {outer : List Env} {s : Shared} {H : Hp} {E : XK} (B : Bl mg) (hr : Room 0 (A.deeper (envOfC "is_name" (defScope s_is_name) s.heap.objs.size f cdv))) :
    DSs (cxOf (L2.CX P w) P w K mg base ["text", "sign"] "is_name" (defScope s_is_name) f cdv A outer s H E) (defBody s_is_name) (wS (M_is_name)) := by
  have sc := sc_is_name
  exact (mss_one (ms_ret (me_and (me_chain od_le om_le od_le om_le me_int (me_callB cd_lenX cm_len B.len (by decide +kernel) (ma_cons (mv 0) ma_nil)) (me_gint B.c_MAX_NAME)) (me_one (me_callB (cd_all rfl) cm_all B.all (by decide +kernel) (ma_cons (me_lc (own := [("sign", 1)]) (mt := mYes) (me := (mOp (fIn fun b => b) (mVar 1) (mC (.str "abcdefghijklmnopqrstuvwxyz")))) (g := (mgN 1)) rfl sc.nd (mi_str (mv 0)) (blkOk_by (N := ["text", "sign"]) (sc := defScope s_is_name) (by decide +kernel)) (by decide) (fun _ _ _ _ _ => (mg_name (i := 1) sc.nd rfl (by first | exact Or.inl rfl | exact Or.inr rfl))) (fun _ _ _ _ _ => mts_nil) (fun _ _ _ _ _ => (me_cmp (od_inX (units65 hr)) om_inX (mv 1) me_str))) ma_nil))))))
theorem ok_is_name {P : Program} {w : World} {K : PySem.W.Frag} {mg : Str → Option Value} {base : Heap} {f : Addr} {fd : FuncData} {m : List D → Rs D} (B : Bl mg) (F : Fun K "is_name" "is_name" s_is_name f fd) (hm : mg "is_name" = some (.ref f))
    (hw : ∀ ds, m ds = callM (M_is_name) ["text", "sign"] ds) : FnD P w K mg base "is_name" (0 + 1) 1 (wfOf m) :=
  ⟨_, _, _, rfl, fn_d F sc_is_name (fun cdv A outer s H E hr => d_is_name B hr) (hw_mE hw), hm, F.kp, F.binds fun _ _ _ _ _ _ us hl => match us, hl with | [_], _ => rfl⟩
/-! is_within -/
abbrev s_is_within : Stmt := top 34
theorem sc_is_within : FnScope ["number", "bound"] ["number", "bound"] (defScope s_is_within) := ⟨rfl, rfl, rfl, by decide +kernel, rfl, by decide +kernel, by decide +kernel⟩
theorem d_is_within {P : Program} {w : World} {K : PySem.W.Frag} {mg : Str → Option Value} {base : Heap} {f : Addr} {cdv : Value} {A : Around} {outer : List Env} {s : Shared} {H : Hp} {E : XK} (B : Bl mg) (G_is_whole : FnD P w K mg base "is_whole" 1 1 (wfOf m_is_whole)) (hr : Room 1 (A.deeper (envOfC "is_within" (defScope s_is_within) s.heap.objs.size f cdv))) :
    DSs (cxOf (L2.CX P w) P w K mg base ["number", "bound"] "is_within" (defScope s_is_within) f cdv A outer s H E) (defBody s_is_within) (wS (M_is_within)) := by
  have sc := sc_is_within
  exact (mss_one (ms_ret (me_and (me_call G_is_whole (hr.mono (by decide)) (ma_cons (mv 0) ma_nil)) (me_one (me_chain od_le om_le od_le om_le (me_un ud_neg um_neg (mv 1)) (mv 0) (mv 1))))))
theorem ok_is_within {P : Program} {w : World} {K : PySem.W.Frag} {mg : Str → Option Value} {base : Heap} {f : Addr} {fd : FuncData} {m : List D → Rs D} (B : Bl mg) (G_is_whole : FnD P w K mg base "is_whole" 1 1 (wfOf m_is_whole)) (F : Fun K "is_within" "is_within" s_is_within f fd) (hm : mg "is_within" = some (.ref f))
    (hw : ∀ ds, m ds = callM (M_is_within) ["number", "bound"] ds) : FnD P w K mg base "is_within" (1 + 1) 2 (wfOf m) :=
  ⟨_, _, _, rfl, fn_d F sc_is_within (fun cdv A outer s H E hr => d_is_within B G_is_whole hr) (hw_mE hw), hm, F.kp, F.binds fun _ _ _ _ _ _ us hl => match us, hl with | [_, _], _ => rfl⟩
/-! is_vector -/
abbrev s_is_vector : Stmt := top 35
theorem sc_is_vector : FnScope ["thing", "dimension", "one"] ["thing", "dimension"] (defScope s_is_vector) := ⟨rfl, rfl, rfl, by decide +kernel, rfl, by decide +kernel, by decide +kernel⟩
theorem d_is_vector {P : Program} {w : World} {K : PySem.W.Frag} {mg : Str → Option Value} {base : Heap} {f : Addr} {cdv : Value} {A : Around} {outer : List Env} {s : Shared} {H : Hp} {E : XK} (B : Bl mg) (G_is_place : FnD P w K mg base "is_place" 2 2 (wfOf m_is_place)) (G_is_within : FnD P w K mg base "is_within" 2 2 (wfOf m_is_within)) (hr : Room 2 (A.deeper (envOfC "is_vector" (defScope s_is_vector) s.heap.objs.size f cdv))) :
    DSs (cxOf (L2.CX P w) P w K mg base ["thing", "dimension", "one"] "is_vector" (defScope s_is_vector) f cdv A outer s H E) (defBody s_is_vector) (wS (M_is_vector)) := by
  have sc := sc_is_vector
  exact (mss_one (ms_ret (me_and (me_call G_is_place (hr.mono (by decide)) (ma_cons (mv 0) (ma_cons (mv 1) ma_nil))) (me_one (me_callB (cd_all rfl) cm_all B.all (by decide +kernel) (ma_cons (me_lc (own := [("one", 2)]) (mt := mYes) (me := (mCall m_is_within 2 (mCons (mVar 2) (mCons (mC (.int 1000000000000)) mNil)))) (g := (mgN 2)) rfl sc.nd (mi_seq (mv 0)) (blkOk_by (N := ["thing", "dimension", "one"]) (sc := defScope s_is_vector) (by decide +kernel)) (by decide) (fun _ _ _ _ _ => (mg_name (i := 2) sc.nd rfl (by first | exact Or.inl rfl | exact Or.inr rfl))) (fun _ _ _ _ _ => mts_nil) (fun _ _ _ _ _ => (me_call G_is_within (hr.mono (by decide)) (ma_cons (mv 2) (ma_cons (me_gint B.c_MAX_STEP) ma_nil))))) ma_nil))))))
theorem ok_is_vector {P : Program} {w : World} {K : PySem.W.Frag} {mg : Str → Option Value} {base : Heap} {f : Addr} {fd : FuncData} {m : List D → Rs D} (B : Bl mg) (G_is_place : FnD P w K mg base "is_place" 2 2 (wfOf m_is_place)) (G_is_within : FnD P w K mg base "is_within" 2 2 (wfOf m_is_within)) (F : Fun K "is_vector" "is_vector" s_is_vector f fd) (hm : mg "is_vector" = some (.ref f))
    (hw : ∀ ds, m ds = callM (M_is_vector) ["thing", "dimension", "one"] ds) : FnD P w K mg base "is_vector" (2 + 1) 2 (wfOf m) :=
  ⟨_, _, _, rfl, fn_d F sc_is_vector (fun cdv A outer s H E hr => d_is_vector B G_is_place G_is_within hr) (hw_mE hw), hm, F.kp, F.binds fun _ _ _ _ _ _ us hl => match us, hl with | [_, _], _ => rfl⟩
/-! has_form -/
abbrev s_has_form : Stmt := top 36
theorem sc_has_form : FnScope ["statement", "dimension", "word", "one"] ["statement", "dimension"] (defScope s_has_form) := ⟨rfl, rfl, rfl, by decide +kernel, rfl, by decide +kernel, by decide +kernel⟩
theorem d_has_form {P : Program} {w : World} {K : PySem.W.Frag} {mg : Str → Option Value} {base : Heap} {f : Addr} {cdv : Value} {A : Around} {outer : List Env} {s : Shared} {H : Hp} {E : XK} (B : Bl mg) (G_is_name : FnD P w K mg base "is_name" 1 1 (wfOf m_is_name)) (G_is_vector : FnD P w K mg base "is_vector" 3 2 (wfOf m_is_vector)) (G_is_within : FnD P w K mg base "is_within" 2 2 (wfOf m_is_within)) (hr : Room 3 (A.deeper (envOfC "has_form" (defScope s_has_form) s.heap.objs.size f cdv))) :
    DSs (cxOf (L2.CX P w) P w K mg base ["statement", "dimension", "word", "one"] "has_form" (defScope s_has_form) f cdv A outer s H E) (defBody s_has_form) (wS (M_has_form)) := by
  have sc := sc_has_form
  exact (mss_cons (ms_if (mw_t (mw_or (mt_not (mt_val (me_callB cd_isi cm_isi B.isinstance (by decide +kernel) (ma_cons (mv 0) (ma_cons (me_ty B.tuple (by decide +kernel)) ma_nil))))) (mw_or1 (mt_cmp (od_notInX (units65 hr)) om_inX (me_callB cd_lenX cm_len B.len (by decide +kernel) (ma_cons (mv 0) ma_nil)) (me_tup (ma_cons me_int (ma_cons me_int ma_nil))))))) (mss_one (ms_ret me_bl)) mss_nil)
  (mss_cons (ms_asg (me_sl (mv 0) mo_none (mo_some me_int)) (mg_tup rfl (mgs_cons (mg_name (i := 2) sc.nd rfl (by first | exact Or.inl rfl | exact Or.inr rfl)) (mgs_cons (mg_name (i := 3) sc.nd rfl (by first | exact Or.inl rfl | exact Or.inr rfl)) mgs_nil))))
  (mss_cons (ms_if (mt_cmp (od_eq hr.units) om_eq (mv 2) me_str) (mss_one (ms_ret (me_and (me_cmp (od_eq hr.units) om_eq (me_callB cd_lenX cm_len B.len (by decide +kernel) (ma_cons (mv 0) ma_nil)) me_int) (me_and (me_call G_is_within (hr.mono (by decide)) (ma_cons (mv 3) (ma_cons (me_gint B.c_MAX_TIMES) ma_nil))) (me_one (me_callB cd_isi cm_isi B.isinstance (by decide +kernel) (ma_cons (me_ix (units65 hr) (mv 0) me_int) (ma_cons (me_ty B.tuple (by decide +kernel)) ma_nil)))))))) mss_nil)
  (mss_cons (ms_if (mt_cmp (od_eq hr.units) om_eq (me_callB cd_lenX cm_len B.len (by decide +kernel) (ma_cons (mv 0) ma_nil)) me_int) (mss_one (ms_ret me_bl)) mss_nil)
  (mss_cons (ms_if (mt_cmp (od_eq hr.units) om_eq (mv 2) me_str) (mss_one (ms_ret (me_call G_is_vector (hr.mono (by decide)) (ma_cons (mv 3) (ma_cons (mv 1) ma_nil))))) mss_nil)
  (mss_cons (ms_if (mt_cmp (od_eq hr.units) om_eq (mv 2) me_str) (mss_one (ms_ret (me_call G_is_within (hr.mono (by decide)) (ma_cons (mv 3) (ma_cons (me_gint B.c_MAX_STEP) ma_nil))))) mss_nil)
  (mss_one (ms_ret (me_and (me_cmp (od_inX (units65 hr)) om_inX (mv 2) (me_tup (ma_cons me_str (ma_cons me_str ma_nil)))) (me_and (me_callB cd_isi cm_isi B.isinstance (by decide +kernel) (ma_cons (mv 3) (ma_cons (me_ty B.str (by decide +kernel)) ma_nil))) (me_one (me_call G_is_name (hr.mono (by decide)) (ma_cons (mv 3) ma_nil)))))))))))))
theorem ok_has_form {P : Program} {w : World} {K : PySem.W.Frag} {mg : Str → Option Value} {base : Heap} {f : Addr} {fd : FuncData} {m : List D → Rs D} (B : Bl mg) (G_is_name : FnD P w K mg base "is_name" 1 1 (wfOf m_is_name)) (G_is_vector : FnD P w K mg base "is_vector" 3 2 (wfOf m_is_vector)) (G_is_within : FnD P w K mg base "is_within" 2 2 (wfOf m_is_within)) (F : Fun K "has_form" "has_form" s_has_form f fd) (hm : mg "has_form" = some (.ref f))
    (hw : ∀ ds, m ds = callM (M_has_form) ["statement", "dimension", "word", "one"] ds) : FnD P w K mg base "has_form" (3 + 1) 2 (wfOf m) :=
  ⟨_, _, _, rfl, fn_d F sc_has_form (fun cdv A outer s H E hr => d_has_form B G_is_name G_is_vector G_is_within hr) (hw_mE hw), hm, F.kp, F.binds fun _ _ _ _ _ _ us hl => match us, hl with | [_, _], _ => rfl⟩
/-! fault -/
abbrev s_fault : Stmt := top 37
theorem sc_fault : FnScope ["block", "dimension", "at", "statement", "inner"] ["block", "dimension"] (defScope s_fault) := ⟨rfl, rfl, rfl, by decide +kernel, rfl, by decide +kernel, by decide +kernel⟩
theorem no_fault {P : Program} {w : World} {K : PySem.W.Frag} {mg : Str → Option Value} {base : Heap} {f : Addr} {fd : FuncData} {wf : WF} (hf : ∀ ds M k x, ¬ wf ds M k x) (k : Nat) (F : Fun K "fault" "fault" s_fault f fd) (hm : mg "fault" = some (.ref f)) : FnD P w K mg base "fault" (k + 1) 2 wf :=
  ⟨_, _, _, rfl, fn_noW hf F sc_fault, hm, F.kp, F.binds fun _ _ _ _ _ _ us hl => match us, hl with | [_, _], _ => rfl⟩
theorem d_fault {P : Program} {w : World} {K : PySem.W.Frag} {mg : Str → Option Value} {base : Heap} {f : Addr} {cdv : Value} {A : Around} {outer : List Env} {s : Shared} {H : Hp} {E : XK} {k : Nat} {sr : List D → Rs D} (B : Bl mg) (G_fault : FnD P w K mg base "fault" k 2 (wfOf sr)) (G_has_form : FnD P w K mg base "has_form" 4 2 (wfOf m_has_form)) (hk : 4 ≤ k) (hr : Room k (A.deeper (envOfC "fault" (defScope s_fault) s.heap.objs.size f cdv))) :
    DSs (cxOf (L2.CX P w) P w K mg base ["block", "dimension", "at", "statement", "inner"] "fault" (defScope s_fault) f cdv A outer s H E) (defBody s_fault) (wS (M_fault sr)) := by
  have sc := sc_fault
  exact (mss_cons (ms_for [2, 3, 4] rfl (mi_enumX (di_enumX B.enumerate (mv 0))) (mg_tup rfl (mgs_cons (mg_name (i := 2) sc.nd rfl (by first | exact Or.inl rfl | exact Or.inr rfl)) (mgs_cons (mg_name (i := 3) sc.nd rfl (by first | exact Or.inl rfl | exact Or.inr rfl)) mgs_nil))) (mss_cons (ms_if (mt_not (mt_val (me_call G_has_form (hr.mono (by omega)) (ma_cons (mv 3) (ma_cons (mv 1) ma_nil))))) (mss_one (ms_ret (me_tup (ma_cons (mv 2) ma_nil)))) mss_nil)
  (mss_one (ms_if (mt_cmp (od_eq hr.units) om_eq (me_ix (units65 hr) (mv 3) me_int) me_str) (mss_cons (ms_set (i := 4) sc.nd rfl (by first | exact Or.inl rfl | exact Or.inr rfl) (me_call G_fault (hr.mono (by omega)) (ma_cons (me_ix (units65 hr) (mv 3) me_int) (ma_cons (mv 1) ma_nil))))
  (mss_one (ms_if (mt_cmp od_isNot om_isNot (mv 4) me_non) (mss_one (ms_ret (me_op od_add om_add (me_tup (ma_cons (mv 2) ma_nil)) (mv 4)))) mss_nil))) mss_nil))))
  (mss_one (ms_ret me_non)))
theorem ok_fault {P : Program} {w : World} {K : PySem.W.Frag} {mg : Str → Option Value} {base : Heap} {f : Addr} {fd : FuncData} {k : Nat} {sr : List D → Rs D} {m : List D → Rs D} (B : Bl mg) (G_fault : FnD P w K mg base "fault" k 2 (wfOf sr)) (G_has_form : FnD P w K mg base "has_form" 4 2 (wfOf m_has_form)) (hk : 4 ≤ k) (F : Fun K "fault" "fault" s_fault f fd) (hm : mg "fault" = some (.ref f))
    (hw : ∀ ds, m ds = callM (M_fault sr) ["block", "dimension", "at", "statement", "inner"] ds) : FnD P w K mg base "fault" (k + 1) 2 (wfOf m) :=
  ⟨_, _, _, rfl, fn_d F sc_fault (fun cdv A outer s H E hr => d_fault B G_fault G_has_form hk hr) (hw_mE hw), hm, F.kp, F.binds fun _ _ _ _ _ _ us hl => match us, hl with | [_, _], _ => rfl⟩
/-! inner_blocks -/
abbrev s_inner_blocks : Stmt := top 39
theorem sc_inner_blocks : FnScope ["block", "statement"] ["block"] (defScope s_inner_blocks) := ⟨rfl, rfl, rfl, by decide +kernel, rfl, by decide +kernel, by decide +kernel⟩
theorem d_inner_blocks {P : Program} {w : World} {K : PySem.W.Frag} {mg : Str → Option Value} {base : Heap} {f : Addr} {cdv : Value} {A : Around} {outer : List Env} {s : Shared} {H : Hp} {E : XK} (B : Bl mg) (hr : Room 0 (A.deeper (envOfC "inner_blocks" (defScope s_inner_blocks) s.heap.objs.size f cdv))) :
    DSs (cxOf (L2.CX P w) P w K mg base ["block", "statement"] "inner_blocks" (defScope s_inner_blocks) f cdv A outer s H E) (defBody s_inner_blocks) (wS (M_inner_blocks)) := by
  have sc := sc_inner_blocks
  exact (mss_one (ms_ret (me_lc (own := [("statement", 1)]) (mt := (mTest (mOp (fEq fun b => b) (mOp fIx (mVar 1) (mC (.int 0))) (mC (.str "repeat"))))) (me := (mOp fIx (mVar 1) (mC (.int 2)))) (g := (mgN 1)) rfl sc.nd (mi_seq (mv 0)) (blkOk_by (N := ["block", "statement"]) (sc := defScope s_inner_blocks) (by decide +kernel)) (by decide) (fun _ _ _ _ _ => (mg_name (i := 1) sc.nd rfl (by first | exact Or.inl rfl | exact Or.inr rfl))) (fun _ _ _ _ _ => (mts_one (mt_cmp (od_eq hr.units) om_eq (me_ix (units65 hr) (mv 1) me_int) me_str))) (fun _ _ _ _ _ => (me_ix (units65 hr) (mv 1) me_int)))))
theorem ok_inner_blocks {P : Program} {w : World} {K : PySem.W.Frag} {mg : Str → Option Value} {base : Heap} {f : Addr} {fd : FuncData} {m : List D → Rs D} (B : Bl mg) (F : Fun K "inner_blocks" "inner_blocks" s_inner_blocks f fd) (hm : mg "inner_blocks" = some (.ref f))
    (hw : ∀ ds, m ds = callM (M_inner_blocks) ["block", "statement"] ds) : FnD P w K mg base "inner_blocks" (0 + 1) 1 (wfOf m) :=
  ⟨_, _, _, rfl, fn_d F sc_inner_blocks (fun cdv A outer s H E hr => d_inner_blocks B hr) (hw_mE hw), hm, F.kp, F.binds fun _ _ _ _ _ _ us hl => match us, hl with | [_], _ => rfl⟩
/-! statements -/
abbrev s_statements : Stmt := top 40
theorem sc_statements : FnScope ["block", "inner"] ["block"] (defScope s_statements) := ⟨rfl, rfl, rfl, by decide +kernel, rfl, by decide +kernel, by decide +kernel⟩
theorem no_statements {P : Program} {w : World} {K : PySem.W.Frag} {mg : Str → Option Value} {base : Heap} {f : Addr} {fd : FuncData} {wf : WF} (hf : ∀ ds M k x, ¬ wf ds M k x) (k : Nat) (F : Fun K "statements" "statements" s_statements f fd) (hm : mg "statements" = some (.ref f)) : FnD P w K mg base "statements" (k + 1) 1 wf :=
  ⟨_, _, _, rfl, fn_noW hf F sc_statements, hm, F.kp, F.binds fun _ _ _ _ _ _ us hl => match us, hl with | [_], _ => rfl⟩
theorem d_statements {P : Program} {w : World} {K : PySem.W.Frag} {mg : Str → Option Value} {base : Heap} {f : Addr} {cdv : Value} {A : Around} {outer : List Env} {s : Shared} {H : Hp} {E : XK} {k : Nat} {sr : List D → Rs D} (B : Bl mg) (G_inner_blocks : FnD P w K mg base "inner_blocks" 1 1 (wfOf m_inner_blocks)) (G_statements : FnD P w K mg base "statements" k 1 (wfOf sr)) (hk : 1 ≤ k) (hr : Room k (A.deeper (envOfC "statements" (defScope s_statements) s.heap.objs.size f cdv))) :
    DSs (cxOf (L2.CX P w) P w K mg base ["block", "inner"] "statements" (defScope s_statements) f cdv A outer s H E) (defBody s_statements) (wS (M_statements sr)) := by
  have sc := sc_statements
  exact (mss_one (ms_ret (me_op od_add om_add (me_callB cd_lenX cm_len B.len (by decide +kernel) (ma_cons (mv 0) ma_nil)) (me_callB (cd_sum rfl) cm_sum B.sum (by decide +kernel) (ma_cons (me_lc (own := [("inner", 1)]) (mt := mYes) (me := (mCall sr 1 (mCons (mVar 1) mNil))) (g := (mgN 1)) rfl sc.nd (mi_seq (me_call G_inner_blocks (hr.mono (by omega)) (ma_cons (mv 0) ma_nil))) (blkOk_by (N := ["block", "inner"]) (sc := defScope s_statements) (by decide +kernel)) (by decide) (fun _ _ _ _ _ => (mg_name (i := 1) sc.nd rfl (by first | exact Or.inl rfl | exact Or.inr rfl))) (fun _ _ _ _ _ => mts_nil) (fun _ _ _ _ _ => (me_call G_statements (hr.mono (by omega)) (ma_cons (mv 1) ma_nil)))) ma_nil)))))
theorem ok_statements {P : Program} {w : World} {K : PySem.W.Frag} {mg : Str → Option Value} {base : Heap} {f : Addr} {fd : FuncData} {k : Nat} {sr : List D → Rs D} {m : List D → Rs D} (B : Bl mg) (G_inner_blocks : FnD P w K mg base "inner_blocks" 1 1 (wfOf m_inner_blocks)) (G_statements : FnD P w K mg base "statements" k 1 (wfOf sr)) (hk : 1 ≤ k) (F : Fun K "statements" "statements" s_statements f fd) (hm : mg "statements" = some (.ref f))
    (hw : ∀ ds, m ds = callM (M_statements sr) ["block", "inner"] ds) : FnD P w K mg base "statements" (k + 1) 1 (wfOf m) :=
  ⟨_, _, _, rfl, fn_d F sc_statements (fun cdv A outer s H E hr => d_statements B G_inner_blocks G_statements hk hr) (hw_mE hw), hm, F.kp, F.binds fun _ _ _ _ _ _ us hl => match us, hl with | [_], _ => rfl⟩
/-! check_block -/
abbrev s_check_block : Stmt := top 38
theorem sc_check_block : FnScope ["block", "dimension", "path"] ["block", "dimension"] (defScope s_check_block) := ⟨rfl, rfl, rfl, by decide +kernel, rfl, by decide +kernel, by decide +kernel⟩
theorem d_check_block {P : Program} {w : World} {K : PySem.W.Frag} {mg : Str → Option Value} {base : Heap} {f : Addr} {cdv : Value} {A : Around} {outer : List Env} {s : Shared} {H : Hp} {E : XK} (B : Bl mg) (G_fault : FnD P w K mg base "fault" 29 2 (wfOf (m_fault 24))) (G_statements : FnD P w K mg base "statements" 26 1 (wfOf (m_statements 24))) (X_InvalidBlock : ExD P w K mg base "InvalidBlock" "path" "InvalidBlock" 1) (X_TooLong : ExD P w K mg base "TooLong" "limit" "TooLong" 1) (hr : Room 29 (A.deeper (envOfC "check_block" (defScope s_check_block) s.heap.objs.size f cdv))) :
    DSs (cxOf (L2.CX P w) P w K mg base ["block", "dimension", "path"] "check_block" (defScope s_check_block) f cdv A outer s H E) (defBody s_check_block) (wS (M_check_block)) := by
  have sc := sc_check_block
  exact (mss_cons (ms_set (i := 2) sc.nd rfl (by first | exact Or.inl rfl | exact Or.inr rfl) (me_call G_fault (hr.mono (by decide)) (ma_cons (mv 0) (ma_cons (mv 1) ma_nil))))
  (mss_cons (ms_if (mt_cmp od_isNot om_isNot (mv 2) me_non) (mss_one (ms_raise (ds_raise rfl X_InvalidBlock (hr.mono (by decide)) (mv 2)))) mss_nil)
  (mss_one (ms_if (mt_cmp od_gt om_gt (me_call G_statements (hr.mono (by decide)) (ma_cons (mv 0) ma_nil)) (me_gint B.c_MAX_STATEMENTS)) (mss_one (ms_raise (ds_raise rfl X_TooLong (hr.mono (by decide)) (me_gint B.c_MAX_STATEMENTS)))) mss_nil))))
theorem ok_check_block {P : Program} {w : World} {K : PySem.W.Frag} {mg : Str → Option Value} {base : Heap} {f : Addr} {fd : FuncData} {m : List D → Rs D} (B : Bl mg) (G_fault : FnD P w K mg base "fault" 29 2 (wfOf (m_fault 24))) (G_statements : FnD P w K mg base "statements" 26 1 (wfOf (m_statements 24))) (X_InvalidBlock : ExD P w K mg base "InvalidBlock" "path" "InvalidBlock" 1) (X_TooLong : ExD P w K mg base "TooLong" "limit" "TooLong" 1) (F : Fun K "check_block" "check_block" s_check_block f fd) (hm : mg "check_block" = some (.ref f))
    (hw : ∀ ds, m ds = callM (M_check_block) ["block", "dimension", "path"] ds) : FnD P w K mg base "check_block" (29 + 1) 2 (wfOf m) :=
  ⟨_, _, _, rfl, fn_d F sc_check_block (fun cdv A outer s H E hr => d_check_block B G_fault G_statements X_InvalidBlock X_TooLong hr) (hw_mE hw), hm, F.kp, F.binds fun _ _ _ _ _ _ us hl => match us, hl with | [_, _], _ => rfl⟩
/-! names_in -/
abbrev s_names_in : Stmt := top 41
theorem sc_names_in : FnScope ["block", "found", "statement", "names", "name"] ["block"] (defScope s_names_in) := ⟨rfl, rfl, rfl, by decide +kernel, rfl, by decide +kernel, by decide +kernel⟩
theorem no_names_in {P : Program} {w : World} {K : PySem.W.Frag} {mg : Str → Option Value} {base : Heap} {f : Addr} {fd : FuncData} {wf : WF} (hf : ∀ ds M k x, ¬ wf ds M k x) (k : Nat) (F : Fun K "names_in" "names_in" s_names_in f fd) (hm : mg "names_in" = some (.ref f)) : FnD P w K mg base "names_in" (k + 1) 1 wf :=
  ⟨_, _, _, rfl, fn_noW hf F sc_names_in, hm, F.kp, F.binds fun _ _ _ _ _ _ us hl => match us, hl with | [_], _ => rfl⟩
theorem d_names_in {P : Program} {w : World} {K : PySem.W.Frag} {mg : Str → Option Value} {base : Heap} {f : Addr} {cdv : Value} {A : Around} {outer : List Env} {s : Shared} {H : Hp} {E : XK} {k : Nat} {sr : List D → Rs D} (B : Bl mg) (G_names_in : FnO P w K mg base "names_in" k 1 sr) (hk : 0 ≤ k) (hr : Room k (A.deeper (envOfC "names_in" (defScope s_names_in) s.heap.objs.size f cdv))) :
    DSs (cxOf (L2.CX P w) P w K mg base ["block", "found", "statement", "names", "name"] "names_in" (defScope s_names_in) f cdv A outer s H E) (defBody s_names_in) (wS (M_names_in sr)) := by
  have sc := sc_names_in
  exact (mss_cons (ms_newL (i := 1) sc.nd rfl (by first | exact Or.inl rfl | exact Or.inr rfl) ma_nil)
  (mss_cons (ms_for [2, 3, 4] rfl (mi_seq (mv 0)) (mg_name (i := 2) sc.nd rfl (by first | exact Or.inl rfl | exact Or.inr rfl)) (mss_cons (ms_set (i := 3) sc.nd rfl (by first | exact Or.inl rfl | exact Or.inr rfl) (me_lst ma_nil))
  (mss_cons (ms_if (mt_cmp (od_eq hr.units) om_eq (me_ix (units65 hr) (mv 2) me_int) me_str) (mss_one (ms_set (i := 3) sc.nd rfl (by first | exact Or.inl rfl | exact Or.inr rfl) (me_call G_names_in.d (hr.mono (by omega)) (ma_cons (me_ix (units65 hr) (mv 2) me_int) ma_nil)))) (mss_one (ms_if (mt_cmp (od_inX (units65 hr)) om_inX (me_ix (units65 hr) (mv 2) me_int) (me_tup (ma_cons me_str (ma_cons me_str ma_nil)))) (mss_one (ms_set (i := 3) sc.nd rfl (by first | exact Or.inl rfl | exact Or.inr rfl) (me_lst (ma_cons (me_ix (units65 hr) (mv 2) me_int) ma_nil)))) mss_nil)))
  (mss_one (ms_for [4] rfl (mi_seq (mv 3)) (mg_name (i := 4) sc.nd rfl (by first | exact Or.inl rfl | exact Or.inr rfl)) (mss_one (ms_if (mt_cmp (od_notInX (units65 hr)) om_inX (mv 4) (mv 1)) (mss_one (ms_app (de_app (dv 1) (mv 4)))) mss_nil)))))))
  (mss_one (ms_ret (mv 1)))))
theorem ok_names_in {P : Program} {w : World} {K : PySem.W.Frag} {mg : Str → Option Value} {base : Heap} {f : Addr} {fd : FuncData} {k : Nat} {sr : List D → Rs D} {m : List D → Rs D} (B : Bl mg) (G_names_in : FnO P w K mg base "names_in" k 1 sr) (hk : 0 ≤ k) (F : Fun K "names_in" "names_in" s_names_in f fd) (hm : mg "names_in" = some (.ref f))
    (hw : ∀ ds, m ds = onlyL (callMO (M_names_in sr) ["block", "found", "statement", "names", "name"] ds)) (hl : ∀ ds d, m ds = .ok d → ∃ xs, d = .lst xs) : FnO P w K mg base "names_in" (k + 1) 1 m :=
  ⟨⟨_, _, _, rfl, fn_d F sc_names_in (fun cdv A outer s H E hr => d_names_in B G_names_in hk hr) (hw_mOL hw), hm, F.kp, F.binds fun _ _ _ _ _ _ us hl => match us, hl with | [_], _ => rfl⟩, hl⟩
/-! is_circular -/
abbrev s_is_circular : Stmt := top 46
theorem sc_is_circular : FnScope ["blocks", "name", "seen", "waiting", "other"] ["blocks", "name"] (defScope s_is_circular) := ⟨rfl, rfl, rfl, by decide +kernel, rfl, by decide +kernel, by decide +kernel⟩
theorem d_is_circular {P : Program} {w : World} {K : PySem.W.Frag} {mg : Str → Option Value} {base : Heap} {f : Addr} {cdv : Value} {A : Around} {outer : List Env} {s : Shared} {H : Hp} {E : XK} (B : Bl mg) (G_names_in : FnO P w K mg base "names_in" 26 1 (m_names_in 24)) (hr : Room 26 (A.deeper (envOfC "is_circular" (defScope s_is_circular) s.heap.objs.size f cdv))) :
    DSs (cxOf (L2.CX P w) P w K mg base ["blocks", "name", "seen", "waiting", "other"] "is_circular" (defScope s_is_circular) f cdv A outer s H E) (defBody s_is_circular) (wS (M_is_circular)) := by
  have sc := sc_is_circular
  exact (mss_cons (ms_newL (i := 2) sc.nd rfl (by first | exact Or.inl rfl | exact Or.inr rfl) ma_nil)
  (mss_cons (ms_newCall (i := 3) G_names_in.own (hr.mono (by decide)) sc.nd rfl (by first | exact Or.inl rfl | exact Or.inr rfl) (ma_cons (me_ix (units65 hr) (mv 0) (mv 1)) ma_nil))
  (mss_cons (ms_while [4] (mt_cmp (od_ne hr.units) om_ne (mv 3) (me_lst ma_nil)) (mss_cons (ms_pop (i := 4) (j := 3) sc.nd rfl (by first | exact Or.inl rfl | exact Or.inr rfl))
  (mss_one (ms_if (mt_cmp (od_notInX (units65 hr)) om_inX (mv 4) (mv 2)) (mss_cons (ms_app (de_app (dv 2) (mv 4)))
  (mss_one (ms_ext (de_extend (dv 3) (me_call G_names_in.d (hr.mono (by decide)) (ma_cons (me_ix (units65 hr) (mv 0) (mv 4)) ma_nil)))))) mss_nil))))
  (mss_frz 3 (mss_frz 2 (mss_one (ms_ret (me_cmp (od_inX (units65 hr)) om_inX (mv 1) (mv 2)))))))))
theorem ok_is_circular {P : Program} {w : World} {K : PySem.W.Frag} {mg : Str → Option Value} {base : Heap} {f : Addr} {fd : FuncData} {m : List D → Rs D} (B : Bl mg) (G_names_in : FnO P w K mg base "names_in" 26 1 (m_names_in 24)) (F : Fun K "is_circular" "is_circular" s_is_circular f fd) (hm : mg "is_circular" = some (.ref f))
    (hw : ∀ ds, m ds = callM (M_is_circular) ["blocks", "name", "seen", "waiting", "other"] ds) : FnD P w K mg base "is_circular" (26 + 1) 2 (wfOf m) :=
  ⟨_, _, _, rfl, fn_d F sc_is_circular (fun cdv A outer s H E hr => d_is_circular B G_names_in hr) (hw_mE hw), hm, F.kp, F.binds fun _ _ _ _ _ _ us hl => match us, hl with | [_, _], _ => rfl⟩
/-! measured -/
abbrev s_measured : Stmt := top 47
theorem sc_measured : FnScope ["block", "known", "deep", "puts", "statement", "inner"] ["block", "known"] (defScope s_measured) := ⟨rfl, rfl, rfl, by decide +kernel, rfl, by decide +kernel, by decide +kernel⟩
theorem no_measured {P : Program} {w : World} {K : PySem.W.Frag} {mg : Str → Option Value} {base : Heap} {f : Addr} {fd : FuncData} {wf : WF} (hf : ∀ ds M k x, ¬ wf ds M k x) (k : Nat) (F : Fun K "measured" "measured" s_measured f fd) (hm : mg "measured" = some (.ref f)) : FnD P w K mg base "measured" (k + 1) 2 wf :=
  ⟨_, _, _, rfl, fn_noW hf F sc_measured, hm, F.kp, F.binds fun _ _ _ _ _ _ us hl => match us, hl with | [_, _], _ => rfl⟩
theorem d_measured {P : Program} {w : World} {K : PySem.W.Frag} {mg : Str → Option Value} {base : Heap} {f : Addr} {cdv : Value} {A : Around} {outer : List Env} {s : Shared} {H : Hp} {E : XK} {k : Nat} {sr : List D → Rs D} (B : Bl mg) (G_measured : FnD P w K mg base "measured" k 2 (wfOf sr)) (hk : 0 ≤ k) (hr : Room k (A.deeper (envOfC "measured" (defScope s_measured) s.heap.objs.size f cdv))) :
    DSs (cxOf (L2.CX P w) P w K mg base ["block", "known", "deep", "puts", "statement", "inner"] "measured" (defScope s_measured) f cdv A outer s H E) (defBody s_measured) (wS (M_measured sr)) := by
  have sc := sc_measured
  exact (mss_cons (ms_set (i := 2) sc.nd rfl (by first | exact Or.inl rfl | exact Or.inr rfl) me_int)
  (mss_cons (ms_set (i := 3) sc.nd rfl (by first | exact Or.inl rfl | exact Or.inr rfl) me_int)
  (mss_cons (ms_for [4, 5] rfl (mi_seq (mv 0)) (mg_name (i := 4) sc.nd rfl (by first | exact Or.inl rfl | exact Or.inr rfl)) (mss_cons (ms_set (i := 5) sc.nd rfl (by first | exact Or.inl rfl | exact Or.inr rfl) (me_tup (ma_cons me_int (ma_cons (me_callTy cd_int cm_int B.int (by decide +kernel) (ma_cons (me_cmp (od_eq hr.units) om_eq (me_ix (units65 hr) (mv 4) me_int) me_str) ma_nil)) ma_nil))))
  (mss_cons (ms_if (mt_cmp (od_eq hr.units) om_eq (me_ix (units65 hr) (mv 4) me_int) me_str) (mss_cons (ms_set (i := 5) sc.nd rfl (by first | exact Or.inl rfl | exact Or.inr rfl) (me_call G_measured (hr.mono (by omega)) (ma_cons (me_ix (units65 hr) (mv 4) me_int) (ma_cons (mv 1) ma_nil))))
  (mss_one (ms_set (i := 5) sc.nd rfl (by first | exact Or.inl rfl | exact Or.inr rfl) (me_tup (ma_cons (me_op od_add om_add (me_ix (units65 hr) (mv 5) me_int) me_int) (ma_cons (me_ix (units65 hr) (mv 5) me_int) ma_nil)))))) (mss_one (ms_if (mt_cmp (od_inX (units65 hr)) om_inX (me_ix (units65 hr) (mv 4) me_int) (me_tup (ma_cons me_str (ma_cons me_str ma_nil)))) (mss_one (ms_set (i := 5) sc.nd rfl (by first | exact Or.inl rfl | exact Or.inr rfl) (me_ix (units65 hr) (mv 1) (me_ix (units65 hr) (mv 4) me_int)))) mss_nil)))
  (mss_cons (ms_set (i := 2) sc.nd rfl (by first | exact Or.inl rfl | exact Or.inr rfl) (me_callB (cd_max2 rfl) cm_max2 B.max (by decide +kernel) (ma_cons (mv 2) (ma_cons (me_ix (units65 hr) (mv 5) me_int) ma_nil))))
  (mss_one (ms_aug om_int0 (ds_aug (i := 3) sc.nd rfl (by first | exact Or.inl rfl | exact Or.inr rfl) id_add (me_ix (units65 hr) (mv 5) me_int))))))))
  (mss_one (ms_ret (me_tup (ma_cons (mv 2) (ma_cons (mv 3) ma_nil))))))))
theorem ok_measured {P : Program} {w : World} {K : PySem.W.Frag} {mg : Str → Option Value} {base : Heap} {f : Addr} {fd : FuncData} {k : Nat} {sr : List D → Rs D} {m : List D → Rs D} (B : Bl mg) (G_measured : FnD P w K mg base "measured" k 2 (wfOf sr)) (hk : 0 ≤ k) (F : Fun K "measured" "measured" s_measured f fd) (hm : mg "measured" = some (.ref f))
    (hw : ∀ ds, m ds = callM (M_measured sr) ["block", "known", "deep", "puts", "statement", "inner"] ds) : FnD P w K mg base "measured" (k + 1) 2 (wfOf m) :=
  ⟨_, _, _, rfl, fn_d F sc_measured (fun cdv A outer s H E hr => d_measured B G_measured hk hr) (hw_mE hw), hm, F.kp, F.binds fun _ _ _ _ _ _ us hl => match us, hl with | [_, _], _ => rfl⟩
/-! measures -/
abbrev s_measures : Stmt := top 48
theorem sc_measures : FnScope ["blocks", "known", "name", "other"] ["blocks"] (defScope s_measures) := ⟨rfl, rfl, rfl, by decide +kernel, rfl, by decide +kernel, by decide +kernel⟩
theorem d_measures {P : Program} {w : World} {K : PySem.W.Frag} {mg : Str → Option Value} {base : Heap} {f : Addr} {cdv : Value} {A : Around} {outer : List Env} {s : Shared} {H : Hp} {E : XK} (B : Bl mg) (G_measured : FnD P w K mg base "measured" 26 2 (wfOf (m_measured 24))) (G_names_in : FnO P w K mg base "names_in" 26 1 (m_names_in 24)) (hr : Room 26 (A.deeper (envOfC "measures" (defScope s_measures) s.heap.objs.size f cdv))) :
    DSs (cxOf (L2.CX P w) P w K mg base ["blocks", "known", "name", "other"] "measures" (defScope s_measures) f cdv A outer s H E) (defBody s_measures) (wS (M_measures)) := by
  have sc := sc_measures
  exact (mss_cons (ms_newD (i := 1) sc.nd rfl (by first | exact Or.inl rfl | exact Or.inr rfl))
  (mss_cons (ms_while [2] (mt_cmp od_lt om_lt (me_callB cd_lenX cm_len B.len (by decide +kernel) (ma_cons (mv 1) ma_nil)) (me_callB cd_lenX cm_len B.len (by decide +kernel) (ma_cons (mv 0) ma_nil))) (mss_one (ms_for [2] rfl (mi_seq (me_callB (cd_sorted rfl) cm_sorted B.sorted (by decide +kernel) (ma_cons (mv 0) ma_nil))) (mg_name (i := 2) sc.nd rfl (by first | exact Or.inl rfl | exact Or.inr rfl)) (mss_one (ms_if (mw_t (mw_and (mt_cmp (od_notInX (units65 hr)) om_inX (mv 2) (mv 1)) (mw_and1 (mt_val (me_callB (cd_all rfl) cm_all B.all (by decide +kernel) (ma_cons (me_lc (own := [("other", 3)]) (mt := mYes) (me := (mOp (fIn fun b => b) (mVar 3) (mVar 1))) (g := (mgN 3)) rfl sc.nd (mi_seq (me_call G_names_in.d (hr.mono (by decide)) (ma_cons (me_ix (units65 hr) (mv 0) (mv 2)) ma_nil))) (blkOk_by (N := ["blocks", "known", "name", "other"]) (sc := defScope s_measures) (by decide +kernel)) (by decide) (fun _ _ _ _ _ => (mg_name (i := 3) sc.nd rfl (by first | exact Or.inl rfl | exact Or.inr rfl))) (fun _ _ _ _ _ => mts_nil) (fun _ _ _ _ _ => (me_cmp (od_inX (units65 hr)) om_inX (mv 3) (mv 1)))) ma_nil)))))) (mss_one (ms_dput (ds_dput hr.units (dv 1) (mv 2) (me_callO G_measured (hr.mono (by decide)) (ma_cons (me_ix (units65 hr) (mv 0) (mv 2)) (ma_cons (mv 1) ma_nil)))))) mss_nil)))))
  (mss_frz 1 (mss_one (ms_ret (mv 1))))))
theorem ok_measures {P : Program} {w : World} {K : PySem.W.Frag} {mg : Str → Option Value} {base : Heap} {f : Addr} {fd : FuncData} {m : List D → Rs D} (B : Bl mg) (G_measured : FnD P w K mg base "measured" 26 2 (wfOf (m_measured 24))) (G_names_in : FnO P w K mg base "names_in" 26 1 (m_names_in 24)) (F : Fun K "measures" "measures" s_measures f fd) (hm : mg "measures" = some (.ref f))
    (hw : ∀ ds, m ds = callM (M_measures) ["blocks", "known", "name", "other"] ds) : FnD P w K mg base "measures" (26 + 1) 1 (wfOf m) :=
  ⟨_, _, _, rfl, fn_d F sc_measures (fun cdv A outer s H E hr => d_measures B G_measured G_names_in hr) (hw_mE hw), hm, F.kp, F.binds fun _ _ _ _ _ _ us hl => match us, hl with | [_], _ => rfl⟩
/-! check_measure -/
abbrev s_check_measure : Stmt := top 49
theorem sc_check_measure : FnScope ["measure"] ["measure"] (defScope s_check_measure) := ⟨rfl, rfl, rfl, by decide +kernel, rfl, by decide +kernel, by decide +kernel⟩
theorem d_check_measure {P : Program} {w : World} {K : PySem.W.Frag} {mg : Str → Option Value} {base : Heap} {f : Addr} {cdv : Value} {A : Around} {outer : List Env} {s : Shared} {H : Hp} {E : XK} (B : Bl mg) (X_TooDeep : ExD P w K mg base "TooDeep" "limit" "TooDeep" 1) (X_TooMany : ExD P w K mg base "TooMany" "limit" "TooMany" 1) (hr : Room 2 (A.deeper (envOfC "check_measure" (defScope s_check_measure) s.heap.objs.size f cdv))) :
    DSs (cxOf (L2.CX P w) P w K mg base ["measure"] "check_measure" (defScope s_check_measure) f cdv A outer s H E) (defBody s_check_measure) (wS (M_check_measure)) := by
  have sc := sc_check_measure
  exact (mss_cons (ms_if (mt_cmp od_gt om_gt (me_ix (units65 hr) (mv 0) me_int) (me_gint B.c_MAX_DEPTH)) (mss_one (ms_raise (ds_raise rfl X_TooDeep (hr.mono (by decide)) (me_gint B.c_MAX_DEPTH)))) mss_nil)
  (mss_one (ms_if (mt_cmp od_gt om_gt (me_ix (units65 hr) (mv 0) me_int) (me_gint B.c_MAX_PUTS)) (mss_one (ms_raise (ds_raise rfl X_TooMany (hr.mono (by decide)) (me_gint B.c_MAX_PUTS)))) mss_nil)))
theorem ok_check_measure {P : Program} {w : World} {K : PySem.W.Frag} {mg : Str → Option Value} {base : Heap} {f : Addr} {fd : FuncData} {m : List D → Rs D} (B : Bl mg) (X_TooDeep : ExD P w K mg base "TooDeep" "limit" "TooDeep" 1) (X_TooMany : ExD P w K mg base "TooMany" "limit" "TooMany" 1) (F : Fun K "check_measure" "check_measure" s_check_measure f fd) (hm : mg "check_measure" = some (.ref f))
    (hw : ∀ ds, m ds = callM (M_check_measure) ["measure"] ds) : FnD P w K mg base "check_measure" (2 + 1) 1 (wfOf m) :=
  ⟨_, _, _, rfl, fn_d F sc_check_measure (fun cdv A outer s H E hr => d_check_measure B X_TooDeep X_TooMany hr) (hw_mE hw), hm, F.kp, F.binds fun _ _ _ _ _ _ us hl => match us, hl with | [_], _ => rfl⟩
/-! _law_a_box -/
abbrev s__law_a_box : Stmt := top 52
theorem sc__law_a_box : FnScope ["_law_script", "_law_cells", "_law_mark", "_law_cell"] ["_law_script"] (defScope s__law_a_box) := ⟨rfl, rfl, rfl, by decide +kernel, rfl, by decide +kernel, by decide +kernel⟩
def w__law_a_box : WS := (wSeq (wSet 1 (wCB rList (wCons (wSl (wVar 0) wNoPart (wPart (wC (.int 63)))) wNil)))
  (wSeq (wSet 2 (wOp rAdd (wC (.int 3814)) (wOp rMul (wC (.int 67)) (wCB rLn (wCons (wVar 1) wNil)))))
  (wSeq (wFor (wiSeq (wVar 1)) (wgN 3) (wSet 2 (wOp rMod (wOp rAdd (wOp rMul (wVar 2) (wC (.int 1709))) (wVar 3)) (wC (.int 2147483587)))))
  (wRet (wLstM (wCons (wVar 1) (wCons (wC (.int 0)) (wCons (wC (.int 0)) (wCons (wVar 2) wNil)))))))))
theorem d__law_a_box {P : Program} {w : World} {K : PySem.W.Frag} {mg : Str → Option Value} {base : Heap} {f : Addr} {cdv : Value} {A : Around} {outer : List Env} {s : Shared} {H : Hp} {E : XK} (B : Bl mg) (hr : Room 0 (A.deeper (envOfC "_law_a_box" (defScope s__law_a_box) s.heap.objs.size f cdv))) :
    DSs (cxOf (L2.CX P w) P w K mg base ["_law_script", "_law_cells", "_law_mark", "_law_cell"] "_law_a_box" (defScope s__law_a_box) f cdv A outer s H E) (defBody s__law_a_box) (w__law_a_box) := by
  have sc := sc__law_a_box
  exact (dss_cons (ds_set (i := 1) sc.nd rfl (by first | exact Or.inl rfl | exact Or.inr rfl) (de_callTy cd_list B.list (by decide +kernel) (da_cons (de_sl (dv 0) do_none (do_some de_int)) da_nil)))
  (dss_cons (ds_set (i := 2) sc.nd rfl (by first | exact Or.inl rfl | exact Or.inr rfl) (de_op od_add de_int (de_op od_mul de_int (de_callB cd_len B.len (by decide +kernel) (da_cons (dv 1) da_nil)))))
  (dss_cons (ds_for rfl (di_seq (dv 1)) (dg_name (i := 3) sc.nd rfl (by first | exact Or.inl rfl | exact Or.inr rfl)) (dss_one (ds_set (i := 2) sc.nd rfl (by first | exact Or.inl rfl | exact Or.inr rfl) (de_op od_mod (de_op od_add (de_op od_mul (dv 2) de_int) (dv 3)) de_int))))
  (dss_one (ds_ret (de_lstM (da_cons (dv 1) (da_cons de_int (da_cons de_int (da_cons (dv 2) da_nil))))))))))
theorem ok__law_a_box {P : Program} {w : World} {K : PySem.W.Frag} {mg : Str → Option Value} {base : Heap} {f : Addr} {fd : FuncData} (sp : WF) (B : Bl mg) (F : Fun K "_law_a_box" "_law_a_box" s__law_a_box f fd) (hm : mg "_law_a_box" = some (.ref f))
    (hw : ∀ ds M k x, ds.length = 1 → sp ds M k x → (w__law_a_box) (startD ["_law_script", "_law_cells", "_law_mark", "_law_cell"] ds) M (retE k x)) : FnD P w K mg base "_law_a_box" (0 + 1) 1 sp :=
  ⟨_, _, _, rfl, fn_d F sc__law_a_box (fun cdv A outer s H E hr => d__law_a_box B hr) hw, hm, F.kp, F.binds fun _ _ _ _ _ _ us hl => match us, hl with | [_], _ => rfl⟩
/-! _law_draw -/
abbrev s__law_draw : Stmt := top 53
theorem sc__law_draw : FnScope ["_law_box", "_law_many", "_law_drawn", "_law_seed", "_law_fold", "_law_twist"] ["_law_box", "_law_many"] (defScope s__law_draw) := ⟨rfl, rfl, rfl, by decide +kernel, rfl, by decide +kernel, by decide +kernel⟩
def w__law_draw : WS := (wSeq (wIfS (wTest (wOp rLt (wIx (wVar 0) (wC (.int 2))) (wC (.int 2)))) (wSeq (wPut (wVar 0) (wC (.int 1)) (wOp rAdd (wIx (wVar 0) (wC (.int 1))) (wC (.int 1))))
  (wSeq (wSet 3 (wOp rAdd (wIx (wVar 0) (wC (.int 3))) (wOp rMul (wIx (wVar 0) (wC (.int 1))) (wC (.int 6151)))))
  (wSeq (wIfS (wTest (wOp rLe (wIx (wVar 0) (wC (.int 1))) (wCB rLn (wCons (wIx (wVar 0) (wC (.int 0))) wNil)))) (wSet 3 (wIx (wIx (wVar 0) (wC (.int 0))) (wOp rSub (wIx (wVar 0) (wC (.int 1))) (wC (.int 1))))) wNext)
  (wSeq (wIfS (wOr (wTest (wOp rGt (wIx (wVar 0) (wC (.int 1))) (wCB rLn (wCons (wIx (wVar 0) (wC (.int 0))) wNil)))) (wTest (wOp rLt (wVar 3) (wOp rPow (wC (.int 10)) (wC (.int 18)))))) (wSeq (wSet 4 (wOp rMod (wOp rAdd (wOp rAdd (wOp rMul (wVar 3) (wC (.int 48271))) (wOp rMul (wIx (wVar 0) (wC (.int 1))) (wC (.int 40692)))) (wIx (wVar 0) (wC (.int 3)))) (wC (.int 2147483647))))
  (wSeq (wSet 5 (wOp rMod (wOp rAdd (wOp rMul (wVar 4) (wVar 4)) (wIx (wVar 0) (wC (.int 1)))) (wC (.int 998244353))))
  (wRet (wOp rMod (wOp rFdiv (wOp rMod (wOp rAdd (wOp rMul (wVar 5) (wC (.int 69621))) (wVar 4)) (wC (.int 2147483629))) (wC (.int 7))) (wVar 1))))) wNext)
  (wPut (wVar 0) (wC (.int 2)) (wVar 3)))))) wNext)
  (wSeq (wSet 2 (wOp rMod (wIx (wVar 0) (wC (.int 2))) (wVar 1)))
  (wSeq (wPut (wVar 0) (wC (.int 2)) (wOp rFdiv (wIx (wVar 0) (wC (.int 2))) (wVar 1)))
  (wRet (wVar 2)))))
theorem d__law_draw {P : Program} {w : World} {K : PySem.W.Frag} {mg : Str → Option Value} {base : Heap} {f : Addr} {cdv : Value} {A : Around} {outer : List Env} {s : Shared} {H : Hp} {E : XK} (B : Bl mg) (hr : Room 0 (A.deeper (envOfC "_law_draw" (defScope s__law_draw) s.heap.objs.size f cdv))) :
    DSs (cxOf (L2.CX P w) P w K mg base ["_law_box", "_law_many", "_law_drawn", "_law_seed", "_law_fold", "_law_twist"] "_law_draw" (defScope s__law_draw) f cdv A outer s H E) (defBody s__law_draw) (w__law_draw) := by
  have sc := sc__law_draw
  exact (dss_cons (ds_if (dt_cmp od_lt (de_ix (dv 0) de_int) de_int) (dss_cons (ds_put (dv 0) de_int (de_op od_add (de_ix (dv 0) de_int) de_int))
  (dss_cons (ds_set (i := 3) sc.nd rfl (by first | exact Or.inl rfl | exact Or.inr rfl) (de_op od_add (de_ix (dv 0) de_int) (de_op od_mul (de_ix (dv 0) de_int) de_int)))
  (dss_cons (ds_if (dt_cmp od_le (de_ix (dv 0) de_int) (de_callB cd_len B.len (by decide +kernel) (da_cons (de_ix (dv 0) de_int) da_nil))) (dss_one (ds_set (i := 3) sc.nd rfl (by first | exact Or.inl rfl | exact Or.inr rfl) (de_ix (de_ix (dv 0) de_int) (de_op od_sub (de_ix (dv 0) de_int) de_int)))) dss_nil)
  (dss_cons (ds_if (DW.dt (dw_or (dt_cmp od_gt (de_ix (dv 0) de_int) (de_callB cd_len B.len (by decide +kernel) (da_cons (de_ix (dv 0) de_int) da_nil))) (dw_or1 (dt_cmp od_lt (dv 3) (de_op od_pow de_int de_int))))) (dss_cons (ds_set (i := 4) sc.nd rfl (by first | exact Or.inl rfl | exact Or.inr rfl) (de_op od_mod (de_op od_add (de_op od_add (de_op od_mul (dv 3) de_int) (de_op od_mul (de_ix (dv 0) de_int) de_int)) (de_ix (dv 0) de_int)) de_int))
  (dss_cons (ds_set (i := 5) sc.nd rfl (by first | exact Or.inl rfl | exact Or.inr rfl) (de_op od_mod (de_op od_add (de_op od_mul (dv 4) (dv 4)) (de_ix (dv 0) de_int)) de_int))
  (dss_one (ds_ret (de_op od_mod (de_op od_fdiv (de_op od_mod (de_op od_add (de_op od_mul (dv 5) de_int) (dv 4)) de_int) de_int) (dv 1)))))) dss_nil)
  (dss_one (ds_put (dv 0) de_int (dv 3))))))) dss_nil)
  (dss_cons (ds_set (i := 2) sc.nd rfl (by first | exact Or.inl rfl | exact Or.inr rfl) (de_op od_mod (de_ix (dv 0) de_int) (dv 1)))
  (dss_cons (ds_put (dv 0) de_int (de_op od_fdiv (de_ix (dv 0) de_int) (dv 1)))
  (dss_one (ds_ret (dv 2))))))
theorem ok__law_draw {P : Program} {w : World} {K : PySem.W.Frag} {mg : Str → Option Value} {base : Heap} {f : Addr} {fd : FuncData} (sp : WF) (B : Bl mg) (F : Fun K "_law_draw" "_law_draw" s__law_draw f fd) (hm : mg "_law_draw" = some (.ref f))
    (hw : ∀ ds M k x, ds.length = 2 → sp ds M k x → (w__law_draw) (startD ["_law_box", "_law_many", "_law_drawn", "_law_seed", "_law_fold", "_law_twist"] ds) M (retE k x)) : FnD P w K mg base "_law_draw" (0 + 1) 2 sp :=
  ⟨_, _, _, rfl, fn_d F sc__law_draw (fun cdv A outer s H E hr => d__law_draw B hr) hw, hm, F.kp, F.binds fun _ _ _ _ _ _ us hl => match us, hl with | [_, _], _ => rfl⟩
/-! _law_any -/
abbrev s__law_any : Stmt := top 54
theorem sc__law_any : FnScope ["_law_box", "_law_row"] ["_law_box", "_law_row"] (defScope s__law_any) := ⟨rfl, rfl, rfl, by decide +kernel, rfl, by decide +kernel, by decide +kernel⟩
def w__law_any : WS := (wRet (wIx (wVar 1) (wCall sp__law_draw 2 (wCons (wVar 0) (wCons (wCB rLn (wCons (wVar 1) wNil)) wNil)))))
theorem d__law_any {P : Program} {w : World} {K : PySem.W.Frag} {mg : Str → Option Value} {base : Heap} {f : Addr} {cdv : Value} {A : Around} {outer : List Env} {s : Shared} {H : Hp} {E : XK} (B : Bl mg) (G__law_draw : FnD P w K mg base "_law_draw" 1 2 sp__law_draw) (hr : Room 1 (A.deeper (envOfC "_law_any" (defScope s__law_any) s.heap.objs.size f cdv))) :
    DSs (cxOf (L2.CX P w) P w K mg base ["_law_box", "_law_row"] "_law_any" (defScope s__law_any) f cdv A outer s H E) (defBody s__law_any) (w__law_any) := by
  have sc := sc__law_any
  exact (dss_one (ds_ret (de_ix (dv 1) (de_call G__law_draw (hr.mono (by decide)) (da_cons (dv 0) (da_cons (de_callB cd_len B.len (by decide +kernel) (da_cons (dv 1) da_nil)) da_nil))))))
theorem ok__law_any {P : Program} {w : World} {K : PySem.W.Frag} {mg : Str → Option Value} {base : Heap} {f : Addr} {fd : FuncData} (sp : WF) (B : Bl mg) (G__law_draw : FnD P w K mg base "_law_draw" 1 2 sp__law_draw) (F : Fun K "_law_any" "_law_any" s__law_any f fd) (hm : mg "_law_any" = some (.ref f))
    (hw : ∀ ds M k x, ds.length = 2 → sp ds M k x → (w__law_any) (startD ["_law_box", "_law_row"] ds) M (retE k x)) : FnD P w K mg base "_law_any" (1 + 1) 2 sp :=
  ⟨_, _, _, rfl, fn_d F sc__law_any (fun cdv A outer s H E hr => d__law_any B G__law_draw hr) hw, hm, F.kp, F.binds fun _ _ _ _ _ _ us hl => match us, hl with | [_, _], _ => rfl⟩
/-! _law_whole -/
abbrev s__law_whole : Stmt := top 55
theorem sc__law_whole : FnScope ["_law_found"] ["_law_found"] (defScope s__law_whole) := ⟨rfl, rfl, rfl, by decide +kernel, rfl, by decide +kernel, by decide +kernel⟩
theorem d__law_whole {P : Program} {w : World} {K : PySem.W.Frag} {mg : Str → Option Value} {base : Heap} {f : Addr} {cdv : Value} {A : Around} {outer : List Env} {s : Shared} {H : Hp} {E : XK} (B : Bl mg) (hr : Room 0 (A.deeper (envOfC "_law_whole" (defScope s__law_whole) s.heap.objs.size f cdv))) :
    DSs (cxOf (L2.CX P w) P w K mg base ["_law_found"] "_law_whole" (defScope s__law_whole) f cdv A outer s H E) (defBody s__law_whole) (wS (M__law_whole)) := by
  have sc := sc__law_whole
  exact (mss_one (ms_ret (me_and (me_callB cd_isi cm_isi B.isinstance (by decide +kernel) (ma_cons (mv 0) (ma_cons (me_ty B.int (by decide +kernel)) ma_nil))) (me_one (me_not (me_callB cd_isi cm_isi B.isinstance (by decide +kernel) (ma_cons (mv 0) (ma_cons (me_ty B.bool (by decide +kernel)) ma_nil))))))))
theorem ok__law_whole {P : Program} {w : World} {K : PySem.W.Frag} {mg : Str → Option Value} {base : Heap} {f : Addr} {fd : FuncData} {m : List D → Rs D} (B : Bl mg) (F : Fun K "_law_whole" "_law_whole" s__law_whole f fd) (hm : mg "_law_whole" = some (.ref f))
    (hw : ∀ ds, m ds = callM (M__law_whole) ["_law_found"] ds) : FnD P w K mg base "_law_whole" (0 + 1) 1 (wfOf m) :=
  ⟨_, _, _, rfl, fn_d F sc__law_whole (fun cdv A outer s H E hr => d__law_whole B hr) (hw_mE hw), hm, F.kp, F.binds fun _ _ _ _ _ _ us hl => match us, hl with | [_], _ => rfl⟩
/-! _law_same -/
abbrev s__law_same : Stmt := top 56
theorem sc__law_same : FnScope ["_law_found", "_law_due", "_law_one", "_law_other"] ["_law_found", "_law_due"] (defScope s__law_same) := ⟨rfl, rfl, rfl, by decide +kernel, rfl, by decide +kernel, by decide +kernel⟩
theorem no__law_same {P : Program} {w : World} {K : PySem.W.Frag} {mg : Str → Option Value} {base : Heap} {f : Addr} {fd : FuncData} {wf : WF} (hf : ∀ ds M k x, ¬ wf ds M k x) (k : Nat) (F : Fun K "_law_same" "_law_same" s__law_same f fd) (hm : mg "_law_same" = some (.ref f)) : FnD P w K mg base "_law_same" (k + 1) 2 wf :=
  ⟨_, _, _, rfl, fn_noW hf F sc__law_same, hm, F.kp, F.binds fun _ _ _ _ _ _ us hl => match us, hl with | [_, _], _ => rfl⟩
theorem d__law_same {P : Program} {w : World} {K : PySem.W.Frag} {mg : Str → Option Value} {base : Heap} {f : Addr} {cdv : Value} {A : Around} {outer : List Env} {s : Shared} {H : Hp} {E : XK} {k : Nat} {sr : List D → Rs D} (B : Bl mg) (G__law_same : FnD P w K mg base "_law_same" k 2 (wfOf sr)) (G__law_whole : FnD P w K mg base "_law_whole" 1 1 (wfOf m__law_whole)) (hk : 1 ≤ k) (hr : Room k (A.deeper (envOfC "_law_same" (defScope s__law_same) s.heap.objs.size f cdv))) :
    DSs (cxOf (L2.CX P w) P w K mg base ["_law_found", "_law_due", "_law_one", "_law_other"] "_law_same" (defScope s__law_same) f cdv A outer s H E) (defBody s__law_same) (wS (M__law_same sr)) := by
  have sc := sc__law_same
  exact (mss_cons (ms_if (mt_cmp od_is om_is (mv 1) me_non) (mss_one (ms_ret (me_cmp od_is om_is (mv 0) me_non))) mss_nil)
  (mss_cons (ms_if (mt_val (me_callB cd_isi cm_isi B.isinstance (by decide +kernel) (ma_cons (mv 1) (ma_cons (me_ty B.bool (by decide +kernel)) ma_nil)))) (mss_one (ms_ret (me_and (me_callB cd_isi cm_isi B.isinstance (by decide +kernel) (ma_cons (mv 0) (ma_cons (me_ty B.bool (by decide +kernel)) ma_nil))) (me_one (me_cmp (od_eq hr.units) om_eq (mv 0) (mv 1)))))) mss_nil)
  (mss_cons (ms_if (mt_val (me_callB cd_isi cm_isi B.isinstance (by decide +kernel) (ma_cons (mv 1) (ma_cons (me_ty B.int (by decide +kernel)) ma_nil)))) (mss_one (ms_ret (me_and (me_call G__law_whole (hr.mono (by omega)) (ma_cons (mv 0) ma_nil)) (me_one (me_cmp (od_eq hr.units) om_eq (mv 0) (mv 1)))))) mss_nil)
  (mss_cons (ms_if (mt_val (me_callB cd_isi cm_isi B.isinstance (by decide +kernel) (ma_cons (mv 1) (ma_cons (me_ty B.str (by decide +kernel)) ma_nil)))) (mss_one (ms_ret (me_and (me_callB cd_isi cm_isi B.isinstance (by decide +kernel) (ma_cons (mv 0) (ma_cons (me_ty B.str (by decide +kernel)) ma_nil))) (me_one (me_cmp (od_eq hr.units) om_eq (mv 0) (mv 1)))))) mss_nil)
  (mss_cons (ms_if (mw_t (mw_or (mt_cmp (od_ne hr.units) om_ne (me_callB cd_isi cm_isi B.isinstance (by decide +kernel) (ma_cons (mv 1) (ma_cons (me_ty B.list (by decide +kernel)) ma_nil))) (me_callB cd_isi cm_isi B.isinstance (by decide +kernel) (ma_cons (mv 0) (ma_cons (me_ty B.list (by decide +kernel)) ma_nil)))) (mw_or1 (mt_cmp (od_ne hr.units) om_ne (me_callB cd_isi cm_isi B.isinstance (by decide +kernel) (ma_cons (mv 1) (ma_cons (me_ty B.tuple (by decide +kernel)) ma_nil))) (me_callB cd_isi cm_isi B.isinstance (by decide +kernel) (ma_cons (mv 0) (ma_cons (me_ty B.tuple (by decide +kernel)) ma_nil))))))) (mss_one (ms_ret me_bl)) mss_nil)
  (mss_cons (ms_if (mt_cmp (od_ne hr.units) om_ne (me_callB cd_lenX cm_len B.len (by decide +kernel) (ma_cons (mv 0) ma_nil)) (me_callB cd_lenX cm_len B.len (by decide +kernel) (ma_cons (mv 1) ma_nil))) (mss_one (ms_ret me_bl)) mss_nil)
  (mss_one (ms_ret (me_callB (cd_all rfl) cm_all B.all (by decide +kernel) (ma_cons (me_lc (own := [("_law_one", 2), ("_law_other", 3)]) (mt := mYes) (me := (mCall sr 2 (mCons (mVar 2) (mCons (mVar 3) mNil)))) (g := (mgTup 2 (mgCons (mgN 2) (mgCons (mgN 3) mgNil)))) rfl sc.nd (mi_zip (di_zip B.zip (mv 0) (mv 1))) (blkOk_by (N := ["_law_found", "_law_due", "_law_one", "_law_other"]) (sc := defScope s__law_same) (by decide +kernel)) (by decide) (fun _ _ _ _ _ => (mg_tup rfl (mgs_cons (mg_name (i := 2) sc.nd rfl (by first | exact Or.inl rfl | exact Or.inr rfl)) (mgs_cons (mg_name (i := 3) sc.nd rfl (by first | exact Or.inl rfl | exact Or.inr rfl)) mgs_nil)))) (fun _ _ _ _ _ => mts_nil) (fun _ _ _ _ _ => (me_call G__law_same (hr.mono (by omega)) (ma_cons (mv 2) (ma_cons (mv 3) ma_nil))))) ma_nil))))))))))
theorem ok__law_same {P : Program} {w : World} {K : PySem.W.Frag} {mg : Str → Option Value} {base : Heap} {f : Addr} {fd : FuncData} {k : Nat} {sr : List D → Rs D} {m : List D → Rs D} (B : Bl mg) (G__law_same : FnD P w K mg base "_law_same" k 2 (wfOf sr)) (G__law_whole : FnD P w K mg base "_law_whole" 1 1 (wfOf m__law_whole)) (hk : 1 ≤ k) (F : Fun K "_law_same" "_law_same" s__law_same f fd) (hm : mg "_law_same" = some (.ref f))
    (hw : ∀ ds, m ds = callM (M__law_same sr) ["_law_found", "_law_due", "_law_one", "_law_other"] ds) : FnD P w K mg base "_law_same" (k + 1) 2 (wfOf m) :=
  ⟨_, _, _, rfl, fn_d F sc__law_same (fun cdv A outer s H E hr => d__law_same B G__law_same G__law_whole hk hr) (hw_mE hw), hm, F.kp, F.binds fun _ _ _ _ _ _ us hl => match us, hl with | [_, _], _ => rfl⟩
/-! _law_refused -/
abbrev s__law_refused : Stmt := top 57
abbrev N__law_refused : List Str := ["_law_ask", "_law_told", "e"]
theorem sc__law_refused : FnScope N__law_refused ["_law_ask"] (defScope s__law_refused) := ⟨rfl, rfl, rfl, by decide +kernel, rfl, by decide +kernel, by decide +kernel⟩
abbrev clX : List ClD := [(["InvalidName", "DuplicateName", "Circular", "InUse", "UnknownName"], some "name"), (["TooLong", "TooDeep", "TooMany"], some "limit"), (["Tangled", "UnknownWalker"], some "index"), (["InvalidPlace"], some "place"), (["InvalidBlock"], some "path"), (["CapacityExceeded"], some "capacity"), (["Overload"], some "load"), (["InvalidBeat"], some "beat"), (["InvalidCount"], some "number"), (["WrongDimension"], some "given"), (["ParseError"], some "position"), (["InvalidCommand"], some "first"), (["NothingLeft"], none)]
def tbX0 : XTab := [("CapacityExceeded", "InvalidName", false), ("CapacityExceeded", "DuplicateName", false), ("CapacityExceeded", "Circular", false), ("CapacityExceeded", "InUse", false), ("CapacityExceeded", "UnknownName", false), ("CapacityExceeded", "TooLong", false), ("CapacityExceeded", "TooDeep", false), ("CapacityExceeded", "TooMany", false), ("CapacityExceeded", "Tangled", false), ("CapacityExceeded", "UnknownWalker", false), ("CapacityExceeded", "InvalidPlace", false), ("CapacityExceeded", "InvalidBlock", false)]
def tbX1 : XTab := [("CapacityExceeded", "CapacityExceeded", true), ("Circular", "InvalidName", false), ("Circular", "DuplicateName", false), ("Circular", "Circular", true), ("Circular", "InUse", false), ("Circular", "UnknownName", false), ("InvalidBlock", "InvalidName", false), ("InvalidBlock", "DuplicateName", false), ("InvalidBlock", "Circular", false), ("InvalidBlock", "InUse", false), ("InvalidBlock", "UnknownName", false), ("InvalidBlock", "TooLong", false)]
def tbX2 : XTab := [("InvalidBlock", "TooDeep", false), ("InvalidBlock", "TooMany", false), ("InvalidBlock", "Tangled", false), ("InvalidBlock", "UnknownWalker", false), ("InvalidBlock", "InvalidPlace", false), ("InvalidBlock", "InvalidBlock", true), ("InvalidName", "InvalidName", true), ("InvalidName", "DuplicateName", false), ("InvalidName", "Circular", false), ("InvalidName", "InUse", false), ("InvalidName", "UnknownName", false), ("TooDeep", "InvalidName", false)]
def tbX3 : XTab := [("TooDeep", "DuplicateName", false), ("TooDeep", "Circular", false), ("TooDeep", "InUse", false), ("TooDeep", "UnknownName", false), ("TooDeep", "TooLong", false), ("TooDeep", "TooDeep", true), ("TooDeep", "TooMany", false), ("TooLong", "InvalidName", false), ("TooLong", "DuplicateName", false), ("TooLong", "Circular", false), ("TooLong", "InUse", false), ("TooLong", "UnknownName", false)]
def tbX4 : XTab := [("TooLong", "TooLong", true), ("TooLong", "TooDeep", false), ("TooLong", "TooMany", false), ("TooMany", "InvalidName", false), ("TooMany", "DuplicateName", false), ("TooMany", "Circular", false), ("TooMany", "InUse", false), ("TooMany", "UnknownName", false), ("TooMany", "TooLong", false), ("TooMany", "TooDeep", false), ("TooMany", "TooMany", true), ("WrongDimension", "InvalidName", false)]
def tbX5 : XTab := [("WrongDimension", "DuplicateName", false), ("WrongDimension", "Circular", false), ("WrongDimension", "InUse", false), ("WrongDimension", "UnknownName", false), ("WrongDimension", "TooLong", false), ("WrongDimension", "TooDeep", false), ("WrongDimension", "TooMany", false), ("WrongDimension", "Tangled", false), ("WrongDimension", "UnknownWalker", false), ("WrongDimension", "InvalidPlace", false), ("WrongDimension", "InvalidBlock", false), ("WrongDimension", "CapacityExceeded", false)]
def tbX6 : XTab := [("WrongDimension", "Overload", false), ("WrongDimension", "InvalidBeat", false), ("WrongDimension", "InvalidCount", false), ("WrongDimension", "WrongDimension", true)]
def tbX : XTab := tbX0 ++ tbX1 ++ tbX2 ++ tbX3 ++ tbX4 ++ tbX5 ++ tbX6
def rsX : List (Str × Option Str) := [("CapacityExceeded", some "capacity"), ("Circular", some "name"), ("InvalidBlock", some "path"), ("InvalidName", some "name"), ("TooDeep", some "limit"), ("TooLong", some "limit"), ("TooMany", some "limit"), ("WrongDimension", some "given")]
def csX : List Str := ["CapacityExceeded", "Circular", "DuplicateName", "InUse", "InvalidBeat", "InvalidBlock", "InvalidCommand", "InvalidCount", "InvalidName", "InvalidPlace", "NothingLeft", "Overload", "ParseError", "Tangled", "TooDeep", "TooLong", "TooMany", "UnknownName", "UnknownWalker", "WrongDimension"]
abbrev lamN : Str := "law.<locals>.<lambda>"
theorem gives__law_refused {X : Cx} {g : Addr} {cdg : Value} {q : Str} (hx : excsB rsX tbX X.K = true) (hC : ∀ c ∈ csX, X.mg c = some (.ref (He.ga X.K c))) : LamX.GivesTo X N__law_refused "_law_refused" (defScope s__law_refused) g cdg (defBody s__law_refused) "_law_ask" q (TTask X.K tbX clX) :=
  ask_gives (by decide) rfl rfl (Or.inl rfl) (fun _ => rfl) (Or.inl rfl) (excsB_tab hx) (fun s H => (clz_many (.cons ⟨rfl, by decide, .inl (hC "InvalidName" (by decide))⟩ (.cons ⟨rfl, by decide, .inl (hC "DuplicateName" (by decide))⟩ (.cons ⟨rfl, by decide, .inl (hC "Circular" (by decide))⟩ (.cons ⟨rfl, by decide, .inl (hC "InUse" (by decide))⟩ (.cons ⟨rfl, by decide, .inl (hC "UnknownName" (by decide))⟩ .nil))))) rfl (fun a oe cls d pn hz hf => su_field (by show (N__law_refused : List Str).Nodup; decide) rfl rfl (Or.inl rfl) (Or.inl rfl) rfl hz hf) (clz_many (.cons ⟨rfl, by decide, .inl (hC "TooLong" (by decide))⟩ (.cons ⟨rfl, by decide, .inl (hC "TooDeep" (by decide))⟩ (.cons ⟨rfl, by decide, .inl (hC "TooMany" (by decide))⟩ .nil))) rfl (fun a oe cls d pn hz hf => su_field (by show (N__law_refused : List Str).Nodup; decide) rfl rfl (Or.inl rfl) (Or.inl rfl) rfl hz hf) (clz_many (.cons ⟨rfl, by decide, .inl (hC "Tangled" (by decide))⟩ (.cons ⟨rfl, by decide, .inl (hC "UnknownWalker" (by decide))⟩ .nil)) rfl (fun a oe cls d pn hz hf => su_field (by show (N__law_refused : List Str).Nodup; decide) rfl rfl (Or.inl rfl) (Or.inl rfl) rfl hz hf) (clz_one ⟨rfl, by decide, .inl (hC "InvalidPlace" (by decide))⟩ (fun a oe cls d pn hz hf => su_field (by show (N__law_refused : List Str).Nodup; decide) rfl rfl (Or.inl rfl) (Or.inl rfl) rfl hz hf) (clz_one ⟨rfl, by decide, .inl (hC "InvalidBlock" (by decide))⟩ (fun a oe cls d pn hz hf => su_field (by show (N__law_refused : List Str).Nodup; decide) rfl rfl (Or.inl rfl) (Or.inl rfl) rfl hz hf) (clz_one ⟨rfl, by decide, .inl (hC "CapacityExceeded" (by decide))⟩ (fun a oe cls d pn hz hf => su_field (by show (N__law_refused : List Str).Nodup; decide) rfl rfl (Or.inl rfl) (Or.inl rfl) rfl hz hf) (clz_one ⟨rfl, by decide, .inl (hC "Overload" (by decide))⟩ (fun a oe cls d pn hz hf => su_field (by show (N__law_refused : List Str).Nodup; decide) rfl rfl (Or.inl rfl) (Or.inl rfl) rfl hz hf) (clz_one ⟨rfl, by decide, .inl (hC "InvalidBeat" (by decide))⟩ (fun a oe cls d pn hz hf => su_field (by show (N__law_refused : List Str).Nodup; decide) rfl rfl (Or.inl rfl) (Or.inl rfl) rfl hz hf) (clz_one ⟨rfl, by decide, .inl (hC "InvalidCount" (by decide))⟩ (fun a oe cls d pn hz hf => su_field (by show (N__law_refused : List Str).Nodup; decide) rfl rfl (Or.inl rfl) (Or.inl rfl) rfl hz hf) (clz_one ⟨rfl, by decide, .inl (hC "WrongDimension" (by decide))⟩ (fun a oe cls d pn hz hf => su_field (by show (N__law_refused : List Str).Nodup; decide) rfl rfl (Or.inl rfl) (Or.inl rfl) rfl hz hf) (clz_one ⟨rfl, by decide, .inl (hC "ParseError" (by decide))⟩ (fun a oe cls d pn hz hf => su_field (by show (N__law_refused : List Str).Nodup; decide) rfl rfl (Or.inl rfl) (Or.inl rfl) rfl hz hf) (clz_one ⟨rfl, by decide, .inl (hC "InvalidCommand" (by decide))⟩ (fun a oe cls d pn hz hf => su_field (by show (N__law_refused : List Str).Nodup; decide) rfl rfl (Or.inl rfl) (Or.inl rfl) rfl hz hf) (clz_one ⟨rfl, by decide, .inl (hC "NothingLeft" (by decide))⟩ (fun a oe cls d pn hz hf => su_none (by show (N__law_refused : List Str).Nodup; decide) rfl rfl (Or.inl rfl) (Or.inl rfl) rfl hz hf) clz_nil))))))))))))))
/-! _law_big -/
abbrev s__law_big : Stmt := top 58
theorem sc__law_big : FnScope ["_law_box", "_law_pick"] ["_law_box"] (defScope s__law_big) := ⟨rfl, rfl, rfl, by decide +kernel, rfl, by decide +kernel, by decide +kernel⟩
def w__law_big : WS := (wSeq (wSet 1 (wCall sp__law_draw 2 (wCons (wVar 0) (wCons (wC (.int 6)) wNil))))
  (wSeq (wIfS (wTest (wOp rEq (wVar 1) (wC (.int 0)))) (wRet (wOp rPow (wC (.int 10)) (wC (.int 30)))) wNext)
  (wSeq (wIfS (wTest (wOp rLt (wVar 1) (wC (.int 3)))) (wRet (wOp rAdd (wC (.int 1)) (wCall sp__law_draw 2 (wCons (wVar 0) (wCons (wOp rPow (wC (.int 10)) (wC (.int 30))) wNil))))) wNext)
  (wRet (wOp rAdd (wC (.int 2)) (wCall sp__law_draw 2 (wCons (wVar 0) (wCons (wIx (wLst (wCons (wC (.int 3)) (wCons (wC (.int 40)) (wCons (wOp rPow (wC (.int 10)) (wC (.int 9))) wNil)))) (wOp rSub (wVar 1) (wC (.int 3)))) wNil))))))))
theorem d__law_big {P : Program} {w : World} {K : PySem.W.Frag} {mg : Str → Option Value} {base : Heap} {f : Addr} {cdv : Value} {A : Around} {outer : List Env} {s : Shared} {H : Hp} {E : XK} (B : Bl mg) (G__law_draw : FnD P w K mg base "_law_draw" 1 2 sp__law_draw) (hr : Room 1 (A.deeper (envOfC "_law_big" (defScope s__law_big) s.heap.objs.size f cdv))) :
    DSs (cxOf (L2.CX P w) P w K mg base ["_law_box", "_law_pick"] "_law_big" (defScope s__law_big) f cdv A outer s H E) (defBody s__law_big) (w__law_big) := by
  have sc := sc__law_big
  exact (dss_cons (ds_set (i := 1) sc.nd rfl (by first | exact Or.inl rfl | exact Or.inr rfl) (de_call G__law_draw (hr.mono (by decide)) (da_cons (dv 0) (da_cons de_int da_nil))))
  (dss_cons (ds_if (dt_cmp (od_eq hr.units) (dv 1) de_int) (dss_one (ds_ret (de_op od_pow de_int de_int))) dss_nil)
  (dss_cons (ds_if (dt_cmp od_lt (dv 1) de_int) (dss_one (ds_ret (de_op od_add de_int (de_call G__law_draw (hr.mono (by decide)) (da_cons (dv 0) (da_cons (de_op od_pow de_int de_int) da_nil)))))) dss_nil)
  (dss_one (ds_ret (de_op od_add de_int (de_call G__law_draw (hr.mono (by decide)) (da_cons (dv 0) (da_cons (de_ix (de_lst (da_cons de_int (da_cons de_int (da_cons (de_op od_pow de_int de_int) da_nil)))) (de_op od_sub (dv 1) de_int)) da_nil)))))))))
theorem ok__law_big {P : Program} {w : World} {K : PySem.W.Frag} {mg : Str → Option Value} {base : Heap} {f : Addr} {fd : FuncData} (sp : WF) (B : Bl mg) (G__law_draw : FnD P w K mg base "_law_draw" 1 2 sp__law_draw) (F : Fun K "_law_big" "_law_big" s__law_big f fd) (hm : mg "_law_big" = some (.ref f))
    (hw : ∀ ds M k x, ds.length = 1 → sp ds M k x → (w__law_big) (startD ["_law_box", "_law_pick"] ds) M (retE k x)) : FnD P w K mg base "_law_big" (1 + 1) 1 sp :=
  ⟨_, _, _, rfl, fn_d F sc__law_big (fun cdv A outer s H E hr => d__law_big B G__law_draw hr) hw, hm, F.kp, F.binds fun _ _ _ _ _ _ us hl => match us, hl with | [_], _ => rfl⟩
/-! Parts.block -/
abbrev s_Parts_block : Stmt := meth 50 5
theorem sc_Parts_block : FnScope ["self", "name"] ["self", "name"] (defScope s_Parts_block) := ⟨rfl, rfl, rfl, by decide +kernel, rfl, by decide +kernel, by decide +kernel⟩
theorem d_Parts_block {P : Program} {w : World} {K : PySem.W.Frag} {mg : Str → Option Value} {base : Heap} {f : Addr} {cdv : Value} {A : Around} {outer : List Env} {s : Shared} {H : Hp} {E : XK} (B : Bl mg) (A_Parts_kept : AtF K "Parts" "kept") (hr : Room 0 (A.deeper (envOfC "Parts.block" (defScope s_Parts_block) s.heap.objs.size f cdv))) :
    DSs (cxOf (L2.CX P w) P w K mg base ["self", "name"] "Parts.block" (defScope s_Parts_block) f cdv A outer s H E) (defBody s_Parts_block) (wS (M_Parts_block)) := by
  have sc := sc_Parts_block
  exact (mss_cons (ms_if (mt_cmp (od_notInX (units65 hr)) om_inX (mv 1) (me_fld A_Parts_kept (mv 0))) (mss_one ms_no) mss_nil)
  (mss_one (ms_ret (me_ix (units65 hr) (me_fld A_Parts_kept (mv 0)) (mv 1)))))
theorem ok_Parts_block {P : Program} {w : World} {K : PySem.W.Frag} {mg : Str → Option Value} {base : Heap} {f : Addr} {fd : FuncData} {m : List D → Rs D} (B : Bl mg) (A_Parts_kept : AtF K "Parts" "kept") (F : Fun K "block" "Parts.block" s_Parts_block f fd) (hc : Cls K (He.ga K "Parts")) (hm : L2.Meth K (He.ga K "Parts") "block" f)
    (hw : ∀ ds, m ds = callM (M_Parts_block) ["self", "name"] ds) : MethD P w K base mg "Parts" "block" (0 + 1) 2 (wfOf m) :=
  ⟨hc, _, _, _, rfl, fn_d F sc_Parts_block (fun cdv A outer s H E hr => d_Parts_block B A_Parts_kept hr) (hw_mE hw), hm, F.binds fun _ _ _ _ _ _ us hl => match us, hl with | [_, _], _ => rfl⟩
/-! Parts.check_names -/
abbrev s_Parts_check_names : Stmt := meth 50 7
theorem sc_Parts_check_names : FnScope ["self", "block", "name"] ["self", "block"] (defScope s_Parts_check_names) := ⟨rfl, rfl, rfl, by decide +kernel, rfl, by decide +kernel, by decide +kernel⟩
theorem d_Parts_check_names {P : Program} {w : World} {K : PySem.W.Frag} {mg : Str → Option Value} {base : Heap} {f : Addr} {cdv : Value} {A : Around} {outer : List Env} {s : Shared} {H : Hp} {E : XK} (B : Bl mg) (G_Parts_block : MethD P w K base mg "Parts" "block" 1 2 (wfOf m_Parts_block)) (G_names_in : FnO P w K mg base "names_in" 26 1 (m_names_in 24)) (hr : Room 26 (A.deeper (envOfC "Parts.check_names" (defScope s_Parts_check_names) s.heap.objs.size f cdv))) :
    DSs (cxOf (L2.CX P w) P w K mg base ["self", "block", "name"] "Parts.check_names" (defScope s_Parts_check_names) f cdv A outer s H E) (defBody s_Parts_check_names) (wS (M_Parts_check_names)) := by
  have sc := sc_Parts_check_names
  exact (mss_one (ms_for [2] rfl (mi_seq (me_call G_names_in.d (hr.mono (by decide)) (ma_cons (mv 1) ma_nil))) (mg_name (i := 2) sc.nd rfl (by first | exact Or.inl rfl | exact Or.inr rfl)) (mss_one (ms_expr (me_meth G_Parts_block (hr.mono (by decide)) (mv 0) (ma_cons (mv 2) ma_nil))))))
theorem ok_Parts_check_names {P : Program} {w : World} {K : PySem.W.Frag} {mg : Str → Option Value} {base : Heap} {f : Addr} {fd : FuncData} {m : List D → Rs D} (B : Bl mg) (G_Parts_block : MethD P w K base mg "Parts" "block" 1 2 (wfOf m_Parts_block)) (G_names_in : FnO P w K mg base "names_in" 26 1 (m_names_in 24)) (F : Fun K "check_names" "Parts.check_names" s_Parts_check_names f fd) (hc : Cls K (He.ga K "Parts")) (hm : L2.Meth K (He.ga K "Parts") "check_names" f)
    (hw : ∀ ds, m ds = callM (M_Parts_check_names) ["self", "block", "name"] ds) : MethD P w K base mg "Parts" "check_names" (26 + 1) 2 (wfOf m) :=
  ⟨hc, _, _, _, rfl, fn_d F sc_Parts_check_names (fun cdv A outer s H E hr => d_Parts_check_names B G_Parts_block G_names_in hr) (hw_mE hw), hm, F.binds fun _ _ _ _ _ _ us hl => match us, hl with | [_, _], _ => rfl⟩
/-! Parts.__init__ -/
abbrev s_Parts___init__ : Stmt := meth 50 0
theorem sc_Parts___init__ : FnScope ["self", "dimension", "blocks", "name"] ["self", "dimension", "blocks"] (defScope s_Parts___init__) := ⟨rfl, rfl, rfl, by decide +kernel, rfl, by decide +kernel, by decide +kernel⟩
theorem d_Parts___init__ {P : Program} {w : World} {K : PySem.W.Frag} {mg : Str → Option Value} {base : Heap} {f : Addr} {cdv : Value} {A : Around} {outer : List Env} {s : Shared} {H : Hp} {E : XK} (B : Bl mg) (G_Parts_check_names : MethD P w K base mg "Parts" "check_names" 27 2 (wfOf m_Parts_check_names)) (G_check_block : FnD P w K mg base "check_block" 30 2 (wfOf m_check_block)) (G_check_measure : FnD P w K mg base "check_measure" 3 1 (wfOf m_check_measure)) (G_is_circular : FnD P w K mg base "is_circular" 27 2 (wfOf m_is_circular)) (G_is_name : FnD P w K mg base "is_name" 1 1 (wfOf m_is_name)) (G_measures : FnD P w K mg base "measures" 27 1 (wfOf m_measures)) (X_CapacityExceeded : ExD P w K mg base "CapacityExceeded" "capacity" "CapacityExceeded" 1) (X_Circular : ExD P w K mg base "Circular" "name" "Circular" 1) (X_InvalidName : ExD P w K mg base "InvalidName" "name" "InvalidName" 1) (X_WrongDimension : ExD P w K mg base "WrongDimension" "given" "WrongDimension" 1) (A_Parts_ground : AtF K "Parts" "ground") (A_Parts_kept : AtF K "Parts" "kept") (A_Parts_known : AtF K "Parts" "known") (hr : Room 30 (A.deeper (envOfC "Parts.__init__" (defScope s_Parts___init__) s.heap.objs.size f cdv))) :
    DSs (cxOf (L2.CX P w) P w K mg base ["self", "dimension", "blocks", "name"] "Parts.__init__" (defScope s_Parts___init__) f cdv A outer s H E) (defBody s_Parts___init__) (wS (M_Parts___init__)) := by
  have sc := sc_Parts___init__
  exact (mss_cons (ms_if (mt_not (mt_chain od_le om_le od_le om_le me_int (mv 1) (me_gint B.c_MAX_DIMENSION))) (mss_one (ms_raise (ds_raise rfl X_WrongDimension (hr.mono (by decide)) (mv 1)))) mss_nil)
  (mss_cons (ms_if (mt_cmp od_gt om_gt (me_callB cd_lenX cm_len B.len (by decide +kernel) (ma_cons (mv 2) ma_nil)) (me_gint B.c_MAX_PARTS)) (mss_one (ms_raise (ds_raise rfl X_CapacityExceeded (hr.mono (by decide)) (me_gint B.c_MAX_PARTS)))) mss_nil)
  (mss_cons (ms_for [] rfl (mi_seq (me_callB (cd_sorted rfl) cm_sorted B.sorted (by decide +kernel) (ma_cons (mv 2) ma_nil))) (mg_name (i := 3) sc.nd rfl (by first | exact Or.inl rfl | exact Or.inr rfl)) (mss_cons (ms_if (mt_not (mt_val (me_call G_is_name (hr.mono (by decide)) (ma_cons (mv 3) ma_nil)))) (mss_one (ms_raise (ds_raise rfl X_InvalidName (hr.mono (by decide)) (mv 3)))) mss_nil)
  (mss_one (ms_expr (me_call G_check_block (hr.mono (by decide)) (ma_cons (me_ix (units65 hr) (mv 2) (mv 3)) (ma_cons (mv 1) ma_nil)))))))
  (mss_cons (ms_setA (i := 0) A_Parts_ground (mv 1))
  (mss_cons (ms_setA (i := 0) A_Parts_kept (me_dc (own := [("name", 3)]) (mt := mYes) (mk := (mVar 3)) (mv := (mOp fIx (mVar 2) (mVar 3))) (g := (mgN 3)) rfl sc.nd (mi_seq (me_callB (cd_sorted rfl) cm_sorted B.sorted (by decide +kernel) (ma_cons (mv 2) ma_nil))) (blkOk_by (N := ["self", "dimension", "blocks", "name"]) (sc := defScope s_Parts___init__) (by decide +kernel)) (by decide) (fun _ _ _ _ _ => (mg_name (i := 3) sc.nd rfl (by first | exact Or.inl rfl | exact Or.inr rfl))) (fun _ _ _ _ _ => mts_nil) (fun _ _ _ _ _ => (mv 3)) (fun _ _ _ _ _ => (me_ix (units65 hr) (mv 2) (mv 3)))))
  (mss_cons (ms_for [3] rfl (mi_keys (me_fld A_Parts_kept (mv 0))) (mg_name (i := 3) sc.nd rfl (by first | exact Or.inl rfl | exact Or.inr rfl)) (mss_one (ms_expr (me_methO G_Parts_check_names (hr.mono (by decide)) (mv 0) (ma_cons (me_ix (units65 hr) (me_fld A_Parts_kept (mv 0)) (mv 3)) ma_nil)))))
  (mss_cons (ms_for [3] rfl (mi_keys (me_fld A_Parts_kept (mv 0))) (mg_name (i := 3) sc.nd rfl (by first | exact Or.inl rfl | exact Or.inr rfl)) (mss_one (ms_if (mt_val (me_call G_is_circular (hr.mono (by decide)) (ma_cons (me_fld A_Parts_kept (mv 0)) (ma_cons (mv 3) ma_nil)))) (mss_one (ms_raise (ds_raise rfl X_Circular (hr.mono (by decide)) (mv 3)))) mss_nil)))
  (mss_cons (ms_setA (i := 0) A_Parts_known (me_call G_measures (hr.mono (by decide)) (ma_cons (me_fld A_Parts_kept (mv 0)) ma_nil)))
  (mss_one (ms_for [3] rfl (mi_keys (me_fld A_Parts_kept (mv 0))) (mg_name (i := 3) sc.nd rfl (by first | exact Or.inl rfl | exact Or.inr rfl)) (mss_one (ms_expr (me_call G_check_measure (hr.mono (by decide)) (ma_cons (me_ix (units65 hr) (me_fld A_Parts_known (mv 0)) (mv 3)) ma_nil))))))))))))))
theorem ok_Parts___init__ {P : Program} {w : World} {K : PySem.W.Frag} {mg : Str → Option Value} {base : Heap} {f : Addr} {fd : FuncData} {m : List D → Rs D} (B : Bl mg) (G_Parts_check_names : MethD P w K base mg "Parts" "check_names" 27 2 (wfOf m_Parts_check_names)) (G_check_block : FnD P w K mg base "check_block" 30 2 (wfOf m_check_block)) (G_check_measure : FnD P w K mg base "check_measure" 3 1 (wfOf m_check_measure)) (G_is_circular : FnD P w K mg base "is_circular" 27 2 (wfOf m_is_circular)) (G_is_name : FnD P w K mg base "is_name" 1 1 (wfOf m_is_name)) (G_measures : FnD P w K mg base "measures" 27 1 (wfOf m_measures)) (X_CapacityExceeded : ExD P w K mg base "CapacityExceeded" "capacity" "CapacityExceeded" 1) (X_Circular : ExD P w K mg base "Circular" "name" "Circular" 1) (X_InvalidName : ExD P w K mg base "InvalidName" "name" "InvalidName" 1) (X_WrongDimension : ExD P w K mg base "WrongDimension" "given" "WrongDimension" 1) (A_Parts_ground : AtF K "Parts" "ground") (A_Parts_kept : AtF K "Parts" "kept") (A_Parts_known : AtF K "Parts" "known") (F : Fun K "__init__" "Parts.__init__" s_Parts___init__ f fd) (hm : Mk K (He.ga K "Parts") f) (hg : mg "Parts" = some (.ref (He.ga K "Parts")))
    (hw : ∀ ds, m ds = initM "Parts" (M_Parts___init__) ["self", "dimension", "blocks", "name"] ds) : MakeD P w K mg base "Parts" (30 + 1) 2 m :=
  ⟨_, _, _, rfl, fn_d F sc_Parts___init__ (fun cdv A outer s H E hr => d_Parts___init__ B G_Parts_check_names G_check_block G_check_measure G_is_circular G_is_name G_measures X_CapacityExceeded X_Circular X_InvalidName X_WrongDimension A_Parts_ground A_Parts_kept A_Parts_known hr) (fun ds M k x _ h => hw_mI hw ds M k x h), hm, hg, F.binds fun _ _ _ _ _ _ us hl => match us, hl with | [_, _, _], _ => rfl⟩
/-! Parts.measure -/
abbrev s_Parts_measure : Stmt := meth 50 8
theorem sc_Parts_measure : FnScope ["self", "block"] ["self", "block"] (defScope s_Parts_measure) := ⟨rfl, rfl, rfl, by decide +kernel, rfl, by decide +kernel, by decide +kernel⟩
theorem d_Parts_measure {P : Program} {w : World} {K : PySem.W.Frag} {mg : Str → Option Value} {base : Heap} {f : Addr} {cdv : Value} {A : Around} {outer : List Env} {s : Shared} {H : Hp} {E : XK} (B : Bl mg) (G_Parts_check_names : MethD P w K base mg "Parts" "check_names" 27 2 (wfOf m_Parts_check_names)) (G_check_block : FnD P w K mg base "check_block" 30 2 (wfOf m_check_block)) (G_measured : FnD P w K mg base "measured" 26 2 (wfOf (m_measured 24))) (A_Parts_ground : AtF K "Parts" "ground") (A_Parts_known : AtF K "Parts" "known") (hr : Room 30 (A.deeper (envOfC "Parts.measure" (defScope s_Parts_measure) s.heap.objs.size f cdv))) :
    DSs (cxOf (L2.CX P w) P w K mg base ["self", "block"] "Parts.measure" (defScope s_Parts_measure) f cdv A outer s H E) (defBody s_Parts_measure) (wS (M_Parts_measure)) := by
  have sc := sc_Parts_measure
  exact (mss_cons (ms_expr (me_call G_check_block (hr.mono (by decide)) (ma_cons (mv 1) (ma_cons (me_fld A_Parts_ground (mv 0)) ma_nil))))
  (mss_cons (ms_expr (me_meth G_Parts_check_names (hr.mono (by decide)) (mv 0) (ma_cons (mv 1) ma_nil)))
  (mss_one (ms_ret (me_call G_measured (hr.mono (by decide)) (ma_cons (mv 1) (ma_cons (me_fld A_Parts_known (mv 0)) ma_nil)))))))
theorem ok_Parts_measure {P : Program} {w : World} {K : PySem.W.Frag} {mg : Str → Option Value} {base : Heap} {f : Addr} {fd : FuncData} {m : List D → Rs D} (B : Bl mg) (G_Parts_check_names : MethD P w K base mg "Parts" "check_names" 27 2 (wfOf m_Parts_check_names)) (G_check_block : FnD P w K mg base "check_block" 30 2 (wfOf m_check_block)) (G_measured : FnD P w K mg base "measured" 26 2 (wfOf (m_measured 24))) (A_Parts_ground : AtF K "Parts" "ground") (A_Parts_known : AtF K "Parts" "known") (F : Fun K "measure" "Parts.measure" s_Parts_measure f fd) (hc : Cls K (He.ga K "Parts")) (hm : L2.Meth K (He.ga K "Parts") "measure" f)
    (hw : ∀ ds, m ds = callM (M_Parts_measure) ["self", "block"] ds) : MethD P w K base mg "Parts" "measure" (30 + 1) 2 (wfOf m) :=
  ⟨hc, _, _, _, rfl, fn_d F sc_Parts_measure (fun cdv A outer s H E hr => d_Parts_measure B G_Parts_check_names G_check_block G_measured A_Parts_ground A_Parts_known hr) (hw_mE hw), hm, F.binds fun _ _ _ _ _ _ us hl => match us, hl with | [_, _], _ => rfl⟩
/-! Parts.check -/
abbrev s_Parts_check : Stmt := meth 50 9
theorem sc_Parts_check : FnScope ["self", "block"] ["self", "block"] (defScope s_Parts_check) := ⟨rfl, rfl, rfl, by decide +kernel, rfl, by decide +kernel, by decide +kernel⟩
theorem d_Parts_check {P : Program} {w : World} {K : PySem.W.Frag} {mg : Str → Option Value} {base : Heap} {f : Addr} {cdv : Value} {A : Around} {outer : List Env} {s : Shared} {H : Hp} {E : XK} (B : Bl mg) (G_Parts_measure : MethD P w K base mg "Parts" "measure" 31 2 (wfOf m_Parts_measure)) (G_check_measure : FnD P w K mg base "check_measure" 3 1 (wfOf m_check_measure)) (hr : Room 31 (A.deeper (envOfC "Parts.check" (defScope s_Parts_check) s.heap.objs.size f cdv))) :
    DSs (cxOf (L2.CX P w) P w K mg base ["self", "block"] "Parts.check" (defScope s_Parts_check) f cdv A outer s H E) (defBody s_Parts_check) (wS (M_Parts_check)) := by
  have sc := sc_Parts_check
  exact (mss_one (ms_expr (me_call G_check_measure (hr.mono (by decide)) (ma_cons (me_meth G_Parts_measure (hr.mono (by decide)) (mv 0) (ma_cons (mv 1) ma_nil)) ma_nil))))
theorem ok_Parts_check {P : Program} {w : World} {K : PySem.W.Frag} {mg : Str → Option Value} {base : Heap} {f : Addr} {fd : FuncData} {m : List D → Rs D} (B : Bl mg) (G_Parts_measure : MethD P w K base mg "Parts" "measure" 31 2 (wfOf m_Parts_measure)) (G_check_measure : FnD P w K mg base "check_measure" 3 1 (wfOf m_check_measure)) (F : Fun K "check" "Parts.check" s_Parts_check f fd) (hc : Cls K (He.ga K "Parts")) (hm : L2.Meth K (He.ga K "Parts") "check" f)
    (hw : ∀ ds, m ds = callM (M_Parts_check) ["self", "block"] ds) : MethD P w K base mg "Parts" "check" (31 + 1) 2 (wfOf m) :=
  ⟨hc, _, _, _, rfl, fn_d F sc_Parts_check (fun cdv A outer s H E hr => d_Parts_check B G_Parts_measure G_check_measure hr) (hw_mE hw), hm, F.binds fun _ _ _ _ _ _ us hl => match us, hl with | [_, _], _ => rfl⟩
/-! Parts.depth -/
abbrev s_Parts_depth : Stmt := meth 50 10
theorem sc_Parts_depth : FnScope ["self", "block"] ["self", "block"] (defScope s_Parts_depth) := ⟨rfl, rfl, rfl, by decide +kernel, rfl, by decide +kernel, by decide +kernel⟩
theorem d_Parts_depth {P : Program} {w : World} {K : PySem.W.Frag} {mg : Str → Option Value} {base : Heap} {f : Addr} {cdv : Value} {A : Around} {outer : List Env} {s : Shared} {H : Hp} {E : XK} (B : Bl mg) (G_Parts_measure : MethD P w K base mg "Parts" "measure" 31 2 (wfOf m_Parts_measure)) (hr : Room 31 (A.deeper (envOfC "Parts.depth" (defScope s_Parts_depth) s.heap.objs.size f cdv))) :
    DSs (cxOf (L2.CX P w) P w K mg base ["self", "block"] "Parts.depth" (defScope s_Parts_depth) f cdv A outer s H E) (defBody s_Parts_depth) (wS (M_Parts_depth)) := by
  have sc := sc_Parts_depth
  exact (mss_one (ms_ret (me_ix (units65 hr) (me_meth G_Parts_measure (hr.mono (by decide)) (mv 0) (ma_cons (mv 1) ma_nil)) me_int)))
theorem ok_Parts_depth {P : Program} {w : World} {K : PySem.W.Frag} {mg : Str → Option Value} {base : Heap} {f : Addr} {fd : FuncData} {m : List D → Rs D} (B : Bl mg) (G_Parts_measure : MethD P w K base mg "Parts" "measure" 31 2 (wfOf m_Parts_measure)) (F : Fun K "depth" "Parts.depth" s_Parts_depth f fd) (hc : Cls K (He.ga K "Parts")) (hm : L2.Meth K (He.ga K "Parts") "depth" f)
    (hw : ∀ ds, m ds = callM (M_Parts_depth) ["self", "block"] ds) : MethD P w K base mg "Parts" "depth" (31 + 1) 2 (wfOf m) :=
  ⟨hc, _, _, _, rfl, fn_d F sc_Parts_depth (fun cdv A outer s H E hr => d_Parts_depth B G_Parts_measure hr) (hw_mE hw), hm, F.binds fun _ _ _ _ _ _ us hl => match us, hl with | [_, _], _ => rfl⟩
/-! Parts.puts -/
abbrev s_Parts_puts : Stmt := meth 50 11
theorem sc_Parts_puts : FnScope ["self", "block"] ["self", "block"] (defScope s_Parts_puts) := ⟨rfl, rfl, rfl, by decide +kernel, rfl, by decide +kernel, by decide +kernel⟩
theorem d_Parts_puts {P : Program} {w : World} {K : PySem.W.Frag} {mg : Str → Option Value} {base : Heap} {f : Addr} {cdv : Value} {A : Around} {outer : List Env} {s : Shared} {H : Hp} {E : XK} (B : Bl mg) (G_Parts_measure : MethD P w K base mg "Parts" "measure" 31 2 (wfOf m_Parts_measure)) (hr : Room 31 (A.deeper (envOfC "Parts.puts" (defScope s_Parts_puts) s.heap.objs.size f cdv))) :
    DSs (cxOf (L2.CX P w) P w K mg base ["self", "block"] "Parts.puts" (defScope s_Parts_puts) f cdv A outer s H E) (defBody s_Parts_puts) (wS (M_Parts_puts)) := by
  have sc := sc_Parts_puts
  exact (mss_one (ms_ret (me_ix (units65 hr) (me_meth G_Parts_measure (hr.mono (by decide)) (mv 0) (ma_cons (mv 1) ma_nil)) me_int)))
theorem ok_Parts_puts {P : Program} {w : World} {K : PySem.W.Frag} {mg : Str → Option Value} {base : Heap} {f : Addr} {fd : FuncData} {m : List D → Rs D} (B : Bl mg) (G_Parts_measure : MethD P w K base mg "Parts" "measure" 31 2 (wfOf m_Parts_measure)) (F : Fun K "puts" "Parts.puts" s_Parts_puts f fd) (hc : Cls K (He.ga K "Parts")) (hm : L2.Meth K (He.ga K "Parts") "puts" f)
    (hw : ∀ ds, m ds = callM (M_Parts_puts) ["self", "block"] ds) : MethD P w K base mg "Parts" "puts" (31 + 1) 2 (wfOf m) :=
  ⟨hc, _, _, _, rfl, fn_d F sc_Parts_puts (fun cdv A outer s H E hr => d_Parts_puts B G_Parts_measure hr) (hw_mE hw), hm, F.binds fun _ _ _ _ _ _ us hl => match us, hl with | [_, _], _ => rfl⟩
/-! law -/
abbrev s_law : Stmt := top 59
theorem sc_law : FnScope ["_law_script", "_law_box", "_law_turn", "_law_first", "_law_blocks", "_law_k", "_law_parts", "_law_last", "_law_block", "_law_found", "_law_puts", "_law_deep", "_law_times", "_law_more", "_law_due", "_law_inner"] ["_law_script"] (defScope s_law) := ⟨rfl, rfl, rfl, by decide +kernel, rfl, by decide +kernel, by decide +kernel⟩
abbrev N_law : List Str := ["_law_script", "_law_box", "_law_turn", "_law_first", "_law_blocks", "_law_k", "_law_parts", "_law_last", "_law_block", "_law_found", "_law_puts", "_law_deep", "_law_times", "_law_more", "_law_due", "_law_inner"]
def w_law (PT : Addr) : WS := (wSeq (wSet 1 (wCall sp__law_a_box 1 (wCons (wVar 0) wNil)))
  (wSeq (wFor (wiR1 (wC (.int 4))) (wgN 2) (wSeq (wSet 3 (wOp rAdd (wC (.int 1)) (wCall sp__law_draw 2 (wCons (wVar 1) (wCons (wC (.int 12)) wNil)))))
  (wSeq (wSet 4 (wDspM ["a"] (wCons (wTup (wCons (wTup (wCons (wC (.str "repeat")) (wCons (wCall sp__law_big 1 (wCons (wVar 1) wNil)) (wCons (wOp rMul (wTup (wCons (wTup (wCons (wC (.str "put")) (wCons (wC (.int 5)) wNil))) wNil)) (wVar 3)) wNil)))) wNil)) wNil)))
  (wSeq (wPar 10 11 (wCons (wVar 3) (wCons (wC (.int 1)) wNil)))
  (wSeq (wFor (wiR1 (wC (.int 4))) (wgN 5) (wSeq (wSet 12 (wCall sp__law_any 2 (wCons (wVar 1) (wCons (wLst (wCons (wC (.int 1)) (wCons (wC (.int 1)) (wCons (wC (.int 2)) (wCons (wC (.int 3)) (wCons (wC (.int 5)) wNil)))))) wNil))))
  (wSeq (wSet 13 (wCall sp__law_draw 2 (wCons (wVar 1) (wCons (wC (.int 2)) wNil))))
  (wIfS (wAnd (wTest (wOp rLe (wOp rMul (wVar 10) (wVar 12)) (wC (.int 60)))) (wTest (wOp rLe (wOp rAdd (wVar 11) (wVar 13)) (wC (.int 6))))) (wSeq (wSet 7 (wIx (wC (.str "abcde")) (wOp rSub (wCB rLnX (wCons (wVar 4) wNil)) (wC (.int 1)))))
  (wSeq (wSet 15 (wOp rMul (wTup (wCons (wIx (wLst (wCons (wTup (wCons (wC (.str "do")) (wCons (wVar 7) wNil))) (wCons (wTup (wCons (wC (.str "undo")) (wCons (wVar 7) wNil))) wNil))) (wCall sp__law_draw 2 (wCons (wVar 1) (wCons (wC (.int 2)) wNil)))) wNil)) (wVar 12)))
  (wSeq (wDput (wVar 4) (wIx (wC (.str "abcde")) (wCB rLnX (wCons (wVar 4) wNil))) (wIf (wTest (wOp rEq (wVar 13) (wC (.int 1)))) (wTup (wCons (wTup (wCons (wC (.str "repeat")) (wCons (wUn rNeg (wC (.int 7))) (wCons (wVar 15) wNil)))) wNil)) (wVar 15)))
  (wPar 10 11 (wCons (wOp rMul (wVar 10) (wVar 12)) (wCons (wOp rAdd (wVar 11) (wVar 13)) wNil)))))) wNext))))
  (wFrzD 4 (wSeq (wSet 6 (wCall (wfOf m_Parts___init__) 2 (wCons (wC (.int 1)) (wCons (wVar 4) wNil))))
  (wSeq (wSet 7 (wIx (wC (.str "abcde")) (wOp rSub (wCB rLnX (wCons (wVar 4) wNil)) (wC (.int 1)))))
  (wSeq (wPar 12 13 (wCons (wOp rAdd (wC (.int 1)) (wCall sp__law_draw 2 (wCons (wVar 1) (wCons (wC (.int 60)) wNil)))) (wCons (wCall sp__law_draw 2 (wCons (wVar 1) (wCons (wC (.int 8)) wNil))) wNil)))
  (wSeq (wSet 8 (wOp rMul (wTup (wCons (wTup (wCons (wC (.str "do")) (wCons (wVar 7) wNil))) wNil)) (wVar 12)))
  (wSeq (wFor (wiR1 (wVar 13)) (wgN 5) (wSet 8 (wTup (wCons (wTup (wCons (wC (.str "repeat")) (wCons (wC (.int 0)) (wCons (wVar 8) wNil)))) wNil))))
  (wSeq (wIfS (wTest (wOp rGt (wOp rAdd (wVar 12) (wVar 13)) (wC (.int 60)))) (wSet 14 (wTup (wCons (wC (.str "TooLong")) (wCons (wC (.int 60)) wNil)))) (wIfS (wTest (wOp rGt (wOp rAdd (wVar 11) (wVar 13)) (wC (.int 6)))) (wSet 14 (wTup (wCons (wC (.str "TooDeep")) (wCons (wC (.int 6)) wNil)))) (wSet 14 (wIf (wTest (wOp rGt (wOp rMul (wVar 10) (wVar 12)) (wC (.int 60)))) (wTup (wCons (wC (.str "TooMany")) (wCons (wC (.int 60)) wNil))) (wTup (wCons (wC (.str "")) (wCons (wC .non) wNil)))))))
  (wSeq (wIfS (wTest (wOp rNe (wAsk PT lamN tbX clX rsX (wMeth "Parts" "check" (wfOf m_Parts_check) 2 (wVar 6) (wCons (wVar 8) wNil))) (wVar 14))) (wRet (wC (.bl false))) wNext)
  (wSeq (wSet 9 (wIf (wTest (wOp rLe (wOp rAdd (wVar 12) (wVar 13)) (wC (.int 60)))) (wLst (wCons (wMeth "Parts" "depth" (wfOf m_Parts_depth) 2 (wVar 6) (wCons (wVar 8) wNil)) (wCons (wMeth "Parts" "puts" (wfOf m_Parts_puts) 2 (wVar 6) (wCons (wVar 8) wNil)) wNil))) (wLst (wCons (wOp rAdd (wVar 11) (wVar 13)) (wCons (wOp rMul (wVar 10) (wVar 12)) wNil)))))
  (wIfS (wNot (wTest (wCall (wfOf (m__law_same 24)) 2 (wCons (wVar 9) (wCons (wLst (wCons (wOp rAdd (wVar 11) (wVar 13)) (wCons (wOp rMul (wVar 10) (wVar 12)) wNil))) wNil))))) (wRet (wC (.bl false))) wNext)))))))))))))))
  (wRet (wC (.bl true)))))
theorem d_law {P : Program} {w : World} {K : PySem.W.Frag} {mg : Str → Option Value} {base : Heap} {f : Addr} {cdv : Value} {A : Around} {outer : List Env} {s : Shared} {H : Hp} {E : XK} (B : Bl mg) (G_Parts___init__ : MakeD P w K mg base "Parts" 31 2 m_Parts___init__) (G_Parts_check : MethD P w K base mg "Parts" "check" 32 2 (wfOf m_Parts_check)) (G_Parts_depth : MethD P w K base mg "Parts" "depth" 32 2 (wfOf m_Parts_depth)) (G_Parts_puts : MethD P w K base mg "Parts" "puts" 32 2 (wfOf m_Parts_puts)) (G__law_a_box : FnD P w K mg base "_law_a_box" 1 1 sp__law_a_box) (G__law_any : FnD P w K mg base "_law_any" 2 2 sp__law_any) (G__law_big : FnD P w K mg base "_law_big" 2 1 sp__law_big) (G__law_draw : FnD P w K mg base "_law_draw" 1 2 sp__law_draw) (G__law_same : FnD P w K mg base "_law_same" 26 2 (wfOf (m__law_same 24))) {cT PT : Addr} (AF : AskF K mg "_law_refused" "_law_ask" s__law_refused N__law_refused tbX clX rsX) (TB : TabB base mg cT PT) (hcode : cdv = .ref cT) (hr : Room 34 (A.deeper (envOfC "law" (defScope s_law) s.heap.objs.size f cdv))) :
    DSs (cxOf (L2.CX P w) P w K mg base ["_law_script", "_law_box", "_law_turn", "_law_first", "_law_blocks", "_law_k", "_law_parts", "_law_last", "_law_block", "_law_found", "_law_puts", "_law_deep", "_law_times", "_law_more", "_law_due", "_law_inner"] "law" (defScope s_law) f cdv A outer s H E) (defBody s_law) (w_law PT) := by
  have sc := sc_law
  exact (dss_cons (ds_set (i := 1) sc.nd rfl (by first | exact Or.inl rfl | exact Or.inr rfl) (de_call G__law_a_box (hr.mono (by decide)) (da_cons (dv 0) da_nil)))
  (dss_cons (ds_for rfl (di_r1 B.range de_int) (dg_name (i := 2) sc.nd rfl (by first | exact Or.inl rfl | exact Or.inr rfl)) (dss_cons (ds_set (i := 3) sc.nd rfl (by first | exact Or.inl rfl | exact Or.inr rfl) (de_op od_add de_int (de_call G__law_draw (hr.mono (by decide)) (da_cons (dv 1) (da_cons de_int da_nil)))))
  (dss_cons (ds_set (i := 4) sc.nd rfl (by first | exact Or.inl rfl | exact Or.inr rfl) (de_dspM (dks_cons (de_tup (da_cons (de_tup (da_cons de_str (da_cons (de_call G__law_big (hr.mono (by decide)) (da_cons (dv 1) da_nil)) (da_cons (de_op od_mul (de_tup (da_cons (de_tup (da_cons de_str (da_cons de_int da_nil))) da_nil)) (dv 3)) da_nil)))) da_nil)) dks_nil)))
  (dss_cons (ds_par (i := 10) (j := 11) rfl sc.nd rfl rfl (by decide) rfl rfl (da_cons (dv 3) (da_cons de_int da_nil)))
  (dss_cons (ds_for rfl (di_r1 B.range de_int) (dg_name (i := 5) sc.nd rfl (by first | exact Or.inl rfl | exact Or.inr rfl)) (dss_cons (ds_set (i := 12) sc.nd rfl (by first | exact Or.inl rfl | exact Or.inr rfl) (de_call G__law_any (hr.mono (by decide)) (da_cons (dv 1) (da_cons (de_lst (da_cons de_int (da_cons de_int (da_cons de_int (da_cons de_int (da_cons de_int da_nil)))))) da_nil))))
  (dss_cons (ds_set (i := 13) sc.nd rfl (by first | exact Or.inl rfl | exact Or.inr rfl) (de_call G__law_draw (hr.mono (by decide)) (da_cons (dv 1) (da_cons de_int da_nil))))
  (dss_one (ds_if (DW.dt (dw_and (dt_cmp od_le (de_op od_mul (dv 10) (dv 12)) de_int) (dw_and1 (dt_cmp od_le (de_op od_add (dv 11) (dv 13)) de_int)))) (dss_cons (ds_set (i := 7) sc.nd rfl (by first | exact Or.inl rfl | exact Or.inr rfl) (de_ix de_str (de_op od_sub (de_callB cd_lenX B.len (by decide +kernel) (da_cons (dv 4) da_nil)) de_int)))
  (dss_cons (ds_set (i := 15) sc.nd rfl (by first | exact Or.inl rfl | exact Or.inr rfl) (de_op od_mul (de_tup (da_cons (de_ix (de_lst (da_cons (de_tup (da_cons de_str (da_cons (dv 7) da_nil))) (da_cons (de_tup (da_cons de_str (da_cons (dv 7) da_nil))) da_nil))) (de_call G__law_draw (hr.mono (by decide)) (da_cons (dv 1) (da_cons de_int da_nil)))) da_nil)) (dv 12)))
  (dss_cons (ds_dput hr.units (dv 4) (de_ix de_str (de_callB cd_lenX B.len (by decide +kernel) (da_cons (dv 4) da_nil))) (de_if (dt_cmp (od_eq hr.units) (dv 13) de_int) (de_tup (da_cons (de_tup (da_cons de_str (da_cons (de_un ud_neg de_int) (da_cons (dv 15) da_nil)))) da_nil)) (dv 15)))
  (dss_one (ds_par (i := 10) (j := 11) rfl sc.nd rfl rfl (by decide) rfl rfl (da_cons (de_op od_mul (dv 10) (dv 12)) (da_cons (de_op od_add (dv 11) (dv 13)) da_nil))))))) dss_nil)))))
  (dss_frzD 4 (dss_cons (ds_set (i := 6) sc.nd rfl (by first | exact Or.inl rfl | exact Or.inr rfl) (de_make G_Parts___init__ (hr.mono (by decide)) (da_cons de_int (da_cons (dv 4) da_nil))))
  (dss_cons (ds_set (i := 7) sc.nd rfl (by first | exact Or.inl rfl | exact Or.inr rfl) (de_ix de_str (de_op od_sub (de_callB cd_lenX B.len (by decide +kernel) (da_cons (dv 4) da_nil)) de_int)))
  (dss_cons (ds_par (i := 12) (j := 13) rfl sc.nd rfl rfl (by decide) rfl rfl (da_cons (de_op od_add de_int (de_call G__law_draw (hr.mono (by decide)) (da_cons (dv 1) (da_cons de_int da_nil)))) (da_cons (de_call G__law_draw (hr.mono (by decide)) (da_cons (dv 1) (da_cons de_int da_nil))) da_nil)))
  (dss_cons (ds_set (i := 8) sc.nd rfl (by first | exact Or.inl rfl | exact Or.inr rfl) (de_op od_mul (de_tup (da_cons (de_tup (da_cons de_str (da_cons (dv 7) da_nil))) da_nil)) (dv 12)))
  (dss_cons (ds_for rfl (di_r1 B.range (dv 13)) (dg_name (i := 5) sc.nd rfl (by first | exact Or.inl rfl | exact Or.inr rfl)) (dss_one (ds_set (i := 8) sc.nd rfl (by first | exact Or.inl rfl | exact Or.inr rfl) (de_tup (da_cons (de_tup (da_cons de_str (da_cons de_int (da_cons (dv 8) da_nil)))) da_nil)))))
  (dss_cons (ds_if (dt_cmp od_gt (de_op od_add (dv 12) (dv 13)) de_int) (dss_one (ds_set (i := 14) sc.nd rfl (by first | exact Or.inl rfl | exact Or.inr rfl) (de_tup (da_cons de_str (da_cons de_int da_nil))))) (dss_one (ds_if (dt_cmp od_gt (de_op od_add (dv 11) (dv 13)) de_int) (dss_one (ds_set (i := 14) sc.nd rfl (by first | exact Or.inl rfl | exact Or.inr rfl) (de_tup (da_cons de_str (da_cons de_int da_nil))))) (dss_one (ds_set (i := 14) sc.nd rfl (by first | exact Or.inl rfl | exact Or.inr rfl) (de_if (dt_cmp od_gt (de_op od_mul (dv 10) (dv 12)) de_int) (de_tup (da_cons de_str (da_cons de_int da_nil))) (de_tup (da_cons de_str (da_cons de_non da_nil)))))))))
  (dss_cons (ds_if (dt_cmp (od_ne hr.units) (de_askF AF TB hcode (k := 32) (hr.mono (by decide)) (fun A outer s H E f c' hr => (de_meth G_Parts_check (hr.mono (by decide)) (dv 6) (da_cons (dv 8) da_nil))) (L := lamS_by (show lamSB (defScope s_law) _ = true by decide +kernel))) (dv 14)) (dss_one (ds_ret de_bl)) dss_nil)
  (dss_cons (ds_set (i := 9) sc.nd rfl (by first | exact Or.inl rfl | exact Or.inr rfl) (de_if (dt_cmp od_le (de_op od_add (dv 12) (dv 13)) de_int) (de_lst (da_cons (de_meth G_Parts_depth (hr.mono (by decide)) (dv 6) (da_cons (dv 8) da_nil)) (da_cons (de_meth G_Parts_puts (hr.mono (by decide)) (dv 6) (da_cons (dv 8) da_nil)) da_nil))) (de_lst (da_cons (de_op od_add (dv 11) (dv 13)) (da_cons (de_op od_mul (dv 10) (dv 12)) da_nil)))))
  (dss_one (ds_if (dt_not (dt_val (de_call G__law_same (hr.mono (by decide)) (da_cons (dv 9) (da_cons (de_lst (da_cons (de_op od_add (dv 11) (dv 13)) (da_cons (de_op od_mul (dv 10) (dv 12)) da_nil))) da_nil))))) (dss_one (ds_ret de_bl)) dss_nil))))))))))))))))
  (dss_one (ds_ret de_bl))))
theorem okl_law {P : Program} {w : World} {K : PySem.W.Frag} {mg : Str → Option Value} {base : Heap} {fd : FuncData} {PT : Addr} (sp : WF) (B : Bl mg) (G_Parts___init__ : MakeD P w K mg base "Parts" 31 2 m_Parts___init__) (G_Parts_check : MethD P w K base mg "Parts" "check" 32 2 (wfOf m_Parts_check)) (G_Parts_depth : MethD P w K base mg "Parts" "depth" 32 2 (wfOf m_Parts_depth)) (G_Parts_puts : MethD P w K base mg "Parts" "puts" 32 2 (wfOf m_Parts_puts)) (G__law_a_box : FnD P w K mg base "_law_a_box" 1 1 sp__law_a_box) (G__law_any : FnD P w K mg base "_law_any" 2 2 sp__law_any) (G__law_big : FnD P w K mg base "_law_big" 2 1 sp__law_big) (G__law_draw : FnD P w K mg base "_law_draw" 1 2 sp__law_draw) (G__law_same : FnD P w K mg base "_law_same" 26 2 (wfOf (m__law_same 24))) (AF : AskF K mg "_law_refused" "_law_ask" s__law_refused N__law_refused tbX clX rsX) (TB : TabB base mg (He.codeOf K ("law", none)) PT) (F : Fun K "law" "law" s_law (He.ga K "law") fd)
    (hw : ∀ ds M k x, ds.length = 1 → sp ds M k x → (w_law PT) (startD ["_law_script", "_law_box", "_law_turn", "_law_first", "_law_blocks", "_law_k", "_law_parts", "_law_last", "_law_block", "_law_found", "_law_puts", "_law_deep", "_law_times", "_law_more", "_law_due", "_law_inner"] ds) M (retE k x)) : FnOk P w K mg base (L2.CX P w) (34 + 1) (He.ga K "law") fd ["_law_script"] (spD K 1 sp) :=
  fn_dT F sc_law (fun cdv hc A outer s H E hr => d_law B G_Parts___init__ G_Parts_check G_Parts_depth G_Parts_puts G__law_a_box G__law_any G__law_big G__law_draw G__law_same AF TB hc hr) hw
theorem rec_fault {P : Program} {w : World} {K : PySem.W.Frag} {mg : Str → Option Value} {base : Heap} (B : Bl mg) (G_has_form : FnD P w K mg base "has_form" 4 2 (wfOf m_has_form)) {f_fault : Addr} {fd_fault : FuncData} (F_fault : Fun K "fault" "fault" s_fault f_fault fd_fault) (m_fault_ : mg "fault" = some (.ref f_fault)) : ∀ n : Nat, FnD P w K mg base "fault" (4 + n + 1) 2 (wfOf (m_fault n))
  | 0 => no_fault (fun ds M k x h => by unfold wfOf at h; rw [m_fault_0] at h; exact h) 4 F_fault m_fault_
  | n + 1 => ok_fault B (rec_fault B G_has_form F_fault m_fault_ n) G_has_form (by omega) F_fault m_fault_ (fun ds => m_fault_s n ds)
theorem rec_statements {P : Program} {w : World} {K : PySem.W.Frag} {mg : Str → Option Value} {base : Heap} (B : Bl mg) (G_inner_blocks : FnD P w K mg base "inner_blocks" 1 1 (wfOf m_inner_blocks)) {f_statements : Addr} {fd_statements : FuncData} (F_statements : Fun K "statements" "statements" s_statements f_statements fd_statements) (m_statements_ : mg "statements" = some (.ref f_statements)) : ∀ n : Nat, FnD P w K mg base "statements" (1 + n + 1) 1 (wfOf (m_statements n))
  | 0 => no_statements (fun ds M k x h => by unfold wfOf at h; rw [m_statements_0] at h; exact h) 1 F_statements m_statements_
  | n + 1 => ok_statements B G_inner_blocks (rec_statements B G_inner_blocks F_statements m_statements_ n) (by omega) F_statements m_statements_ (fun ds => m_statements_s n ds)
theorem rec_names_in {P : Program} {w : World} {K : PySem.W.Frag} {mg : Str → Option Value} {base : Heap} (B : Bl mg) {f_names_in : Addr} {fd_names_in : FuncData} (F_names_in : Fun K "names_in" "names_in" s_names_in f_names_in fd_names_in) (m_names_in_ : mg "names_in" = some (.ref f_names_in)) : ∀ n : Nat, FnO P w K mg base "names_in" (1 + n + 1) 1 (m_names_in n)
  | 0 => ⟨no_names_in (fun ds M k x h => by unfold wfOwn at h; rw [m_names_in_0] at h; exact h) 1 F_names_in m_names_in_, m_names_in_lst 0⟩
  | n + 1 => ok_names_in B (rec_names_in B F_names_in m_names_in_ n) (by omega) F_names_in m_names_in_ (fun ds => m_names_in_s n ds) (m_names_in_lst (n + 1))
theorem rec_measured {P : Program} {w : World} {K : PySem.W.Frag} {mg : Str → Option Value} {base : Heap} (B : Bl mg) {f_measured : Addr} {fd_measured : FuncData} (F_measured : Fun K "measured" "measured" s_measured f_measured fd_measured) (m_measured_ : mg "measured" = some (.ref f_measured)) : ∀ n : Nat, FnD P w K mg base "measured" (1 + n + 1) 2 (wfOf (m_measured n))
  | 0 => no_measured (fun ds M k x h => by unfold wfOf at h; rw [m_measured_0] at h; exact h) 1 F_measured m_measured_
  | n + 1 => ok_measured B (rec_measured B F_measured m_measured_ n) (by omega) F_measured m_measured_ (fun ds => m_measured_s n ds)
theorem rec__law_same {P : Program} {w : World} {K : PySem.W.Frag} {mg : Str → Option Value} {base : Heap} (B : Bl mg) (G__law_whole : FnD P w K mg base "_law_whole" 1 1 (wfOf m__law_whole)) {f__law_same : Addr} {fd__law_same : FuncData} (F__law_same : Fun K "_law_same" "_law_same" s__law_same f__law_same fd__law_same) (m__law_same_ : mg "_law_same" = some (.ref f__law_same)) : ∀ n : Nat, FnD P w K mg base "_law_same" (1 + n + 1) 2 (wfOf (m__law_same n))
  | 0 => no__law_same (fun ds M k x h => by unfold wfOf at h; rw [m__law_same_0] at h; exact h) 1 F__law_same m__law_same_
  | n + 1 => ok__law_same B (rec__law_same B G__law_whole F__law_same m__law_same_ n) G__law_whole (by omega) F__law_same m__law_same_ (fun ds => m__law_same_s n ds)
end K10

namespace K10
open PySem PySem.Spec PyProof.Rows L2 DL _root_.DM _root_.DP
/-! ### chains of parts -/
abbrev nm5 : List Str := ["a", "b", "c", "d", "e"]
theorem getL_at {α : Type} : ∀ {ks : List Str} {xs : List α} {j : Nat} {z : Str}, ks.Nodup → ks[j]? = some z → getL ks xs z = xs[j]?
  | k :: ks, [], j, z, _, _ => by rw [List.getElem?_nil]; rfl
  | k :: ks, x :: xs, 0, z, _, h => by
    cases h
    show (if k = k then some x else _) = _
    rw [if_pos rfl]
    rfl
  | k :: ks, x :: xs, j + 1, z, hn, h => by
    obtain ⟨h1, h2⟩ := List.nodup_cons.mp hn
    have h : ks[j]? = some z := h
    have hz : z ∈ ks := List.mem_of_getElem? h
    show (if k = z then some x else getL ks xs z) = xs[j]?
    rw [if_neg (fun e : k = z => h1 (by rw [e]; exact hz)), getL_at h2 h]
def bsF (bs : List (List Cd)) (z : Str) : List Cd := (getL nm5 bs z).getD []
def knF (ms : List M2) (z : Str) : M2 := (getL nm5 ms z).getD (0, 0)
theorem nd5 : nm5.Nodup := by decide +kernel
structure Ent (ms : List M2) (i : Nat) (c : List Cd) (m : M2) : Prop where
  ok : okCs 1 c = true
  dep : dCs c ≤ 2
  siz : szs c ≤ 60
  l0 : 0 ≤ m.1
  l1 : m.1 ≤ 6
  l2 : m.2 ≤ 60
  l3 : 0 ≤ m.2
  me : (namesB c = [] ∧ ∀ kn, me2B kn c = m) ∨ ∃ j mj zj, i = j + 1 ∧ ms[j]? = some mj ∧ nm5[j]? = some zj ∧ (∀ y, y ∈ namesB c → y = zj) ∧ ∀ kn, kn zj = mj → me2B kn c = m
structure Ch (bs : List (List Cd)) (ms : List M2) : Prop where
  len : bs.length = ms.length
  pos : 1 ≤ bs.length
  le5 : bs.length ≤ 5
  ent : ∀ i c m, bs[i]? = some c → ms[i]? = some m → Ent ms i c m
section
variable {bs : List (List Cd)} {ms : List M2}
theorem Ch.at (h : Ch bs ms) {z : Str} (hz : z ∈ nm5.take bs.length) : ∃ i c m, nm5[i]? = some z ∧ bs[i]? = some c ∧ ms[i]? = some m ∧ bsF bs z = c ∧ knF ms z = m ∧ i < bs.length := by
  obtain ⟨i, hi⟩ := List.mem_iff_getElem?.mp hz
  rw [List.getElem?_take] at hi
  split at hi
  · rename_i hlt
    have hm : i < ms.length := by rw [← h.len]; exact hlt
    refine ⟨i, bs[i], ms[i], hi, List.getElem?_eq_getElem hlt, List.getElem?_eq_getElem hm, ?_, ?_, hlt⟩
    · unfold bsF; rw [getL_at nd5 hi, List.getElem?_eq_getElem hlt]; rfl
    · unfold knF; rw [getL_at nd5 hi, List.getElem?_eq_getElem hm]; rfl
  · cases hi
theorem idx5 {i : Nat} {z : Str} (h : nm5[i]? = some z) : nm5.idxOf z = i := by
  obtain ⟨h1, h2⟩ := List.getElem?_eq_some_iff.mp h
  rw [← h2]
  exact List.Nodup.idxOf_getElem nd5 i h1
theorem in5 {z : Str} {n : Nat} (h : z ∈ nm5.take n) : z = "a" ∨ z = "b" ∨ z = "c" ∨ z = "d" ∨ z = "e" := by
  have := List.mem_of_mem_take h
  simpa [nm5] using this
theorem isn5 {z : Str} {n : Nat} (h : z ∈ nm5.take n) : m_is_name [.str z] = .ok (.bl true) := by
  rcases in5 h with rfl | rfl | rfl | rfl | rfl <;> kernel_rfl
theorem Ch.good (h : Ch bs ms) : Good 1 (nm5.take bs.length) (bsF bs) (knF ms) (fun z => nm5.idxOf z) where
  w1 := by decide
  w3 := by decide
  nd := nd5.sublist (List.take_sublist _ _)
  len := by rw [List.length_take]; have := h.le5; omega
  nm := fun z hz => isn5 hz
  st := fun z hz => by rcases in5 hz with rfl | rfl | rfl | rfl | rfl <;> decide +kernel
  ok := fun z hz => by
    obtain ⟨i, c, m, h1, h2, h3, h4, h5, _⟩ := h.at hz
    rw [h4]; exact (h.ent i c m h2 h3).ok
  dep := fun z hz => by
    obtain ⟨i, c, m, h1, h2, h3, h4, h5, _⟩ := h.at hz
    rw [h4]; have := (h.ent i c m h2 h3).dep; omega
  siz := fun z hz => by
    obtain ⟨i, c, m, h1, h2, h3, h4, h5, _⟩ := h.at hz
    rw [h4]; exact (h.ent i c m h2 h3).siz
  clo := fun z hz y hy => by
    obtain ⟨i, c, m, h1, h2, h3, h4, h5, hi⟩ := h.at hz
    rw [h4] at hy
    rcases (h.ent i c m h2 h3).me with ⟨e, _⟩ | ⟨j, mj, zj, e1, e2, e3, e4, _⟩
    · rw [e] at hy; cases hy
    · rw [e4 y hy]
      refine List.mem_of_getElem? (i := j) ?_
      rw [List.getElem?_take, if_pos (by omega)]
      exact e3
  rkS := ⟨fun z hz y hy => by
    obtain ⟨i, c, m, h1, h2, h3, h4, h5, hi⟩ := h.at hz
    rw [h4] at hy
    rcases (h.ent i c m h2 h3).me with ⟨e, _⟩ | ⟨j, mj, zj, e1, e2, e3, e4, _⟩
    · rw [e] at hy; cases hy
    · rw [e4 y hy, idx5 h1, idx5 e3]; omega⟩
  knE := fun z hz => by
    obtain ⟨i, c, m, h1, h2, h3, h4, h5, hi⟩ := h.at hz
    rw [h4, h5]
    rcases (h.ent i c m h2 h3).me with ⟨e, e2⟩ | ⟨j, mj, zj, e1, e2, e3, e4, e5⟩
    · exact (e2 _).symm
    · refine (e5 _ ?_).symm
      unfold knF; rw [getL_at nd5 e3, e2]; rfl
  lim := fun z hz => by
    obtain ⟨i, c, m, h1, h2, h3, h4, h5, hi⟩ := h.at hz
    rw [h5]
    exact ⟨(h.ent i c m h2 h3).l1, (h.ent i c m h2 h3).l2⟩
theorem mx_same {a d : Int} : mx (mx a d) d = mx a d := by
  unfold mx
  by_cases h : d > a
  · rw [if_pos h, if_neg (by omega)]
  · rw [if_neg h, if_neg h]
theorem me2_refs {kn : Str → M2} {u : Bool} {z : Str} : ∀ (t : Nat) (a p : Int), me2F kn (a, p) (List.replicate (t + 1) (.ref u z)) = (mx a (kn z).1, p + (t + 1 : Nat) * (kn z).2)
  | 0, a, p => by
    show (mx a (kn z).1, p + (kn z).2) = _
    simp
  | t + 1, a, p => by
    show me2F kn (mx a (kn z).1, p + (kn z).2) (List.replicate (t + 1) (.ref u z)) = _
    rw [me2_refs t, mx_same]
    congr 1
    rw [Int.add_assoc]
    congr 1
    push_cast
    rw [Int.add_mul ((t : Int) + 1) 1, Int.one_mul, Int.add_comm]
theorem me2_puts {kn : Str → M2} {v : Int} : ∀ (f : Nat) (p : Int), me2F kn (0, p) (List.replicate f (.put v)) = (0, p + f)
  | 0, p => by show (0, p) = _; simp
  | f + 1, p => by
    show me2F kn (mx 0 0, p + 1) (List.replicate f (.put v)) = _
    rw [show mx 0 0 = 0 from rfl, me2_puts f]
    congr 1
    push_cast
    omega
theorem rep_ok {w : Int} {c : Cd} (h : okC w c = true) : ∀ n, okCs w (List.replicate n c) = true
  | 0 => rfl
  | n + 1 => Bool.and_eq_true_iff.mpr ⟨h, rep_ok h n⟩
theorem rep_dep {c : Cd} {d : Nat} (h : dC c ≤ d) : ∀ n, dCs (List.replicate n c) ≤ d
  | 0 => Nat.zero_le _
  | n + 1 => by
    have := rep_dep h n
    show max (dC c) (dCs (List.replicate n c)) ≤ d
    omega
theorem rep_siz {c : Cd} (h : sz c = 1) : ∀ n, szs (List.replicate n c) = n
  | 0 => rfl
  | n + 1 => by
    show sz c + szs (List.replicate n c) = n + 1
    rw [rep_siz h n, h]; omega
theorem rep_names {u : Bool} {z y : Str} {n : Nat} (h : y ∈ namesB (List.replicate n (.ref u z))) : y = z := by
  obtain ⟨c, h1, h2⟩ := mem_names.mp h
  rw [List.eq_of_mem_replicate h1] at h2
  exact List.mem_singleton.mp h2
theorem puts_names {v : Int} {n : Nat} : namesB (List.replicate n (.put v)) = [] := List.eq_nil_iff_forall_not_mem.mpr fun y h => by
  obtain ⟨c, h1, h2⟩ := mem_names.mp h
  rw [List.eq_of_mem_replicate h1] at h2
  cases h2
theorem rep_names2 {t : Int} {b : List Cd} {y : Str} (h : y ∈ namesB [.rep t b]) : y ∈ namesB b := by
  obtain ⟨c, h1, h2⟩ := mem_names.mp h
  rw [List.mem_singleton.mp h1] at h2
  exact h2
theorem Ch.one {t : Int} {f : Nat} (t1 : 1 ≤ t) (t2 : t ≤ 10 ^ 30) (f1 : 1 ≤ f) (f2 : f ≤ 12) : Ch [[.rep t (List.replicate f (.put 5))]] [(1, f)] where
  len := rfl
  pos := Nat.le_refl _
  le5 := Nat.le_of_ble_eq_true rfl
  ent := fun i c m h1 h2 => by
    cases i with
    | succ i => cases h1
    | zero =>
      cases h1; cases h2
      refine ⟨?_, ?_, ?_, by show (0 : Int) ≤ 1; omega, by show (1 : Int) ≤ 6; omega, by show (f : Int) ≤ 60; omega, by show (0 : Int) ≤ f; omega, .inl ⟨?_, fun kn => ?_⟩⟩
      · show ((bdB 1000000000000000000000000000000 t && okCs 1 (List.replicate f (.put 5))) && true) = true
        rw [rep_ok (by decide), show bdB 1000000000000000000000000000000 t = true from Bool.and_eq_true_iff.mpr ⟨decide_eq_true (by omega), decide_eq_true (by omega)⟩]
        rfl
      · show max (dCs (List.replicate f (.put 5)) + 1) 0 ≤ 2
        have := rep_dep (c := .put 5) (d := 0) (Nat.le_refl _) f
        omega
      · show (szs (List.replicate f (.put 5)) + 1) + 0 ≤ 60
        rw [rep_siz rfl]; omega
      · exact List.eq_nil_iff_forall_not_mem.mpr fun y h => by
          have := rep_names2 h
          rw [puts_names] at this
          cases this
      · show (mx 0 ((me2F kn (0, 0) (List.replicate f (.put 5))).1 + 1), 0 + (me2F kn (0, 0) (List.replicate f (.put 5))).2) = _
        rw [me2_puts]
        show (mx 0 (0 + 1), (0 : Int) + (0 + (f : Int))) = _
        rw [show mx 0 (0 + 1) = 1 from rfl]
        congr 1
        omega
/-- the link's block -/
def linkB (u : Bool) (z : Str) (t : Nat) (more : Bool) : List Cd := if more then [.rep (-7) (List.replicate t (.ref u z))] else List.replicate t (.ref u z)
theorem ref_ok {w : Int} {u : Bool} {z : Str} {n : Nat} (hz : z ∈ nm5.take n) : okC w (.ref u z) = true := by
  show (nameD z && Nat.ble z.length 4096 && PyData.strOk z) = true
  rcases in5 hz with rfl | rfl | rfl | rfl | rfl <;> decide +kernel
theorem Ch.more (h : Ch bs ms) (hl : bs.length < 5) {m : M2} {z : Str} (hm : ms[bs.length - 1]? = some m) (hz : nm5[bs.length - 1]? = some z) {u : Bool} {t : Nat} {mo : Bool} (t1 : 1 ≤ t) (t5 : t ≤ 5) (h1 : m.2 * t ≤ 60) (h2 : m.1 + (if mo then 1 else 0) ≤ 6) :
    Ch (bs ++ [linkB u z t mo]) (ms ++ [(m.1 + (if mo then 1 else 0), m.2 * t)]) where
  len := by rw [List.length_append, List.length_append, h.len]; rfl
  pos := by rw [List.length_append]; exact Nat.le_add_left _ _
  le5 := by rw [List.length_append, List.length_singleton]; omega
  ent := fun i c m' g1 g2 => by
    have hp := h.pos
    by_cases hi : i < bs.length
    · rw [List.getElem?_append_left hi] at g1
      rw [List.getElem?_append_left (by rw [← h.len]; exact hi)] at g2
      have e := h.ent i c m' g1 g2
      refine ⟨e.ok, e.dep, e.siz, e.l0, e.l1, e.l2, e.l3, ?_⟩
      rcases e.me with q | ⟨j, mj, zj, e1, e2, e3⟩
      · exact .inl q
      · refine .inr ⟨j, mj, zj, e1, ?_, e3⟩
        rw [List.getElem?_append_left (List.getElem?_eq_some_iff.mp e2).1]
        exact e2
    · have hi2 : i = bs.length := by
        have := (List.getElem?_eq_some_iff.mp g1).1
        rw [List.length_append, List.length_singleton] at this
        omega
      rw [List.getElem?_append_right (by omega), hi2, Nat.sub_self] at g1
      rw [List.getElem?_append_right (by rw [← h.len]; omega), hi2, ← h.len, Nat.sub_self] at g2
      cases g1; cases g2
      have e := h.ent _ _ _ (List.getElem?_eq_getElem (show bs.length - 1 < bs.length by omega)) hm
      have zin : z ∈ nm5.take 5 := List.mem_of_getElem? hz
      obtain ⟨t', rfl⟩ : ∃ t', t = t' + 1 := ⟨t - 1, by omega⟩
      have hmx : mx 0 m.1 = m.1 := by
        unfold mx
        have := e.l0
        by_cases q : m.1 > 0
        · rw [if_pos q]
        · rw [if_neg q]; omega
      have nn : 0 ≤ m.2 * ((t' + 1 : Nat) : Int) := Int.mul_nonneg e.l3 (by omega)
      have m0 : 0 ≤ m.1 + 1 := by have := e.l0; omega
      cases mo with
      | true =>
        refine ⟨?_, ?_, ?_, by show 0 ≤ m.1 + 1; exact m0, h2, h1, nn, .inr ⟨bs.length - 1, m, z, by omega, ?_, hz, fun y hy => rep_names (rep_names2 hy), fun kn hk => ?_⟩⟩
        · show ((bdB 1000000000000000000000000000000 (-7) && okCs 1 (List.replicate (t' + 1) (.ref u z))) && true) = true
          rw [rep_ok (ref_ok zin)]; rfl
        · show max (dCs (List.replicate (t' + 1) (.ref u z)) + 1) 0 ≤ 2
          have := rep_dep (c := .ref u z) (d := 0) (Nat.le_refl _) (t' + 1)
          omega
        · show (szs (List.replicate (t' + 1) (.ref u z)) + 1) + 0 ≤ 60
          rw [rep_siz rfl]; omega
        · rw [List.getElem?_append_left (List.getElem?_eq_some_iff.mp hm).1]; exact hm
        · show (mx 0 ((me2F kn (0, 0) (List.replicate (t' + 1) (.ref u z))).1 + 1), 0 + (me2F kn (0, 0) (List.replicate (t' + 1) (.ref u z))).2) = (m.1 + 1, _)
          rw [me2_refs, hk]
          show (mx 0 (mx 0 m.1 + 1), 0 + (0 + ((t' + 1 : Nat) : Int) * m.2)) = _
          rw [hmx, show mx 0 (m.1 + 1) = m.1 + 1 by
            unfold mx
            by_cases q : m.1 + 1 > 0
            · rw [if_pos q]
            · rw [if_neg q]; omega, Int.mul_comm]
          congr 1
          omega
      | false =>
        refine ⟨?_, ?_, ?_, by show 0 ≤ m.1 + 0; have := e.l0; omega, h2, h1, nn, .inr ⟨bs.length - 1, m, z, by omega, ?_, hz, fun y hy => rep_names hy, fun kn hk => ?_⟩⟩
        · exact rep_ok (ref_ok zin) _
        · have := rep_dep (c := .ref u z) (d := 0) (Nat.le_refl _) (t' + 1)
          show dCs (List.replicate (t' + 1) (.ref u z)) ≤ 2
          omega
        · show szs (List.replicate (t' + 1) (.ref u z)) ≤ 60
          rw [rep_siz rfl]; omega
        · rw [List.getElem?_append_left (List.getElem?_eq_some_iff.mp hm).1]; exact hm
        · show me2F kn (0, 0) (List.replicate (t' + 1) (.ref u z)) = (m.1 + 0, _)
          rw [me2_refs, hk, hmx, Int.mul_comm]
          congr 1 <;> omega
end
/-! ### the block that is asked about -/
def nestC : Nat → List Cd → List Cd
  | 0, cs => cs
  | j + 1, cs => [.rep 0 (nestC j cs)]
theorem nest_ok {w : Int} {cs : List Cd} (h : okCs w cs = true) : ∀ j, okCs w (nestC j cs) = true
  | 0 => h
  | j + 1 => by
    show ((bdB 1000000000000000000000000000000 0 && okCs w (nestC j cs)) && true) = true
    rw [nest_ok h j]; rfl
theorem nest_dep {cs : List Cd} (h : dCs cs = 0) : ∀ j, dCs (nestC j cs) = j
  | 0 => h
  | j + 1 => by
    show max (dCs (nestC j cs) + 1) 0 = j + 1
    rw [nest_dep h j]; omega
theorem nest_siz {cs : List Cd} : ∀ j, szs (nestC j cs) = szs cs + j
  | 0 => rfl
  | j + 1 => by
    show (szs (nestC j cs) + 1) + 0 = szs cs + (j + 1)
    rw [nest_siz j]; omega
theorem nest_names {cs : List Cd} {y : Str} : ∀ {j : Nat}, y ∈ namesB (nestC j cs) → y ∈ namesB cs
  | 0, h => h
  | j + 1, h => nest_names (j := j) (rep_names2 h)
theorem nest_me {kn : Str → M2} {cs : List Cd} (h0 : 0 ≤ (me2B kn cs).1) : ∀ j : Nat, me2B kn (nestC j cs) = ((me2B kn cs).1 + j, (me2B kn cs).2)
  | 0 => by show me2B kn cs = _; simp
  | j + 1 => by
    show (mx 0 ((me2B kn (nestC j cs)).1 + 1), 0 + (me2B kn (nestC j cs)).2) = _
    rw [nest_me h0 j]
    show (mx 0 ((me2B kn cs).1 + j + 1), 0 + (me2B kn cs).2) = _
    have e : mx 0 ((me2B kn cs).1 + j + 1) = (me2B kn cs).1 + ((j + 1 : Nat) : Int) := by
      unfold mx
      rw [if_pos (by omega)]
      omega
    rw [e, Int.zero_add]
theorem sort5 : ∀ n : Nat, sortS (nm5.take n) = nm5.take n
  | 0 => by decide +kernel
  | 1 => by decide +kernel
  | 2 => by decide +kernel
  | 3 => by decide +kernel
  | 4 => by decide +kernel
  | n + 5 => by
    rw [List.take_of_length_le (by show 5 ≤ n + 5; omega)]
    decide +kernel
theorem Ch.made {bs : List (List Cd)} {ms : List M2} (h : Ch bs ms) : ∃ kk : List Str, (∀ z, z ∈ kk ↔ z ∈ nm5.take bs.length) ∧ m_Parts___init__ [.int 1, .dct (nm5.take bs.length) (bs.map fun c => DL.tB c)] = .ok (partsD 1 (nm5.take bs.length) (bsF bs) kk (knF ms)) := by
  have h5 := h.le5
  have hlen : (nm5.take bs.length).length = bs.length := by rw [List.length_take]; show min _ 5 = _; omega
  refine parts_made h.good rfl ?_ fun z hz => ?_
  · show (match Nat.blt (nm5.take bs.length).length 64 with | true => some (lS (sortS (nm5.take bs.length))) | false => none) = _
    rw [show Nat.blt (nm5.take bs.length).length 64 = true from Nat.ble_eq_true_of_le (by rw [hlen]; omega), sort5]
  · obtain ⟨i, c, m, h1, h2, h3, h4, h5, hi⟩ := h.at hz
    show getL (nm5.take bs.length) (bs.map fun c => DL.tB c) z = _
    rw [getL_at (j := i) (nd5.sublist (List.take_sublist _ _)) (by rw [List.getElem?_take, if_pos hi]; exact h1), List.getElem?_map, h2, h4]
    rfl
/-- what the last part's name, done so often within loops, comes to -/
theorem Ch.asked {bs : List (List Cd)} {ms : List M2} (h : Ch bs ms) {m : M2} {z : Str} (hm : ms[bs.length - 1]? = some m) (hz : nm5[bs.length - 1]? = some z) (t j : Nat) (t1 : 1 ≤ t) (hj : j ≤ 20) :
    okCs 1 (nestC j (List.replicate t (.ref false z))) = true ∧ dCs (nestC j (List.replicate t (.ref false z))) = j ∧ szs (nestC j (List.replicate t (.ref false z))) = t + j ∧ (∀ y, y ∈ namesB (nestC j (List.replicate t (.ref false z))) → y ∈ nm5.take bs.length) ∧
      me2B (knF ms) (nestC j (List.replicate t (.ref false z))) = (m.1 + j, m.2 * t) := by
  have hp := h.pos
  have e := h.ent _ _ _ (List.getElem?_eq_getElem (show bs.length - 1 < bs.length by omega)) hm
  have zin : z ∈ nm5.take bs.length := List.mem_of_getElem? (i := bs.length - 1) (by rw [List.getElem?_take, if_pos (by omega)]; exact hz)
  obtain ⟨t', rfl⟩ : ∃ t', t = t' + 1 := ⟨t - 1, by omega⟩
  have hk : knF ms z = m := by unfold knF; rw [getL_at nd5 hz, hm]; rfl
  have hmx : mx 0 m.1 = m.1 := by
    unfold mx
    have := e.l0
    by_cases q : m.1 > 0
    · rw [if_pos q]
    · rw [if_neg q]; omega
  have e2 : me2B (knF ms) (List.replicate (t' + 1) (.ref false z)) = (m.1, m.2 * ((t' + 1 : Nat) : Int)) := by
    show me2F (knF ms) (0, 0) _ = _
    rw [me2_refs, hk, hmx, Int.mul_comm, Int.zero_add]
  refine ⟨nest_ok (rep_ok (ref_ok zin) _) _, nest_dep (Nat.le_zero.mp (rep_dep (c := .ref false z) (d := 0) (Nat.le_refl _) _)) _, ?_, fun y hy => ?_, ?_⟩
  · rw [nest_siz, rep_siz rfl]
  · rw [rep_names (nest_names hy)]; exact zin
  · rw [nest_me (by rw [e2]; exact e.l0), e2]
/-- the answer of check -/
theorem Ch.check {bs : List (List Cd)} {ms : List M2} (h : Ch bs ms) {m : M2} {z : Str} (hm : ms[bs.length - 1]? = some m) (hz : nm5[bs.length - 1]? = some z) {kk : List Str} (hkk : ∀ z, z ∈ kk ↔ z ∈ nm5.take bs.length) (t j : Nat) (t1 : 1 ≤ t) (hj : j ≤ 20) :
    (60 < t + j → m_Parts_check [partsD 1 (nm5.take bs.length) (bsF bs) kk (knF ms), tB (nestC j (List.replicate t (.ref false z)))] = .exc "TooLong" [("tag", .str "TooLong"), ("limit", .int 60)]) ∧
    (¬ 60 < t + j → m_Parts_check [partsD 1 (nm5.take bs.length) (bsF bs) kk (knF ms), tB (nestC j (List.replicate t (.ref false z)))] = limE (m.1 + j, m.2 * t) ∧
      m_Parts_depth [partsD 1 (nm5.take bs.length) (bsF bs) kk (knF ms), tB (nestC j (List.replicate t (.ref false z)))] = .ok (.int (m.1 + j)) ∧
      m_Parts_puts [partsD 1 (nm5.take bs.length) (bsF bs) kk (knF ms), tB (nestC j (List.replicate t (.ref false z)))] = .ok (.int (m.2 * t))) := by
  obtain ⟨a1, a2, a3, a4, a5⟩ := h.asked hm hz t j t1 hj
  refine ⟨fun hl => check_exc (measure_long a1 (by omega) (by omega)), fun hl => ?_⟩
  have q := measure_ok (w := 1) (b := bsF bs) (kn := knF ms) (fun z hz => (hkk z).mpr hz) a4 a1 (by omega) (by omega)
  rw [a5] at q
  exact ⟨check_ok q, depth_ok q, puts_ok q⟩
end K10

namespace K10
open PySem PySem.Spec PyProof.Rows L2 DL _root_.DM _root_.DP
local macro_rules | `(tactic| walk_at "w") => `(tactic| try conv => whnf)
local macro_rules | `(tactic| walk_at "n") => `(tactic| try dsimp only [List.set_cons_zero, List.set_cons_succ, List.cons_append, List.nil_append])
theorem rep_D {c : Cd} : ∀ n : Nat, (List.replicate n [toD c]).flatten = toDs (List.replicate n c)
  | 0 => rfl
  | n + 1 => by
    show toD c :: (List.replicate n [toD c]).flatten = toD c :: toDs (List.replicate n c)
    rw [rep_D n]
theorem at5 : ∀ n : Nat, n ≤ 4 → ∃ c, atI ("abcde" : Str).cps.toList (n : Int) = some c ∧ nm5[n]? = some ⟨#[c]⟩
  | 0, _ => ⟨97, by decide +kernel, by decide +kernel⟩
  | 1, _ => ⟨98, by decide +kernel, by decide +kernel⟩
  | 2, _ => ⟨99, by decide +kernel, by decide +kernel⟩
  | 3, _ => ⟨100, by decide +kernel, by decide +kernel⟩
  | 4, _ => ⟨101, by decide +kernel, by decide +kernel⟩
  | n + 5, h => by omega
theorem put5 {n : Nat} {z : Str} (h : nm5[n]? = some z) : putKs (nm5.take n) z = nm5.take (n + 1) ∧ ∀ (xs : List D) (d : D), putXs (nm5.take n) xs z d = xs ++ [d] := by
  have hz : z ∉ nm5.take n := fun hm => by
    obtain ⟨i, hi⟩ := List.mem_iff_getElem?.mp hm
    rw [List.getElem?_take] at hi
    split at hi
    · have := (idx5 hi).symm.trans (idx5 h)
      omega
    · cases hi
  refine ⟨?_, fun xs d => ?_⟩
  · unfold putKs
    rw [if_neg hz, List.take_succ, h]
    rfl
  · unfold putXs
    rw [if_neg hz]
theorem box_upd {M : MH} {a b : Addr} (h : BoxAt M a) (hba : b ≠ a) (o : MO) : BoxAt (mupd M b o) a := by
  obtain ⟨cs, i, s, m, q, q2⟩ := h
  exact ⟨cs, i, s, m, by rw [mupd_ne (fun e => hba e.symm)]; exact q, q2⟩
theorem last_ms {ms : List M2} {m : M2} {n : Nat} (h : n = ms.length) : (ms ++ [m])[n + 1 - 1]? = some m := by
  rw [Nat.add_sub_cancel, h, List.getElem?_append_right (Nat.le_refl _), Nat.sub_self]
  rfl
theorem two_at {z : Str} {v : Int} (h0 : 0 ≤ v) (h1 : v < 2) : ∃ u : Bool, atI [D.tup [.str "do", .str z], .tup [.str "undo", .str z]] v = some (toD (.ref u z)) := by
  have : v = 0 ∨ v = 1 := by omega
  rcases this with rfl | rfl
  · exact ⟨false, rfl⟩
  · exact ⟨true, rfl⟩
local macro_rules | `(tactic| walk_at "r") => `(tactic| conv => lhs; whnf)
theorem same_int (n : Nat) (i j : Int) : m__law_same (n + 1) [.int i, .int j] = .ok (.bl (decide (i = j))) := by
  rw [m__law_same_s]
  walk_at "r"
  rw [law_whole_d (.int i) rfl]
  rfl
theorem same_two (i j : Int) : m__law_same 24 [.lst [.int i, .int j], .lst [.int i, .int j]] = .ok (.bl true) := by
  rw [m__law_same_s]
  walk_at "r"
  show compM _ _ _ _ [D.tup [.int i, .int i], .tup [.int j, .int j]] _ = _
  rw [comp_cons]
  walk_at "r"
  rw [same_int 22, decide_eq_true rfl]
  walk_at "r"
  rw [comp_cons]
  walk_at "r"
  rw [same_int 22, decide_eq_true rfl]
  walk_at "r"
  rw [comp_nil]
  rfl
theorem hw_law (PT : Addr) (ds : List D) (M : MH) (k : KD) (x : KE) (hl : ds.length = 1) (h : sp_lawT PT lamN ds M k x) : w_law PT (startD N_law ds) M (retE k x) := by
  obtain ⟨cells, rfl, hl, rfl, hk⟩ := h
  walk_at "w"
  refine ⟨_, rfl, hl, fun a M1 ha hB hO => ?_⟩
  have hPa : PT ≠ a := fun e => by
    subst e
    have : tabM PT lamN PT = some (.tab lamN) := by unfold tabM; rw [if_pos rfl]
    rw [this] at ha
    cases ha
  have hT1 : M1 PT = some (.tab lamN) := by
    rw [hO PT hPa]
    unfold tabM; rw [if_pos rfl]
  have hT : ∀ {M2 M3 : MH}, M2 PT = some (.tab lamN) → DL.Off a M2 M3 → M3 PT = some (.tab lamN) := fun h ho => by rw [ho PT hPa]; exact h
  walk_at "w"
  refine ⟨by decide, by decide, ?_⟩
  refine forD_inv (fun ds ρ M' => BoxAt M' a ∧ M' PT = some (.tab lamN) ∧ ∃ o2 o3 o4 o5 o6 o7 o8 o9 o10 o11 o12 o13 o14 o15, ρ = [some (.scr cells), some (.ref a), o2, o3, o4, o5, o6, o7, o8, o9, o10, o11, o12, o13, o14, o15]) (fun _ _ _ _ => trivial) (fun ρ M' hI => ?_) (fun d r ρ M' nx hI hn => ?_) _ _ _ ⟨hB, hT1, _, _, _, _, _, _, _, _, _, _, _, _, _, _, rfl⟩
  · obtain ⟨hB1, hT2, o2, o3, o4, o5, o6, o7, o8, o9, o10, o11, o12, o13, o14, o15, rfl⟩ := hI
    walk_at "w"
    exact ⟨_, Sub.refl _, .inl (hk M')⟩
  obtain ⟨hB1, hT2, o2, o3, o4, o5, o6, o7, o8, o9, o10, o11, o12, o13, o14, o15, rfl⟩ := hI
  walk_at "w"
  refine ⟨_, _, rfl, by decide, by decide, hB1, fun v M2 v0 v1 hB2 hO2 => ?_⟩
  have hT3 := hT hT2 hO2
  walk_at "w"
  refine ⟨_, rfl, hB2, fun t M3 t1 t2 hB3 hO3 => ?_⟩
  have hT4 := hT hT3 hO3
  walk_at "w"
  obtain ⟨f, hf⟩ : ∃ f : Nat, 1 + v = f := ⟨(1 + v).toNat, by omega⟩
  rw [hf]
  walk_at "n"
  refine ⟨⟨by omega, by omega, by decide⟩, ?_⟩
  rw [show (List.replicate (Int.toNat (f : Int)) [D.tup [D.str "put", D.int 5]]).flatten = toDs (List.replicate f (.put 5)) from rep_D (c := .put 5) f]
  walk_at "w"
  intro b hb
  walk_at "w"
  have hba : b ≠ a := fun e => by
    obtain ⟨_, _, _, _, q, _⟩ := hB3
    rw [e, q] at hb
    cases hb
  have hbP : b ≠ PT := fun e => by rw [e, hT4] at hb; cases hb
  refine ⟨by decide, by decide, ?_⟩
  refine forD_inv (fun ds ρ M' => ∃ bs ms m, Ch bs ms ∧ ms[bs.length - 1]? = some m ∧ bs.length + ds.length ≤ 5 ∧ M' b = some (.dct (nm5.take bs.length) (bs.map fun c => DL.tB c)) ∧ BoxAt M' a ∧ M' PT = some (.tab lamN) ∧ ∃ o5 o6 o7 o8 o9 o12 o13 o14 o15, ρ = [some (.scr cells), some (.ref a), some d, some (.int f), some (.ref b), o5, o6, o7, o8, o9, some (.int m.2), some (.int m.1), o12, o13, o14, o15]) (fun _ _ _ _ => trivial) (fun ρ M' hI => ?_) (fun d2 r2 ρ M' nx2 hI hn2 => ?_) _ _ _ ⟨_, _, _, Ch.one t1 t2 (by omega) (by omega), rfl, Nat.le_of_ble_eq_true rfl, mupd_same, ?_, ?_, _, _, _, _, _, _, _, _, _, rfl⟩
  rotate_left
  · obtain ⟨bs, ms, m, hc, hm, hle, hD, hB4, hT5, o5, o6, o7, o8, o9, o12, o13, o14, o15, rfl⟩ := hI
    walk_at "w"
    refine ⟨_, _, _, rfl, rfl, by decide, by decide, hB4, fun tv M4 htv hB5 hO4 => ?_⟩
    walk_at "w"
    have hT6 := hT hT5 hO4
    have hD5 : M4 b = some (.dct (nm5.take bs.length) (bs.map fun c => DL.tB c)) := by rw [hO4 b hba]; exact hD
    refine ⟨_, _, rfl, by decide, by decide, hB5, fun mv M5 m0 m1 hB6 hO5 => ?_⟩
    have hT7 := hT hT6 hO5
    have hD6 : M5 b = some (.dct (nm5.take bs.length) (bs.map fun c => DL.tB c)) := by rw [hO5 b hba]; exact hD5
    obtain ⟨t, rfl, ht1, ht5⟩ : ∃ t : Nat, tv = .int t ∧ 1 ≤ t ∧ t ≤ 5 := by
      have htv : tv = .int 1 ∨ tv = .int 1 ∨ tv = .int 2 ∨ tv = .int 3 ∨ tv = .int 5 := by simpa using htv
      rcases htv with rfl | rfl | rfl | rfl | rfl
      · exact ⟨1, rfl, by decide, by decide⟩
      · exact ⟨1, rfl, by decide, by decide⟩
      · exact ⟨2, rfl, by decide, by decide⟩
      · exact ⟨3, rfl, by decide, by decide⟩
      · exact ⟨5, rfl, by decide, by decide⟩
    have hp := hc.pos
    have hent := hc.ent _ _ _ (List.getElem?_eq_getElem (show bs.length - 1 < bs.length by omega)) hm
    obtain ⟨e0, e1, e2, e3⟩ := And.intro hent.l0 (And.intro hent.l1 (And.intro hent.l2 hent.l3))
    walk_at "w"
    walk_at "n"
    refine ⟨CMul.ok (.inl ⟨by omega, by omega⟩), ?_⟩
    walk_at "w"
    by_cases h1 : m.2 * t ≤ 60
    rotate_left
    · rw [decide_eq_false h1]
      walk_at "w"
      exact hn2 _ _ ⟨bs, ms, m, hc, hm, by simp only [List.length_cons] at hle; omega, hD6, hB6, hT7, _, _, _, _, _, _, _, _, _, rfl⟩
    rw [decide_eq_true h1]
    walk_at "w"
    by_cases h2 : m.1 + mv ≤ 6
    rotate_left
    · rw [decide_eq_false h2]
      walk_at "w"
      exact hn2 _ _ ⟨bs, ms, m, hc, hm, by simp only [List.length_cons] at hle; omega, hD6, hB6, hT7, _, _, _, _, _, _, _, _, _, rfl⟩
    rw [decide_eq_true h2]
    walk_at "w"
    walk_at "n"
    have eD : ∀ {M : MH}, M b = some (.dct (nm5.take bs.length) (bs.map fun c => DL.tB c)) → ctD (.ref b) M = some (.dc (nm5.take bs.length) (bs.map fun c => DL.tB c)) := fun {M} h => by
      show (match M b with | some m => ctO m | none => none) = _
      rw [h]
      rfl
    rw [eD hD6]
    have hlen : (nm5.take bs.length).length = bs.length := by rw [List.length_take]; show min _ 5 = _; omega
    have hle4 : bs.length + (r2.length + 1) ≤ 5 := hle
    obtain ⟨cl, a1, a2⟩ := at5 (bs.length - 1) (by omega)
    obtain ⟨cn, a3, a4⟩ := at5 bs.length (by omega)
    walk_at "w"
    refine ⟨by decide +kernel, ?_⟩
    rw [hlen, show ((bs.length : Nat) : Int) - 1 = ((bs.length - 1 : Nat) : Int) by omega, a1]
    walk_at "w"
    refine ⟨_, _, rfl, by decide, by decide, hB6, fun uv M6 u0 u1 hB7 hO6 => ?_⟩
    have hT8 := hT hT7 hO6
    have hD7 : M6 b = some (.dct (nm5.take bs.length) (bs.map fun c => DL.tB c)) := by rw [hO6 b hba]; exact hD6
    obtain ⟨u, hu⟩ := two_at (z := ⟨#[cl]⟩) u0 u1
    walk_at "w"
    walk_at "n"
    rw [hu]
    walk_at "w"
    walk_at "n"
    refine ⟨⟨by omega, by omega, Nat.le_of_ble_eq_true rfl⟩, ?_⟩
    rw [show (List.replicate (Int.toNat (t : Int)) [toD (.ref u ⟨#[cl]⟩)]).flatten = toDs (List.replicate t (.ref u ⟨#[cl]⟩)) from rep_D t]
    walk_at "w"
    have hmv : mv = 1 ∨ mv = 0 := by omega
    rcases hmv with rfl | rfl
    · rw [show decide ((1 : Int) = 1) = true from rfl]
      walk_at "w"
      rw [eD hD7]
      walk_at "w"
      refine ⟨by decide +kernel, ?_⟩
      rw [hlen, a3]
      walk_at "w"
      refine ⟨b, _, _, rfl, hD7, by rw [List.length_map]; omega, ?_⟩
      walk_at "w"
      refine ⟨CMul.ok (.inl ⟨by omega, by omega⟩), ?_⟩
      walk_at "w"
      walk_at "n"
      obtain ⟨p1, p2⟩ := put5 a4
      rw [p1, p2]
      have hc2 := hc.more (by omega) hm a2 (u := u) (t := t) (mo := true) ht1 ht5 h1 h2
      refine hn2 _ _ ⟨_, _, (m.1 + 1, m.2 * t), hc2, ?_, ?_, ?_, box_upd hB7 hba _, ?_, _, _, _, _, _, _, _, _, _, rfl⟩
      · rw [List.length_append]; exact last_ms hc.len
      · rw [List.length_append]; show bs.length + 1 + r2.length ≤ 5; omega
      · rw [List.length_append, mupd_same, List.map_append]; rfl
      · rw [mupd_ne (fun e => hbP e.symm)]; exact hT8
    · rw [show decide ((0 : Int) = 1) = false from rfl]
      walk_at "w"
      rw [eD hD7]
      walk_at "w"
      refine ⟨by decide +kernel, ?_⟩
      rw [hlen, a3]
      walk_at "w"
      refine ⟨b, _, _, rfl, hD7, by rw [List.length_map]; omega, ?_⟩
      walk_at "w"
      refine ⟨CMul.ok (.inl ⟨by omega, by omega⟩), ?_⟩
      walk_at "w"
      walk_at "n"
      obtain ⟨p1, p2⟩ := put5 a4
      rw [p1, p2]
      have hc2 := hc.more (by omega) hm a2 (u := u) (t := t) (mo := false) ht1 ht5 h1 h2
      refine hn2 _ _ ⟨_, _, (m.1 + 0, m.2 * t), hc2, ?_, ?_, ?_, box_upd hB7 hba _, ?_, _, _, _, _, _, _, _, _, _, rfl⟩
      · rw [List.length_append]; exact last_ms hc.len
      · rw [List.length_append]; show bs.length + 1 + r2.length ≤ 5; omega
      · rw [List.length_append, mupd_same, List.map_append]; rfl
      · rw [mupd_ne (fun e => hbP e.symm)]; exact hT8
  · obtain ⟨cs, i, s, m, q, q2⟩ := hB3
    exact ⟨cs, i, s, m, by rw [mupd_ne (fun e => hba e.symm)]; exact q, q2⟩
  · rw [mupd_ne (fun e => hbP e.symm)]; exact hT4
  obtain ⟨bs, ms, m, hc, hm, hle, hD, hB4, hT5, o5, o6, o7, o8, o9, o12, o13, o14, o15, rfl⟩ := hI
  walk_at "w"
  obtain ⟨kk, hkk, hmade⟩ := hc.made
  refine ⟨b, _, _, rfl, hD, rfl, ?_⟩
  walk_at "w"
  walk_at "n"
  rw [hmade]
  walk_at "w"
  walk_at "n"
  have hp := hc.pos
  have h5 := hc.le5
  have hent := hc.ent _ _ _ (List.getElem?_eq_getElem (show bs.length - 1 < bs.length by omega)) hm
  obtain ⟨e0, e1, e2, e3⟩ := And.intro hent.l0 (And.intro hent.l1 (And.intro hent.l2 hent.l3))
  have hlen : (nm5.take bs.length).length = bs.length := by rw [List.length_take]; show min _ 5 = _; omega
  obtain ⟨cl, a1, a2⟩ := at5 (bs.length - 1) (by omega)
  refine ⟨by decide +kernel, ?_⟩
  rw [hlen, show ((bs.length : Nat) : Int) - 1 = ((bs.length - 1 : Nat) : Int) by omega, a1]
  walk_at "w"
  have hB5 : BoxAt (mdel M' b) a := by
    obtain ⟨cs, i, s, m, q, q2⟩ := hB4
    exact ⟨cs, i, s, m, by rw [mdel_ne (fun e => hba e.symm)]; exact q, q2⟩
  have hT6 : mdel M' b PT = some (.tab lamN) := by rw [mdel_ne (fun e => hbP e.symm)]; exact hT5
  refine ⟨_, _, rfl, by decide, by decide, hB5, fun tv M4 t0 t1' hB6 hO6 => ?_⟩
  have hT7 := hT hT6 hO6
  walk_at "w"
  refine ⟨_, _, rfl, by decide, by decide, hB6, fun jv M5 j0 j1 hB7 hO7 => ?_⟩
  have hT8 := hT hT7 hO7
  obtain ⟨tt, htt⟩ : ∃ tt : Nat, 1 + tv = tt := ⟨(1 + tv).toNat, by omega⟩
  obtain ⟨jj, rfl⟩ : ∃ jj : Nat, jv = jj := ⟨jv.toNat, by omega⟩
  rw [htt]
  walk_at "w"
  walk_at "n"
  refine ⟨⟨by omega, by omega, Nat.le_of_ble_eq_true rfl⟩, ?_⟩
  rw [show (List.replicate (Int.toNat (tt : Int)) [D.tup [.str "do", .str ⟨#[cl]⟩]]).flatten = toDs (List.replicate tt (.ref false ⟨#[cl]⟩)) from rep_D (c := .ref false ⟨#[cl]⟩) tt]
  walk_at "w"
  refine ⟨by omega, by omega, ?_⟩
  refine forD_inv (fun ds ρ M' => ∃ j o5, j + ds.length = jj ∧ M' = M5 ∧ ρ = [some (.scr cells), some (.ref a), some d, some (.int f), some (.dct (nm5.take bs.length) (bs.map fun c => DL.tB c)), o5, some (partsD 1 (nm5.take bs.length) (bsF bs) kk (knF ms)), some (.str ⟨#[cl]⟩), some (DL.tB (nestC j (List.replicate tt (.ref false ⟨#[cl]⟩)))), o9, some (.int m.2), some (.int m.1), some (.int tt), some (.int jj), o14, o15]) (fun _ _ _ _ => trivial) (fun ρ M' hI => ?_) (fun d2 r2 ρ M' nx2 hI hn2 => ?_) _ _ _ ⟨0, _, ?_, rfl, rfl⟩
  rotate_left
  · obtain ⟨j, o5, hj, rfl, rfl⟩ := hI
    walk_at "w"
    exact hn2 _ _ ⟨j + 1, _, by simp only [List.length_cons] at hj; omega, rfl, rfl⟩
  · show 0 + (DL.intsFrom 0 (Int.toNat (jj : Int))).length = jj
    rw [intsFrom_len]; omega
  obtain ⟨j, o5, hj, rfl, rfl⟩ := hI
  have hj : j = jj := hj
  subst hj
  walk_at "w"
  obtain ⟨q1, q2⟩ := hc.check hm a2 hkk tt j (by omega) (by omega)
  have same : m__law_same 24 [.lst [.int (m.1 + j), .int (m.2 * tt)], .lst [.int (m.1 + j), .int (m.2 * tt)]] = .ok (.bl true) := same_two _ _
  by_cases hz : 60 < tt + j
  · have q1 := q1 hz
    unfold partsD at q1 ⊢
    rw [show decide ((60 : Int) < tt + j) = true from decide_eq_true (by omega)]
    walk_at "w"
    walk_at "n"
    refine ⟨hT8, ?_⟩
    walk_at "w"
    rw [q1]
    walk_at "w"
    refine ⟨some "limit", .str "TooLong", .int 60, by kernel_rfl, by decide +kernel, rfl, rfl, ?_⟩
    walk_at "w"
    refine rNeP_lays (by decide +kernel) (by decide +kernel) ?_
    rw [show eqD (.tup [.str "TooLong", .int 60]) (.tup [.str "TooLong", .int 60]) = true by decide +kernel]
    walk_at "w"
    walk_at "n"
    rw [show decide ((tt : Int) + j ≤ 60) = false from decide_eq_false (by omega)]
    walk_at "w"
    refine ⟨CMul.ok (.inr ⟨by omega, by omega⟩), ?_⟩
    walk_at "w"
    walk_at "n"
    refine ⟨CMul.ok (.inr ⟨by omega, by omega⟩), ?_⟩
    walk_at "w"
    rw [same]
    walk_at "w"
    exact hn _ _ ⟨hB7, hT8, _, _, _, _, _, _, _, _, _, _, _, _, _, _, rfl⟩
  · obtain ⟨q2, q3, q4⟩ := q2 hz
    unfold partsD at q2 q3 q4 ⊢
    rw [show decide ((60 : Int) < tt + j) = false from decide_eq_false (by omega)]
    walk_at "w"
    walk_at "n"
    have fin : ∀ {o9 o14 o15 : Option D}, True := fun {_ _ _} => trivial
    by_cases hd : 6 < m.1 + j
    · rw [decide_eq_true hd]
      have q2 := q2.trans (if_pos hd)
      walk_at "w"
      walk_at "n"
      refine ⟨hT8, ?_⟩
      walk_at "w"
      rw [q2]
      walk_at "w"
      refine ⟨some "limit", .str "TooDeep", .int 6, by kernel_rfl, by decide +kernel, rfl, rfl, ?_⟩
      walk_at "w"
      refine rNeP_lays (by decide +kernel) (by decide +kernel) ?_
      rw [show eqD (.tup [.str "TooDeep", .int 6]) (.tup [.str "TooDeep", .int 6]) = true by decide +kernel]
      walk_at "w"
      walk_at "n"
      rw [show decide ((tt : Int) + j ≤ 60) = true from decide_eq_true (by omega)]
      walk_at "w"
      rw [q3]
      walk_at "w"
      rw [q4]
      walk_at "w"
      refine ⟨CMul.ok (.inr ⟨by omega, by omega⟩), ?_⟩
      walk_at "w"
      rw [same]
      walk_at "w"
      exact hn _ _ ⟨hB7, hT8, _, _, _, _, _, _, _, _, _, _, _, _, _, _, rfl⟩
    · rw [decide_eq_false hd]
      have q2 := q2.trans (if_neg hd)
      walk_at "w"
      walk_at "n"
      refine ⟨CMul.ok (.inr ⟨by omega, by omega⟩), ?_⟩
      walk_at "w"
      by_cases hp : 60 < m.2 * tt
      · rw [decide_eq_true hp]
        have q2 := q2.trans (if_pos hp)
        walk_at "w"
        walk_at "n"
        refine ⟨hT8, ?_⟩
        walk_at "w"
        rw [q2]
        walk_at "w"
        refine ⟨some "limit", .str "TooMany", .int 60, by kernel_rfl, by decide +kernel, rfl, rfl, ?_⟩
        walk_at "w"
        refine rNeP_lays (by decide +kernel) (by decide +kernel) ?_
        rw [show eqD (.tup [.str "TooMany", .int 60]) (.tup [.str "TooMany", .int 60]) = true by decide +kernel]
        walk_at "w"
        walk_at "n"
        rw [show decide ((tt : Int) + j ≤ 60) = true from decide_eq_true (by omega)]
        walk_at "w"
        rw [q3]
        walk_at "w"
        rw [q4]
        walk_at "w"
        refine ⟨CMul.ok (.inr ⟨by omega, by omega⟩), ?_⟩
        walk_at "w"
        rw [same]
        walk_at "w"
        exact hn _ _ ⟨hB7, hT8, _, _, _, _, _, _, _, _, _, _, _, _, _, _, rfl⟩
      · rw [decide_eq_false hp]
        have q2 := q2.trans (if_neg hp)
        walk_at "w"
        walk_at "n"
        refine ⟨hT8, ?_⟩
        walk_at "w"
        rw [q2]
        walk_at "w"
        refine rNeP_lays (by decide +kernel) (by decide +kernel) ?_
        rw [show eqD (.tup [.str "", .non]) (.tup [.str "", .non]) = true by decide +kernel]
        walk_at "w"
        walk_at "n"
        rw [show decide ((tt : Int) + j ≤ 60) = true from decide_eq_true (by omega)]
        walk_at "w"
        rw [q3]
        walk_at "w"
        rw [q4]
        walk_at "w"
        refine ⟨CMul.ok (.inr ⟨by omega, by omega⟩), ?_⟩
        walk_at "w"
        rw [same]
        walk_at "w"
        exact hn _ _ ⟨hB7, hT8, _, _, _, _, _, _, _, _, _, _, _, _, _, _, rfl⟩
end K10

namespace K10
open PySem PySem.Spec PyProof.Rows L2 DL _root_.DM _root_.DP LamX

def dd_is_whole : He.DefD := ⟨("is_whole", none), "is_whole", "is_whole", defArgs s_is_whole, defBody s_is_whole, defScope s_is_whole, [], []⟩
def dd_is_place : He.DefD := ⟨("is_place", none), "is_place", "is_place", defArgs s_is_place, defBody s_is_place, defScope s_is_place, [], []⟩
def dd_is_name : He.DefD := ⟨("is_name", none), "is_name", "is_name", defArgs s_is_name, defBody s_is_name, defScope s_is_name, [], []⟩
def dd_is_within : He.DefD := ⟨("is_within", none), "is_within", "is_within", defArgs s_is_within, defBody s_is_within, defScope s_is_within, [], []⟩
def dd_is_vector : He.DefD := ⟨("is_vector", none), "is_vector", "is_vector", defArgs s_is_vector, defBody s_is_vector, defScope s_is_vector, [], []⟩
def dd_has_form : He.DefD := ⟨("has_form", none), "has_form", "has_form", defArgs s_has_form, defBody s_has_form, defScope s_has_form, [], []⟩
def dd_fault : He.DefD := ⟨("fault", none), "fault", "fault", defArgs s_fault, defBody s_fault, defScope s_fault, [], []⟩
def dd_inner_blocks : He.DefD := ⟨("inner_blocks", none), "inner_blocks", "inner_blocks", defArgs s_inner_blocks, defBody s_inner_blocks, defScope s_inner_blocks, [], []⟩
def dd_statements : He.DefD := ⟨("statements", none), "statements", "statements", defArgs s_statements, defBody s_statements, defScope s_statements, [], []⟩
def dd_check_block : He.DefD := ⟨("check_block", none), "check_block", "check_block", defArgs s_check_block, defBody s_check_block, defScope s_check_block, [], []⟩
def dd_names_in : He.DefD := ⟨("names_in", none), "names_in", "names_in", defArgs s_names_in, defBody s_names_in, defScope s_names_in, [], []⟩
def dd_is_circular : He.DefD := ⟨("is_circular", none), "is_circular", "is_circular", defArgs s_is_circular, defBody s_is_circular, defScope s_is_circular, [], []⟩
def dd_measured : He.DefD := ⟨("measured", none), "measured", "measured", defArgs s_measured, defBody s_measured, defScope s_measured, [], []⟩
def dd_measures : He.DefD := ⟨("measures", none), "measures", "measures", defArgs s_measures, defBody s_measures, defScope s_measures, [], []⟩
def dd_check_measure : He.DefD := ⟨("check_measure", none), "check_measure", "check_measure", defArgs s_check_measure, defBody s_check_measure, defScope s_check_measure, [], []⟩
def dd__law_a_box : He.DefD := ⟨("_law_a_box", none), "_law_a_box", "_law_a_box", defArgs s__law_a_box, defBody s__law_a_box, defScope s__law_a_box, [], []⟩
def dd__law_draw : He.DefD := ⟨("_law_draw", none), "_law_draw", "_law_draw", defArgs s__law_draw, defBody s__law_draw, defScope s__law_draw, [], []⟩
def dd__law_any : He.DefD := ⟨("_law_any", none), "_law_any", "_law_any", defArgs s__law_any, defBody s__law_any, defScope s__law_any, [], []⟩
def dd__law_whole : He.DefD := ⟨("_law_whole", none), "_law_whole", "_law_whole", defArgs s__law_whole, defBody s__law_whole, defScope s__law_whole, [], []⟩
def dd__law_same : He.DefD := ⟨("_law_same", none), "_law_same", "_law_same", defArgs s__law_same, defBody s__law_same, defScope s__law_same, [], []⟩
def dd__law_refused : He.DefD := ⟨("_law_refused", none), "_law_refused", "_law_refused", defArgs s__law_refused, defBody s__law_refused, defScope s__law_refused, [], []⟩
def dd__law_big : He.DefD := ⟨("_law_big", none), "_law_big", "_law_big", defArgs s__law_big, defBody s__law_big, defScope s__law_big, [], []⟩
def dd_Parts_block : He.DefD := ⟨("Parts", some "block"), "block", "Parts.block", defArgs s_Parts_block, defBody s_Parts_block, defScope s_Parts_block, [], []⟩
def dd_Parts_check_names : He.DefD := ⟨("Parts", some "check_names"), "check_names", "Parts.check_names", defArgs s_Parts_check_names, defBody s_Parts_check_names, defScope s_Parts_check_names, [], []⟩
def dd_Parts___init__ : He.DefD := ⟨("Parts", some "__init__"), "__init__", "Parts.__init__", defArgs s_Parts___init__, defBody s_Parts___init__, defScope s_Parts___init__, [], []⟩
def dd_Parts_measure : He.DefD := ⟨("Parts", some "measure"), "measure", "Parts.measure", defArgs s_Parts_measure, defBody s_Parts_measure, defScope s_Parts_measure, [], []⟩
def dd_Parts_check : He.DefD := ⟨("Parts", some "check"), "check", "Parts.check", defArgs s_Parts_check, defBody s_Parts_check, defScope s_Parts_check, [], []⟩
def dd_Parts_depth : He.DefD := ⟨("Parts", some "depth"), "depth", "Parts.depth", defArgs s_Parts_depth, defBody s_Parts_depth, defScope s_Parts_depth, [], []⟩
def dd_Parts_puts : He.DefD := ⟨("Parts", some "puts"), "puts", "Parts.puts", defArgs s_Parts_puts, defBody s_Parts_puts, defScope s_Parts_puts, [], []⟩
def dd_law : He.DefD := ⟨("law", none), "law", "law", defArgs s_law, defBody s_law, defScope s_law, [], []⟩
def ini_CapacityExceeded : Stmt := match top 8 with | .ClassDef _ _ _ b _ _ _ _ _ _ _ => b.getD 0 (.Pass ⟨0, 0, 0, 0⟩) | _ => .Pass ⟨0, 0, 0, 0⟩
theorem sci_CapacityExceeded : FnScope ["self", "capacity"] ["self", "capacity"] (defScope ini_CapacityExceeded) := ⟨rfl, rfl, rfl, by decide +kernel, rfl, by decide +kernel, by decide +kernel⟩
def dx_CapacityExceeded : He.DefD := ⟨("CapacityExceeded", some "__init__"), "__init__", "CapacityExceeded.__init__", defArgs ini_CapacityExceeded, defBody ini_CapacityExceeded, defScope ini_CapacityExceeded, [], []⟩
def ini_Circular : Stmt := match top 9 with | .ClassDef _ _ _ b _ _ _ _ _ _ _ => b.getD 0 (.Pass ⟨0, 0, 0, 0⟩) | _ => .Pass ⟨0, 0, 0, 0⟩
theorem sci_Circular : FnScope ["self", "name"] ["self", "name"] (defScope ini_Circular) := ⟨rfl, rfl, rfl, by decide +kernel, rfl, by decide +kernel, by decide +kernel⟩
def dx_Circular : He.DefD := ⟨("Circular", some "__init__"), "__init__", "Circular.__init__", defArgs ini_Circular, defBody ini_Circular, defScope ini_Circular, [], []⟩
def ini_InvalidBlock : Stmt := match top 5 with | .ClassDef _ _ _ b _ _ _ _ _ _ _ => b.getD 0 (.Pass ⟨0, 0, 0, 0⟩) | _ => .Pass ⟨0, 0, 0, 0⟩
theorem sci_InvalidBlock : FnScope ["self", "path"] ["self", "path"] (defScope ini_InvalidBlock) := ⟨rfl, rfl, rfl, by decide +kernel, rfl, by decide +kernel, by decide +kernel⟩
def dx_InvalidBlock : He.DefD := ⟨("InvalidBlock", some "__init__"), "__init__", "InvalidBlock.__init__", defArgs ini_InvalidBlock, defBody ini_InvalidBlock, defScope ini_InvalidBlock, [], []⟩
def ini_InvalidName : Stmt := match top 6 with | .ClassDef _ _ _ b _ _ _ _ _ _ _ => b.getD 0 (.Pass ⟨0, 0, 0, 0⟩) | _ => .Pass ⟨0, 0, 0, 0⟩
theorem sci_InvalidName : FnScope ["self", "name"] ["self", "name"] (defScope ini_InvalidName) := ⟨rfl, rfl, rfl, by decide +kernel, rfl, by decide +kernel, by decide +kernel⟩
def dx_InvalidName : He.DefD := ⟨("InvalidName", some "__init__"), "__init__", "InvalidName.__init__", defArgs ini_InvalidName, defBody ini_InvalidName, defScope ini_InvalidName, [], []⟩
def ini_TooDeep : Stmt := match top 12 with | .ClassDef _ _ _ b _ _ _ _ _ _ _ => b.getD 0 (.Pass ⟨0, 0, 0, 0⟩) | _ => .Pass ⟨0, 0, 0, 0⟩
theorem sci_TooDeep : FnScope ["self", "limit"] ["self", "limit"] (defScope ini_TooDeep) := ⟨rfl, rfl, rfl, by decide +kernel, rfl, by decide +kernel, by decide +kernel⟩
def dx_TooDeep : He.DefD := ⟨("TooDeep", some "__init__"), "__init__", "TooDeep.__init__", defArgs ini_TooDeep, defBody ini_TooDeep, defScope ini_TooDeep, [], []⟩
def ini_TooLong : Stmt := match top 11 with | .ClassDef _ _ _ b _ _ _ _ _ _ _ => b.getD 0 (.Pass ⟨0, 0, 0, 0⟩) | _ => .Pass ⟨0, 0, 0, 0⟩
theorem sci_TooLong : FnScope ["self", "limit"] ["self", "limit"] (defScope ini_TooLong) := ⟨rfl, rfl, rfl, by decide +kernel, rfl, by decide +kernel, by decide +kernel⟩
def dx_TooLong : He.DefD := ⟨("TooLong", some "__init__"), "__init__", "TooLong.__init__", defArgs ini_TooLong, defBody ini_TooLong, defScope ini_TooLong, [], []⟩
def ini_TooMany : Stmt := match top 13 with | .ClassDef _ _ _ b _ _ _ _ _ _ _ => b.getD 0 (.Pass ⟨0, 0, 0, 0⟩) | _ => .Pass ⟨0, 0, 0, 0⟩
theorem sci_TooMany : FnScope ["self", "limit"] ["self", "limit"] (defScope ini_TooMany) := ⟨rfl, rfl, rfl, by decide +kernel, rfl, by decide +kernel, by decide +kernel⟩
def dx_TooMany : He.DefD := ⟨("TooMany", some "__init__"), "__init__", "TooMany.__init__", defArgs ini_TooMany, defBody ini_TooMany, defScope ini_TooMany, [], []⟩
def ini_WrongDimension : Stmt := match top 18 with | .ClassDef _ _ _ b _ _ _ _ _ _ _ => b.getD 0 (.Pass ⟨0, 0, 0, 0⟩) | _ => .Pass ⟨0, 0, 0, 0⟩
theorem sci_WrongDimension : FnScope ["self", "given"] ["self", "given"] (defScope ini_WrongDimension) := ⟨rfl, rfl, rfl, by decide +kernel, rfl, by decide +kernel, by decide +kernel⟩
def dx_WrongDimension : He.DefD := ⟨("WrongDimension", some "__init__"), "__init__", "WrongDimension.__init__", defArgs ini_WrongDimension, defBody ini_WrongDimension, defScope ini_WrongDimension, [], []⟩
def hfnL : List He.DefD := [dd_is_whole, dd_is_place, dd_is_name, dd_is_within, dd_is_vector, dd_has_form, dd_fault, dd_inner_blocks, dd_statements, dd_check_block, dd_names_in, dd_is_circular, dd_measured, dd_measures, dd_check_measure, dd__law_a_box, dd__law_draw, dd__law_any, dd__law_whole, dd__law_same, dd__law_refused, dd__law_big, dd_Parts_block, dd_Parts_check_names, dd_Parts___init__, dd_Parts_measure, dd_Parts_check, dd_Parts_depth, dd_Parts_puts, dd_law, dx_CapacityExceeded, dx_Circular, dx_InvalidBlock, dx_InvalidName, dx_TooDeep, dx_TooLong, dx_TooMany, dx_WrongDimension]
def hfpL : List He5.DefA := []
def hfaL : List He.Fa := [.glo "is_whole", .glo "is_place", .glo "is_name", .glo "is_within", .glo "is_vector", .glo "has_form", .glo "fault", .glo "inner_blocks", .glo "statements", .glo "check_block", .glo "names_in", .glo "is_circular", .glo "measured", .glo "measures", .glo "check_measure", .glo "_law_a_box", .glo "_law_draw", .glo "_law_any", .glo "_law_whole", .glo "_law_same", .glo "_law_refused", .glo "_law_big", .glo "Parts", .cls "Parts", .meth "Parts" "block", .meth "Parts" "check_names", .mkr "Parts", .meth "Parts" "measure", .meth "Parts" "check", .meth "Parts" "depth", .meth "Parts" "puts", .glo "law", .noat "Parts" "ground", .noat "Parts" "kept", .noat "Parts" "known", .free "all", .free "bool", .free "enumerate", .free "int", .free "isinstance", .free "len", .free "list", .free "max", .free "range", .free "sorted", .free "str", .free "sum", .free "tuple", .free "zip", .int "MAX_DEPTH" 6, .int "MAX_DIMENSION" 3, .int "MAX_NAME" 8, .int "MAX_PARTS" 12, .int "MAX_PUTS" 60, .int "MAX_STATEMENTS" 60, .int "MAX_STEP" 1000000000000, .int "MAX_TIMES" 1000000000000000000000000000000, .glo "CapacityExceeded", .meth "CapacityExceeded" "__init__", .glo "Circular", .meth "Circular" "__init__", .glo "InvalidBlock", .meth "InvalidBlock" "__init__", .glo "InvalidName", .meth "InvalidName" "__init__", .glo "TooDeep", .meth "TooDeep" "__init__", .glo "TooLong", .meth "TooLong" "__init__", .glo "TooMany", .meth "TooMany" "__init__", .glo "WrongDimension", .meth "WrongDimension" "__init__", .glo "DuplicateName", .glo "InUse", .glo "InvalidBeat", .glo "InvalidCommand", .glo "InvalidCount", .glo "InvalidPlace", .glo "NothingLeft", .glo "Overload", .glo "ParseError", .glo "Tangled", .glo "UnknownName", .glo "UnknownWalker"]
def psX : List (Str × Str) := []
abbrev exB : PySem.W.Frag → Bool := fun K => excsB rsX tbX K && propsB psX K
abbrev RR : PySem.W.OpenRow := PySem.W.OpenLaw.row PySem.Challenge.rw_strewfar_k10_limits_of_parts
abbrev hk : PySem.W.Hook := hookP 4 hfaL hfnL hfpL [("law", none)] exB
def ob (s : PySem.W.SharedT) : AlP := obsP 4 hfaL hfnL hfpL [("law", none)] exB (HandSHeadRun.getT s)
theorem ob_eq (s : PySem.W.SharedT) : ob s = hk.obs s.abs := obsP_eq (HandSHeadRun.getT_eq s)
def loose0 : List PySem.Str := ["_wall", "StrewError", "NotFound", "InvalidPlace", "InvalidBlock", "InvalidName", "DuplicateName", "CapacityExceeded", "Circular", "InUse", "TooLong", "TooDeep"]
def loose1 : List PySem.Str := ["TooMany", "Overload", "Tangled", "InvalidBeat", "InvalidCount", "WrongDimension", "ParseError", "InvalidCommand", "UnknownName", "UnknownWalker", "NothingLeft", "MAX_DIMENSION"]
def loose2 : List PySem.Str := ["is_whole", "is_place", "MAX_STATEMENTS", "MAX_STEP", "MAX_TIMES", "MAX_NAME", "is_name", "is_within", "is_vector", "has_form", "fault", "check_block"]
def loose3 : List PySem.Str := ["inner_blocks", "statements", "names_in", "MAX_PARTS", "MAX_DEPTH", "MAX_PUTS", "is_circular", "measured", "measures", "check_measure", "Parts", "_law_a_box"]
def loose4 : List PySem.Str := ["_law_draw", "_law_any", "_law_whole", "_law_same", "_law_refused", "_law_big"]
def loose : List PySem.Str := loose0 ++ loose1 ++ loose2 ++ loose3 ++ loose4
theorem run (w : World) : HandSHeadRun.RunEq RR (PySem.W.view RR.prog [59]) hk ob 9000 loose w := by
  intro os
  kernel_rfl
theorem facts {P : Program} {w : World} {K : PySem.W.Frag} {h : Heap} {mg : Str → Option Value} (X : K.In h) (G : h.Ns mainGlobals mg) (c : He.SaysD hfaL hfnL K) (ca : He5.SaysA [] hfpL K) (hx0 : exB K = true) :
    ∃ fd : FuncData, (∀ (s : Shared) (v : Value), BindsTo s fd ⟨[v], []⟩ [("_law_script", v)]) ∧ ∀ (base : Heap) (PT : Addr), K.In base → base.Ns mainGlobals mg → TabB base mg (He.codeOf K ("law", none)) PT → FnOk P w K mg base (L2.CX P w) 35 (He.ga K "law") fd ["_law_script"] (spD K 1 (sp_lawT PT lamN)) := by
  obtain ⟨hx, hpx⟩ := Bool.and_eq_true_iff.mp hx0
  obtain ⟨fd_is_whole, E_is_whole⟩ := c.def_ 0 (d := dd_is_whole) rfl
  obtain ⟨fd_is_place, E_is_place⟩ := c.def_ 1 (d := dd_is_place) rfl
  obtain ⟨fd_is_name, E_is_name⟩ := c.def_ 2 (d := dd_is_name) rfl
  obtain ⟨fd_is_within, E_is_within⟩ := c.def_ 3 (d := dd_is_within) rfl
  obtain ⟨fd_is_vector, E_is_vector⟩ := c.def_ 4 (d := dd_is_vector) rfl
  obtain ⟨fd_has_form, E_has_form⟩ := c.def_ 5 (d := dd_has_form) rfl
  obtain ⟨fd_fault, E_fault⟩ := c.def_ 6 (d := dd_fault) rfl
  obtain ⟨fd_inner_blocks, E_inner_blocks⟩ := c.def_ 7 (d := dd_inner_blocks) rfl
  obtain ⟨fd_statements, E_statements⟩ := c.def_ 8 (d := dd_statements) rfl
  obtain ⟨fd_check_block, E_check_block⟩ := c.def_ 9 (d := dd_check_block) rfl
  obtain ⟨fd_names_in, E_names_in⟩ := c.def_ 10 (d := dd_names_in) rfl
  obtain ⟨fd_is_circular, E_is_circular⟩ := c.def_ 11 (d := dd_is_circular) rfl
  obtain ⟨fd_measured, E_measured⟩ := c.def_ 12 (d := dd_measured) rfl
  obtain ⟨fd_measures, E_measures⟩ := c.def_ 13 (d := dd_measures) rfl
  obtain ⟨fd_check_measure, E_check_measure⟩ := c.def_ 14 (d := dd_check_measure) rfl
  obtain ⟨fd__law_a_box, E__law_a_box⟩ := c.def_ 15 (d := dd__law_a_box) rfl
  obtain ⟨fd__law_draw, E__law_draw⟩ := c.def_ 16 (d := dd__law_draw) rfl
  obtain ⟨fd__law_any, E__law_any⟩ := c.def_ 17 (d := dd__law_any) rfl
  obtain ⟨fd__law_whole, E__law_whole⟩ := c.def_ 18 (d := dd__law_whole) rfl
  obtain ⟨fd__law_same, E__law_same⟩ := c.def_ 19 (d := dd__law_same) rfl
  obtain ⟨fd__law_refused, E__law_refused⟩ := c.def_ 20 (d := dd__law_refused) rfl
  obtain ⟨fd__law_big, E__law_big⟩ := c.def_ 21 (d := dd__law_big) rfl
  obtain ⟨fd_Parts_block, E_Parts_block⟩ := c.def_ 22 (d := dd_Parts_block) rfl
  obtain ⟨fd_Parts_check_names, E_Parts_check_names⟩ := c.def_ 23 (d := dd_Parts_check_names) rfl
  obtain ⟨fd_Parts___init__, E_Parts___init__⟩ := c.def_ 24 (d := dd_Parts___init__) rfl
  obtain ⟨fd_Parts_measure, E_Parts_measure⟩ := c.def_ 25 (d := dd_Parts_measure) rfl
  obtain ⟨fd_Parts_check, E_Parts_check⟩ := c.def_ 26 (d := dd_Parts_check) rfl
  obtain ⟨fd_Parts_depth, E_Parts_depth⟩ := c.def_ 27 (d := dd_Parts_depth) rfl
  obtain ⟨fd_Parts_puts, E_Parts_puts⟩ := c.def_ 28 (d := dd_Parts_puts) rfl
  obtain ⟨fd_law, E_law⟩ := c.def_ 29 (d := dd_law) rfl
  obtain ⟨fx_CapacityExceeded, EX_CapacityExceeded⟩ := c.def_ 30 (d := dx_CapacityExceeded) rfl
  obtain ⟨fx_Circular, EX_Circular⟩ := c.def_ 31 (d := dx_Circular) rfl
  obtain ⟨fx_InvalidBlock, EX_InvalidBlock⟩ := c.def_ 32 (d := dx_InvalidBlock) rfl
  obtain ⟨fx_InvalidName, EX_InvalidName⟩ := c.def_ 33 (d := dx_InvalidName) rfl
  obtain ⟨fx_TooDeep, EX_TooDeep⟩ := c.def_ 34 (d := dx_TooDeep) rfl
  obtain ⟨fx_TooLong, EX_TooLong⟩ := c.def_ 35 (d := dx_TooLong) rfl
  obtain ⟨fx_TooMany, EX_TooMany⟩ := c.def_ 36 (d := dx_TooMany) rfl
  obtain ⟨fx_WrongDimension, EX_WrongDimension⟩ := c.def_ 37 (d := dx_WrongDimension) rfl
  have B : Bl mg := ⟨He.free_ok X G (c.fact 35 (f := .free "all") rfl), He.free_ok X G (c.fact 36 (f := .free "bool") rfl), He.free_ok X G (c.fact 37 (f := .free "enumerate") rfl), He.free_ok X G (c.fact 38 (f := .free "int") rfl), He.free_ok X G (c.fact 39 (f := .free "isinstance") rfl), He.free_ok X G (c.fact 40 (f := .free "len") rfl), He.free_ok X G (c.fact 41 (f := .free "list") rfl), He.free_ok X G (c.fact 42 (f := .free "max") rfl), He.free_ok X G (c.fact 43 (f := .free "range") rfl), He.free_ok X G (c.fact 44 (f := .free "sorted") rfl), He.free_ok X G (c.fact 45 (f := .free "str") rfl), He.free_ok X G (c.fact 46 (f := .free "sum") rfl), He.free_ok X G (c.fact 47 (f := .free "tuple") rfl), He.free_ok X G (c.fact 48 (f := .free "zip") rfl), He.int_ok X G (c.fact 49 (f := .int "MAX_DEPTH" 6) rfl), He.int_ok X G (c.fact 50 (f := .int "MAX_DIMENSION" 3) rfl), He.int_ok X G (c.fact 51 (f := .int "MAX_NAME" 8) rfl), He.int_ok X G (c.fact 52 (f := .int "MAX_PARTS" 12) rfl), He.int_ok X G (c.fact 53 (f := .int "MAX_PUTS" 60) rfl), He.int_ok X G (c.fact 54 (f := .int "MAX_STATEMENTS" 60) rfl), He.int_ok X G (c.fact 55 (f := .int "MAX_STEP" 1000000000000) rfl), He.int_ok X G (c.fact 56 (f := .int "MAX_TIMES" 1000000000000000000000000000000) rfl)⟩
  have hC : ∀ c ∈ csX, mg c = some (.ref (He.ga K c)) := by
    intro z hz
    simp only [csX, List.mem_cons, List.not_mem_nil, or_false] at hz
    rcases hz with rfl | rfl | rfl | rfl | rfl | rfl | rfl | rfl | rfl | rfl | rfl | rfl | rfl | rfl | rfl | rfl | rfl | rfl | rfl | rfl
    · exact He.glo_ok X G (c.fact 57 (f := .glo "CapacityExceeded") rfl)
    · exact He.glo_ok X G (c.fact 59 (f := .glo "Circular") rfl)
    · exact He.glo_ok X G (c.fact 73 (f := .glo "DuplicateName") rfl)
    · exact He.glo_ok X G (c.fact 74 (f := .glo "InUse") rfl)
    · exact He.glo_ok X G (c.fact 75 (f := .glo "InvalidBeat") rfl)
    · exact He.glo_ok X G (c.fact 61 (f := .glo "InvalidBlock") rfl)
    · exact He.glo_ok X G (c.fact 76 (f := .glo "InvalidCommand") rfl)
    · exact He.glo_ok X G (c.fact 77 (f := .glo "InvalidCount") rfl)
    · exact He.glo_ok X G (c.fact 63 (f := .glo "InvalidName") rfl)
    · exact He.glo_ok X G (c.fact 78 (f := .glo "InvalidPlace") rfl)
    · exact He.glo_ok X G (c.fact 79 (f := .glo "NothingLeft") rfl)
    · exact He.glo_ok X G (c.fact 80 (f := .glo "Overload") rfl)
    · exact He.glo_ok X G (c.fact 81 (f := .glo "ParseError") rfl)
    · exact He.glo_ok X G (c.fact 82 (f := .glo "Tangled") rfl)
    · exact He.glo_ok X G (c.fact 65 (f := .glo "TooDeep") rfl)
    · exact He.glo_ok X G (c.fact 67 (f := .glo "TooLong") rfl)
    · exact He.glo_ok X G (c.fact 69 (f := .glo "TooMany") rfl)
    · exact He.glo_ok X G (c.fact 83 (f := .glo "UnknownName") rfl)
    · exact He.glo_ok X G (c.fact 84 (f := .glo "UnknownWalker") rfl)
    · exact He.glo_ok X G (c.fact 71 (f := .glo "WrongDimension") rfl)
  refine ⟨fd_law, fun s v => FunD.bindsA (ps := ["_law_script"]) E_law (fun _ _ _ _ _ _ us hl => match us, hl with | [_], _ => rfl) s [v] rfl, fun base PT _ _ TB => ?_⟩
  have A_Parts_ground : AtF K "Parts" "ground" := ⟨He.cls_ok (c.fact 23 (f := .cls "Parts") rfl), He.noat_ok (c.fact 32 (f := .noat "Parts" "ground") rfl)⟩
  have A_Parts_kept : AtF K "Parts" "kept" := ⟨He.cls_ok (c.fact 23 (f := .cls "Parts") rfl), He.noat_ok (c.fact 33 (f := .noat "Parts" "kept") rfl)⟩
  have A_Parts_known : AtF K "Parts" "known" := ⟨He.cls_ok (c.fact 23 (f := .cls "Parts") rfl), He.noat_ok (c.fact 34 (f := .noat "Parts" "known") rfl)⟩
  have X_CapacityExceeded : ExD P w K mg base "CapacityExceeded" "capacity" "CapacityExceeded" 1 := ex_of hx (by decide +kernel) (He.meth_ok (c.fact 58 (f := .meth "CapacityExceeded" "__init__") rfl)) (He5.fun_of (st := ini_CapacityExceeded) (kws := []) EX_CapacityExceeded) sci_CapacityExceeded rfl ⟨by first | exact Or.inl rfl | exact Or.inr (Or.inl rfl) | exact Or.inr (Or.inr rfl), by first | exact Or.inl rfl | exact Or.inr (Or.inl rfl) | exact Or.inr (Or.inr rfl)⟩ (by decide) (by decide) (He.glo_ok X G (c.fact 57 (f := .glo "CapacityExceeded") rfl)) (fun _ _ _ _ _ _ us hl => match us, hl with | [_, _], _ => rfl)
  have X_Circular : ExD P w K mg base "Circular" "name" "Circular" 1 := ex_of hx (by decide +kernel) (He.meth_ok (c.fact 60 (f := .meth "Circular" "__init__") rfl)) (He5.fun_of (st := ini_Circular) (kws := []) EX_Circular) sci_Circular rfl ⟨by first | exact Or.inl rfl | exact Or.inr (Or.inl rfl) | exact Or.inr (Or.inr rfl), by first | exact Or.inl rfl | exact Or.inr (Or.inl rfl) | exact Or.inr (Or.inr rfl)⟩ (by decide) (by decide) (He.glo_ok X G (c.fact 59 (f := .glo "Circular") rfl)) (fun _ _ _ _ _ _ us hl => match us, hl with | [_, _], _ => rfl)
  have X_InvalidBlock : ExD P w K mg base "InvalidBlock" "path" "InvalidBlock" 1 := ex_of hx (by decide +kernel) (He.meth_ok (c.fact 62 (f := .meth "InvalidBlock" "__init__") rfl)) (He5.fun_of (st := ini_InvalidBlock) (kws := []) EX_InvalidBlock) sci_InvalidBlock rfl ⟨by first | exact Or.inl rfl | exact Or.inr (Or.inl rfl) | exact Or.inr (Or.inr rfl), by first | exact Or.inl rfl | exact Or.inr (Or.inl rfl) | exact Or.inr (Or.inr rfl)⟩ (by decide) (by decide) (He.glo_ok X G (c.fact 61 (f := .glo "InvalidBlock") rfl)) (fun _ _ _ _ _ _ us hl => match us, hl with | [_, _], _ => rfl)
  have X_InvalidName : ExD P w K mg base "InvalidName" "name" "InvalidName" 1 := ex_of hx (by decide +kernel) (He.meth_ok (c.fact 64 (f := .meth "InvalidName" "__init__") rfl)) (He5.fun_of (st := ini_InvalidName) (kws := []) EX_InvalidName) sci_InvalidName rfl ⟨by first | exact Or.inl rfl | exact Or.inr (Or.inl rfl) | exact Or.inr (Or.inr rfl), by first | exact Or.inl rfl | exact Or.inr (Or.inl rfl) | exact Or.inr (Or.inr rfl)⟩ (by decide) (by decide) (He.glo_ok X G (c.fact 63 (f := .glo "InvalidName") rfl)) (fun _ _ _ _ _ _ us hl => match us, hl with | [_, _], _ => rfl)
  have X_TooDeep : ExD P w K mg base "TooDeep" "limit" "TooDeep" 1 := ex_of hx (by decide +kernel) (He.meth_ok (c.fact 66 (f := .meth "TooDeep" "__init__") rfl)) (He5.fun_of (st := ini_TooDeep) (kws := []) EX_TooDeep) sci_TooDeep rfl ⟨by first | exact Or.inl rfl | exact Or.inr (Or.inl rfl) | exact Or.inr (Or.inr rfl), by first | exact Or.inl rfl | exact Or.inr (Or.inl rfl) | exact Or.inr (Or.inr rfl)⟩ (by decide) (by decide) (He.glo_ok X G (c.fact 65 (f := .glo "TooDeep") rfl)) (fun _ _ _ _ _ _ us hl => match us, hl with | [_, _], _ => rfl)
  have X_TooLong : ExD P w K mg base "TooLong" "limit" "TooLong" 1 := ex_of hx (by decide +kernel) (He.meth_ok (c.fact 68 (f := .meth "TooLong" "__init__") rfl)) (He5.fun_of (st := ini_TooLong) (kws := []) EX_TooLong) sci_TooLong rfl ⟨by first | exact Or.inl rfl | exact Or.inr (Or.inl rfl) | exact Or.inr (Or.inr rfl), by first | exact Or.inl rfl | exact Or.inr (Or.inl rfl) | exact Or.inr (Or.inr rfl)⟩ (by decide) (by decide) (He.glo_ok X G (c.fact 67 (f := .glo "TooLong") rfl)) (fun _ _ _ _ _ _ us hl => match us, hl with | [_, _], _ => rfl)
  have X_TooMany : ExD P w K mg base "TooMany" "limit" "TooMany" 1 := ex_of hx (by decide +kernel) (He.meth_ok (c.fact 70 (f := .meth "TooMany" "__init__") rfl)) (He5.fun_of (st := ini_TooMany) (kws := []) EX_TooMany) sci_TooMany rfl ⟨by first | exact Or.inl rfl | exact Or.inr (Or.inl rfl) | exact Or.inr (Or.inr rfl), by first | exact Or.inl rfl | exact Or.inr (Or.inl rfl) | exact Or.inr (Or.inr rfl)⟩ (by decide) (by decide) (He.glo_ok X G (c.fact 69 (f := .glo "TooMany") rfl)) (fun _ _ _ _ _ _ us hl => match us, hl with | [_, _], _ => rfl)
  have X_WrongDimension : ExD P w K mg base "WrongDimension" "given" "WrongDimension" 1 := ex_of hx (by decide +kernel) (He.meth_ok (c.fact 72 (f := .meth "WrongDimension" "__init__") rfl)) (He5.fun_of (st := ini_WrongDimension) (kws := []) EX_WrongDimension) sci_WrongDimension rfl ⟨by first | exact Or.inl rfl | exact Or.inr (Or.inl rfl) | exact Or.inr (Or.inr rfl), by first | exact Or.inl rfl | exact Or.inr (Or.inl rfl) | exact Or.inr (Or.inr rfl)⟩ (by decide) (by decide) (He.glo_ok X G (c.fact 71 (f := .glo "WrongDimension") rfl)) (fun _ _ _ _ _ _ us hl => match us, hl with | [_, _], _ => rfl)
  have F_is_whole : Fun K "is_whole" "is_whole" s_is_whole (He.ga K "is_whole") fd_is_whole := He5.fun_of (st := s_is_whole) (kws := []) E_is_whole
  have m_is_whole_ := He.glo_ok X G (c.fact 0 (f := .glo "is_whole") rfl)
  have G_is_whole : FnD P w K mg base "is_whole" 1 1 (wfOf m_is_whole) := ok_is_whole B F_is_whole m_is_whole_ m_is_whole_eq
  have F_is_place : Fun K "is_place" "is_place" s_is_place (He.ga K "is_place") fd_is_place := He5.fun_of (st := s_is_place) (kws := []) E_is_place
  have m_is_place_ := He.glo_ok X G (c.fact 1 (f := .glo "is_place") rfl)
  have G_is_place : FnD P w K mg base "is_place" 2 2 (wfOf m_is_place) := ok_is_place B G_is_whole F_is_place m_is_place_ m_is_place_eq
  have F_is_name : Fun K "is_name" "is_name" s_is_name (He.ga K "is_name") fd_is_name := He5.fun_of (st := s_is_name) (kws := []) E_is_name
  have m_is_name_ := He.glo_ok X G (c.fact 2 (f := .glo "is_name") rfl)
  have G_is_name : FnD P w K mg base "is_name" 1 1 (wfOf m_is_name) := ok_is_name B F_is_name m_is_name_ m_is_name_eq
  have F_is_within : Fun K "is_within" "is_within" s_is_within (He.ga K "is_within") fd_is_within := He5.fun_of (st := s_is_within) (kws := []) E_is_within
  have m_is_within_ := He.glo_ok X G (c.fact 3 (f := .glo "is_within") rfl)
  have G_is_within : FnD P w K mg base "is_within" 2 2 (wfOf m_is_within) := ok_is_within B G_is_whole F_is_within m_is_within_ m_is_within_eq
  have F_is_vector : Fun K "is_vector" "is_vector" s_is_vector (He.ga K "is_vector") fd_is_vector := He5.fun_of (st := s_is_vector) (kws := []) E_is_vector
  have m_is_vector_ := He.glo_ok X G (c.fact 4 (f := .glo "is_vector") rfl)
  have G_is_vector : FnD P w K mg base "is_vector" 3 2 (wfOf m_is_vector) := ok_is_vector B G_is_place G_is_within F_is_vector m_is_vector_ m_is_vector_eq
  have F_has_form : Fun K "has_form" "has_form" s_has_form (He.ga K "has_form") fd_has_form := He5.fun_of (st := s_has_form) (kws := []) E_has_form
  have m_has_form_ := He.glo_ok X G (c.fact 5 (f := .glo "has_form") rfl)
  have G_has_form : FnD P w K mg base "has_form" 4 2 (wfOf m_has_form) := ok_has_form B G_is_name G_is_vector G_is_within F_has_form m_has_form_ m_has_form_eq
  have F_fault : Fun K "fault" "fault" s_fault (He.ga K "fault") fd_fault := He5.fun_of (st := s_fault) (kws := []) E_fault
  have m_fault_ := He.glo_ok X G (c.fact 6 (f := .glo "fault") rfl)
  have G_fault : FnD P w K mg base "fault" 29 2 (wfOf (m_fault 24)) := rec_fault B G_has_form F_fault m_fault_ 24
  have F_inner_blocks : Fun K "inner_blocks" "inner_blocks" s_inner_blocks (He.ga K "inner_blocks") fd_inner_blocks := He5.fun_of (st := s_inner_blocks) (kws := []) E_inner_blocks
  have m_inner_blocks_ := He.glo_ok X G (c.fact 7 (f := .glo "inner_blocks") rfl)
  have G_inner_blocks : FnD P w K mg base "inner_blocks" 1 1 (wfOf m_inner_blocks) := ok_inner_blocks B F_inner_blocks m_inner_blocks_ m_inner_blocks_eq
  have F_statements : Fun K "statements" "statements" s_statements (He.ga K "statements") fd_statements := He5.fun_of (st := s_statements) (kws := []) E_statements
  have m_statements_ := He.glo_ok X G (c.fact 8 (f := .glo "statements") rfl)
  have G_statements : FnD P w K mg base "statements" 26 1 (wfOf (m_statements 24)) := rec_statements B G_inner_blocks F_statements m_statements_ 24
  have F_check_block : Fun K "check_block" "check_block" s_check_block (He.ga K "check_block") fd_check_block := He5.fun_of (st := s_check_block) (kws := []) E_check_block
  have m_check_block_ := He.glo_ok X G (c.fact 9 (f := .glo "check_block") rfl)
  have G_check_block : FnD P w K mg base "check_block" 30 2 (wfOf m_check_block) := ok_check_block B G_fault G_statements X_InvalidBlock X_TooLong F_check_block m_check_block_ m_check_block_eq
  have F_names_in : Fun K "names_in" "names_in" s_names_in (He.ga K "names_in") fd_names_in := He5.fun_of (st := s_names_in) (kws := []) E_names_in
  have m_names_in_ := He.glo_ok X G (c.fact 10 (f := .glo "names_in") rfl)
  have G_names_in : FnO P w K mg base "names_in" 26 1 (m_names_in 24) := rec_names_in B F_names_in m_names_in_ 24
  have F_is_circular : Fun K "is_circular" "is_circular" s_is_circular (He.ga K "is_circular") fd_is_circular := He5.fun_of (st := s_is_circular) (kws := []) E_is_circular
  have m_is_circular_ := He.glo_ok X G (c.fact 11 (f := .glo "is_circular") rfl)
  have G_is_circular : FnD P w K mg base "is_circular" 27 2 (wfOf m_is_circular) := ok_is_circular B G_names_in F_is_circular m_is_circular_ m_is_circular_eq
  have F_measured : Fun K "measured" "measured" s_measured (He.ga K "measured") fd_measured := He5.fun_of (st := s_measured) (kws := []) E_measured
  have m_measured_ := He.glo_ok X G (c.fact 12 (f := .glo "measured") rfl)
  have G_measured : FnD P w K mg base "measured" 26 2 (wfOf (m_measured 24)) := rec_measured B F_measured m_measured_ 24
  have F_measures : Fun K "measures" "measures" s_measures (He.ga K "measures") fd_measures := He5.fun_of (st := s_measures) (kws := []) E_measures
  have m_measures_ := He.glo_ok X G (c.fact 13 (f := .glo "measures") rfl)
  have G_measures : FnD P w K mg base "measures" 27 1 (wfOf m_measures) := ok_measures B G_measured G_names_in F_measures m_measures_ m_measures_eq
  have F_check_measure : Fun K "check_measure" "check_measure" s_check_measure (He.ga K "check_measure") fd_check_measure := He5.fun_of (st := s_check_measure) (kws := []) E_check_measure
  have m_check_measure_ := He.glo_ok X G (c.fact 14 (f := .glo "check_measure") rfl)
  have G_check_measure : FnD P w K mg base "check_measure" 3 1 (wfOf m_check_measure) := ok_check_measure B X_TooDeep X_TooMany F_check_measure m_check_measure_ m_check_measure_eq
  have F__law_a_box : Fun K "_law_a_box" "_law_a_box" s__law_a_box (He.ga K "_law_a_box") fd__law_a_box := He5.fun_of (st := s__law_a_box) (kws := []) E__law_a_box
  have m__law_a_box_ := He.glo_ok X G (c.fact 15 (f := .glo "_law_a_box") rfl)
  have G__law_a_box : FnD P w K mg base "_law_a_box" 1 1 sp__law_a_box := ok__law_a_box sp__law_a_box B F__law_a_box m__law_a_box_ DL.hw__law_a_box
  have F__law_draw : Fun K "_law_draw" "_law_draw" s__law_draw (He.ga K "_law_draw") fd__law_draw := He5.fun_of (st := s__law_draw) (kws := []) E__law_draw
  have m__law_draw_ := He.glo_ok X G (c.fact 16 (f := .glo "_law_draw") rfl)
  have G__law_draw : FnD P w K mg base "_law_draw" 1 2 sp__law_draw := ok__law_draw sp__law_draw B F__law_draw m__law_draw_ DL.hw__law_draw
  have F__law_any : Fun K "_law_any" "_law_any" s__law_any (He.ga K "_law_any") fd__law_any := He5.fun_of (st := s__law_any) (kws := []) E__law_any
  have m__law_any_ := He.glo_ok X G (c.fact 17 (f := .glo "_law_any") rfl)
  have G__law_any : FnD P w K mg base "_law_any" 2 2 sp__law_any := ok__law_any sp__law_any B G__law_draw F__law_any m__law_any_ DL.hw__law_any
  have F__law_whole : Fun K "_law_whole" "_law_whole" s__law_whole (He.ga K "_law_whole") fd__law_whole := He5.fun_of (st := s__law_whole) (kws := []) E__law_whole
  have m__law_whole_ := He.glo_ok X G (c.fact 18 (f := .glo "_law_whole") rfl)
  have G__law_whole : FnD P w K mg base "_law_whole" 1 1 (wfOf m__law_whole) := ok__law_whole B F__law_whole m__law_whole_ m__law_whole_eq
  have F__law_same : Fun K "_law_same" "_law_same" s__law_same (He.ga K "_law_same") fd__law_same := He5.fun_of (st := s__law_same) (kws := []) E__law_same
  have m__law_same_ := He.glo_ok X G (c.fact 19 (f := .glo "_law_same") rfl)
  have G__law_same : FnD P w K mg base "_law_same" 26 2 (wfOf (m__law_same 24)) := rec__law_same B G__law_whole F__law_same m__law_same_ 24
  have F__law_refused : Fun K "_law_refused" "_law_refused" s__law_refused (He.ga K "_law_refused") fd__law_refused := He5.fun_of (st := s__law_refused) (kws := []) E__law_refused
  have m__law_refused_ := He.glo_ok X G (c.fact 20 (f := .glo "_law_refused") rfl)
  have AF : AskF K mg "_law_refused" "_law_ask" s__law_refused N__law_refused tbX clX rsX := ⟨⟨_, _, F__law_refused, m__law_refused_⟩, sc__law_refused, ⟨rfl, Or.inl rfl⟩, (fun _ _ _ _ _ _ us hl => match us, hl with | [_], _ => rfl), (fun X0 g0 cd0 q0 e1 e2 => by subst e1; subst e2; exact gives__law_refused hx hC), fun p hp => (excsB_one hx hp).2⟩
  have F__law_big : Fun K "_law_big" "_law_big" s__law_big (He.ga K "_law_big") fd__law_big := He5.fun_of (st := s__law_big) (kws := []) E__law_big
  have m__law_big_ := He.glo_ok X G (c.fact 21 (f := .glo "_law_big") rfl)
  have G__law_big : FnD P w K mg base "_law_big" 2 1 sp__law_big := ok__law_big sp__law_big B G__law_draw F__law_big m__law_big_ DL.hw__law_big
  have F_Parts_block : Fun K "block" "Parts.block" s_Parts_block (He.ma K (He.ga K "Parts") "block") fd_Parts_block := He5.fun_of (st := s_Parts_block) (kws := []) E_Parts_block
  have G_Parts_block : MethD P w K base mg "Parts" "block" 1 2 (wfOf m_Parts_block) := ok_Parts_block B A_Parts_kept F_Parts_block (He.cls_ok (c.fact 23 (f := .cls "Parts") rfl)) (He.meth_ok (c.fact 24 (f := .meth "Parts" "block") rfl)) m_Parts_block_eq
  have F_Parts_check_names : Fun K "check_names" "Parts.check_names" s_Parts_check_names (He.ma K (He.ga K "Parts") "check_names") fd_Parts_check_names := He5.fun_of (st := s_Parts_check_names) (kws := []) E_Parts_check_names
  have G_Parts_check_names : MethD P w K base mg "Parts" "check_names" 27 2 (wfOf m_Parts_check_names) := ok_Parts_check_names B G_Parts_block G_names_in F_Parts_check_names (He.cls_ok (c.fact 23 (f := .cls "Parts") rfl)) (He.meth_ok (c.fact 25 (f := .meth "Parts" "check_names") rfl)) m_Parts_check_names_eq
  have F_Parts___init__ : Fun K "__init__" "Parts.__init__" s_Parts___init__ (He.ma K (He.ga K "Parts") "__init__") fd_Parts___init__ := He5.fun_of (st := s_Parts___init__) (kws := []) E_Parts___init__
  have G_Parts___init__ : MakeD P w K mg base "Parts" 31 2 m_Parts___init__ := ok_Parts___init__ B G_Parts_check_names G_check_block G_check_measure G_is_circular G_is_name G_measures X_CapacityExceeded X_Circular X_InvalidName X_WrongDimension A_Parts_ground A_Parts_kept A_Parts_known F_Parts___init__ (He.mkr_ok (c.fact 26 (f := .mkr "Parts") rfl)) (He.glo_ok X G (c.fact 22 (f := .glo "Parts") rfl)) m_Parts___init___eq
  have F_Parts_measure : Fun K "measure" "Parts.measure" s_Parts_measure (He.ma K (He.ga K "Parts") "measure") fd_Parts_measure := He5.fun_of (st := s_Parts_measure) (kws := []) E_Parts_measure
  have G_Parts_measure : MethD P w K base mg "Parts" "measure" 31 2 (wfOf m_Parts_measure) := ok_Parts_measure B G_Parts_check_names G_check_block G_measured A_Parts_ground A_Parts_known F_Parts_measure (He.cls_ok (c.fact 23 (f := .cls "Parts") rfl)) (He.meth_ok (c.fact 27 (f := .meth "Parts" "measure") rfl)) m_Parts_measure_eq
  have F_Parts_check : Fun K "check" "Parts.check" s_Parts_check (He.ma K (He.ga K "Parts") "check") fd_Parts_check := He5.fun_of (st := s_Parts_check) (kws := []) E_Parts_check
  have G_Parts_check : MethD P w K base mg "Parts" "check" 32 2 (wfOf m_Parts_check) := ok_Parts_check B G_Parts_measure G_check_measure F_Parts_check (He.cls_ok (c.fact 23 (f := .cls "Parts") rfl)) (He.meth_ok (c.fact 28 (f := .meth "Parts" "check") rfl)) m_Parts_check_eq
  have F_Parts_depth : Fun K "depth" "Parts.depth" s_Parts_depth (He.ma K (He.ga K "Parts") "depth") fd_Parts_depth := He5.fun_of (st := s_Parts_depth) (kws := []) E_Parts_depth
  have G_Parts_depth : MethD P w K base mg "Parts" "depth" 32 2 (wfOf m_Parts_depth) := ok_Parts_depth B G_Parts_measure F_Parts_depth (He.cls_ok (c.fact 23 (f := .cls "Parts") rfl)) (He.meth_ok (c.fact 29 (f := .meth "Parts" "depth") rfl)) m_Parts_depth_eq
  have F_Parts_puts : Fun K "puts" "Parts.puts" s_Parts_puts (He.ma K (He.ga K "Parts") "puts") fd_Parts_puts := He5.fun_of (st := s_Parts_puts) (kws := []) E_Parts_puts
  have G_Parts_puts : MethD P w K base mg "Parts" "puts" 32 2 (wfOf m_Parts_puts) := ok_Parts_puts B G_Parts_measure F_Parts_puts (He.cls_ok (c.fact 23 (f := .cls "Parts") rfl)) (He.meth_ok (c.fact 30 (f := .meth "Parts" "puts") rfl)) m_Parts_puts_eq
  have F_law : Fun K "law" "law" s_law (He.ga K "law") fd_law := He5.fun_of (st := s_law) (kws := []) E_law
  have m_law_ := He.glo_ok X G (c.fact 31 (f := .glo "law") rfl)
  exact okl_law (sp_lawT PT lamN) B G_Parts___init__ G_Parts_check G_Parts_depth G_Parts_puts G__law_a_box G__law_any G__law_big G__law_draw G__law_same AF TB F_law (hw_law PT)
end K10
open PySem PySem.W PySem.Calls PyProof.Rows
theorem PySem.Challenge.cw_strewfar_k10_limits_of_parts_holds : PySem.Challenge.rw_strewfar_k10_limits_of_parts.Holds := by
  w_on; o_law
  refine HandSHeadRun.head_any (r := OpenLaw.row PySem.Challenge.rw_strewfar_k10_limits_of_parts) (q := view (OpenLaw.row PySem.Challenge.rw_strewfar_k10_limits_of_parts).prog [59]) (H := K10.hk) (ob := K10.ob) (M := 9000) (loose := K10.loose) (d := HandSHeadRun.topDef (OpenLaw.row PySem.Challenge.rw_strewfar_k10_limits_of_parts).prog 59) (kwd := []) K10.ob_eq
    (by kernel_rfl) (fun s => by kernel_rfl) K10.run (by kernel_rfl) (by kernel_rfl) (by kernel_rfl) (by rfl) (by first | assumption | decide +kernel) (by decide +kernel) ⟨rfl, rfl, rfl, rfl, rfl, by decide +kernel⟩ ?hw ?hc
  case hw => w_witness2
  case hc =>
    refine DL.walk_ofTT (l := PySem.Challenge.rw_strewfar_k10_limits_of_parts) (k := 35) (x := "_law_script") rfl (by kernel_rfl) ⟨rfl, by decide, by decide⟩ ?F
    intro w mg fa h Y G hmg0
    obtain ⟨K, KX, c0⟩ := Y
    have c := c0.x
    have hmg : mg ("law" : PySem.Str) = some (.ref fa) := by
      have e : (HandSHeadRun.topDef (OpenLaw.row PySem.Challenge.rw_strewfar_k10_limits_of_parts).prog 59).name = ("law" : PySem.Str) := by kernel_rfl
      rw [← e]
      exact hmg0
    have e2 := hmg.symm.trans (He.glo_ok KX G (c.t.d.fact 31 (f := .glo "law") rfl))
    cases e2
    obtain ⟨fd, hb, hF⟩ := K10.facts (P := (PySem.Challenge.rw_strewfar_k10_limits_of_parts).prog) (w := w) KX G c.t.d c0.a c.more
    exact ⟨K, fd, (He.cT K ("law", none)).1, (He.cT K ("law", none)).2, K10.lamN, KX, c.empty _ List.mem_cons_self, c.out _ List.mem_cons_self, c.hd _ List.mem_cons_self, hb, fun base h1 h2 h3 => hF base _ h1 h2 h3⟩


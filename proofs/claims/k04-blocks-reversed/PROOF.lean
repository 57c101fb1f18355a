import PyProof.Rows.All
import Wide.All
import OpenK.AllK
import Wide.FinOn
import HandS.ForMost
import HandS.Exc
import HandS.ExcOwn
import HandS.ExcInit
import HandS.TryOnly
import HandS.TryMany
import HandS.WordsExc
import HandS.Wide
import HandS.Walk
import HandS.IsInst
import HandS.TupAny
import HandS.TupMul
import HandS.Star
import HandS.Zip
import HandS.NoneIn
import HandS.Style
import HandS.Sort
import HandS.Text
import KE.KStateDown
import HandS.Head0
import HandS.Head1
import HandS.Head2
import HandS.HeadEnd
import HandS.HeadHook1
import HandS.HeadHook2
import HandS.HeadNt
import HandS.Deep
import PyProof.Rows.MatchSeqLen
import PyProof.SliceList
import HandS.Dict
import PyProof.WalkInts
import PyProof.MinMaxWalk
import HandS.SortKw
import PySem.Challenge.RW_strewfar_k04_blocks_reversed
set_option Elab.async false
set_option linter.all false
set_option maxRecDepth 100000
set_option maxHeartbeats 8000000
/-! A data layer over the hand layer: values as data, a frozen part F and a mutable part M of the heap; each construct a transformer of wishes. -/
namespace DL
open PySem PySem.Spec PyProof.Rows L2

/-- built-in classes -/
inductive Ty where
  | int | bool | str | tuple | list | dict
def Ty.name : Ty → String
  | .int => "int" | .bool => "bool" | .str => "str" | .tuple => "tuple" | .list => "list" | .dict => "dict"
/-- data -/
inductive D where
  | non | bl (b : Bool) | int (i : Int) | str (x : Str) | ref (a : Addr) | ty (n : Ty)
  | tup (xs : List D) | lst (xs : List D)
  /-- the script: a list of ints that is only read -/
  | scr (ns : List Int)

mutual
inductive Rep (K : PySem.W.Frag) (F : Hp) : V → D → Prop
  | non : Rep K F .non .non
  | bl (b : Bool) : Rep K F (.bl b) (.bl b)
  | int (i : Int) : Rep K F (.int i) (.int i)
  | str (x : Str) : Rep K F (.str x) (.str x)
  | ref (a : Addr) : Rep K F (.ref a) (.ref a)
  | ty (n : Ty) : Rep K F (.ty n.name) (.ty n)
  | tup {a : Addr} {xs : List V} {ds : List D} : SqT K F a xs → Reps K F xs ds → ds.length ≤ sizeLine → Rep K F (.ref a) (.tup ds)
  | lst {a : Addr} {xs : List V} {ds : List D} : F a = some (.lst xs) → Reps K F xs ds → ds.length ≤ sizeLine → Rep K F (.ref a) (.lst ds)
  | scr {a : Addr} {ns : List Int} : SqL K F a (ns.map V.int) → Rep K F (.ref a) (.scr ns)
inductive Reps (K : PySem.W.Frag) (F : Hp) : List V → List D → Prop
  | nil : Reps K F [] []
  | cons {v : V} {vs : List V} {d : D} {ds : List D} : Rep K F v d → Reps K F vs ds → Reps K F (v :: vs) (d :: ds)
end

theorem seqT {K : PySem.W.Frag} {H H' : Hp} {a : Addr} {xs : List V} (e : Same H H') (h : SqT K H a xs) : SqT K H' a xs := by
  rcases h with (h | ⟨o, h⟩) | h
  · exact .inl (.inl (e _ _ h))
  · exact .inl (.inr ⟨o, e _ _ h⟩)
  · exact .inr h

section
variable {K : PySem.W.Frag} {F F' : Hp}
mutual
theorem Rep.mono (e : Same F F') : ∀ {v : V} {d : D}, Rep K F v d → Rep K F' v d
  | _, _, .non => .non
  | _, _, .bl b => .bl b
  | _, _, .int i => .int i
  | _, _, .str x => .str x
  | _, _, .ref a => .ref a
  | _, _, .ty n => .ty n
  | _, _, .tup h r l => .tup (seqT e h) (Reps.mono e r) l
  | _, _, .lst h r l => .lst (e _ _ h) (Reps.mono e r) l
  | _, _, .scr h => .scr (e.seq h)
theorem Reps.mono (e : Same F F') : ∀ {vs : List V} {ds : List D}, Reps K F vs ds → Reps K F' vs ds
  | _, _, .nil => .nil
  | _, _, .cons h r => .cons (Rep.mono e h) (Reps.mono e r)
end
theorem Reps.length : ∀ {vs : List V} {ds : List D}, Reps K F vs ds → vs.length = ds.length
  | _, _, .nil => rfl
  | _, _, .cons _ r => congrArg (· + 1) (Reps.length r)
theorem Reps.get : ∀ {vs : List V} {ds : List D} {i : Nat} {d : D}, Reps K F vs ds → ds[i]? = some d → ∃ v, vs[i]? = some v ∧ Rep K F v d
  | _, _, _, _, .nil, e => by simp at e
  | _, _, 0, _, .cons h _, e => by simp at e; subst e; exact ⟨_, rfl, h⟩
  | _, _, i + 1, _, .cons _ r, e => by
    obtain ⟨v, h1, h2⟩ := Reps.get (i := i) r (by simpa using e)
    exact ⟨v, by simpa using h1, h2⟩
theorem Reps.getV : ∀ {vs : List V} {ds : List D} {i : Nat} {v : V}, Reps K F vs ds → vs[i]? = some v → ∃ d, ds[i]? = some d ∧ Rep K F v d
  | _, _, _, _, .nil, e => by simp at e
  | _, _, 0, _, .cons h _, e => by simp at e; subst e; exact ⟨_, rfl, h⟩
  | _, _, i + 1, _, .cons _ r, e => by
    obtain ⟨v, h1, h2⟩ := Reps.getV (i := i) r (by simpa using e)
    exact ⟨v, by simpa using h1, h2⟩
theorem Reps.append : ∀ {vs ws : List V} {ds es : List D}, Reps K F vs ds → Reps K F ws es → Reps K F (vs ++ ws) (ds ++ es)
  | _, _, _, _, .nil, q => q
  | _, _, _, _, .cons h r, q => .cons h (Reps.append r q)
theorem Reps.snoc {vs : List V} {v : V} {ds : List D} {d : D} (h : Reps K F vs ds) (q : Rep K F v d) : Reps K F (vs ++ [v]) (ds ++ [d]) := h.append (.cons q .nil)
theorem Reps.take : ∀ (n : Nat) {vs : List V} {ds : List D}, Reps K F vs ds → Reps K F (vs.take n) (ds.take n)
  | 0, _, _, _ => .nil
  | _ + 1, _, _, .nil => .nil
  | n + 1, _, _, .cons h r => .cons h (Reps.take n r)
theorem Reps.drop : ∀ (n : Nat) {vs : List V} {ds : List D}, Reps K F vs ds → Reps K F (vs.drop n) (ds.drop n)
  | 0, _, _, r => r
  | _ + 1, _, _, .nil => .nil
  | n + 1, _, _, .cons _ r => Reps.drop n r
theorem Reps.reverse : ∀ {vs : List V} {ds : List D}, Reps K F vs ds → Reps K F vs.reverse ds.reverse
  | _, _, .nil => .nil
  | _, _, .cons h r => by
    rw [List.reverse_cons, List.reverse_cons]
    exact (Reps.reverse r).snoc h
theorem Reps.set : ∀ {vs : List V} {ds : List D} {v : V} {d : D} (i : Nat), Reps K F vs ds → Rep K F v d → Reps K F (vs.set i v) (ds.set i d)
  | _, _, _, _, _, .nil, _ => .nil
  | _, _, _, _, 0, .cons _ r, q => .cons q r
  | _, _, _, _, i + 1, .cons h r, q => .cons h (Reps.set i r q)
theorem Reps.rep : ∀ (n : Nat) {vs : List V} {ds : List D}, Reps K F vs ds → Reps K F (List.replicate n vs).flatten (List.replicate n ds).flatten
  | 0, _, _, _ => .nil
  | n + 1, _, _, r => by
    rw [List.replicate_succ, List.replicate_succ, List.flatten_cons, List.flatten_cons]
    exact r.append (Reps.rep n r)
theorem Reps.ints : ∀ {vs : List V} {ns : List Int}, Reps K F vs (ns.map D.int) → vs = ns.map V.int
  | _, [], .nil => rfl
  | _, n :: ns, .cons h r => by
    cases h
    rw [Reps.ints r]
    rfl
theorem Reps.bls : ∀ {vs : List V} {ns : List Bool}, Reps K F vs (ns.map D.bl) → vs = ns.map V.bl
  | _, [], .nil => rfl
  | _, n :: ns, .cons h r => by
    cases h
    rw [Reps.bls r]
    rfl
theorem Reps.strs : ∀ {vs : List V} {ns : List Str}, Reps K F vs (ns.map D.str) → vs = ns.map V.str
  | _, [], .nil => rfl
  | _, n :: ns, .cons h r => by
    cases h
    rw [Reps.strs r]
    rfl
theorem Reps.of_ints : ∀ (ns : List Int), Reps K F (ns.map V.int) (ns.map D.int)
  | [] => .nil
  | n :: ns => .cons (.int n) (Reps.of_ints ns)
theorem Reps.of_strs : ∀ (ns : List Str), Reps K F (ns.map V.str) (ns.map D.str)
  | [] => .nil
  | n :: ns => .cons (.str n) (Reps.of_strs ns)
end

/-! ### the mutable part -/
inductive MO where
  | lst (ds : List D)
abbrev MH := Addr → Option MO
def mupd (M : MH) (a : Addr) (o : MO) : MH := fun b => if b = a then some o else M b
def mdel (M : MH) (a : Addr) : MH := fun b => if b = a then none else M b
theorem mupd_same {M : MH} {a : Addr} {o : MO} : mupd M a o a = some o := if_pos rfl
theorem mupd_ne {M : MH} {a b : Addr} {o : MO} (h : b ≠ a) : mupd M a o b = M b := if_neg h
theorem mdel_same {M : MH} {a : Addr} : mdel M a a = none := if_pos rfl
theorem mdel_ne {M : MH} {a b : Addr} (h : b ≠ a) : mdel M a b = M b := if_neg h
/-- a part of it -/
def Sub (M M' : MH) : Prop := ∀ a o, M a = some o → M' a = some o
theorem Sub.refl (M : MH) : Sub M M := fun _ _ h => h
theorem Sub.trans {M M1 M2 : MH} (a : Sub M M1) (b : Sub M1 M2) : Sub M M2 := fun c o h => b c o (a c o h)

def RepO (K : PySem.W.Frag) (F : Hp) : MO → HO → Prop
  | .lst ds, o => ∃ xs, o = .lst xs ∧ Reps K F xs ds ∧ ds.length ≤ sizeLine
theorem RepO.mono {K : PySem.W.Frag} {F F' : Hp} (e : Same F F') : ∀ {m : MO} {o : HO}, RepO K F m o → RepO K F' m o
  | .lst _, _, ⟨xs, h, r, l⟩ => ⟨xs, h, r.mono e, l⟩

structure RepS (K : PySem.W.Frag) (H F : Hp) (M : MH) : Prop where
  fz : Same F H
  mu : ∀ a m, M a = some m → F a = none ∧ ∃ o, H a = some o ∧ RepO K F m o
/-- from one state to a later one: what is frozen stays, what is neither frozen nor told of stays untouched -/
structure Ext (H F : Hp) (M : MH) (H' F' : Hp) (M' : MH) : Prop where
  sm : Same F F'
  fr : ∀ a o, H a = some o → F a = none → M a = none → H' a = some o ∧ F' a = none ∧ M' a = none
theorem Ext.refl (H F : Hp) (M : MH) : Ext H F M H F M := ⟨Same.refl F, fun _ _ a b c => ⟨a, b, c⟩⟩
theorem Ext.trans {H F : Hp} {M : MH} {H1 F1 : Hp} {M1 : MH} {H2 F2 : Hp} {M2 : MH} (a : Ext H F M H1 F1 M1) (b : Ext H1 F1 M1 H2 F2 M2) : Ext H F M H2 F2 M2 :=
  ⟨a.sm.trans b.sm, fun c o h1 h2 h3 => let ⟨q1, q2, q3⟩ := a.fr c o h1 h2 h3; b.fr c o q1 q2 q3⟩

section
variable {K : PySem.W.Frag} {H F : Hp} {M : MH} {a : Addr}
theorem RepS.fno (S : RepS K H F M) (h : H a = none) : F a = none := S.fz.free h
theorem RepS.mno (S : RepS K H F M) (h : H a = none) : M a = none := by
  cases e : M a with
  | none => rfl
  | some m =>
    obtain ⟨_, o, q, _⟩ := S.mu a m e
    rw [h] at q
    cases q
/-- a new frozen object -/
theorem RepS.lay (S : RepS K H F M) (h : H a = none) (o : HO) : RepS K (upd H a o) (upd F a o) M ∧ Ext H F M (upd H a o) (upd F a o) M := by
  have hf := S.fno h
  have hm := S.mno h
  have sF : Same F (upd F a o) := fun b u q => by rw [upd_ne (ne_of_none q hf)]; exact q
  refine ⟨⟨fun b u q => ?_, fun b m q => ?_⟩, sF, fun b u q1 q2 q3 => ?_⟩
  · by_cases hb : b = a
    · subst hb; rw [upd_same] at q ⊢; exact q
    · rw [upd_ne hb] at q ⊢; exact S.fz b u q
  · have hb : b ≠ a := fun z => by rw [z, hm] at q; cases q
    obtain ⟨q1, u, q2, q3⟩ := S.mu b m q
    exact ⟨by rw [upd_ne hb]; exact q1, u, by rw [upd_ne hb]; exact q2, q3.mono sF⟩
  · have hb : b ≠ a := fun z => by rw [z, h] at q1; cases q1
    exact ⟨by rw [upd_ne hb]; exact q1, by rw [upd_ne hb]; exact q2, q3⟩
/-- a new mutable object -/
theorem RepS.layM (S : RepS K H F M) (h : H a = none) {o : HO} {m : MO} (r : RepO K F m o) : RepS K (upd H a o) F (mupd M a m) ∧ Ext H F M (upd H a o) F (mupd M a m) := by
  have hf := S.fno h
  have hm := S.mno h
  refine ⟨⟨fun b u q => ?_, fun b n q => ?_⟩, Same.refl F, fun b u q1 q2 q3 => ?_⟩
  · rw [upd_ne (ne_of_none q hf)]; exact S.fz b u q
  · by_cases hb : b = a
    · subst hb; rw [mupd_same] at q; cases q
      exact ⟨hf, o, upd_same, r⟩
    · rw [mupd_ne hb] at q
      obtain ⟨q1, u, q2, q3⟩ := S.mu b n q
      exact ⟨q1, u, by rw [upd_ne hb]; exact q2, q3⟩
  · have hb : b ≠ a := fun z => by rw [z, h] at q1; cases q1
    exact ⟨by rw [upd_ne hb]; exact q1, q2, by rw [mupd_ne hb]; exact q3⟩
/-- a mutable object is written -/
theorem RepS.write (S : RepS K H F M) {m0 m : MO} (h : M a = some m0) {o : HO} (r : RepO K F m o) : RepS K (upd H a o) F (mupd M a m) ∧ Ext H F M (upd H a o) F (mupd M a m) := by
  obtain ⟨hf, _⟩ := S.mu a m0 h
  refine ⟨⟨fun b u q => ?_, fun b n q => ?_⟩, Same.refl F, fun b u q1 q2 q3 => ?_⟩
  · rw [upd_ne (ne_of_none q hf)]; exact S.fz b u q
  · by_cases hb : b = a
    · subst hb; rw [mupd_same] at q; cases q
      exact ⟨hf, o, upd_same, r⟩
    · rw [mupd_ne hb] at q
      obtain ⟨q1, u, q2, q3⟩ := S.mu b n q
      exact ⟨q1, u, by rw [upd_ne hb]; exact q2, q3⟩
  · have hb : b ≠ a := fun z => by rw [z, h] at q3; cases q3
    exact ⟨by rw [upd_ne hb]; exact q1, q2, by rw [mupd_ne hb]; exact q3⟩
/-- a mutable object is frozen -/
theorem RepS.freeze (S : RepS K H F M) {m : MO} {o : HO} (h : M a = some m) (ho : H a = some o) : RepS K H (upd F a o) (mdel M a) ∧ Ext H F M H (upd F a o) (mdel M a) := by
  obtain ⟨hf, _⟩ := S.mu a m h
  have sF : Same F (upd F a o) := fun b u q => by rw [upd_ne (ne_of_none q hf)]; exact q
  refine ⟨⟨fun b u q => ?_, fun b n q => ?_⟩, sF, fun b u q1 q2 q3 => ?_⟩
  · by_cases hb : b = a
    · subst hb; rw [upd_same] at q; cases q; exact ho
    · rw [upd_ne hb] at q; exact S.fz b u q
  · have hb : b ≠ a := fun z => by rw [z, mdel_same] at q; cases q
    rw [mdel_ne hb] at q
    obtain ⟨q1, u, q2, q3⟩ := S.mu b n q
    exact ⟨by rw [upd_ne hb]; exact q1, u, q2, q3.mono sF⟩
  · have hb : b ≠ a := fun z => by rw [z, h] at q3; cases q3
    exact ⟨q1, by rw [upd_ne hb]; exact q2, by rw [mdel_ne hb]; exact q3⟩
/-- some of it is told no more -/
theorem RepS.forget {M' : MH} (S : RepS K H F M) (s : Sub M' M) : RepS K H F M' ∧ Ext H F M H F M' :=
  ⟨⟨S.fz, fun b n q => S.mu b n (s b n q)⟩, Same.refl F, fun b u q1 q2 q3 => ⟨q1, q2, by
    cases e : M' b with
    | none => rfl
    | some n => rw [s b n e] at q3; cases q3⟩⟩
theorem RepS.mlst (S : RepS K H F M) {ds : List D} (h : M a = some (.lst ds)) : F a = none ∧ ds.length ≤ sizeLine ∧ ∃ xs, H a = some (.lst xs) ∧ Reps K F xs ds := by
  obtain ⟨hf, o, ho, xs, e, r, l⟩ := S.mu a _ h
  subst e
  exact ⟨hf, l, xs, ho, r⟩
end

/-! ### the slots -/
abbrev Rh := List (Option D)
inductive RepE (K : PySem.W.Frag) (F : Hp) : L2.St → Rh → Prop
  | nil : RepE K F [] []
  | no {x : Option V} {σ : L2.St} {ρ : Rh} : RepE K F σ ρ → RepE K F (x :: σ) (none :: ρ)
  | yes {v : V} {d : D} {σ : L2.St} {ρ : Rh} : Rep K F v d → RepE K F σ ρ → RepE K F (some v :: σ) (some d :: ρ)
section
variable {K : PySem.W.Frag} {F F' : Hp}
theorem RepE.mono (e : Same F F') : ∀ {σ : L2.St} {ρ : Rh}, RepE K F σ ρ → RepE K F' σ ρ
  | _, _, .nil => .nil
  | _, _, .no r => .no (RepE.mono e r)
  | _, _, .yes h r => .yes (h.mono e) (RepE.mono e r)
theorem RepE.get : ∀ {σ : L2.St} {ρ : Rh} {i : Nat} {d : D}, RepE K F σ ρ → ρ[i]? = some (some d) → ∃ v, σ[i]? = some (some v) ∧ Rep K F v d
  | _, _, _, _, .nil, e => by simp at e
  | _, _, 0, _, .no _, e => by simp at e
  | _, _, 0, _, .yes h _, e => by simp at e; subst e; exact ⟨_, rfl, h⟩
  | _, _, i + 1, _, .no r, e => by
    obtain ⟨v, h1, h2⟩ := RepE.get (i := i) r (by simpa using e)
    exact ⟨v, by simpa using h1, h2⟩
  | _, _, i + 1, _, .yes _ r, e => by
    obtain ⟨v, h1, h2⟩ := RepE.get (i := i) r (by simpa using e)
    exact ⟨v, by simpa using h1, h2⟩
theorem RepE.set : ∀ {σ : L2.St} {ρ : Rh} {v : V} {d : D} (i : Nat), RepE K F σ ρ → Rep K F v d → RepE K F (σ.set i (some v)) (ρ.set i (some d))
  | _, _, _, _, _, .nil, _ => .nil
  | _, _, _, _, 0, .no r, q => .yes q r
  | _, _, _, _, 0, .yes _ r, q => .yes q r
  | _, _, _, _, i + 1, .no r, q => .no (RepE.set i r q)
  | _, _, _, _, i + 1, .yes h r, q => .yes h (RepE.set i r q)
theorem RepE.setNo : ∀ {σ : L2.St} {ρ : Rh} {x : Option V} (i : Nat), RepE K F σ ρ → RepE K F (σ.set i x) (ρ.set i none)
  | _, _, _, _, .nil => .nil
  | _, _, _, 0, .no r => .no r
  | _, _, _, 0, .yes _ r => .no r
  | _, _, _, i + 1, .no r => .no (RepE.setNo i r)
  | _, _, _, i + 1, .yes h r => .yes h (RepE.setNo i r)
theorem RepE.setD : ∀ {σ : L2.St} {ρ : Rh} {v : V} {d : D} (i : Nat), RepE K F σ ρ → σ[i]? = some (some v) → Rep K F v d → RepE K F σ (ρ.set i (some d))
  | _, _, _, _, _, .nil, _, _ => .nil
  | _, _, _, _, 0, .no r, e, q => by simp at e; subst e; exact .yes q r
  | _, _, _, _, 0, .yes _ r, e, q => by simp at e; subst e; exact .yes q r
  | _, _, _, _, i + 1, .no r, e, q => .no (RepE.setD i r (by simpa using e) q)
  | _, _, _, _, i + 1, .yes h r, e, q => .yes h (RepE.setD i r (by simpa using e) q)
theorem RepE.length : ∀ {σ : L2.St} {ρ : Rh}, RepE K F σ ρ → σ.length = ρ.length
  | _, _, .nil => rfl
  | _, _, .no r => congrArg (· + 1) (RepE.length r)
  | _, _, .yes _ r => congrArg (· + 1) (RepE.length r)
end
def wipeD (ρ : Rh) : List Nat → Rh
  | [] => ρ
  | v :: vs => (wipeD ρ vs).set v none
theorem RepE.wipe {K : PySem.W.Frag} {F : Hp} {σ : L2.St} {ρ : Rh} (r : RepE K F σ ρ) : ∀ vs : List Nat, RepE K F (L2.wipe σ vs) (wipeD ρ vs)
  | [] => r
  | v :: vs => (r.wipe vs).setNo v
def startD (N : List Str) (ds : List D) : Rh := ds.map some ++ List.replicate (N.length - ds.length) none
theorem RepE.start {K : PySem.W.Frag} {F : Hp} {N : List Str} {vs : List V} {ds : List D} (r : Reps K F vs ds) : RepE K F (L2.start N vs) (startD N ds) := by
  unfold L2.start startD
  have tail : ∀ n : Nat, RepE K F (List.replicate n (none : Option V)) (List.replicate n (none : Option D)) := fun n => by
    induction n with
    | zero => exact .nil
    | succ n ih => exact .no ih
  rw [r.length]
  have go : ∀ {vs : List V} {ds : List D} {σ : L2.St} {ρ : Rh}, Reps K F vs ds → RepE K F σ ρ → RepE K F (vs.map some ++ σ) (ds.map some ++ ρ) := fun {vs ds σ ρ} r q => by
    induction ds generalizing vs with
    | nil => cases r; exact q
    | cons d ds ih =>
      cases r with
      | cons h t => exact .yes h (ih t)
  exact go r (tail _)
end DL

namespace DL
open PySem PySem.Spec PyProof.Rows L2

/-! ### wishes -/
abbrev KD := D → MH → Prop
abbrev KE := Addr → List (Str × D) → MH → Prop
inductive RepF (K : PySem.W.Frag) (F : Hp) : List (Str × V) → List (Str × D) → Prop
  | nil : RepF K F [] []
  | cons {n : Str} {v : V} {d : D} {vs : List (Str × V)} {ds : List (Str × D)} : Rep K F v d → RepF K F vs ds → RepF K F ((n, v) :: vs) ((n, d) :: ds)
def PostV (K : PySem.W.Frag) (H F : Hp) (M : MH) (k : KD) (Q : VK) : Prop := ∀ v d H' F' M', Ext H F M H' F' M' → RepS K H' F' M' → Rep K F' v d → k d M' → Q v H'
def PostB (K : PySem.W.Frag) (H F : Hp) (M : MH) (k : Bool → MH → Prop) (Q : Bool → Hp → Prop) : Prop := ∀ b H' F' M', Ext H F M H' F' M' → RepS K H' F' M' → k b M' → Q b H'
def PostA (K : PySem.W.Frag) (H F : Hp) (M : MH) (k : List D → MH → Prop) (Q : List V → Hp → Prop) : Prop := ∀ vs ds H' F' M', Ext H F M H' F' M' → RepS K H' F' M' → Reps K F' vs ds → k ds M' → Q vs H'
def PostX (K : PySem.W.Frag) (H F : Hp) (M : MH) (x : KE) (w : XK) : Prop := ∀ C dd vfs fs H' F' M', Ext H F M H' F' M' → RepS K H' F' M' → H' dd = some (.xd vfs) → RepF K F' vfs fs → x C fs M' → w (.ref C) (some dd) H'
section
variable {K : PySem.W.Frag} {H F : Hp} {M : MH} {H' F' : Hp} {M' : MH}
theorem PostV.on {k : KD} {Q : VK} (p : PostV K H F M k Q) (e : Ext H F M H' F' M') : PostV K H' F' M' k Q := fun v d H2 F2 M2 e2 => p v d H2 F2 M2 (e.trans e2)
theorem PostB.on {k : Bool → MH → Prop} {Q : Bool → Hp → Prop} (p : PostB K H F M k Q) (e : Ext H F M H' F' M') : PostB K H' F' M' k Q := fun b H2 F2 M2 e2 => p b H2 F2 M2 (e.trans e2)
theorem PostA.on {k : List D → MH → Prop} {Q : List V → Hp → Prop} (p : PostA K H F M k Q) (e : Ext H F M H' F' M') : PostA K H' F' M' k Q := fun v d H2 F2 M2 e2 => p v d H2 F2 M2 (e.trans e2)
theorem PostX.on {x : KE} {w : XK} (p : PostX K H F M x w) (e : Ext H F M H' F' M') : PostX K H' F' M' x w := fun C dd vfs fs H2 F2 M2 e2 => p C dd vfs fs H2 F2 M2 (e.trans e2)
/-- the value at hand -/
theorem PostV.at {k : KD} {Q : VK} (p : PostV K H F M k Q) (S : RepS K H F M) {v : V} {d : D} (r : Rep K F v d) (h : k d M) : Q v H := p v d H F M (Ext.refl _ _ _) S r h
end

/-! ### judgements -/
abbrev WE := Rh → MH → KD → KE → Prop
abbrev WT := Rh → MH → (Bool → MH → Prop) → KE → Prop
abbrev WA := Rh → MH → (List D → MH → Prop) → KE → Prop
def tOf (K : PySem.W.Frag) (W : WX) (w : WE) : TE := fun σ H Q => ∃ F M ρ k x, RepS K H F M ∧ RepE K F σ ρ ∧ w ρ M k x ∧ PostV K H F M k Q ∧ PostX K H F M x (fun c d => W c d σ)
def tOfT (K : PySem.W.Frag) (W : WX) (w : WT) : TT := fun σ H Q => ∃ F M ρ k x, RepS K H F M ∧ RepE K F σ ρ ∧ w ρ M k x ∧ PostB K H F M k Q ∧ PostX K H F M x (fun c d => W c d σ)
def tOfA (K : PySem.W.Frag) (W : WX) (w : WA) : TA := fun σ H Q => ∃ F M ρ k x, RepS K H F M ∧ RepE K F σ ρ ∧ w ρ M k x ∧ PostA K H F M k Q ∧ PostX K H F M x (fun c d => W c d σ)
structure DE (X : Cx) (e : Expr) (w : WE) : Prop where
  pe : ∀ W, Takes X W → PE X e (tOf X.K W w)
structure DT (X : Cx) (e : Expr) (w : WT) : Prop where
  pt : ∀ W, Takes X W → PT X e (tOfT X.K W w)
structure DW (X : Cx) (e : Expr) (w : WT) : Prop where
  pw : ∀ W, Takes X W → PW X e (tOfT X.K W w)
structure DA (X : Cx) (es : List Expr) (w : WA) : Prop where
  pa : ∀ W, Takes X W → PA X es (tOfA X.K W w)
section
variable {X : Cx}
theorem pe_imp {e : Expr} {t t' : TE} (h : PE X e t) (i : ∀ σ H Q, t' σ H Q → t σ H Q) : PE X e t' := ⟨fun pins s σ H Q I q => h.run pins s σ H Q I (i σ H Q q)⟩
theorem pt_imp {e : Expr} {t t' : TT} (h : PT X e t) (i : ∀ σ H Q, t' σ H Q → t σ H Q) : PT X e t' := ⟨fun pins s σ H Q I q => h.run pins s σ H Q I (i σ H Q q)⟩
theorem pw_imp {e : Expr} {t t' : TT} (h : PW X e t) (i : ∀ σ H Q, t' σ H Q → t σ H Q) : PW X e t' := ⟨fun wh pins s σ H Q I q => h.run wh pins s σ H Q I (i σ H Q q)⟩
theorem pa_imp {e : List Expr} {t t' : TA} (h : PA X e t) (i : ∀ σ H Q, t' σ H Q → t σ H Q) : PA X e t' := ⟨fun pos pins s σ H Q I q => h.run pos pins s σ H Q I (i σ H Q q)⟩
theorem ps_imp {st : Stmt} {t t' : TS} (h : PS X st t) (i : ∀ E σ H, t' E σ H → t E σ H) : PS X st t' := ⟨fun pins s σ H E I q => h.run pins s σ H E I (i E σ H q)⟩
theorem pss_imp {st : List Stmt} {t t' : TS} (h : PSs X st t) (i : ∀ E σ H, t' E σ H → t E σ H) : PSs X st t' := ⟨fun pins s σ H E I q => h.run pins s σ H E I (i E σ H q)⟩
theorem pi_imp {tg iter : Expr} {t t' : TI} (h : PI X tg iter t) (i : ∀ σ H R, t' σ H R → t σ H R) : PI X tg iter t' := ⟨fun pins s σ H R I q => h.run pins s σ H R I (i σ H R q)⟩
theorem pg_imp {tg : Expr} {t t' : TG} (h : PG X tg t) (i : ∀ v σ H Q, t' v σ H Q → t v σ H Q) : PG X tg t' := ⟨fun pins s σ H v u Q I r q => h.run pins s σ H v u Q I r (i v σ H Q q)⟩
end

/-- a condition that is reckoned -/
def gd (b : Bool) (p : Prop) : Prop := match b with
  | true => p
  | false => False
theorem gd_of {b : Bool} {p : Prop} (h : gd b p) : b = true ∧ p := by
  cases b with
  | true => exact ⟨rfl, h⟩
  | false => exact h.elim
theorem gd_mk {b : Bool} {p : Prop} (h : b = true) (q : p) : gd b p := by subst h; exact q

/-! ### names, constants -/
def wVar (i : Nat) : WE := fun ρ M k _ => match ρ[i]? with
  | some (some d) => k d M
  | _ => False
def wC (d : D) : WE := fun _ M k _ => k d M
section
variable {X : Cx} {pos : Pos}
theorem de_var {i : Nat} {x : Str} (h : PE X (.Name x pos) (tVar i)) : DE X (.Name x pos) (wVar i) := by
  refine ⟨fun W _ => pe_imp h fun σ H Q q => ?_⟩
  obtain ⟨F, M, ρ, k, x, S, E, w, pv, px⟩ := q
  unfold wVar at w
  split at w
  · rename_i d e
    obtain ⟨v, h1, h2⟩ := E.get e
    exact ⟨v, h1, pv.at S h2 w⟩
  · exact w.elim
theorem dv (i : Nat) {x : Str} (hN : X.N[i]? = some x := by rfl) (hv : Vis X.env.scope x := by first | exact Or.inl rfl | exact Or.inr (Or.inl rfl) | exact Or.inr (Or.inr rfl)) (hd : (x == ("__debug__" : Str)) = false := by decide)
    (hcd : (x == ("__classdict__" : Str)) = false := by decide) : DE X (.Name x pos) (wVar i) := de_var (pe_var hN hv hd hcd)
theorem de_c {e : Expr} {v : V} {d : D} (h : PE X e (tC v)) (r : ∀ F, Rep X.K F v d) : DE X e (wC d) := by
  refine ⟨fun W _ => pe_imp h fun σ H Q q => ?_⟩
  obtain ⟨F, M, ρ, k, x, S, E, w, pv, px⟩ := q
  exact pv.at S (r F) w
theorem de_int {i : Int} {j} : DE X (.Constant (.int i) j pos) (wC (.int i)) := de_c pe_int fun _ => .int i
theorem de_bl {b : Bool} {j} : DE X (.Constant (.bool b) j pos) (wC (.bl b)) := de_c pe_bl fun _ => .bl b
theorem de_non {j} : DE X (.Constant .none j pos) (wC .non) := de_c pe_non fun _ => .non
theorem de_str {x : Str} {j} : DE X (.Constant (.str x) j pos) (wC (.str x)) := de_c pe_str fun _ => .str x
/-- a module's constant -/
theorem de_glob {x : Str} {v : V} {u : Value} {d : D} (hm : X.mg x = some u) (r : RelV v u) (rd : ∀ F, Rep X.K F v d) (hg : Gl X x := by rfl) (hd : (x == ("__debug__" : Str)) = false := by decide) : DE X (.Name x pos) (wC d) := de_c (pe_glob hg hm r hd) rd
theorem de_ty {x : Str} {n : Ty} (hm : X.mg x = none) (hv : bootBuiltins x = some (.type n.name)) (hg : Gl X x := by rfl) (hn : x ≠ "__name__" := by decide) (hd : (x == ("__debug__" : Str)) = false := by decide) : DE X (.Name x pos) (wC (.ty n)) :=
  de_c (pe_bltn (v := .ty n.name) hg hm hv rfl hn hd) fun _ => .ty n
end

/-! ### operators -/
def wOp (r : D → D → MH → KD → Prop) (wa wb : WE) : WE := fun ρ M k x => wa ρ M (fun d M1 => wb ρ M1 (fun e M2 => r d e M2 k) x) x
def wUn (r : D → MH → KD → Prop) (wa : WE) : WE := fun ρ M k x => wa ρ M (fun d M1 => r d M1 k) x
def OpD (X : Cx) (f : Value → Value → Sem Value) (r : D → D → MH → KD → Prop) : Prop :=
  ∃ r2 : R2, OpR X f r2 ∧ ∀ d e v u H F M k Q, RepS X.K H F M → Rep X.K F v d → Rep X.K F u e → r d e M k → PostV X.K H F M k Q → r2 v u H Q
def UnD (X : Cx) (f : Value → Sem Value) (r : D → MH → KD → Prop) : Prop :=
  ∃ r2 : V → Hp → VK → Prop, UnR X f r2 ∧ ∀ d v H F M k Q, RepS X.K H F M → Rep X.K F v d → r d M k → PostV X.K H F M k Q → r2 v H Q
section
variable {X : Cx} {a b : Expr} {wa wb : WE} {pos : Pos}
theorem two {W : WX} {σ : L2.St} {H F : Hp} {M : MH} {ρ : Rh} {k : D → D → MH → Prop} {x : KE} {Q : V → V → Hp → Prop} (S : RepS X.K H F M) (E : RepE X.K F σ ρ)
    (w : wa ρ M (fun d M1 => wb ρ M1 (fun e M2 => k d e M2) x) x) (px : PostX X.K H F M x (fun c d => W c d σ))
    (h : ∀ v u d e H2 F2 M2, Ext H F M H2 F2 M2 → RepS X.K H2 F2 M2 → Rep X.K F2 v d → Rep X.K F2 u e → k d e M2 → Q v u H2) : tOf X.K W wa σ H fun v H1 => tOf X.K W wb σ H1 fun u H2 => Q v u H2 := by
  refine ⟨F, M, ρ, _, x, S, E, w, fun v d H1 F1 M1 e1 S1 r1 w1 => ?_, px⟩
  refine ⟨F1, M1, ρ, _, x, S1, E.mono e1.sm, w1, fun u e H2 F2 M2 e2 S2 r2 w2 => ?_, px.on e1⟩
  exact h v u d e H2 F2 M2 (e1.trans e2) S2 (r1.mono e2.sm) r2 w2
theorem de_op {op : Operator} {r : D → D → MH → KD → Prop} (ho : OpD X (binaryOp op) r) (ha : DE X a wa) (hb : DE X b wb) : DE X (.BinOp a op b pos) (wOp r wa wb) := by
  obtain ⟨r2, h, s⟩ := ho
  refine ⟨fun W tk => pe_imp (pe_op h (ha.pe W tk) (hb.pe W tk)) fun σ H Q q => ?_⟩
  obtain ⟨F, M, ρ, k, x, S, E, w, pv, px⟩ := q
  exact two S E w px fun v u d e H2 F2 M2 e2 S2 r1 r2 w2 => s d e v u H2 F2 M2 k Q S2 r1 r2 w2 (pv.on e2)
theorem de_un {op : UnaryOp} {r : D → MH → KD → Prop} (ho : UnD X (unaryOp op) r) (ha : DE X a wa) : DE X (.UnaryOp op a pos) (wUn r wa) := by
  obtain ⟨r2, h, s⟩ := ho
  refine ⟨fun W tk => pe_imp (pe_un h (ha.pe W tk)) fun σ H Q q => ?_⟩
  obtain ⟨F, M, ρ, k, x, S, E, w, pv, px⟩ := q
  exact ⟨F, M, ρ, _, x, S, E, w, fun v d H1 F1 M1 e1 S1 r1 w1 => s d v H1 F1 M1 k Q S1 r1 w1 (pv.on e1), px⟩
theorem de_cmp {op : CmpOp} {r : D → D → MH → KD → Prop} (ho : OpD X (compareOp op) r) (ha : DE X a wa) (hb : DE X b wb) (hm : behindInMarks op b = false := by first | exact nomark _ | rfl) : DE X (.Compare a [op] [b] pos) (wOp r wa wb) := by
  obtain ⟨r2, h, s⟩ := ho
  refine ⟨fun W tk => pe_imp (pe_cmpR h (ha.pe W tk) (hb.pe W tk) hm) fun σ H Q q => ?_⟩
  obtain ⟨F, M, ρ, k, x, S, E, w, pv, px⟩ := q
  exact two S E w px fun v u d e H2 F2 M2 e2 S2 r1 r2 w2 => s d e v u H2 F2 M2 k Q S2 r1 r2 w2 (pv.on e2)
/-- a test by a value that is a truth value -/
def onBl (d : D) (p : Bool → Prop) : Prop := match d with
  | .bl b => p b
  | _ => False
def wTest (w : WE) : WT := fun ρ M k x => w ρ M (fun d M1 => onBl d fun b => k b M1) x
theorem bl_of {K : PySem.W.Frag} {F : Hp} {v : V} {d : D} {p : Bool → Prop} (r : Rep K F v d) (h : onBl d p) : ∃ b, v = .bl b ∧ p b := by
  cases d with
  | bl b => cases r; exact ⟨b, rfl, h⟩
  | _ => exact h.elim
theorem dt_cmp {op : CmpOp} {r : D → D → MH → KD → Prop} (ho : OpD X (compareOp op) r) (ha : DE X a wa) (hb : DE X b wb) (hm : behindInMarks op b = false := by first | exact nomark _ | rfl) : DT X (.Compare a [op] [b] pos) (wTest (wOp r wa wb)) := by
  obtain ⟨r2, h, s⟩ := ho
  refine ⟨fun W tk => pt_imp (pt_cmpR h (ha.pe W tk) (hb.pe W tk) hm) fun σ H Q q => ?_⟩
  obtain ⟨F, M, ρ, k, x, S, E, w, pv, px⟩ := q
  refine two S E w px fun v u d e H2 F2 M2 e2 S2 r1 r2 w2 => s d e v u H2 F2 M2 _ _ S2 r1 r2 w2 fun v' d' H3 F3 M3 e3 S3 r3 w3 => ?_
  obtain ⟨b, rfl, w4⟩ := bl_of r3 w3
  exact ⟨b, rfl, pv b H3 F3 M3 (e2.trans e3) S3 w4⟩
theorem dt_val {e : Expr} {w : WE} (h : DE X e w) (he : ∀ whole, isTrue e X.env whole = (do let v ← whole; standAt e.pos; holding [v] (truthy v)) := by intro _; rfl) : DT X e (wTest w) := by
  refine ⟨fun W tk => pt_imp (pt_val (h.pe W tk) he) fun σ H Q q => ?_⟩
  obtain ⟨F, M, ρ, k, x, S, E, w, pv, px⟩ := q
  refine ⟨F, M, ρ, _, x, S, E, w, fun v' d' H3 F3 M3 e3 S3 r3 w3 => ?_, px⟩
  obtain ⟨b, rfl, w4⟩ := bl_of r3 w3
  exact ⟨b, rfl, pv b H3 F3 M3 e3 S3 w4⟩
def wNot (w : WT) : WT := fun ρ M k x => w ρ M (fun b M1 => k (!b) M1) x
theorem dt_not {w : WT} (h : DT X a w) : DT X (.UnaryOp .Not a pos) (wNot w) := by
  refine ⟨fun W tk => pt_imp (pt_not (h.pt W tk)) fun σ H Q q => ?_⟩
  obtain ⟨F, M, ρ, k, x, S, E, w, pv, px⟩ := q
  exact ⟨F, M, ρ, _, x, S, E, w, fun b H3 F3 M3 e3 S3 w3 => pv _ H3 F3 M3 e3 S3 w3, px⟩
theorem DW.dt {w : WT} {e : Expr} (h : DW X e w) : DT X e w := ⟨fun W tk => (h.pw W tk).pt⟩
def wAnd (w u : WT) : WT := fun ρ M k x => w ρ M (fun b M1 => match b with
  | true => u ρ M1 k x
  | false => k false M1) x
def wOr (w u : WT) : WT := fun ρ M k x => w ρ M (fun b M1 => match b with
  | true => k true M1
  | false => u ρ M1 k x) x
variable {rest : List Expr} {wt wu : WT}
theorem dw_and1 (ha : DT X a wt) : DW X (.BoolOp .And [a] pos) wt := ⟨fun W tk => pw_and1 (ha.pt W tk)⟩
theorem dw_or1 (ha : DT X a wt) : DW X (.BoolOp .Or [a] pos) wt := ⟨fun W tk => pw_or1 (ha.pt W tk)⟩
theorem dw_and (ha : DT X a wt) (hb : DW X (.BoolOp .And (b :: rest) pos) wu) : DW X (.BoolOp .And (a :: b :: rest) pos) (wAnd wt wu) := by
  refine ⟨fun W tk => pw_imp (pw_and (ha.pt W tk) (hb.pw W tk)) fun σ H Q q => ?_⟩
  obtain ⟨F, M, ρ, k, x, S, E, w, pv, px⟩ := q
  refine ⟨F, M, ρ, _, x, S, E, w, fun c H3 F3 M3 e3 S3 w3 => ?_, px⟩
  cases c with
  | true => rw [if_pos rfl]; exact ⟨F3, M3, ρ, k, x, S3, E.mono e3.sm, w3, pv.on e3, px.on e3⟩
  | false => rw [if_neg Bool.false_ne_true]; exact pv _ H3 F3 M3 e3 S3 w3
theorem dw_or (ha : DT X a wt) (hb : DW X (.BoolOp .Or (b :: rest) pos) wu) : DW X (.BoolOp .Or (a :: b :: rest) pos) (wOr wt wu) := by
  refine ⟨fun W tk => pw_imp (pw_or (ha.pt W tk) (hb.pw W tk)) fun σ H Q q => ?_⟩
  obtain ⟨F, M, ρ, k, x, S, E, w, pv, px⟩ := q
  refine ⟨F, M, ρ, _, x, S, E, w, fun c H3 F3 M3 e3 S3 w3 => ?_, px⟩
  cases c with
  | true => rw [if_pos rfl]; exact pv _ H3 F3 M3 e3 S3 w3
  | false => rw [if_neg Bool.false_ne_true]; exact ⟨F3, M3, ρ, k, x, S3, E.mono e3.sm, w3, pv.on e3, px.on e3⟩
/-- as values: all but the last truth values -/
def wAndV (wa wb : WE) : WE := fun ρ M k x => wa ρ M (fun d M1 => onBl d fun b => match b with
  | true => wb ρ M1 k x
  | false => k (.bl false) M1) x
def wOrV (wa wb : WE) : WE := fun ρ M k x => wa ρ M (fun d M1 => onBl d fun b => match b with
  | true => k (.bl true) M1
  | false => wb ρ M1 k x) x
def wNotV (wa : WE) : WE := fun ρ M k x => wa ρ M (fun d M1 => onBl d fun b => k (.bl (!b)) M1) x
theorem de_one {op} (h : DE X a wa) : DE X (.BoolOp op [a] pos) wa := ⟨fun W tk => pe_one (h.pe W tk)⟩
theorem de_and (ha : DE X a wa) (hb : DE X (.BoolOp .And (b :: rest) pos) wb) : DE X (.BoolOp .And (a :: b :: rest) pos) (wAndV wa wb) := by
  refine ⟨fun W tk => pe_imp (pe_and (ha.pe W tk) (hb.pe W tk)) fun σ H Q q => ?_⟩
  obtain ⟨F, M, ρ, k, x, S, E, w, pv, px⟩ := q
  refine ⟨F, M, ρ, _, x, S, E, w, fun v d H3 F3 M3 e3 S3 r3 w3 => ?_, px⟩
  obtain ⟨b, rfl, w4⟩ := bl_of r3 w3
  cases b with
  | true => exact ⟨true, rfl, by rw [if_pos rfl]; exact ⟨F3, M3, ρ, k, x, S3, E.mono e3.sm, w4, pv.on e3, px.on e3⟩⟩
  | false => exact ⟨false, rfl, by rw [if_neg Bool.false_ne_true]; exact pv _ _ H3 F3 M3 e3 S3 (.bl false) w4⟩
theorem de_or (ha : DE X a wa) (hb : DE X (.BoolOp .Or (b :: rest) pos) wb) : DE X (.BoolOp .Or (a :: b :: rest) pos) (wOrV wa wb) := by
  refine ⟨fun W tk => pe_imp (pe_or (ha.pe W tk) (hb.pe W tk)) fun σ H Q q => ?_⟩
  obtain ⟨F, M, ρ, k, x, S, E, w, pv, px⟩ := q
  refine ⟨F, M, ρ, _, x, S, E, w, fun v d H3 F3 M3 e3 S3 r3 w3 => ?_, px⟩
  obtain ⟨b, rfl, w4⟩ := bl_of r3 w3
  cases b with
  | true => exact ⟨true, rfl, by rw [if_pos rfl]; exact pv _ _ H3 F3 M3 e3 S3 (.bl true) w4⟩
  | false => exact ⟨false, rfl, by rw [if_neg Bool.false_ne_true]; exact ⟨F3, M3, ρ, k, x, S3, E.mono e3.sm, w4, pv.on e3, px.on e3⟩⟩
theorem de_not (ha : DE X a wa) : DE X (.UnaryOp .Not a pos) (wNotV wa) := by
  refine ⟨fun W tk => pe_imp (pe_not (ha.pe W tk)) fun σ H Q q => ?_⟩
  obtain ⟨F, M, ρ, k, x, S, E, w, pv, px⟩ := q
  refine ⟨F, M, ρ, _, x, S, E, w, fun v d H3 F3 M3 e3 S3 r3 w3 => ?_, px⟩
  obtain ⟨b, rfl, w4⟩ := bl_of r3 w3
  exact ⟨_, rfl, pv _ _ H3 F3 M3 e3 S3 (.bl _) w4⟩
def wIf (wt : WT) (wa wb : WE) : WE := fun ρ M k x => wt ρ M (fun b M1 => match b with
  | true => wa ρ M1 k x
  | false => wb ρ M1 k x) x
theorem de_if {c : Expr} (hc : DT X c wt) (ha : DE X a wa) (hb : DE X b wb) : DE X (.IfExp c a b pos) (wIf wt wa wb) := by
  refine ⟨fun W tk => pe_imp (pe_ifExp (hc.pt W tk) (ha.pe W tk) (hb.pe W tk)) fun σ H Q q => ?_⟩
  obtain ⟨F, M, ρ, k, x, S, E, w, pv, px⟩ := q
  refine ⟨F, M, ρ, _, x, S, E, w, fun c H3 F3 M3 e3 S3 w3 => ?_, px⟩
  cases c with
  | true => rw [if_pos rfl]; exact ⟨F3, M3, ρ, k, x, S3, E.mono e3.sm, w3, pv.on e3, px.on e3⟩
  | false => rw [if_neg Bool.false_ne_true]; exact ⟨F3, M3, ρ, k, x, S3, E.mono e3.sm, w3, pv.on e3, px.on e3⟩
/-- a < b < c -/
def wChain (r r' : D → D → MH → KD → Prop) (wa wb wc : WE) : WE := fun ρ M k x => wa ρ M (fun d M1 => wb ρ M1 (fun e M2 => r d e M2 (fun z M3 => onBl z fun b => match b with
  | true => wc ρ M3 (fun f M4 => r' e f M4 k) x
  | false => k (.bl false) M3)) x) x
theorem chain_in {c : Expr} {wc : WE} {r r' : D → D → MH → KD → Prop} {r2 r2' : R2} {W : WX} (s : ∀ d e v u H F M k Q, RepS X.K H F M → Rep X.K F v d → Rep X.K F u e → r d e M k → PostV X.K H F M k Q → r2 v u H Q)
    (s' : ∀ d e v u H F M k Q, RepS X.K H F M → Rep X.K F v d → Rep X.K F u e → r' d e M k → PostV X.K H F M k Q → r2' v u H Q) {σ : L2.St} {H : Hp} {Q : VK} (q : tOf X.K W (wChain r r' wa wb wc) σ H Q) :
    tChain r2 r2' (tOf X.K W wa) (tOf X.K W wb) (tOf X.K W wc) σ H Q := by
  obtain ⟨F, M, ρ, k, x, S, E, w, pv, px⟩ := q
  refine two S E w px fun v u d e H2 F2 M2 e2 S2 q1 q2 w2 => s d e v u H2 F2 M2 _ _ S2 q1 q2 w2 fun v' d' H3 F3 M3 e3 S3 q3 w3 => ?_
  have e23 := e2.trans e3
  obtain ⟨b, rfl, w5⟩ := bl_of q3 w3
  cases b with
  | true =>
    refine ⟨true, rfl, ?_⟩
    rw [if_pos rfl]
    refine ⟨F3, M3, ρ, _, x, S3, E.mono e23.sm, w5, fun t f H4 F4 M4 e4 S4 q4 w4 => ?_, px.on e23⟩
    exact s' e f u t H4 F4 M4 k Q S4 (q2.mono (e3.trans e4).sm) q4 w4 (pv.on (e23.trans e4))
  | false =>
    refine ⟨false, rfl, ?_⟩
    rw [if_neg Bool.false_ne_true]
    exact pv _ _ H3 F3 M3 e23 S3 (.bl false) w5
theorem de_chain {c : Expr} {wc : WE} {op op' : CmpOp} {r r' : D → D → MH → KD → Prop} (ho : OpD X (compareOp op) r) (ho' : OpD X (compareOp op') r') (ha : DE X a wa) (hb : DE X b wb) (hc : DE X c wc) (hm : lastMarks [op, op'] [b, c] = false := by with_unfolding_all rfl) : DE X (.Compare a [op, op'] [b, c] pos) (wChain r r' wa wb wc) := by
  obtain ⟨r2, h, s⟩ := ho
  obtain ⟨r2', h', s'⟩ := ho'
  exact ⟨fun W tk => pe_imp (pe_chain h h' (ha.pe W tk) (hb.pe W tk) (hc.pe W tk) hm) fun σ H Q q => chain_in (c := c) s s' q⟩
theorem dt_chain {c : Expr} {wc : WE} {op op' : CmpOp} {r r' : D → D → MH → KD → Prop} (ho : OpD X (compareOp op) r) (ho' : OpD X (compareOp op') r') (ha : DE X a wa) (hb : DE X b wb) (hc : DE X c wc) (hm : lastMarks [op, op'] [b, c] = false := by with_unfolding_all rfl) : DT X (.Compare a [op, op'] [b, c] pos) (wTest (wChain r r' wa wb wc)) := by
  obtain ⟨r2, h, s⟩ := ho
  obtain ⟨r2', h', s'⟩ := ho'
  refine ⟨fun W tk => pt_imp (pt_chain h h' (ha.pe W tk) (hb.pe W tk) (hc.pe W tk) hm) fun σ H Q q => ?_⟩
  refine chain_in (c := c) s s' ?_
  obtain ⟨F, M, ρ, k, x, S, E, w, pv, px⟩ := q
  refine ⟨F, M, ρ, _, x, S, E, w, fun v' d' H3 F3 M3 e3 S3 r3 w3 => ?_, px⟩
  obtain ⟨b, rfl, w4⟩ := bl_of r3 w3
  exact ⟨b, rfl, pv b H3 F3 M3 e3 S3 w4⟩
end

/-! ### argument lists, displays -/
def wNil : WA := fun _ M k _ => k [] M
def wCons (wa : WE) (wr : WA) : WA := fun ρ M k x => wa ρ M (fun d M1 => wr ρ M1 (fun ds M2 => k (d :: ds) M2) x) x
/-- *e -/
def onSeq (d : D) (p : List D → Prop) : Prop := match d with
  | .tup ds => p ds
  | .lst ds => p ds
  | _ => False
theorem seq_of {K : PySem.W.Frag} {F : Hp} {v : V} {d : D} {p : List D → Prop} (r : Rep K F v d) (h : onSeq d p) : ∃ a xs ds, v = .ref a ∧ (SqT K F a xs ∨ SqL K F a xs) ∧ Reps K F xs ds ∧ ds.length ≤ sizeLine ∧ p ds := by
  cases d with
  | tup ds => cases r with | tup a b c => exact ⟨_, _, _, rfl, .inl a, b, c, h⟩
  | lst ds => cases r with | lst a b c => exact ⟨_, _, _, rfl, .inr (SqL.of a), b, c, h⟩
  | _ => exact h.elim
def wStar (wa : WE) (wr : WA) : WA := fun ρ M k x => wa ρ M (fun d M1 => onSeq d fun ds => wr ρ M1 (fun es M2 => k (ds ++ es) M2) x) x
/-- a tuple; a frozen list; a list that may be changed -/
def wTup (wa : WA) : WE := fun ρ M k x => wa ρ M (fun ds M1 => gd (Nat.ble ds.length 4096) (k (.tup ds) M1)) x
def wLst (wa : WA) : WE := fun ρ M k x => wa ρ M (fun ds M1 => gd (Nat.ble ds.length 4096) (k (.lst ds) M1)) x
def wLstM (wa : WA) : WE := fun ρ M k x => wa ρ M (fun ds M1 => gd (Nat.ble ds.length 4096) (∀ a, M1 a = none → k (.ref a) (mupd M1 a (.lst ds)))) x
theorem le_line {n : Nat} (h : n ≤ 4096) : n ≤ sizeLine := by rw [sizeLine_eq]; omega
section
variable {X : Cx} {e : Expr} {es : List Expr} {we : WE} {wa : WA} {pos : Pos}
theorem da_nil : DA X [] wNil := by
  refine ⟨fun W _ => pa_imp pa_nil fun σ H Q q => ?_⟩
  obtain ⟨F, M, ρ, k, x, S, E, w, pv, px⟩ := q
  exact pv _ _ H F M (Ext.refl _ _ _) S .nil w
theorem da_cons (he : DE X e we) (hr : DA X es wa) (hs : starEach (e :: es) X.env = (false, eval e X.env) :: starEach es X.env := by rfl) : DA X (e :: es) (wCons we wa) := by
  refine ⟨fun W tk => pa_imp (pa_cons (he.pe W tk) (hr.pa W tk) hs) fun σ H Q q => ?_⟩
  obtain ⟨F, M, ρ, k, x, S, E, w, pv, px⟩ := q
  refine ⟨F, M, ρ, _, x, S, E, w, fun v d H1 F1 M1 e1 S1 r1 w1 => ?_, px⟩
  refine ⟨F1, M1, ρ, _, x, S1, E.mono e1.sm, w1, fun us es H2 F2 M2 e2 S2 r2 w2 => ?_, px.on e1⟩
  exact pv _ _ H2 F2 M2 (e1.trans e2) S2 (.cons (r1.mono e2.sm) r2) w2
theorem da_star {p : Pos} (he : DE X e we) (hr : DA X es wa) (hs : starEach (.Starred e p :: es) X.env = (true, eval e X.env) :: starEach es X.env := by rfl) : DA X (.Starred e p :: es) (wStar we wa) := by
  refine ⟨fun W tk => pa_imp (StX.pa_star (he.pe W tk) (hr.pa W tk) hs) fun σ H Q q => ?_⟩
  obtain ⟨F, M, ρ, k, x, S, E, w, pv, px⟩ := q
  refine ⟨F, M, ρ, _, x, S, E, w, fun v d H1 F1 M1 e1 S1 r1 w1 => ?_, px⟩
  obtain ⟨a, xs, ds, rfl, hq, hr, _, w3⟩ := seq_of r1 w1
  exact ⟨_, _, rfl, hq.imp (seqT S1.fz) S1.fz.seq, F1, M1, ρ, _, x, S1, E.mono e1.sm, w3, fun us es H2 F2 M2 e2 S2 r2 w2 => pv _ _ H2 F2 M2 (e1.trans e2) S2 ((hr.mono e2.sm).append r2) w2, px.on e1⟩
theorem de_tup {x1} (h : DA X es wa) : DE X (.Tuple es x1 pos) (wTup wa) := by
  refine ⟨fun W tk => pe_imp (pe_tup (h.pa W tk)) fun σ H Q q => ?_⟩
  obtain ⟨F, M, ρ, k, x, S, E, w, pv, px⟩ := q
  refine ⟨F, M, ρ, _, x, S, E, w, fun vs ds H1 F1 M1 e1 S1 r1 w1 => ?_, px⟩
  obtain ⟨hb, w1⟩ := gd_of w1
  have hl : ds.length ≤ sizeLine := le_line (Nat.le_of_ble_eq_true hb)
  refine ⟨by rw [r1.length]; exact hl, fun p hp => ?_⟩
  obtain ⟨S2, e2⟩ := S1.lay hp (.tup vs)
  exact pv _ _ _ _ _ (e1.trans e2) S2 (.tup (SqT.of upd_same) (r1.mono e2.sm) hl) w1
theorem de_lst (h : DA X es wa) : DE X (.List es pos) (wLst wa) := by
  refine ⟨fun W tk => pe_imp (pe_lst (h.pa W tk)) fun σ H Q q => ?_⟩
  obtain ⟨F, M, ρ, k, x, S, E, w, pv, px⟩ := q
  refine ⟨F, M, ρ, _, x, S, E, w, fun vs ds H1 F1 M1 e1 S1 r1 w1 => ?_, px⟩
  obtain ⟨hb, w1⟩ := gd_of w1
  have hl : ds.length ≤ sizeLine := le_line (Nat.le_of_ble_eq_true hb)
  refine ⟨by rw [r1.length]; exact hl, fun p hp => ?_⟩
  obtain ⟨S2, e2⟩ := S1.lay hp (.lst vs)
  exact pv _ _ _ _ _ (e1.trans e2) S2 (.lst upd_same (r1.mono e2.sm) hl) w1
theorem de_lstM (h : DA X es wa) : DE X (.List es pos) (wLstM wa) := by
  refine ⟨fun W tk => pe_imp (pe_lst (h.pa W tk)) fun σ H Q q => ?_⟩
  obtain ⟨F, M, ρ, k, x, S, E, w, pv, px⟩ := q
  refine ⟨F, M, ρ, _, x, S, E, w, fun vs ds H1 F1 M1 e1 S1 r1 w1 => ?_, px⟩
  obtain ⟨hb, w1⟩ := gd_of w1
  have hl : ds.length ≤ sizeLine := le_line (Nat.le_of_ble_eq_true hb)
  refine ⟨by rw [r1.length]; exact hl, fun p hp => ?_⟩
  obtain ⟨S2, e2⟩ := S1.layM hp (o := .lst vs) (m := .lst ds) ⟨vs, rfl, r1, hl⟩
  exact pv _ _ _ _ _ (e1.trans e2) S2 (.ref p) (w1 p (S1.mno hp))
end
end DL

namespace DL
open PySem PySem.Spec PyProof.Rows L2

/-! ### statements -/
structure EndsD where
  nx : Rh → MH → Prop
  rt : KD
  bk : Rh → MH → Prop
  ct : Rh → MH → Prop
  xc : KE
abbrev WS := Rh → MH → EndsD → Prop
def PostS (K : PySem.W.Frag) (H F : Hp) (M : MH) (k : Rh → MH → Prop) (Q : L2.St → Hp → Prop) : Prop := ∀ σ ρ H' F' M', Ext H F M H' F' M' → RepS K H' F' M' → RepE K F' σ ρ → k ρ M' → Q σ H'
theorem PostS.on {K : PySem.W.Frag} {H F : Hp} {M : MH} {H' F' : Hp} {M' : MH} {k : Rh → MH → Prop} {Q : L2.St → Hp → Prop} (p : PostS K H F M k Q) (e : Ext H F M H' F' M') : PostS K H' F' M' k Q := fun v d H2 F2 M2 e2 => p v d H2 F2 M2 (e.trans e2)
structure FinD (K : PySem.W.Frag) (W : WX) (H F : Hp) (M : MH) (E : EndsD) (D : Ends) : Prop where
  nx : PostS K H F M E.nx D.nx
  rt : PostV K H F M E.rt D.rt
  bk : PostS K H F M E.bk D.bk
  ct : PostS K H F M E.ct D.ct
  xc : ∀ σ, PostX K H F M E.xc (fun c d => W c d σ)
theorem FinD.on {K : PySem.W.Frag} {W : WX} {H F : Hp} {M : MH} {H' F' : Hp} {M' : MH} {E : EndsD} {D : Ends} (f : FinD K W H F M E D) (e : Ext H F M H' F' M') : FinD K W H' F' M' E D := ⟨f.nx.on e, f.rt.on e, f.bk.on e, f.ct.on e, fun σ => (f.xc σ).on e⟩
def tOfS (K : PySem.W.Frag) (W : WX) (w : WS) : TS := fun D σ H => ∃ F M ρ E, RepS K H F M ∧ RepE K F σ ρ ∧ w ρ M E ∧ FinD K W H F M E D
abbrev Pss (X : Cx) : Prop := PassesOwn (model X.prog X.w) X.A X.env X.xe
structure DS (X : Cx) (st : Stmt) (w : WS) : Prop where
  ps : ∀ W, Takes X W → Pss X → PS X st (tOfS X.K W w)
structure DSs (X : Cx) (st : List Stmt) (w : WS) : Prop where
  ps : ∀ W, Takes X W → Pss X → PSs X st (tOfS X.K W w)
def wNext : WS := fun ρ M E => E.nx ρ M
def wSeq (w u : WS) : WS := fun ρ M E => w ρ M { E with nx := fun ρ1 M1 => u ρ1 M1 E }
def wRet (w : WE) : WS := fun ρ M E => w ρ M E.rt E.xc
def wRetN : WS := fun _ M E => E.rt .non M
def wDrop (w : WE) : WS := fun ρ M E => w ρ M (fun _ M1 => E.nx ρ M1) E.xc
def wSet (i : Nat) (w : WE) : WS := fun ρ M E => w ρ M (fun d M1 => E.nx (ρ.set i (some d)) M1) E.xc
def wIfS (c : WT) (w u : WS) : WS := fun ρ M E => c ρ M (fun b M1 => match b with
  | true => w ρ M1 E
  | false => u ρ M1 E) E.xc
def wBreak : WS := fun ρ M E => E.bk ρ M
def wCont : WS := fun ρ M E => E.ct ρ M
def wNever : WS := fun _ _ _ => False
/-- a list that has been filled is frozen -/
def wFrz (i : Nat) (w : WS) : WS := fun ρ M E => ∃ a ds, ρ[i]? = some (some (.ref a)) ∧ M a = some (.lst ds) ∧ w (ρ.set i (some (.lst ds))) (mdel M a) E
section
variable {X : Cx} {st : Stmt} {rest : List Stmt} {w u : WS} {e : Expr} {we : WE} {pos : Pos}
theorem dss_nil : DSs X [] wNext := by
  refine ⟨fun W _ _ => pss_imp pss_nil fun D σ H q => ?_⟩
  obtain ⟨F, M, ρ, E, S, R, w, f⟩ := q
  exact f.nx _ _ H F M (Ext.refl _ _ _) S R w
theorem dss_cons (h1 : DS X st w) (h2 : DSs X rest u) : DSs X (st :: rest) (wSeq w u) := by
  refine ⟨fun W tk hp => pss_imp (pss_cons (h1.ps W tk hp) (h2.ps W tk hp)) fun D σ H q => ?_⟩
  obtain ⟨F, M, ρ, E, S, R, w, f⟩ := q
  exact ⟨F, M, ρ, _, S, R, w, fun σ' ρ' H' F' M' e' S' R' w' => ⟨F', M', ρ', E, S', R', w', f.on e'⟩, f.rt, f.bk, f.ct, f.xc⟩
theorem dss_one (h1 : DS X st w) : DSs X [st] w := ⟨fun W tk hp => pss_one (h1.ps W tk hp)⟩
theorem dss_frz (i : Nat) (h : DSs X rest w) : DSs X rest (wFrz i w) := by
  refine ⟨fun W tk hp => pss_imp (h.ps W tk hp) fun D σ H q => ?_⟩
  obtain ⟨F, M, ρ, E, S, R, ⟨a, ds, h1, h2, w⟩, f⟩ := q
  obtain ⟨hf, hl, xs, ho, hr⟩ := S.mlst h2
  obtain ⟨S2, e2⟩ := S.freeze h2 ho
  obtain ⟨v, hv, rv⟩ := R.get h1
  cases rv
  exact ⟨_, _, _, E, S2, (R.mono e2.sm).setD i hv (.lst upd_same (hr.mono e2.sm) hl), w, f.on e2⟩
theorem ds_pass : DS X (.Pass pos) wNext := by
  refine ⟨fun W _ _ => ps_imp ps_pass fun D σ H q => ?_⟩
  obtain ⟨F, M, ρ, E, S, R, w, f⟩ := q
  exact f.nx _ _ H F M (Ext.refl _ _ _) S R w
theorem ds_break : DS X (.Break pos) wBreak := by
  refine ⟨fun W _ _ => ps_imp ps_break fun D σ H q => ?_⟩
  obtain ⟨F, M, ρ, E, S, R, w, f⟩ := q
  exact f.bk _ _ H F M (Ext.refl _ _ _) S R w
theorem ds_cont : DS X (.Continue pos) wCont := by
  refine ⟨fun W _ _ => ps_imp ps_continue fun D σ H q => ?_⟩
  obtain ⟨F, M, ρ, E, S, R, w, f⟩ := q
  exact f.ct _ _ H F M (Ext.refl _ _ _) S R w
theorem ds_never : DS X st wNever := ⟨fun W _ _ => ps_imp ps_never fun D σ H q => by
  obtain ⟨F, M, ρ, E, S, R, w, f⟩ := q
  exact w⟩
theorem dss_never {sts : List Stmt} : DSs X sts wNever := ⟨fun W _ _ => pss_imp pss_never fun D σ H q => by
  obtain ⟨F, M, ρ, E, S, R, w, f⟩ := q
  exact w⟩
theorem ds_expr (he : DE X e we) (hs : swapsWith e none pos.line X.env = pure false := by rfl) : DS X (.Expr e pos) (wDrop we) := by
  refine ⟨fun W tk _ => ps_imp (ps_expr (he.pe W tk) hs) fun D σ H q => ?_⟩
  obtain ⟨F, M, ρ, E, S, R, w, f⟩ := q
  exact ⟨F, M, ρ, _, _, S, R, w, fun v d H1 F1 M1 e1 S1 r1 w1 => f.nx _ _ H1 F1 M1 e1 S1 (R.mono e1.sm) w1, f.xc σ⟩
theorem ds_ret (he : DE X e we) : DS X (.Return (some e) pos) (wRet we) := by
  refine ⟨fun W tk _ => ps_imp (ps_ret (he.pe W tk)) fun D σ H q => ?_⟩
  obtain ⟨F, M, ρ, E, S, R, w, f⟩ := q
  exact ⟨F, M, ρ, _, _, S, R, w, f.rt, f.xc σ⟩
theorem ds_retN : DS X (.Return none pos) wRetN := by
  refine ⟨fun W _ _ => ps_imp ps_retN fun D σ H q => ?_⟩
  obtain ⟨F, M, ρ, E, S, R, w, f⟩ := q
  exact f.rt.at S .non w
theorem ds_if {c : Expr} {a b : List Stmt} {wc : WT} (hc : DT X c wc) (ha : DSs X a w) (hb : DSs X b u) : DS X (.If c a b pos) (wIfS wc w u) := by
  refine ⟨fun W tk hp => ps_imp (ps_if (hc.pt W tk) (ha.ps W tk hp) (hb.ps W tk hp)) fun D σ H q => ?_⟩
  obtain ⟨F, M, ρ, E, S, R, w, f⟩ := q
  refine ⟨F, M, ρ, _, _, S, R, w, fun b H1 F1 M1 e1 S1 w1 => ?_, f.xc σ⟩
  cases b with
  | true => rw [if_pos rfl]; exact ⟨F1, M1, ρ, E, S1, R.mono e1.sm, w1, f.on e1⟩
  | false => rw [if_neg Bool.false_ne_true]; exact ⟨F1, M1, ρ, E, S1, R.mono e1.sm, w1, f.on e1⟩
theorem set_in {W : WX} {i : Nat} {σ : L2.St} {H : Hp} {D : Ends} (q : tOfS X.K W (wSet i we) D σ H) : tAsg (tOf X.K W we) (gName i) D σ H := by
  obtain ⟨F, M, ρ, E, S, R, w, f⟩ := q
  exact ⟨F, M, ρ, _, _, S, R, w, fun v d H1 F1 M1 e1 S1 r1 w1 => f.nx _ _ H1 F1 M1 e1 S1 ((R.mono e1.sm).set i r1) w1, f.xc σ⟩
theorem ds_set {i : Nat} {x : Str} {pos' : Pos} (hN : X.N.Nodup) (hi : X.N[i]? = some x) (hx : Loc X.env.scope x) (he : DE X e we) (hs : swapsWith e (some (.Name x pos')) pos.line X.env = pure false := by rfl) (hf : X.fn x = true ∨ X.env.scope.names.lookup x = some .local := by first | exact .inl rfl | exact .inr rfl | assumption) :
    DS X (.Assign [.Name x pos'] e pos) (wSet i we) := ⟨fun W tk _ => ps_imp (ps_set hN hi hx (he.pe W tk) hs hf) fun D σ H q => set_in q⟩
end

/-! ### targets -/
abbrev WG := D → Rh → MH → (Rh → MH → Prop) → Prop
abbrev WGs := List D → Rh → MH → (Rh → MH → Prop) → Prop
/-- all but some slots are as they were -/
structure Chg (is : List Nat) (σ σ' : L2.St) : Prop where
  len : σ'.length = σ.length
  at_ : ∀ j, j ∉ is → σ'[j]? = σ[j]?
theorem Chg.refl (is : List Nat) (σ : L2.St) : Chg is σ σ := ⟨rfl, fun _ _ => rfl⟩
theorem Chg.wipe {is vs : List Nat} {σ σ' : L2.St} (c : Chg is σ σ') (h : ∀ i ∈ is, i ∈ vs) : L2.wipe σ' vs = L2.wipe σ vs := by
  have look : ∀ (τ : L2.St) (ws : List Nat) (j : Nat), (L2.wipe τ ws)[j]? = if j < τ.length then (if j ∈ ws then some none else τ[j]?) else none := fun τ ws j => by
    induction ws with
    | nil =>
      show τ[j]? = _
      by_cases hj : j < τ.length
      · rw [if_pos hj]; simp
      · rw [if_neg hj]; exact List.getElem?_eq_none (Nat.not_lt.mp hj)
    | cons w ws ih =>
      show ((L2.wipe τ ws).set w none)[j]? = _
      by_cases hj : j < τ.length
      · rw [if_pos hj] at ih ⊢
        by_cases e : w = j
        · subst e
          rw [List.getElem?_set_self (by rw [L2.wipe_length]; exact hj), if_pos List.mem_cons_self]
        · rw [List.getElem?_set_ne e, ih]
          by_cases hm : j ∈ ws
          · rw [if_pos hm, if_pos (List.mem_cons_of_mem _ hm)]
          · rw [if_neg hm, if_neg (fun z => (List.mem_cons.mp z).elim (fun z => e z.symm) hm)]
      · rw [if_neg hj]
        exact List.getElem?_eq_none (by rw [List.length_set, L2.wipe_length]; exact Nat.not_lt.mp hj)
  refine List.ext_getElem? fun j => ?_
  rw [look, look, c.len]
  by_cases hj : j < σ.length
  · rw [if_pos hj, if_pos hj]
    by_cases hm : j ∈ vs
    · rw [if_pos hm, if_pos hm]
    · rw [if_neg hm, if_neg hm]
      exact c.at_ j fun z => hm (h j z)
  · rw [if_neg hj, if_neg hj]
def PostG (K : PySem.W.Frag) (H F : Hp) (M : MH) (is : List Nat) (σ : L2.St) (k : Rh → MH → Prop) (Q : L2.St → Hp → Prop) : Prop := ∀ σ' ρ H' F' M', Ext H F M H' F' M' → RepS K H' F' M' → RepE K F' σ' ρ → Chg is σ σ' → k ρ M' → Q σ' H'
def gOf (K : PySem.W.Frag) (is : List Nat) (w : WG) : TG := fun v σ H Q => ∃ d F M ρ k, RepS K H F M ∧ RepE K F σ ρ ∧ Rep K F v d ∧ w d ρ M k ∧ PostG K H F M is σ k Q
def gsOf (K : PySem.W.Frag) (is : List Nat) (w : WGs) : TGs := fun vs σ H Q => ∃ ds F M ρ k, RepS K H F M ∧ RepE K F σ ρ ∧ Reps K F vs ds ∧ w ds ρ M k ∧ PostG K H F M is σ k Q
structure DG (X : Cx) (tg : Expr) (is : List Nat) (w : WG) : Prop where
  pg : PG X tg (gOf X.K is w)
structure DGs (X : Cx) (ts : List Expr) (is : List Nat) (w : WGs) : Prop where
  pg : PGs X ts (gsOf X.K is w)
def wgN (i : Nat) : WG := fun d ρ M k => k (ρ.set i (some d)) M
def wgNil : WGs := fun ds ρ M k => match ds with
  | [] => k ρ M
  | _ => False
def wgCons (w : WG) (u : WGs) : WGs := fun ds ρ M k => match ds with
  | d :: r => w d ρ M fun ρ1 M1 => u r ρ1 M1 k
  | [] => False
def wgTup (n : Nat) (w : WGs) : WG := fun d ρ M k => onSeq d fun ds => gd (Nat.beq ds.length n) (w ds ρ M k)
section
variable {X : Cx} {pos : Pos}
theorem dg_name {i : Nat} {x : Str} (hN : X.N.Nodup) (hi : X.N[i]? = some x) (hx : Loc X.env.scope x) (hf : X.fn x = true ∨ X.env.scope.names.lookup x = some .local := by first | exact .inl rfl | exact .inr rfl | assumption) : DG X (.Name x pos) [i] (wgN i) := by
  refine ⟨pg_imp (pg_name hN hi hx hf) fun v σ H Q q => ?_⟩
  obtain ⟨d, F, M, ρ, k, S, R, r, w, f⟩ := q
  exact f _ _ H F M (Ext.refl _ _ _) S (R.set i r) ⟨List.length_set, fun j hj => List.getElem?_set_ne fun z => hj (by simp [z])⟩ w
theorem pgs_imp {ts : List Expr} {t t' : TGs} (h : PGs X ts t) (i : ∀ v σ H Q, t' v σ H Q → t v σ H Q) : PGs X ts t' := ⟨fun pins s σ H v u Q I r q => h.run pins s σ H v u Q I r (i v σ H Q q)⟩
theorem dgs_nil : DGs X [] [] wgNil := by
  refine ⟨pgs_imp pgs_nil fun v σ H Q q => ?_⟩
  obtain ⟨ds, F, M, ρ, k, S, R, r, w, f⟩ := q
  cases ds with
  | nil => cases r; exact ⟨rfl, f _ _ H F M (Ext.refl _ _ _) S R (Chg.refl _ _) w⟩
  | cons d ds => exact w.elim
theorem dgs_cons {e : Expr} {es : List Expr} {is js : List Nat} {w : WG} {u : WGs} (h1 : DG X e is w) (h2 : DGs X es js u)
    (hs : (assignEach (e :: es) X.env).map (·.2) = assign e X.env :: (assignEach es X.env).map (·.2) := by rfl) : DGs X (e :: es) (is ++ js) (wgCons w u) := by
  refine ⟨pgs_imp (pgs_cons h1.pg h2.pg hs) fun v σ H Q q => ?_⟩
  obtain ⟨ds, F, M, ρ, k, S, R, r, w, f⟩ := q
  cases ds with
  | nil => exact w.elim
  | cons d ds =>
    cases r with
    | cons r1 r2 =>
      exact ⟨_, _, rfl, d, F, M, ρ, _, S, R, r1, w, fun σ' ρ' H' F' M' e' S' R' c' w' => ⟨ds, F', M', ρ', k, S', R', r2.mono e'.sm, w', fun σ2 ρ2 H2 F2 M2 e2 S2 R2 c2 w2 =>
        f σ2 ρ2 H2 F2 M2 (e'.trans e2) S2 R2 ⟨c2.len.trans c'.len, fun j hj => (c2.at_ j fun z => hj (List.mem_append_right _ z)).trans (c'.at_ j fun z => hj (List.mem_append_left _ z))⟩ w2⟩⟩
theorem dg_tup {es : List Expr} {k : Nat} {is : List Nat} {w : WGs} {n : Nat} (hc : X.calm = true) (h : DGs X es is w)
    (hn : (assignEach es X.env).length = n := by rfl) (hst : (assignEach es X.env).findIdx? (·.1) = none := by rfl) : DG X (.Tuple es k pos) is (wgTup n w) := by
  refine ⟨⟨fun pins s σ H v u Q I rv q => ?_⟩⟩
  obtain ⟨d, F, M, ρ, k, S, R, r, w, f⟩ := q
  obtain ⟨a, xs, ds, rfl, hq, hr, hl, w⟩ := seq_of r w
  obtain ⟨hb, w⟩ := gd_of w
  have hlen : ds.length = n := Nat.eq_of_beq_eq_true hb
  have hx : xs.length = n := hr.length.trans hlen
  have inner : gsOf X.K is _ xs σ H Q := ⟨ds, F, M, ρ, k, S, R, hr, w, f⟩
  rcases hq with hq | hq
  · exact (pg_tup hc h.pg hn hst).run pins s σ H _ u Q I rv ⟨a, xs, rfl, seqT S.fz hq, hx, inner⟩
  · exact (pg_lst hc h.pg hn hst).run pins s σ H _ u Q I rv ⟨a, xs, rfl, S.fz.seq hq, hx, inner⟩
/-- target = value -/
def wAsg (we : WE) (g : WG) : WS := fun ρ M E => we ρ M (fun d M1 => g d ρ M1 E.nx) E.xc
theorem ds_asg {tg e : Expr} {we : WE} {is : List Nat} {g : WG} (he : DE X e we) (hg : DG X tg is g) (hs : swapsWithSole [tg] e pos.line X.env = pure false := by rfl) (hw : swappedStores [tg] e X.env = pure none := by rfl)
    (h1 : (assignEach [tg] X.env).map (·.2) = [assign tg X.env] := by rfl) : DS X (.Assign [tg] e pos) (wAsg we g) := by
  refine ⟨fun W tk _ => ps_imp (ps_asg (he.pe W tk) hg.pg hs hw h1) fun D σ H q => ?_⟩
  obtain ⟨F, M, ρ, E, S, R, w, f⟩ := q
  exact ⟨F, M, ρ, _, _, S, R, w, fun v d H1 F1 M1 e1 S1 r1 w1 => ⟨d, F1, M1, ρ, _, S1, R.mono e1.sm, r1, w1, fun σ2 ρ2 H2 F2 M2 e2 S2 R2 _ w2 => f.nx σ2 ρ2 H2 F2 M2 (e1.trans e2) S2 R2 w2⟩, f.xc σ⟩
/-- o[i] = e: a list that may be changed -/
def wPut (wo wi we : WE) : WS := fun ρ M E => we ρ M (fun d M1 => wo ρ M1 (fun o M2 => wi ρ M2 (fun i M3 => ∃ a ds n j, o = .ref a ∧ i = .int n ∧ M3 a = some (.lst ds) ∧ ixN ds.length n = some j ∧ E.nx ρ (mupd M3 a (.lst (ds.set j d)))) E.xc) E.xc) E.xc
theorem ds_put {o i e : Expr} {wo wi we : WE} {pt : Pos} (ho : DE X o wo) (hi : DE X i wi) (he : DE X e we)
    (ha : ∀ v, assign (.Subscript o i pt) X.env v = (do
      let ov ← holding [v] (eval o X.env)
      let iv ← holding [v, ov] (eval i X.env)
      standAt pt
      holding [v, ov, iv] (setItem ov iv v)
      release [v, ov, iv] []) := by intro _; rfl)
    (hs : swapsWithSole [.Subscript o i pt] e pos.line X.env = pure false := by rfl) (hw : swappedStores [.Subscript o i pt] e X.env = pure none := by rfl)
    (h1 : (assignEach [.Subscript o i pt] X.env).map (·.2) = [assign (.Subscript o i pt) X.env] := by rfl) : DS X (.Assign [.Subscript o i pt] e pos) (wPut wo wi we) := by
  refine ⟨fun W tk _ => ps_imp (ps_asg (he.pe W tk) (pg_sub (ho.pe W tk) (hi.pe W tk) set_list ha) hs hw h1) fun D σ H q => ?_⟩
  obtain ⟨F, M, ρ, E, S, R, w, f⟩ := q
  refine ⟨F, M, ρ, _, _, S, R, w, fun v d H1 F1 M1 e1 S1 r1 w1 => ?_, f.xc σ⟩
  refine ⟨F1, M1, ρ, _, _, S1, R.mono e1.sm, w1, fun vo o H2 F2 M2 e2 S2 r2 w2 => ?_, (f.xc σ).on e1⟩
  have e12 := e1.trans e2
  refine ⟨F2, M2, ρ, _, _, S2, R.mono e12.sm, w2, fun vi i H3 F3 M3 e3 S3 r3 w3 => ?_, (f.xc σ).on e12⟩
  obtain ⟨a, ds, n, j, rfl, rfl, hm, hj, w4⟩ := w3
  cases r2
  cases r3
  obtain ⟨_, hl, xs, hx, hr⟩ := S3.mlst hm
  obtain ⟨S4, e4⟩ := S3.write hm (o := .lst (xs.set j v)) (m := .lst (ds.set j d)) ⟨_, rfl, hr.set j (r1.mono (e2.trans e3).sm), by rw [List.length_set]; exact hl⟩
  have e := (e12.trans e3).trans e4
  exact ⟨a, xs, n, j, rfl, rfl, hx, by rw [hr.length]; exact hj, f.nx _ _ _ _ _ e S4 (R.mono e.sm) w4⟩
end

/-! ### what is walked -/
structure Wks (K : PySem.W.Frag) (F : Hp) (J : It) (ds : List D) (g : MH → Prop) : Prop where
  sz : ds.length ≤ sizeLine
  go : ∀ i H F' M, i < ds.length → Same F F' → RepS K H F' M → g M → J.go i H
  stop : ∀ H F' M, Same F F' → RepS K H F' M → g M → J.stop ds.length H
  yld : ∀ i H v H3 F' M, i < ds.length → Same F F' → RepS K H F' M → g M → J.yld i H v H3 → ∃ F3 d, Ext H F' M H3 F3 M ∧ RepS K H3 F3 M ∧ ds[i]? = some d ∧ Rep K F3 v d
abbrev WI := Rh → MH → (List D → (MH → Prop) → MH → Prop) → KE → Prop
def iOf (K : PySem.W.Frag) (W : WX) (w : WI) : TI := fun σ H R => ∃ F M ρ k x, RepS K H F M ∧ RepE K F σ ρ ∧ w ρ M k x ∧
  (∀ J ds g H' F' M', Ext H F M H' F' M' → RepS K H' F' M' → Wks K F' J ds g → k ds g M' → R J H') ∧ PostX K H F M x (fun c d => W c d σ)
structure DI (X : Cx) (tg iter : Expr) (w : WI) : Prop where
  pi : ∀ W, Takes X W → PI X tg iter (iOf X.K W w)
/-- a list or a tuple -/
def wiSeq (w : WE) : WI := fun ρ M k x => w ρ M (fun d M1 => onSeq d fun ds => k ds (fun _ => True) M1) x
/-- a list that may be changed, but is not while it is walked -/
def wiLstM (w : WE) : WI := fun ρ M k x => w ρ M (fun d M1 => ∃ a ds, d = .ref a ∧ M1 a = some (.lst ds) ∧ k ds (fun M' => M' a = some (.lst ds)) M1) x
def intsFrom (lo : Int) : Nat → List D
  | 0 => []
  | n + 1 => .int lo :: intsFrom (lo + 1) n
theorem intsFrom_len : ∀ (n : Nat) (lo : Int), (intsFrom lo n).length = n
  | 0, _ => rfl
  | n + 1, lo => congrArg (· + 1) (intsFrom_len n (lo + 1))
theorem intsFrom_get : ∀ (n : Nat) (lo : Int) (i : Nat), i < n → (intsFrom lo n)[i]? = some (.int (lo + i))
  | 0, _, _, h => absurd h (Nat.not_lt_zero _)
  | n + 1, lo, 0, _ => by simp [intsFrom]
  | n + 1, lo, i + 1, h => by
    have q := intsFrom_get n (lo + 1) i (Nat.lt_of_succ_lt_succ h)
    show (intsFrom (lo + 1) n)[i]? = _
    rw [q]
    congr 2
    omega
def onInt (d : D) (p : Int → Prop) : Prop := match d with
  | .int i => p i
  | _ => False
theorem int_of {K : PySem.W.Frag} {F : Hp} {v : V} {d : D} {p : Int → Prop} (r : Rep K F v d) (h : onInt d p) : ∃ b, v = .int b ∧ p b := by
  cases d with
  | int b => cases r; exact ⟨b, rfl, h⟩
  | _ => exact h.elim
/-- range(n), range(a, b) -/
def wiR1 (w : WE) : WI := fun ρ M k x => w ρ M (fun d M1 => onInt d fun n => n ≤ 16777216 ∧ -(2 ^ 62) ≤ n ∧ k (intsFrom 0 n.toNat) (fun _ => True) M1) x
def wiR2 (wa wb : WE) : WI := fun ρ M k x => wa ρ M (fun d M1 => wb ρ M1 (fun e M2 => onInt d fun a => onInt e fun b => (-(2 ^ 62) ≤ a ∧ a < 2 ^ 62 ∧ -(2 ^ 62) ≤ b ∧ b < 2 ^ 62 ∧ b - a ≤ 16777216) ∧ k (intsFrom a (b - a).toNat) (fun _ => True) M2) x) x
section
variable {X : Cx} {tg : Expr}
theorem wks_list {K : PySem.W.Frag} {F : Hp} {a : Addr} {xs : List V} {ds : List D} (h : SqL K F a xs) (r : Reps K F xs ds) (hl : ds.length ≤ sizeLine) : Wks K F (Itl K a) ds (fun _ => True) where
  sz := hl
  go := fun i H F' M hi s S _ => by
    have h' := S.fz.seq (s.seq h)
    have hi' : i < xs.length := by rw [r.length]; exact hi
    exact ⟨xs, xs[i], h', by simp [hi']⟩
  stop := fun H F' M s S _ => ⟨xs, S.fz.seq (s.seq h), by rw [r.length]; exact Nat.le_refl _⟩
  yld := fun i H v H3 F' M hi s S _ y => by
    obtain ⟨e, y⟩ := y
    subst e
    obtain ⟨d, h1, h2⟩ := r.getV (y xs (S.fz.seq (s.seq h)))
    exact ⟨F', d, Ext.refl _ _ _, S, h1, h2.mono s⟩
theorem wks_tup {K : PySem.W.Frag} {F : Hp} {a : Addr} {xs : List V} {ds : List D} (h : SqT K F a xs) (r : Reps K F xs ds) (hl : ds.length ≤ sizeLine) : Wks K F (Itt K a) ds (fun _ => True) where
  sz := hl
  go := fun i H F' M hi s S _ => by
    have h' := seqT S.fz (seqT s h)
    have hi' : i < xs.length := by rw [r.length]; exact hi
    exact ⟨xs, xs[i], h', by simp [hi']⟩
  stop := fun H F' M s S _ => ⟨xs, seqT S.fz (seqT s h), by rw [r.length]; exact Nat.le_refl _⟩
  yld := fun i H v H3 F' M hi s S _ y => by
    obtain ⟨e, y⟩ := y
    subst e
    obtain ⟨d, h1, h2⟩ := r.getV (y xs (seqT S.fz (seqT s h)))
    exact ⟨F', d, Ext.refl _ _ _, S, h1, h2.mono s⟩
theorem wks_mlst {K : PySem.W.Frag} {F : Hp} {a : Addr} {ds : List D} (hl : ds.length ≤ sizeLine) : Wks K F (Itl K a) ds (fun M' => M' a = some (.lst ds)) where
  sz := hl
  go := fun i H F' M hi s S g => by
    obtain ⟨_, _, xs, h1, h2⟩ := S.mlst g
    have hi' : i < xs.length := by rw [h2.length]; exact hi
    exact ⟨xs, xs[i], SqL.of h1, by simp [hi']⟩
  stop := fun H F' M s S g => by
    obtain ⟨_, _, xs, h1, h2⟩ := S.mlst g
    exact ⟨xs, SqL.of h1, by rw [h2.length]; exact Nat.le_refl _⟩
  yld := fun i H v H3 F' M hi s S g y => by
    obtain ⟨e, y⟩ := y
    subst e
    obtain ⟨_, _, xs, h1, h2⟩ := S.mlst g
    obtain ⟨d, h3, h4⟩ := h2.getV (y xs (SqL.of h1))
    exact ⟨F', d, Ext.refl _ _ _, S, h3, h4⟩
theorem wks_range {K : PySem.W.Frag} {F : Hp} {lo : Int} {n : Nat} (hl : n ≤ sizeLine) : Wks K F (Itr lo n) (intsFrom lo n) (fun _ => True) where
  sz := by rw [intsFrom_len]; exact hl
  go := fun i H F' M hi s S _ => by rw [intsFrom_len] at hi; exact hi
  stop := fun H F' M s S _ => by rw [intsFrom_len]; exact Nat.le_refl _
  yld := fun i H v H3 F' M hi s S _ y => by
    obtain ⟨e, y⟩ := y
    subst e
    rw [intsFrom_len] at hi
    subst y
    exact ⟨F', _, Ext.refl _ _ _, S, intsFrom_get n lo i hi, .int _⟩
/-- by the value's kind -/
theorem di_seq {e : Expr} {w : WE} (h : DE X e w) : DI X tg e (wiSeq w) := by
  refine ⟨fun W tk => ⟨fun pins s σ H R I q => ?_⟩⟩
  obtain ⟨F, M, ρ, k, x, S, E, w, f, px⟩ := q
  refine thn ((h.pe W tk).run pins s σ H (fun v H1 => ∃ d F1 M1, Ext H F M H1 F1 M1 ∧ RepS X.K H1 F1 M1 ∧ Rep X.K F1 v d ∧ onSeq d fun ds => k ds (fun _ => True) M1) I ⟨F, M, ρ, _, x, S, E, w, fun v d H1 F1 M1 e1 S1 r1 w1 => ⟨d, F1, M1, e1, S1, r1, w1⟩, px⟩) fun u s1 ⟨v, H1, I1, rv, d, F1, M1, e1, S1, r1, w1⟩ => ?_
  obtain ⟨a, xs, ds, rfl, hq, hr, hl, w1⟩ := seq_of r1 w1
  cases rv
  rcases hq with hq | hq
  · obtain ⟨its, rv, p, hz⟩ := I1.tuple (seqT S1.fz hq)
    refine wpAny_pyIter_tuple (show s1.heap.IsTuple a its.toArray from p) ?_
    refine ⟨s1.heap.objs.size, [s1.heap.objs.size], _, _, H1, rfl, I1.kept (t' := s1.toks) fun b o e => Heap.get?_push_of_some _ e, turn_tuple a _, ⟨_, Heap.get?_push_size _ rfl, rfl, rfl⟩, fun b hb => ?_, f _ _ _ _ _ _ e1 S1 (wks_tup hq hr hl) w1⟩
    have e : b = s1.heap.objs.size := by simpa using hb
    subst e
    exact I1.fpOk (Nat.le_refl _) (I1.hok.fresh (Nat.le_refl _))
  · obtain ⟨its, rv, p, hz⟩ := I1.list (S1.fz.seq hq)
    refine wpAny_pyIter_list p.isList ?_
    refine ⟨s1.heap.objs.size, [s1.heap.objs.size], _, _, H1, rfl, I1.kept (t' := s1.toks) fun b o e => Heap.get?_push_of_some _ e, turn_list a _, ⟨_, Heap.get?_push_size _ rfl, rfl, rfl⟩, fun b hb => ?_, f _ _ _ _ _ _ e1 S1 (wks_list hq hr hl) w1⟩
    have e : b = s1.heap.objs.size := by simpa using hb
    subst e
    exact I1.fpOk (Nat.le_refl _) (I1.hok.fresh (Nat.le_refl _))
theorem di_lstM {e : Expr} {w : WE} (h : DE X e w) : DI X tg e (wiLstM w) := by
  refine ⟨fun W tk => pi_imp (pi_list (h.pe W tk)) fun σ H R q => ?_⟩
  obtain ⟨F, M, ρ, k, x, S, E, w, f, px⟩ := q
  refine ⟨F, M, ρ, _, x, S, E, w, fun v d H1 F1 M1 e1 S1 r1 w1 => ?_, px⟩
  obtain ⟨a, ds, rfl, hm, w2⟩ := w1
  cases r1
  obtain ⟨_, hl, xs, h1, h2⟩ := S1.mlst hm
  exact ⟨a, rfl, ⟨xs, SqL.of h1⟩, f _ _ _ _ _ _ e1 S1 (wks_mlst hl) w2⟩
theorem di_r1 {a : Expr} {w : WE} {p pos : Pos} (hm : X.mg "range" = none) (ha : DE X a w) (hg : Gl X "range" := by rfl) (hs : starEach [a] X.env = [(false, eval a X.env)] := by rfl) (h0 : starEach (a :: []) X.env = (false, eval a X.env) :: starEach [] X.env := by rfl) : DI X tg (.Call (.Name "range" p) [a] [] pos) (wiR1 w) := by
  refine ⟨fun W tk => pi_imp (pi_range1 hg hm (pa_cons (ha.pe W tk) pa_nil h0) hs) fun σ H R q => ?_⟩
  obtain ⟨F, M, ρ, k, x, S, E, w, f, px⟩ := q
  refine ⟨F, M, ρ, _, x, S, E, w, fun v d H1 F1 M1 e1 S1 r1 w1 => ?_, px⟩
  obtain ⟨n, rfl, h1, h2, w2⟩ := int_of r1 w1
  exact ⟨n, rfl, h2, by omega, f _ _ _ _ _ _ e1 S1 (wks_range (by rw [sizeLine_eq]; omega)) w2⟩
theorem di_r2 {a b : Expr} {wa wb : WE} {p pos : Pos} (hm : X.mg "range" = none) (ha : DE X a wa) (hb : DE X b wb) (hg : Gl X "range" := by rfl) (hs : starEach [a, b] X.env = [(false, eval a X.env), (false, eval b X.env)] := by rfl) (hs2 : starEach [b] X.env = [(false, eval b X.env)] := by rfl)
    (h0 : starEach (a :: [b]) X.env = (false, eval a X.env) :: starEach [b] X.env := by rfl) (h00 : starEach (b :: []) X.env = (false, eval b X.env) :: starEach [] X.env := by rfl) : DI X tg (.Call (.Name "range" p) [a, b] [] pos) (wiR2 wa wb) := by
  refine ⟨fun W tk => pi_imp (pi_range2 hg hm (pa_cons (ha.pe W tk) (pa_cons (hb.pe W tk) pa_nil h00) h0) hs hs2) fun σ H R q => ?_⟩
  obtain ⟨F, M, ρ, k, x, S, E, w, f, px⟩ := q
  refine ⟨F, M, ρ, _, x, S, E, w, fun v d H1 F1 M1 e1 S1 r1 w1 => ?_, px⟩
  refine ⟨F1, M1, ρ, _, x, S1, E.mono e1.sm, w1, fun u e H2 F2 M2 e2 S2 r2 w2 => ?_, px.on e1⟩
  obtain ⟨i, rfl, w3⟩ := int_of r1 w2
  obtain ⟨j, rfl, ⟨h1, h2, h3, h4, h5⟩, w4⟩ := int_of r2 w3
  exact ⟨i, j, rfl, ⟨h1, h2, h3, h4⟩, f _ _ _ _ _ _ (e1.trans e2) S2 (wks_range (by rw [sizeLine_eq]; omega)) w4⟩
end

/-! ### for, while -/
def forD0 (gt : WG) (wb : WS) (g : MH → Prop) (E : EndsD) : List D → Rh → MH → Prop
  | [], ρ, M => g M ∧ E.nx ρ M
  | d :: r, ρ, M => g M ∧ gt d ρ M fun ρ1 M1 => wb ρ1 M1 { nx := forD0 gt wb g E r, rt := E.rt, bk := E.nx, ct := forD0 gt wb g E r, xc := E.xc }
/-- not to be unrolled unasked -/
@[irreducible] def forD (gt : WG) (wb : WS) (g : MH → Prop) (E : EndsD) (ds : List D) (ρ : Rh) (M : MH) : Prop := forD0 gt wb g E ds ρ M
theorem forD_eq {gt : WG} {wb : WS} {g : MH → Prop} {E : EndsD} {ds : List D} {ρ : Rh} {M : MH} : forD gt wb g E ds ρ M = forD0 gt wb g E ds ρ M := by unfold forD; rfl
def wFor (wi : WI) (gt : WG) (wb : WS) : WS := fun ρ M E => wi ρ M (fun ds g M1 => forD gt wb g E ds ρ M1) E.xc
def whD (wt : WT) (wb : WS) (E : EndsD) : Nat → Rh → MH → Prop
  | 0, _, _ => False
  | n + 1, ρ, M => wt ρ M (fun b M1 => match b with
    | true => wb ρ M1 { nx := whD wt wb E n, rt := E.rt, bk := E.nx, ct := whD wt wb E n, xc := E.xc }
    | false => E.nx ρ M1) E.xc
def wWhile (wt : WT) (wb : WS) : WS := fun ρ M E => ∃ n, whD wt wb E n ρ M
theorem drop_cons {α : Type} {l : List α} {i : Nat} {d : α} (h : l[i]? = some d) : l.drop i = d :: l.drop (i + 1) := by
  obtain ⟨h1, h2⟩ := List.getElem?_eq_some_iff.mp h
  rw [List.drop_eq_getElem_cons h1, h2]
section
variable {X : Cx} {pos : Pos}
theorem ds_for {tg iter : Expr} {body : List Stmt} {wi : WI} {is : List Nat} {gt : WG} {wb : WS} (hc : X.calm = true) (hi : DI X tg iter wi) (hg : DG X tg is gt) (hb : DSs X body wb)
    (hs : ∀ x, foldedSetIterable iter X.env x = pure x := by intro _; rfl) : DS X (.For tg iter body [] pos) (wFor wi gt wb) := by
  refine ⟨fun W tk hp => ps_imp (ps_for hp hc (hi.pi W tk) hg.pg (hb.ps W tk hp) hs) fun D σ H q => ?_⟩
  obtain ⟨F, M, ρ, E, S, R, w, f⟩ := q
  refine ⟨F, M, ρ, _, _, S, R, w, fun J ds g H1 F1 M1 e1 S1 wk w1 => ?_, f.xc σ⟩
  have w1 : forD0 gt wb g E ds ρ M1 := forD_eq ▸ w1
  refine ⟨fun i m σ' H' => m = ds.length - i ∧ i ≤ ds.length ∧ ∃ F' M' ρ', Ext H1 F1 M1 H' F' M' ∧ RepS X.K H' F' M' ∧ RepE X.K F' σ' ρ' ∧ forD0 gt wb g E (ds.drop i) ρ' M', ⟨_, rfl, Nat.zero_le _, F1, M1, ρ, Ext.refl _ _ _, S1, R.mono e1.sm, w1⟩, ?_⟩
  rintro i m σ' H' ⟨rfl, hi, F', M', ρ', e', S', R', w'⟩
  by_cases hlt : i < ds.length
  · obtain ⟨d, hd⟩ : ∃ d, ds[i]? = some d := ⟨ds[i], by simp [hlt]⟩
    rw [drop_cons hd] at w'
    obtain ⟨gm, w'⟩ := w'
    refine .inr ⟨wk.go i H' F' M' hlt e'.sm S' gm, fun σ2 H2 => ∃ F2 M2 ρ2, Ext H1 F1 M1 H2 F2 M2 ∧ RepS X.K H2 F2 M2 ∧ RepE X.K F2 σ2 ρ2 ∧ forD0 gt wb g E (ds.drop (i + 1)) ρ2 M2, fun σ2 H2 n2 => ⟨_, by omega, rfl, hlt, n2⟩, fun v H3 y => ?_⟩
    obtain ⟨F3, d', e3, S3, hd', r3⟩ := wk.yld i H' v H3 F' M' hlt e'.sm S' gm y
    rw [hd] at hd'
    cases hd'
    refine ⟨d, F3, M', ρ', _, S3, R'.mono e3.sm, r3, w', fun σ4 ρ4 H4 F4 M4 e4 S4 R4 _ w4 => ?_⟩
    have e14 := (e'.trans e3).trans e4
    have f4 := f.on (e1.trans e14)
    refine ⟨F4, M4, ρ4, _, S4, R4, w4, fun σ5 ρ5 H5 F5 M5 e5 S5 R5 w5 => ⟨F5, M5, ρ5, e14.trans e5, S5, R5, w5⟩, f4.rt, f4.nx, fun σ5 ρ5 H5 F5 M5 e5 S5 R5 w5 => ⟨F5, M5, ρ5, e14.trans e5, S5, R5, w5⟩, f4.xc⟩
  · have e : i = ds.length := by omega
    subst e
    rw [List.drop_length] at w'
    exact .inl ⟨wk.stop H' F' M' e'.sm S' w'.1, f.nx _ _ H' F' M' (e1.trans e') S' R' w'.2⟩
theorem ds_while {c : Expr} {body : List Stmt} {wt : WT} {wb : WS} (hc : DT X c wt) (hb : DSs X body wb) : DS X (.While c body [] pos) (wWhile wt wb) := by
  refine ⟨fun W tk hp => ps_imp (ps_while hp (hc.pt W tk) (hb.ps W tk hp)) fun D σ H q => ?_⟩
  obtain ⟨F, M, ρ, E, S, R, ⟨n, w⟩, f⟩ := q
  refine ⟨fun m σ' H' => ∃ F' M' ρ', Ext H F M H' F' M' ∧ RepS X.K H' F' M' ∧ RepE X.K F' σ' ρ' ∧ whD wt wb E m ρ' M', ⟨n, F, M, ρ, Ext.refl _ _ _, S, R, w⟩, ?_⟩
  rintro m σ' H' ⟨F', M', ρ', e', S', R', w'⟩
  cases m with
  | zero => exact w'.elim
  | succ m =>
    refine ⟨F', M', ρ', _, _, S', R', w', fun b H1 F1 M1 e1 S1 w1 => ?_, (f.xc σ').on e'⟩
    have e01 := e'.trans e1
    have f1 := f.on e01
    cases b with
    | true =>
      refine iteT ?_
      have more : ∀ {σ2 : L2.St} {H2 F2 : Hp} {M2 : MH} {ρ2 : Rh}, Ext H1 F1 M1 H2 F2 M2 → RepS X.K H2 F2 M2 → RepE X.K F2 σ2 ρ2 → whD wt wb E m ρ2 M2 → ∃ F' M' ρ', Ext H F M H2 F' M' ∧ RepS X.K H2 F' M' ∧ RepE X.K F' σ2 ρ' ∧ whD wt wb E m ρ' M' := fun {σ2 H2 F2 M2 ρ2} e2 S2 R2 w2 => ⟨F2, M2, ρ2, e01.trans e2, S2, R2, w2⟩
      exact ⟨fun σ2 H2 => ∃ F' M' ρ', Ext H F M H2 F' M' ∧ RepS X.K H2 F' M' ∧ RepE X.K F' σ2 ρ' ∧ whD wt wb E m ρ' M', fun σ2 H2 n2 => ⟨m, Nat.lt_succ_self m, n2⟩,
        F1, M1, ρ', _, S1, R'.mono e1.sm, w1, fun σ5 ρ5 H5 F5 M5 e5 S5 R5 w5 => more e5 S5 R5 w5, f1.rt, f1.nx, fun σ5 ρ5 H5 F5 M5 e5 S5 R5 w5 => more e5 S5 R5 w5, f1.xc⟩
    | false =>
      refine iteF ?_
      exact f.nx _ _ H1 F1 M1 e01 S1 (R'.mono e1.sm) w1
end

/-! ### comprehensions (nothing is raised within) -/
def noX : KE := fun _ _ _ => False
theorem noX_post {K : PySem.W.Frag} {H F : Hp} {M : MH} {w : XK} : PostX K H F M noX w := fun _ _ _ _ _ _ _ _ _ _ _ z => z.elim
abbrev noW : WX := fun _ _ _ _ => False
structure DTs (X : Cx) (ifs : List Expr) (w : WT) : Prop where
  pt : ∀ W, Takes X W → PTs X ifs (tOfT X.K W w)
def wYes : WT := fun _ M k _ => k true M
/-- the items that are made, from the walked ones -/
def compD (gt : WG) (wt : WT) (we : WE) (g : MH → Prop) (ρ : Rh) : List D → MH → (List D → MH → Prop) → Prop
  | [], M, k => g M ∧ k [] M
  | d :: r, M, k => g M ∧ gt d ρ M fun ρ1 M1 => wt ρ1 M1 (fun b M2 => match b with
    | true => we ρ1 M2 (fun e M3 => compD gt wt we g ρ r M3 fun es M4 => k (e :: es) M4) noX
    | false => compD gt wt we g ρ r M2 k) noX
def wLc (wi : WI) (gt : WG) (wt : WT) (we : WE) (own : List Nat) : WE := fun ρ M k x => wi ρ M (fun ds g M1 => compD gt wt we g (wipeD ρ own) ds M1 fun es M2 => k (.lst es) M2) x
def wLcM (wi : WI) (gt : WG) (wt : WT) (we : WE) (own : List Nat) : WE := fun ρ M k x => wi ρ M (fun ds g M1 => compD gt wt we g (wipeD ρ own) ds M1 fun es M2 => ∀ a, M2 a = none → k (.ref a) (mupd M2 a (.lst es))) x
section
variable {X : Cx}
theorem dts_nil : DTs X [] wYes := by
  refine ⟨fun W _ => ⟨fun pins s σ H Q I q => ?_⟩⟩
  obtain ⟨F, M, ρ, k, x, S, E, w, pv, px⟩ := q
  exact pts_nil.run pins s σ H Q I (pv true H F M (Ext.refl _ _ _) S w)
theorem dts_one {c : Expr} {w : WT} (h : DT X c w) : DTs X [c] w := ⟨fun W tk => pts_one (h.pt W tk)⟩
theorem RepS.untold {K : PySem.W.Frag} {H F : Hp} {M : MH} {a : Addr} (S : RepS K H F M) (hf : F a = none) (hm : M a = none) (o : HO) : RepS K (upd H a o) F M :=
  ⟨fun b u q => by rw [upd_ne (ne_of_none q hf)]; exact S.fz b u q, fun b m q => by
    obtain ⟨q1, u, q2, q3⟩ := S.mu b m q
    have hb : b ≠ a := fun z => by rw [z, hm] at q; cases q
    exact ⟨q1, u, by rw [upd_ne hb]; exact q2, q3⟩⟩
theorem Ext.at_new {H F : Hp} {M : MH} {H' F' : Hp} {M' : MH} {a : Addr} (e : Ext H F M H' F' M') (h : H a = none) (o : HO) : Ext H F M (upd H' a o) F' M' :=
  ⟨e.sm, fun b u q1 q2 q3 => by
    have hb : b ≠ a := fun z => by rw [z, h] at q1; cases q1
    rw [upd_ne hb]
    exact e.fr b u q1 q2 q3⟩
theorem wipe_wipe (σ : L2.St) (vs : List Nat) : L2.wipe (L2.wipe σ vs) vs = L2.wipe σ vs := by
  have c : Chg vs σ (L2.wipe σ vs) := ⟨L2.wipe_length σ vs, fun j hj => by
    induction vs with
    | nil => rfl
    | cons w ws ih =>
      show ((L2.wipe σ ws).set w none)[j]? = _
      rw [List.getElem?_set_ne fun z => hj (by simp [z])]
      exact ih fun z => hj (List.mem_cons_of_mem _ z)⟩
  exact c.wipe fun i h => h
/-- the core: the new list's address D stays untold until its end -/
theorem lc_in {K : PySem.W.Frag} {wi : WI} {is : List Nat} {gt : WG} {wt : WT} {we : WE} {own : List Nat} (hsub : ∀ i ∈ is, i ∈ own) {W : WX} {σ : L2.St} {H : Hp} {Q : VK} {F : Hp} {M : MH} {ρ : Rh} {x : KE} {k : List D → MH → Prop}
    (S : RepS K H F M) (R : RepE K F σ ρ) (w : wi ρ M (fun ds g M1 => compD gt wt we g (wipeD ρ own) ds M1 k) x) (px : PostX K H F M x (fun c d => W c d σ))
    (fin : ∀ (H1 F1 : Hp) (M1 : MH) (D : Addr) vs es H' F' M', Ext H F M H1 F1 M1 → H1 D = none → Ext H1 F1 M1 H' F' M' → RepS K H' F' M' → H' D = some (.lst vs) → F' D = none → M' D = none → Reps K F' vs es → es.length ≤ sizeLine → k es M' → Q (.ref D) H') :
    tLc (iOf K W wi) (gOf K is gt) (tOfT K noW wt) (tOf K noW we) own σ H Q := by
  refine ⟨F, M, ρ, _, x, S, R, w, fun J ds g H1 F1 M1 e1 S1 wk w1 => ?_, px⟩
  intro D hD
  have R1 : RepE K F1 (L2.wipe σ own) (wipeD ρ own) := (R.mono e1.sm).wipe own
  refine ⟨fun i m H' => m = ds.length - i ∧ i ≤ ds.length ∧ ∃ F' M' vs acc, Ext H1 F1 M1 H' F' M' ∧ RepS K H' F' M' ∧ H' D = some (.lst vs) ∧ F' D = none ∧ M' D = none ∧ Reps K F' vs acc ∧ acc.length ≤ i ∧
      compD gt wt we g (wipeD ρ own) (ds.drop i) M' (fun es M'' => k (acc ++ es) M''),
    ⟨_, rfl, Nat.zero_le _, F1, M1, [], [], (Ext.refl _ _ _).at_new hD _, S1.untold (S1.fno hD) (S1.mno hD) _, upd_same, S1.fno hD, S1.mno hD, .nil, Nat.le_refl _, w1⟩, ?_⟩
  rintro i m H' ⟨rfl, hi, F', M', vs, acc, e', S', hD', fD, mD, ra, la, w'⟩
  by_cases hlt : i < ds.length
  · obtain ⟨d, hd⟩ : ∃ d, ds[i]? = some d := ⟨ds[i], by simp [hlt]⟩
    rw [drop_cons hd] at w'
    obtain ⟨gm, w'⟩ := w'
    refine .inr ⟨wk.go i H' F' M' hlt e'.sm S' gm, fun H2 => ∃ F2 M2 vs acc, Ext H1 F1 M1 H2 F2 M2 ∧ RepS K H2 F2 M2 ∧ H2 D = some (.lst vs) ∧ F2 D = none ∧ M2 D = none ∧ Reps K F2 vs acc ∧ acc.length ≤ i + 1 ∧
      compD gt wt we g (wipeD ρ own) (ds.drop (i + 1)) M2 (fun es M'' => k (acc ++ es) M''), fun H2 n2 => ⟨_, by omega, rfl, hlt, n2⟩, fun v H3 y => ?_⟩
    obtain ⟨F3, d', e3, S3, hd', r3⟩ := wk.yld i H' v H3 F' M' hlt e'.sm S' gm y
    rw [hd] at hd'
    cases hd'
    obtain ⟨hD3, fD3, mD3⟩ := e3.fr D _ hD' fD mD
    refine ⟨d, F3, M', _, _, S3, R1.mono (e'.trans e3).sm, r3, w', fun σ4 ρ4 H4 F4 M4 e4 S4 R4 c4 w4 => ⟨c4.wipe hsub |>.trans ?_, ?_⟩⟩
    · exact wipe_wipe σ own
    obtain ⟨hD4, fD4, mD4⟩ := e4.fr D _ hD3 fD3 mD3
    refine ⟨F4, M4, ρ4, _, noX, S4, R4, w4, fun b H5 F5 M5 e5 S5 w5 => ?_, noX_post⟩
    obtain ⟨hD5, fD5, mD5⟩ := e5.fr D _ hD4 fD4 mD4
    have e05 := ((e'.trans e3).trans e4).trans e5
    have e35 := (e3.trans e4).trans e5
    cases b with
    | true =>
      refine iteT ?_
      refine ⟨F5, M5, ρ4, _, noX, S5, R4.mono e5.sm, w5, fun u e H6 F6 M6 e6 S6 r6 w6 => ?_, noX_post⟩
      obtain ⟨hD6, fD6, mD6⟩ := e6.fr D _ hD5 fD5 mD5
      have rv := ra.mono (e35.trans e6).sm
      refine ⟨vs, hD6, by rw [rv.length]; have := wk.sz; omega, F6, M6, _, acc ++ [e], (e05.trans e6).at_new hD _, S6.untold fD6 mD6 _, upd_same, fD6, mD6, rv.snoc r6, by rw [List.length_append, List.length_singleton]; omega, ?_⟩
      have q : (fun es M'' => k (acc ++ [e] ++ es) M'') = (fun es M'' => k (acc ++ (e :: es)) M'') := by
        funext es M''
        rw [List.append_assoc]
        rfl
      rw [q]
      exact w6
    | false =>
      refine iteF ?_
      exact ⟨F5, M5, vs, acc, e05, S5, hD5, fD5, mD5, ra.mono e35.sm, Nat.le_succ_of_le la, w5⟩
  · have e : i = ds.length := by omega
    subst e
    rw [List.drop_length] at w'
    refine .inl ⟨wk.stop H' F' M' e'.sm S' w'.1, ?_⟩
    have w2 : k (acc ++ []) M' := w'.2
    rw [List.append_nil] at w2
    exact fin H1 F1 M1 D vs acc H' F' M' e1 hD e' S' hD' fD mD ra (Nat.le_trans la wk.sz) w2
section
variable {elt tg iter : Expr} {ifs : List Expr} {scope : Scope} {own : List (Str × Nat)} {pos : Pos} {wi : WI} {is : List Nat} {gt : WG} {wt : WT} {we : WE}
theorem fin_frz {K : PySem.W.Frag} {H F : Hp} {M : MH} {k : KD} {Q : VK} (pv : PostV K H F M k Q) (H1 F1 : Hp) (M1 : MH) (L : Addr) (vs : List V) (es : List D) (H' F' : Hp) (M' : MH) (e1 : Ext H F M H1 F1 M1) (hD : H1 L = none) (e' : Ext H1 F1 M1 H' F' M')
    (S' : RepS K H' F' M') (hD' : H' L = some (.lst vs)) (fD : F' L = none) (mD : M' L = none) (r : Reps K F' vs es) (hl : es.length ≤ sizeLine) (w : k (.lst es) M') : Q (.ref L) H' := by
  have sF : Same F' (upd F' L (.lst vs)) := fun b u q => by rw [upd_ne (ne_of_none q fD)]; exact q
  have S2 : RepS K H' (upd F' L (.lst vs)) M' := ⟨fun b u q => by
    by_cases hb : b = L
    · subst hb; rw [upd_same] at q; cases q; exact hD'
    · rw [upd_ne hb] at q; exact S'.fz b u q, fun b m q => by
    have hb : b ≠ L := fun z => by rw [z, mD] at q; cases q
    obtain ⟨q1, u, q2, q3⟩ := S'.mu b m q
    exact ⟨by rw [upd_ne hb]; exact q1, u, q2, q3.mono sF⟩⟩
  have e2 : Ext H1 F1 M1 H' (upd F' L (.lst vs)) M' := ⟨e'.sm.trans sF, fun b u q1 q2 q3 => by
    have hb : b ≠ L := fun z => by rw [z, hD] at q1; cases q1
    rw [upd_ne hb]
    exact e'.fr b u q1 q2 q3⟩
  exact pv _ _ _ _ _ (e1.trans e2) S2 (.lst upd_same (r.mono sF) hl) w
theorem fin_mut {K : PySem.W.Frag} {H F : Hp} {M : MH} {k : KD} {Q : VK} (pv : PostV K H F M k Q) (H1 F1 : Hp) (M1 : MH) (L : Addr) (vs : List V) (es : List D) (H' F' : Hp) (M' : MH) (e1 : Ext H F M H1 F1 M1) (hD : H1 L = none) (e' : Ext H1 F1 M1 H' F' M')
    (S' : RepS K H' F' M') (hD' : H' L = some (.lst vs)) (fD : F' L = none) (mD : M' L = none) (r : Reps K F' vs es) (hl : es.length ≤ sizeLine) (w : ∀ a, M' a = none → k (.ref a) (mupd M' a (.lst es))) : Q (.ref L) H' := by
  have S2 : RepS K H' F' (mupd M' L (.lst es)) := ⟨S'.fz, fun b m q => by
    by_cases hb : b = L
    · subst hb; rw [mupd_same] at q; cases q; exact ⟨fD, _, hD', vs, rfl, r, hl⟩
    · rw [mupd_ne hb] at q; exact S'.mu b m q⟩
  have e2 : Ext H1 F1 M1 H' F' (mupd M' L (.lst es)) := ⟨e'.sm, fun b u q1 q2 q3 => by
    have hb : b ≠ L := fun z => by rw [z, hD] at q1; cases q1
    rw [mupd_ne hb]
    exact e'.fr b u q1 q2 q3⟩
  exact pv _ _ _ _ _ (e1.trans e2) S2 (.ref L) (w L mD)
theorem de_lc (hc : X.calm = true) (hN : X.N.Nodup) (hi : DI X tg iter wi) (ok : BlkOk X.N X.env.scope scope own) (hsub : ∀ i ∈ is, i ∈ own.map (·.2))
    (hg : ∀ (s : Shared) (H : Hp) (C : Addr) (cl : List (Str × Addr)) (fp : List Addr), DG (X.blk s H scope (compEnvC scope cl C X.env) fp) tg is gt) (ht : ∀ (s : Shared) (H : Hp) (C : Addr) (cl : List (Str × Addr)) (fp : List Addr), DTs (X.blk s H scope (compEnvC scope cl C X.env) fp) ifs wt)
    (he : ∀ (s : Shared) (H : Hp) (C : Addr) (cl : List (Str × Addr)) (fp : List Addr), DE (X.blk s H scope (compEnvC scope cl C X.env) fp) elt we) (hs : ∀ x, foldedSetIterable iter X.env x = pure x := by intro _; rfl) :
    DE X (.ListComp elt [⟨tg, iter, ifs, 0⟩] scope pos) (wLc wi gt wt we (own.map (·.2))) := by
  refine ⟨fun W tk => pe_imp (pe_lc (te := tOf X.K noW we) (tt := tOfT X.K noW wt) (g := gOf X.K is gt) hc hN (hi.pi W tk) ok (fun s H C cl fp => (hg s H C cl fp).pg) (fun s H C cl fp => (ht s H C cl fp).pt noW takes0) (fun s H C cl fp => (he s H C cl fp).pe noW takes0) hs) fun σ H Q q => ?_⟩
  obtain ⟨F, M, ρ, k, x, S, R, w, pv, px⟩ := q
  exact lc_in hsub S R w px (fin_frz pv)
theorem de_lcM (hc : X.calm = true) (hN : X.N.Nodup) (hi : DI X tg iter wi) (ok : BlkOk X.N X.env.scope scope own) (hsub : ∀ i ∈ is, i ∈ own.map (·.2))
    (hg : ∀ (s : Shared) (H : Hp) (C : Addr) (cl : List (Str × Addr)) (fp : List Addr), DG (X.blk s H scope (compEnvC scope cl C X.env) fp) tg is gt) (ht : ∀ (s : Shared) (H : Hp) (C : Addr) (cl : List (Str × Addr)) (fp : List Addr), DTs (X.blk s H scope (compEnvC scope cl C X.env) fp) ifs wt)
    (he : ∀ (s : Shared) (H : Hp) (C : Addr) (cl : List (Str × Addr)) (fp : List Addr), DE (X.blk s H scope (compEnvC scope cl C X.env) fp) elt we) (hs : ∀ x, foldedSetIterable iter X.env x = pure x := by intro _; rfl) :
    DE X (.ListComp elt [⟨tg, iter, ifs, 0⟩] scope pos) (wLcM wi gt wt we (own.map (·.2))) := by
  refine ⟨fun W tk => pe_imp (pe_lc (te := tOf X.K noW we) (tt := tOfT X.K noW wt) (g := gOf X.K is gt) hc hN (hi.pi W tk) ok (fun s H C cl fp => (hg s H C cl fp).pg) (fun s H C cl fp => (ht s H C cl fp).pt noW takes0) (fun s H C cl fp => (he s H C cl fp).pe noW takes0) hs) fun σ H Q q => ?_⟩
  obtain ⟨F, M, ρ, k, x, S, R, w, pv, px⟩ := q
  exact lc_in hsub S R w px (fin_mut pv)
/-- y = [..], y a local -/
theorem ds_setLc {i : Nat} {y : Str} {py spos : Pos} (hc : X.calm = true) (hN : X.N.Nodup) (hy : X.N[i]? = some y) (hyl : X.env.scope.names.lookup y = some .local) (hsw : swapsWith (.ListComp elt [⟨tg, iter, ifs, 0⟩] scope pos) (some (.Name y py)) spos.line X.env = pure true)
    (hi : DI X tg iter wi) (ok : BlkOk X.N X.env.scope scope own) (hsub : ∀ i ∈ is, i ∈ own.map (·.2))
    (hg : ∀ (s : Shared) (H : Hp) (C : Addr) (cl : List (Str × Addr)) (fp : List Addr), DG (X.blk s H scope (compEnvC scope cl C X.env) fp) tg is gt) (ht : ∀ (s : Shared) (H : Hp) (C : Addr) (cl : List (Str × Addr)) (fp : List Addr), DTs (X.blk s H scope (compEnvC scope cl C X.env) fp) ifs wt)
    (he : ∀ (s : Shared) (H : Hp) (C : Addr) (cl : List (Str × Addr)) (fp : List Addr), DE (X.blk s H scope (compEnvC scope cl C X.env) fp) elt we) (hs : ∀ x, foldedSetIterable iter X.env x = pure x := by intro _; rfl) :
    DS X (.Assign [.Name y py] (.ListComp elt [⟨tg, iter, ifs, 0⟩] scope pos) spos) (wSet i (wLc wi gt wt we (own.map (·.2)))) := by
  refine ⟨fun W tk _ => ps_imp (ps_setLc (te := tOf X.K noW we) (tt := tOfT X.K noW wt) (g := gOf X.K is gt) hc hN hy hyl hsw (hi.pi W tk) ok (fun s H C cl fp => (hg s H C cl fp).pg) (fun s H C cl fp => (ht s H C cl fp).pt noW takes0) (fun s H C cl fp => (he s H C cl fp).pe noW takes0) hs) fun D σ H q => ?_⟩
  obtain ⟨F, M, ρ, k, x, S, R, w, pv, px⟩ := set_in (X := X) q
  exact lc_in hsub S R w px (fin_frz pv)
theorem ds_setLcM {i : Nat} {y : Str} {py spos : Pos} (hc : X.calm = true) (hN : X.N.Nodup) (hy : X.N[i]? = some y) (hyl : X.env.scope.names.lookup y = some .local) (hsw : swapsWith (.ListComp elt [⟨tg, iter, ifs, 0⟩] scope pos) (some (.Name y py)) spos.line X.env = pure true)
    (hi : DI X tg iter wi) (ok : BlkOk X.N X.env.scope scope own) (hsub : ∀ i ∈ is, i ∈ own.map (·.2))
    (hg : ∀ (s : Shared) (H : Hp) (C : Addr) (cl : List (Str × Addr)) (fp : List Addr), DG (X.blk s H scope (compEnvC scope cl C X.env) fp) tg is gt) (ht : ∀ (s : Shared) (H : Hp) (C : Addr) (cl : List (Str × Addr)) (fp : List Addr), DTs (X.blk s H scope (compEnvC scope cl C X.env) fp) ifs wt)
    (he : ∀ (s : Shared) (H : Hp) (C : Addr) (cl : List (Str × Addr)) (fp : List Addr), DE (X.blk s H scope (compEnvC scope cl C X.env) fp) elt we) (hs : ∀ x, foldedSetIterable iter X.env x = pure x := by intro _; rfl) :
    DS X (.Assign [.Name y py] (.ListComp elt [⟨tg, iter, ifs, 0⟩] scope pos) spos) (wSet i (wLcM wi gt wt we (own.map (·.2)))) := by
  refine ⟨fun W tk _ => ps_imp (ps_setLc (te := tOf X.K noW we) (tt := tOfT X.K noW wt) (g := gOf X.K is gt) hc hN hy hyl hsw (hi.pi W tk) ok (fun s H C cl fp => (hg s H C cl fp).pg) (fun s H C cl fp => (ht s H C cl fp).pt noW takes0) (fun s H C cl fp => (he s H C cl fp).pe noW takes0) hs) fun D σ H q => ?_⟩
  obtain ⟨F, M, ρ, k, x, S, R, w, pv, px⟩ := set_in (X := X) q
  exact lc_in hsub S R w px (fin_mut pv)
end
end

/-! ### defs -/
abbrev WF := List D → MH → KD → KE → Prop
/-- a def's promise in terms of data -/
def spD (K : PySem.W.Frag) (n : Nat) (wf : WF) : Sp := fun vs H Q E => ∃ F M ds k x, RepS K H F M ∧ Reps K F vs ds ∧ ds.length = n ∧ wf ds M k x ∧ PostV K H F M k Q ∧ PostX K H F M x E
structure FnD (P : Program) (w : World) (K : PySem.W.Frag) (mg : Str → Option Value) (base : Heap) (f : Str) (k n : Nat) (wf : WF) : Prop where
  ex : ∃ (a : Addr) (fd : FuncData) (ps : List Str), ps.length = n ∧ FnOk P w K mg base (L2.CX P w) k a fd ps (spD K n wf) ∧ mg f = some (.ref a) ∧ PySem.W.keepIn K (.ref a) = true ∧ Binds K fd ps []
def wCall (wf : WF) (n : Nat) (wa : WA) : WE := fun ρ M k x => wa ρ M (fun ds M1 => gd (Nat.beq ds.length n) (wf ds M1 k x)) x
section
variable {X : Cx} {pos p : Pos} {f : Str} {e : Expr} {es : List Expr} {k n : Nat} {wf : WF} {wa : WA}
theorem de_call (F : FnD X.prog X.w X.K X.mg X.base f k n wf) (hr : Room k X.A) (ha : DA X (e :: es) wa) (hg : Gl X f := by rfl) (hd : (f == ("__debug__" : Str)) = false := by decide)
    (he : starEach (e :: es) X.env = (false, eval e X.env) :: starEach es X.env := by rfl) (hpl : (backTo pos (starEach es X.env)).any (·.1) = false := by rfl) : DE X (.Call (.Name f p) (e :: es) [] pos) (wCall wf n wa) := by
  obtain ⟨a, fd, ps, hn, G, hm, hk, hb⟩ := F.ex
  refine ⟨fun W tk => pe_imp (pe_callS G hr hg hm hk hb (fun σ => passAt tk σ) (ha.pa W tk) hd he hpl) fun σ H Q q => ?_⟩
  obtain ⟨F, M, ρ, k, x, S, R, w, pv, px⟩ := q
  refine ⟨F, M, ρ, _, x, S, R, w, fun vs ds H1 F1 M1 e1 S1 r1 w1 => ?_, px⟩
  obtain ⟨hl, w1⟩ := gd_of w1
  exact ⟨F1, M1, ds, k, x, S1, r1, Nat.eq_of_beq_eq_true hl, w1, pv.on e1, px.on e1⟩
end
/-- at a def's end: what is told no more is dropped; a list that was filled is handed back frozen -/
def Lt (k : KD) : KD := fun d M => ∃ M', Sub M' M ∧ (k d M' ∨ ∃ a ds, d = .ref a ∧ M a = some (.lst ds) ∧ M' a = none ∧ k (.lst ds) M')
theorem Lt.now {k : KD} {d : D} {M : MH} (h : k d M) : Lt k d M := ⟨M, Sub.refl M, .inl h⟩
theorem Lt.drop {k : KD} {d : D} {M M' : MH} (s : Sub M' M) (h : k d M') : Lt k d M := ⟨M', s, .inl h⟩
theorem Lt.frz {k : KD} {a : Addr} {ds : List D} {M M' : MH} (s : Sub M' M) (h1 : M a = some (.lst ds)) (h2 : M' a = none) (h : k (.lst ds) M') : Lt k (.ref a) M := ⟨M', s, .inr ⟨a, ds, rfl, h1, h2, h⟩⟩
def Ltx (x : KE) : KE := fun C fs M => ∃ M', Sub M' M ∧ x C fs M'
theorem Ltx.now {x : KE} {C : Addr} {fs : List (Str × D)} {M : MH} (h : x C fs M) : Ltx x C fs M := ⟨M, Sub.refl M, h⟩
def retE (k : KD) (x : KE) : EndsD := { nx := fun _ M => Lt k .non M, rt := Lt k, bk := fun _ _ => False, ct := fun _ _ => False, xc := Ltx x }
theorem PostV.lt {K : PySem.W.Frag} {H F : Hp} {M : MH} {k : KD} {Q : VK} (pv : PostV K H F M k Q) : PostV K H F M (Lt k) Q := fun v d H' F' M' e S r h => by
  obtain ⟨M2, s, h | ⟨a, ds, rfl, h1, h2, h⟩⟩ := h
  · obtain ⟨S2, e2⟩ := S.forget s
    exact pv v d _ _ _ (e.trans e2) S2 r h
  · cases r
    obtain ⟨_, hl, xs, ho, hr⟩ := S.mlst h1
    obtain ⟨S2, e2⟩ := S.freeze h1 ho
    have s2 : Sub M2 (mdel M' a) := fun b o q => by
      have hb : b ≠ a := fun z => by rw [z, h2] at q; cases q
      rw [mdel_ne hb]
      exact s b o q
    obtain ⟨S3, e3⟩ := S2.forget s2
    exact pv _ _ _ _ _ ((e.trans e2).trans e3) S3 (.lst upd_same (hr.mono e2.sm) hl) h
theorem PostX.lt {K : PySem.W.Frag} {H F : Hp} {M : MH} {x : KE} {w : XK} (px : PostX K H F M x w) : PostX K H F M (Ltx x) w := fun C dd vfs fs H' F' M' e S hd r h => by
  obtain ⟨M2, s, h⟩ := h
  obtain ⟨S2, e2⟩ := S.forget s
  exact px C dd vfs fs _ _ _ (e.trans e2) S2 hd r h
section
variable {P : Program} {w : World} {K : PySem.W.Frag} {mg : Str → Option Value} {base : Heap}
/-- THE RULE for a def -/
theorem fn_d {x qual : Str} {st : Stmt} {f : Addr} {fd : FuncData} {N ps : List Str} {k : Nat} {wf : WF} {wb : WS} (G : Fun K x qual st f fd) (S : FnScope N ps (defScope st))
    (hb : ∀ (cdv : Value) (A : Around) (outer : List Env) (s : Shared) (H : Hp) (E : XK), Room k (A.deeper (envOfC qual (defScope st) s.heap.objs.size f cdv)) → DSs (cxOf (L2.CX P w) P w K mg base N qual (defScope st) f cdv A outer s H E) (defBody st) wb)
    (hw : ∀ ds M k x, ds.length = ps.length → wf ds M k x → wb (startD N ds) M (retE k x)) : FnOk P w K mg base (L2.CX P w) (k + 1) f fd ps (spD K ps.length wf) := by
  refine G.okX S (fun vs H Q E h => ?_) (fun cdv A outer s H vs Q E hr h => ?_)
  · obtain ⟨F, M, ds, k, x, S, r, hl, _⟩ := h
    exact r.length.trans hl
  · have d := hb cdv A outer s H E hr
    refine ⟨_, d.ps (fun cls d _ H => E cls d H) (takes_of rfl rfl rfl rfl) (passes_of rfl), ?_⟩
    obtain ⟨F, M, ds, k, x, S1, r, hl, q, pv, px⟩ := h
    exact ⟨F, M, startD N ds, retE k x, S1, RepE.start r, hw ds M k x hl q, fun σ' ρ' H' F' M' e' S' R' w' => pv.lt _ _ _ _ _ e' S' .non w', pv.lt, fun _ _ _ _ _ _ _ _ z => z.elim, fun _ _ _ _ _ _ _ _ z => z.elim, fun σ => px.lt⟩
end
end DL

namespace DL
open PySem PySem.Spec PyProof.Rows L2

/-! ### tuple * int, any int -/
theorem tuple_mul1 (l : Addr) (items : Array Value) (n : Nat) (dd : Option Addr) (sl : Array (Option Value)) (x : Int) (u : Tok) (c0 : (decide (x < -(2 ^ 63)) || decide (x ≥ 2 ^ 63)) = false) (c1 : (items.isEmpty || x == 1) = true) :
    Meets (Builtin.«tuple.__mul__» ⟨[.ref l, .int x u], []⟩) (fun _ R s => s.heap.get? l = some { cls := .type "tuple", dict := dd, data := .seq items n, slots := sl } ∧ R (.ok (.ret (Value.ref l))) s) :=
  .of_wp fun prog w A R s h => by
    obtain ⟨hp, g, d, tk, os⟩ := s
    obtain ⟨hl, h⟩ := h
    have f1 := AutoSeq1.idx_int
    wp_walk using wpAny_loadPart' hl
    repeat (first
      | (refine wpAny_ite_false (decide_eq_false (by rw [c0]; exact Bool.false_ne_true)) ?_; wp_walk using wpAny_loadPart' hl)
      | (refine wpAny_ite_true (decide_eq_true (by rw [c1])) ?_; wp_walk using wpAny_loadPart' hl))
    exact ⟨_, rfl, h⟩
theorem tuple_mul0 (l : Addr) (items : Array Value) (n : Nat) (dd : Option Addr) (sl : Array (Option Value)) (x : Int) (u : Tok) (c0 : (decide (x < -(2 ^ 63)) || decide (x ≥ 2 ^ 63)) = false) (c1 : (items.isEmpty || x == 1) = false) (c2 : (decide (x ≤ 0) || items.isEmpty) = true) :
    Meets (Builtin.«tuple.__mul__» ⟨[.ref l, .int x u], []⟩) (fun _ R s => s.heap.get? l = some { cls := .type "tuple", dict := dd, data := .seq items n, slots := sl } ∧
      R (.ok (.ret (Value.ref s.heap.objs.size))) { s with heap := s.heap.push { cls := Value.type "tuple", data := Data.seq #[] }, toks := s.toks }) :=
  .of_wp fun prog w A R s h => by
    obtain ⟨hp, g, d, tk, os⟩ := s
    obtain ⟨hl, h⟩ := h
    have f1 := AutoSeq1.idx_int
    wp_walk using wpAny_loadPart' hl
    repeat (first
      | (refine wpAny_ite_false (decide_eq_false (by rw [c0]; exact Bool.false_ne_true)) ?_; wp_walk using wpAny_loadPart' hl)
      | (refine wpAny_ite_false (decide_eq_false (by rw [c1]; exact Bool.false_ne_true)) ?_; wp_walk using wpAny_loadPart' hl)
      | (refine wpAny_ite_true (decide_eq_true (by rw [c2])) ?_; wp_walk using wpAny_loadPart' hl))
    exact ⟨_, rfl, h⟩

theorem flat_len {α : Type} (n : Nat) (xs : List α) : (List.replicate n xs).flatten.length = n * xs.length := by
  induction n with
  | zero => simp
  | succ n ih => rw [List.replicate_succ, List.flatten_cons, List.length_append, ih, Nat.succ_mul, Nat.add_comm]
theorem flat_nil {α : Type} (n : Nat) : (List.replicate n ([] : List α)).flatten = [] := by
  induction n with
  | zero => rfl
  | succ n ih => rw [List.replicate_succ, List.flatten_cons, ih]; rfl
/-- t * k -/
def rRepA (K : PySem.W.Frag) : R2 := fun x y H Q => ∃ l k xs, x = .ref l ∧ y = .int k ∧ SqT K H l xs ∧ k ≤ 1000 ∧ -1000000 ≤ k ∧ xs.length ≤ 1000 ∧
  ((xs = [] ∨ k = 1) → Q (.ref l) H) ∧ (xs ≠ [] → k ≠ 1 → ∀ p, H p = none → Q (.ref p) (upd H p (.tup (List.replicate k.toNat xs).flatten)))
theorem op_repA {X : Cx} : OpR X (binaryOp .Mult) (rRepA X.K) := by
  intro pins s σ H x y v u Q I rx ry h
  obtain ⟨l, k, xs, rfl, rfl, hT, h1, h2, hz, q1, q2⟩ := h
  by_cases hk : xs ≠ [] ∧ 2 ≤ k
  · exact op_repT pins s σ H _ _ v u Q I rx ry ⟨l, k, xs, rfl, rfl, hT, hk.1, hk.2, h1, hz, q2 hk.1 (by omega)⟩
  cases rx
  obtain ⟨t, rfl⟩ := ry
  obtain ⟨its, r, ⟨⟨cls, dd, data, sl⟩, ho, hc, n, hd⟩, hs⟩ := I.tuple hT
  simp only at hc hd
  subst hc hd
  have hle : its.length = xs.length := r.length.symm
  have c0 : (decide (k < -(2 ^ 63)) || decide (k ≥ 2 ^ 63)) = false := by
    rw [decide_eq_false (by omega), decide_eq_false (by omega)] <;> rfl
  by_cases hs1 : xs = [] ∨ k = 1
  · have c1 : (its.toArray.isEmpty || k == 1) = true := by
      rcases hs1 with e | e
      · subst e
        have : its = [] := List.eq_nil_of_length_eq_zero (by rw [hle]; rfl)
        subst this
        rfl
      · subst e
        simp
    exact wpAny_binaryOp_repeat_ref (T := "tuple") (U := "int") (by decide) ⟨_, ho, rfl⟩ (fun s' => typeIs_int s' k t) noFill_tuple_mul F.fills_int_mul F.slot_int_rmul repeat_tuple F.slot_int_index.lookup
      (call_meets F.slot_int_rmul (typeIs_int s k t) F.entry_int_rmul (F.args_int_rmul_2 _ _) (int_rmul_tuple k t l its.toArray n dd sl)
        ⟨ho, rfl, ⟨_, ho, rfl⟩, call_meets F.slot_tuple_mul ⟨_, ho, rfl⟩ F.entry_tuple_mul (F.args_tuple_mul_2 _ _) (tuple_mul1 l its.toArray n dd sl k t c0 c1) ⟨ho, ⟨.ref l, H, I, rfl, q1 hs1⟩⟩⟩)
  · have hx : xs ≠ [] := fun e => hs1 (.inl e)
    have hk1 : k ≠ 1 := fun e => hs1 (.inr e)
    have hk0 : k ≤ 0 := Int.not_lt.mp fun z => hk ⟨hx, by omega⟩
    have hi : its.toArray.isEmpty = false := by
      cases its with
      | nil => exact absurd (List.eq_nil_of_length_eq_zero hle.symm) hx
      | cons a b => rfl
    have c1 : (its.toArray.isEmpty || k == 1) = false := by
      rw [hi, Bool.false_or]
      exact beq_eq_false_iff_ne.mpr hk1
    have c2 : (decide (k ≤ 0) || its.toArray.isEmpty) = true := by rw [decide_eq_true hk0]; rfl
    refine wpAny_binaryOp_repeat_ref (T := "tuple") (U := "int") (by decide) ⟨_, ho, rfl⟩ (fun s' => typeIs_int s' k t) noFill_tuple_mul F.fills_int_mul F.slot_int_rmul repeat_tuple F.slot_int_index.lookup
      (call_meets F.slot_int_rmul (typeIs_int s k t) F.entry_int_rmul (F.args_int_rmul_2 _ _) (int_rmul_tuple k t l its.toArray n dd sl)
        ⟨ho, rfl, ⟨_, ho, rfl⟩, call_meets F.slot_tuple_mul ⟨_, ho, rfl⟩ F.entry_tuple_mul (F.args_tuple_mul_2 _ _) (tuple_mul0 l its.toArray n dd sl k t c0 c1 c2) ⟨ho, ?_⟩⟩)
    have q := q2 hx hk1
    have e0 : k.toNat = 0 := by omega
    rw [e0] at q
    refine ⟨.ref s.heap.objs.size, _, I.laid (t' := s.toks) (o := .tup []) (fun b ob q => Heap.get?_push_of_some _ q) (Nat.le_refl _) ?_, rfl, q _ (I.hok.fresh (Nat.le_refl _))⟩
    exact ⟨Nat.zero_le _, [], .nil, ⟨_, Heap.get?_push_size _ rfl, rfl, 0, rfl⟩⟩

/-! ### operators by data -/
section
variable {X : Cx}
abbrev RD := D → D → MH → KD → Prop
def rAdd : RD := fun d e M k => match d, e with
  | .int i, .int j => k (.int (i + j)) M
  | .str a, .str b => a.length + b.length ≤ sizeLine ∧ k (.str (a ++ b)) M
  | .tup a, .tup b => a.length + b.length ≤ sizeLine ∧ k (.tup (a ++ b)) M
  | .lst a, .lst b => a.length + b.length ≤ sizeLine ∧ k (.lst (a ++ b)) M
  | _, _ => False
theorem od_add : OpD X (binaryOp .Add) rAdd := by
  refine ⟨_, op_add.or (op_add_str.or (op_catA.or op_cat)), fun d e v u H F M k Q S rd re h pv => ?_⟩
  cases d <;> cases e <;> try exact h.elim
  · cases rd; cases re
    exact .inl ⟨_, _, rfl, rfl, pv.at S (.int _) h⟩
  · cases rd; cases re
    exact .inr (.inl ⟨_, _, rfl, rfl, h.1, pv.at S (.str _) h.2⟩)
  · rename_i ds es
    cases rd with
    | @tup a xs _ ha ra la =>
    cases re with
    | @tup b ys _ hb rb lb =>
    have hz : xs.length + ys.length ≤ sizeLine := by rw [ra.length, rb.length]; exact h.1
    refine .inr (.inr (.inl ⟨a, b, xs, ys, rfl, rfl, seqT S.fz ha, seqT S.fz hb, hz, fun ex => ?_, fun _ ey => ?_, fun _ _ p hp => ?_⟩))
    · subst ex
      cases ra
      exact pv.at S (.tup hb rb lb) h.2
    · subst ey
      cases rb
      have h2 := h.2
      rw [List.append_nil] at h2
      exact pv.at S (.tup ha ra la) h2
    · obtain ⟨S2, e2⟩ := S.lay hp (.tup (xs ++ ys))
      exact pv _ _ _ _ _ e2 S2 (.tup (SqT.of upd_same) ((ra.append rb).mono e2.sm) (by rw [List.length_append]; exact h.1)) h.2
  · rename_i ds es
    cases rd with
    | @lst a xs _ ha ra la =>
    cases re with
    | @lst b ys _ hb rb lb =>
    have hz : xs.length + ys.length ≤ sizeLine := by rw [ra.length, rb.length]; exact h.1
    refine .inr (.inr (.inr ⟨a, b, xs, ys, rfl, rfl, S.fz _ _ ha, S.fz _ _ hb, hz, fun p hp => ?_⟩))
    obtain ⟨S2, e2⟩ := S.lay hp (.lst (xs ++ ys))
    exact pv _ _ _ _ _ e2 S2 (.lst upd_same ((ra.append rb).mono e2.sm) (by rw [List.length_append]; exact h.1)) h.2
def onII (d e : D) (p : Int → Int → Prop) : Prop := match d, e with
  | .int i, .int j => p i j
  | _, _ => False
theorem ii_of {K : PySem.W.Frag} {F : Hp} {v u : V} {d e : D} {p : Int → Int → Prop} (r : Rep K F v d) (q : Rep K F u e) (h : onII d e p) : ∃ i j, v = .int i ∧ u = .int j ∧ p i j := by
  cases d <;> cases e <;> first | exact h.elim | skip
  cases r; cases q
  exact ⟨_, _, rfl, rfl, h⟩
def rInt (C : Int → Int → Prop) (g : Int → Int → D) : RD := fun d e M k => onII d e fun i j => C i j ∧ k (g i j) M
def rInt0 (g : Int → Int → D) : RD := fun d e M k => onII d e fun i j => k (g i j) M
theorem od_int {f : Value → Value → Sem Value} {C : Int → Int → Prop} {g : Int → Int → V} {gd : Int → Int → D} (h : OpR X f (rI C g)) (r : ∀ K F i j, Rep K F (g i j) (gd i j)) : OpD X f (rInt C gd) :=
  ⟨_, h, fun d e v u H F M k Q S rd re h pv => by
    obtain ⟨i, j, rfl, rfl, c, w⟩ := ii_of rd re h
    exact ⟨i, j, rfl, rfl, c, pv.at S (r _ _ i j) w⟩⟩
theorem od_int0 {f : Value → Value → Sem Value} {g : Int → Int → V} {gd : Int → Int → D} (h : OpR X f (rI0 g)) (r : ∀ K F i j, Rep K F (g i j) (gd i j)) : OpD X f (rInt0 gd) :=
  ⟨_, h, fun d e v u H F M k Q S rd re h pv => by
    obtain ⟨i, j, rfl, rfl, w⟩ := ii_of rd re h
    exact ⟨i, j, rfl, rfl, pv.at S (r _ _ i j) w⟩⟩
def rSub : RD := rInt0 fun i j => .int (i - j)
theorem od_sub : OpD X (binaryOp .Sub) rSub := od_int0 op_sub fun _ _ _ _ => .int _
def CFd (_ j : Int) : Prop := j ≠ 0 ∧ j.natAbs.log2 < 9000
theorem op_fdivA : OpR X (binaryOp .FloorDiv) (rI CFd fun i j => .int (i.fdiv j)) := opI fun _ _ _ _ _ _ _ hc q => floordiv_int hc.1 q (.inl (PyProof.noPylong_of_log2 hc.2))
def rFdiv : RD := rInt CFd fun i j => .int (i.fdiv j)
theorem od_fdiv : OpD X (binaryOp .FloorDiv) rFdiv := od_int op_fdivA fun _ _ _ _ => .int _
def rMod : RD := rInt (fun _ j => j ≠ 0) fun i j => .int (i.fmod j)
theorem od_mod : OpD X (binaryOp .Mod) rMod := od_int op_modN fun _ _ _ _ => .int _
def rPow : RD := rInt CPow fun i j => .int (i ^ j.toNat)
theorem od_pow : OpD X (binaryOp .Pow) rPow := od_int op_pow fun _ _ _ _ => .int _
theorem op_mulA : OpR X (binaryOp .Mult) (rI IntMulOk fun i j => .int (i * j)) := opI fun _ _ _ _ _ _ _ hc q => mul_int q hc
def rMul0 : RD := fun d e M k => match d, e with
  | .int i, .int j => IntMulOk i j ∧ k (.int (i * j)) M
  | .tup a, .int n => (n ≤ 1000 ∧ -1000000 ≤ n ∧ a.length ≤ 1000) ∧ k (.tup (List.replicate n.toNat a).flatten) M
  | _, _ => False
theorem od_mul0 : OpD X (binaryOp .Mult) rMul0 := by
  refine ⟨_, op_mulA.or op_repA, fun d e v u H F M k Q S rd re h pv => ?_⟩
  cases d <;> cases e <;> try exact h.elim
  · cases rd; cases re
    exact .inl ⟨_, _, rfl, rfl, h.1, pv.at S (.int _) h.2⟩
  · rename_i ds n
    cases re
    cases rd with
    | @tup a xs _ ha ra la =>
    obtain ⟨⟨h1, h2, h3⟩, h4⟩ := h
    refine .inr ⟨a, n, xs, rfl, rfl, seqT S.fz ha, h1, h2, by rw [ra.length]; exact h3, fun hs => ?_, fun hx hn p hp => ?_⟩
    · rcases hs with ex | en
      · subst ex
        cases ra
        rw [flat_nil] at h4
        exact pv.at S (.tup ha .nil la) h4
      · subst en
        have e1 : (List.replicate (1 : Int).toNat ds).flatten = ds := by show (List.replicate 1 ds).flatten = ds; simp
        rw [e1] at h4
        exact pv.at S (.tup ha ra la) h4
    · obtain ⟨S2, e2⟩ := S.lay hp (.tup (List.replicate n.toNat xs).flatten)
      have hl : (List.replicate n.toNat ds).flatten.length ≤ sizeLine := by
        rw [flat_len, sizeLine_eq]
        have a1 : n.toNat * ds.length ≤ 1000 * 1000 := Nat.mul_le_mul (by omega) h3
        omega
      exact pv _ _ _ _ _ e2 S2 (.tup (SqT.of upd_same) ((ra.rep _).mono e2.sm) hl) h4

def strRep (z : Str) (n : Int) : Str := ⟨(List.replicate n.toNat z.cps).foldl (· ++ ·) #[]⟩
theorem foldl_app (xs : List (Array Nat)) (acc : Array Nat) : (xs.foldl (· ++ ·) acc).toList = acc.toList ++ (xs.map (·.toList)).flatten := by
  induction xs generalizing acc with
  | nil => simp
  | cons a r ih => rw [List.foldl_cons, ih]; simp
theorem strRep_list (z : Str) (n : Int) : (strRep z n).cps.toList = (List.replicate n.toNat z.cps.toList).flatten := by
  unfold strRep
  rw [foldl_app]
  simp
theorem strRep_len (z : Str) (n : Int) : (strRep z n).length = n.toNat * z.length := by
  show (strRep z n).cps.size = _
  rw [← Array.length_toList, strRep_list, flat_len, Array.length_toList]
  rfl
theorem strRep_one (z : Str) : strRep z 1 = z := by
  show (⟨(List.replicate 1 z.cps).foldl (· ++ ·) #[]⟩ : Str) = z
  simp [List.replicate]
theorem strRep_nil (z : Str) (n : Int) (h : z.length = 0) : strRep z n = z := by
  have h1 : (strRep z n).cps.size = 0 := by
    have := strRep_len z n
    rw [h, Nat.mul_zero] at this
    exact this
  have h2 : z.cps.size = 0 := h
  show (⟨(strRep z n).cps⟩ : Str) = ⟨z.cps⟩
  rw [Array.eq_empty_of_size_eq_zero h1, Array.eq_empty_of_size_eq_zero h2]
theorem op_mulS {X : Cx} : OpR X (binaryOp .Mult) (fun x y H Q => ∃ z n, x = .str z ∧ y = .int n ∧ -1000000 ≤ n ∧ n ≤ 1000 ∧ z.length ≤ 1000 ∧ Q (.str (strRep z n)) H) := by
  intro pins s σ H x y v u Q I rx ry h
  obtain ⟨z, n, rfl, rfl, h1, h2, h3, q⟩ := h
  obtain ⟨t, rfl⟩ := rx
  obtain ⟨t', rfl⟩ := ry
  have hl : z.length * n.toNat ≤ 1000 * 1000 := Nat.mul_le_mul h3 (by omega)
  refine PySem.P.mul_str (by rw [decide_eq_false (by omega), decide_eq_false (by omega)]; rfl) (fun hn _ => ?_) (fun _ _ => decide_eq_false (Nat.not_lt.mpr (by rw [sizeLine_eq]; omega))) ?_
  · have hn' : 1 ≤ n := by omega
    have : (1000 : Int) ≤ (2 ^ 63 - 1) / n := by
      rw [Int.le_ediv_iff_mul_le (by omega)]
      omega
    omega
  · by_cases hn : n < 1
    · rw [if_pos hn]
      have e : strRep z n = Str.empty := by
        have e0 : n.toNat = 0 := by omega
        unfold strRep
        rw [e0]
        rfl
      rw [e] at q
      exact ⟨by decide, .str _, H, I.tok _, ⟨_, rfl⟩, q⟩
    · rw [if_neg hn]
      by_cases hc : (n == 1 || z.length == 0) = true
      · rw [if_pos hc]
        have e : strRep z n = z := by
          rcases Bool.or_eq_true_iff.mp hc with a | a
          · have : n = 1 := by simpa using a
            subst this
            exact strRep_one z
          · exact strRep_nil z n (by simpa using a)
        rw [e] at q
        exact ⟨.str _, H, I, ⟨_, rfl⟩, q⟩
      · rw [if_neg hc]
        exact ⟨by show (strRep z n).length ≤ _; rw [strRep_len, sizeLine_eq, Nat.mul_comm]; omega, .str _, H, I.tok _, ⟨_, rfl⟩, q⟩
def rMul : RD := fun d e M k => match d, e with
  | .str z, .int n => (-1000000 ≤ n ∧ n ≤ 1000 ∧ z.length ≤ 1000) ∧ k (.str (strRep z n)) M
  | .lst a, .int n => (n ≤ 1000 ∧ -1000000 ≤ n ∧ a.length ≤ 1000) ∧ k (.lst (List.replicate n.toNat a).flatten) M
  | .lst a, .bl b => k (.lst (if b then a else [])) M
  | _, _ => rMul0 d e M k
theorem od_mul {X : Cx} : OpD X (binaryOp .Mult) rMul := by
  obtain ⟨r0, h0, s0⟩ := od_mul0 (X := X)
  refine ⟨_, op_mulS.or (op_rep.or (op_mul_lb.or h0)), fun d e v u H F M k Q S rd re h pv => ?_⟩
  have old : rMul0 d e M k → r0 v u H Q := fun h => s0 d e v u H F M k Q S rd re h pv
  cases d with
  | str z =>
    cases e with
    | int n =>
      cases rd; cases re
      exact .inl ⟨z, n, rfl, rfl, h.1.1, h.1.2.1, h.1.2.2, pv.at S (.str _) h.2⟩
    | _ => exact .inr (.inr (.inr (old h)))
  | lst ds =>
    cases e with
    | int n =>
      cases re
      cases rd with
      | @lst a xs _ ha ra la =>
      obtain ⟨⟨h1, h2, h3⟩, h4⟩ := h
      have hm : xs.length * n.toNat ≤ 1000 * 1000 := Nat.mul_le_mul (by rw [ra.length]; exact h3) (by omega)
      refine .inr (.inl ⟨a, n, xs, rfl, rfl, S.fz _ _ ha, by omega, by omega, by rw [sizeLine_eq]; omega, fun p hp => ?_⟩)
      obtain ⟨S2, e2⟩ := S.lay hp (.lst (List.replicate n.toNat xs).flatten)
      have hl : (List.replicate n.toNat ds).flatten.length ≤ sizeLine := by
        rw [flat_len, sizeLine_eq, Nat.mul_comm, ← ra.length]
        omega
      exact pv _ _ _ _ _ e2 S2 (.lst upd_same ((ra.rep _).mono e2.sm) hl) h4
    | bl b =>
      cases re
      cases rd with
      | @lst a xs _ ha ra la =>
      refine .inr (.inr (.inl ⟨a, xs, b, rfl, rfl, SqL.of (S.fz _ _ ha), fun p hp => ?_⟩))
      cases b with
      | true =>
        obtain ⟨S2, e2⟩ := S.lay hp (.lst xs)
        exact pv _ _ _ _ _ e2 S2 (.lst upd_same (ra.mono e2.sm) la) h
      | false =>
        obtain ⟨S2, e2⟩ := S.lay hp (.lst [])
        exact pv _ _ _ _ _ e2 S2 (.lst upd_same .nil (Nat.zero_le _)) h
    | _ => exact .inr (.inr (.inr (old h)))
  | _ => exact .inr (.inr (.inr (old (by cases e <;> exact h))))
theorem mulOk_l {i j : Int} (h1 : -(2 ^ 64) < i) (h2 : i < 2 ^ 64) : IntMulOk i j := .of_left (intBits_le_64 h1 h2)
theorem mulOk_r {i j : Int} (h1 : -(2 ^ 64) < j) (h2 : j < 2 ^ 64) : IntMulOk i j := .of_right (intBits_le_64 h1 h2)
theorem mulOk_w {i j : Int} {a b : Nat} (ha : i.natAbs < 2 ^ a) (hb : j.natAbs < 2 ^ b) (h0 : 0 < a := by decide) (h1 : 0 < b := by decide) (h : a + b ≤ 1000000 := by decide) : IntMulOk i j := (wide_mul ha hb h0 h1 h).ok
/-- comparisons -/
def rLt : RD := fun d e M k => match d, e with
  | .int i, .int j => k (.bl (decide (i < j))) M
  | .str i, .str j => k (.bl (decide (i.cps.toList < j.cps.toList))) M
  | _, _ => False
theorem od_lt : OpD X (compareOp .Lt) rLt := by
  refine ⟨_, op_lt.or op_lt_str, fun d e v u H F M k Q S rd re h pv => ?_⟩
  cases d <;> cases e <;> try exact h.elim
  · cases rd; cases re
    exact .inl ⟨_, _, rfl, rfl, pv.at S (.bl _) h⟩
  · cases rd; cases re
    exact .inr ⟨_, _, rfl, rfl, pv.at S (.bl _) h⟩
def rLe : RD := rInt0 fun i j => .bl (decide (i ≤ j))
theorem od_le : OpD X (compareOp .LtE) rLe := od_int0 op_le fun _ _ _ _ => .bl _
def rGt : RD := rInt0 fun i j => .bl (decide (j < i))
theorem od_gt : OpD X (compareOp .Gt) rGt := od_int0 op_gt fun _ _ _ _ => .bl _
def rGe : RD := rInt0 fun i j => .bl (decide (j ≤ i))
theorem od_ge : OpD X (compareOp .GtE) rGe := od_int0 op_ge fun _ _ _ _ => .bl _
/-- is None -/
def isNon : D → Bool
  | .non => true
  | _ => false
theorem non_of {K : PySem.W.Frag} {F : Hp} {v : V} {d : D} (r : Rep K F v d) : decide (v = .non) = isNon d := by
  cases r <;> rfl
def rIs : RD := fun d e M k => match e with
  | .non => k (.bl (isNon d)) M
  | _ => False
def rIsNot : RD := fun d e M k => match e with
  | .non => k (.bl (!isNon d)) M
  | _ => False
theorem od_is : OpD X (compareOp .Is) rIs := ⟨_, op_isN, fun d e v u H F M k Q S rd re h pv => by
  cases e <;> try exact h.elim
  cases re
  rw [non_of rd]
  exact ⟨rfl, pv.at S (.bl _) h⟩⟩
theorem od_isNot : OpD X (compareOp .IsNot) rIsNot := ⟨_, op_notN, fun d e v u H F M k Q S rd re h pv => by
  cases e <;> try exact h.elim
  cases re
  rw [non_of rd]
  exact ⟨rfl, pv.at S (.bl _) h⟩⟩
/-! == of data -/
mutual
def toPy : D → Option PyData
  | .non => some .none
  | .bl b => some (.bool b)
  | .int i => some (.int i)
  | .str x => some (.str x)
  | .tup ds => (toPys ds).map .tuple
  | .lst ds => (toPys ds).map .list
  | .ref _ => none
  | .ty _ => none
  | .scr _ => none
def toPys : List D → Option (List PyData)
  | [] => some []
  | d :: ds => (toPy d).bind fun p => (toPys ds).map (p :: ·)
end
mutual
theorem dp_of {K : PySem.W.Frag} {F H : Hp} (s : Same F H) : ∀ {v : V} {d : D} {p : PyData}, Rep K F v d → toPy d = some p → Dp K H v p
  | _, _, _, .non, e => by cases e; exact .non
  | _, _, _, .bl b, e => by cases e; exact .bl b
  | _, _, _, .int i, e => by cases e; exact .int i
  | _, _, _, .str x, e => by cases e; exact .str x
  | _, _, _, .ref a, e => by cases e
  | _, _, _, .ty n, e => by cases e
  | _, _, _, .scr h, e => by cases e
  | _, _, _, .tup h r _, e => by
    obtain ⟨ps, e1, rfl⟩ := Option.map_eq_some_iff.mp e
    exact .tup (seqT s h) (dps_of s r e1)
  | _, _, _, .lst h r _, e => by
    obtain ⟨ps, e1, rfl⟩ := Option.map_eq_some_iff.mp e
    exact .lst (SqL.of (s _ _ h)) (dps_of s r e1)
theorem dps_of {K : PySem.W.Frag} {F H : Hp} (s : Same F H) : ∀ {vs : List V} {ds : List D} {ps : List PyData}, Reps K F vs ds → toPys ds = some ps → DpAll K H vs ps
  | _, _, _, .nil, e => by cases e; exact .nil
  | _, _, _, .cons h r, e => by
    obtain ⟨p, e1, e2⟩ := Option.bind_eq_some_iff.mp e
    obtain ⟨qs, e3, rfl⟩ := Option.map_eq_some_iff.mp e2
    exact .cons (dp_of s h e1) (dps_of s r e3)
end
/-- the scalars that == tells apart -/
def scalD : D → D → Option Bool
  | .non, .non => some true | .non, .int _ => some false | .int _, .non => some false | .non, .bl _ => some false | .bl _, .non => some false | .non, .str _ => some false | .str _, .non => some false
  | .int i, .int j => some (decide (i = j)) | .bl i, .bl j => some (decide (i = j)) | .str i, .str j => some (decide (i = j))
  | .int _, .str _ => some false | .str _, .int _ => some false | .bl _, .str _ => some false | .str _, .bl _ => some false
  | _, _ => none
theorem scal_of {K : PySem.W.Frag} {F : Hp} {v u : V} {d e : D} {b : Bool} (r : Rep K F v d) (q : Rep K F u e) (h : scalD d e = some b) : scal v u = true ∧ decide (v = u) = b := by
  cases d <;> cases e <;> first | (cases h; done) | skip
  all_goals (cases r; cases q; refine ⟨rfl, ?_⟩; have h' := Option.some.inj h; rw [← h']; first | rfl | (rw [Bool.eq_iff_iff]; simp))
def onO {α : Type} (o : Option α) (p : α → Prop) : Prop := match o with
  | some a => p a
  | none => False
theorem onO_of {α : Type} {o : Option α} {p : α → Prop} (h : onO o p) : ∃ a, o = some a ∧ p a := by
  cases o with
  | some a => exact ⟨a, rfl, h⟩
  | none => exact h.elim
def rEqS : RD := fun d e M k => onO (scalD d e) fun b => k (.bl b) M
def rNeS : RD := fun d e M k => onO (scalD d e) fun b => k (.bl (!b)) M
theorem od_eqS : OpD X (compareOp .Eq) rEqS := ⟨_, op_eq, fun d e v u H F M k Q S rd re h pv => by
  obtain ⟨b, h1, h2⟩ := onO_of h
  obtain ⟨h3, h4⟩ := scal_of rd re h1
  exact ⟨h3, by rw [h4]; exact pv.at S (.bl _) h2⟩⟩
theorem od_neS : OpD X (compareOp .NotEq) rNeS := ⟨_, op_ne, fun d e v u H F M k Q S rd re h pv => by
  obtain ⟨b, h1, h2⟩ := onO_of h
  obtain ⟨h3, h4⟩ := scal_of rd re h1
  exact ⟨h3, by rw [h4]; exact pv.at S (.bl _) h2⟩⟩
/-- == of nested data -/
@[irreducible] def rEqP : RD := fun d e M k => ∃ p q, toPy d = some p ∧ toPy e = some q ∧ SeqAt.shaped p = true ∧ SeqAt.shaped q = true ∧ k (.bl (PyData.eqv p q)) M
@[irreducible] def rNeP : RD := fun d e M k => ∃ p q, toPy d = some p ∧ toPy e = some q ∧ SeqAt.shaped p = true ∧ SeqAt.shaped q = true ∧ k (.bl (!PyData.eqv p q)) M
theorem od_eqP (hu : X.A.units + 64 < cLine) : OpD X (compareOp .Eq) rEqP := ⟨_, op_eqD hu, fun d e v u H F M k Q S rd re h pv => by
  unfold rEqP at h
  obtain ⟨p, q, h1, h2, h3, h4, h5⟩ := h
  exact ⟨p, q, dp_of S.fz rd h1, dp_of S.fz re h2, h3, h4, pv.at S (.bl _) h5⟩⟩
theorem od_neP (hu : X.A.units + 64 < cLine) : OpD X (compareOp .NotEq) rNeP := ⟨_, op_neD hu, fun d e v u H F M k Q S rd re h pv => by
  unfold rNeP at h
  obtain ⟨p, q, h1, h2, h3, h4, h5⟩ := h
  exact ⟨p, q, dp_of S.fz rd h1, dp_of S.fz re h2, h3, h4, pv.at S (.bl _) h5⟩⟩
/-- the negative -/
def rNeg : D → MH → KD → Prop := fun d M k => onInt d fun i => k (.int (-i)) M
theorem ud_neg : UnD X (unaryOp .USub) rNeg := ⟨_, un_neg, fun d v H F M k Q S rd h pv => by
  obtain ⟨i, rfl, w⟩ := int_of rd h
  exact ⟨i, rfl, pv.at S (.int _) w⟩⟩
end

/-! ### subscripts, slices -/
section
variable {X : Cx} {a b e : Expr} {wa wb we : WE} {pos : Pos}
def wIx (wa wb : WE) : WE := fun ρ M k x => wa ρ M (fun d M1 => wb ρ M1 (fun e M2 => match d, e with
  | .tup ds, .int i => onO (atI ds i) fun y => k y M2
  | .lst ds, .int i => onO (atI ds i) fun y => k y M2
  | .ref l, .int i => ∃ ds, M2 l = some (.lst ds) ∧ onO (atI ds i) fun y => k y M2
  | .str z, .int i => z.length ≤ sizeLine ∧ onO (atI z.cps.toList i) fun c => k (.str ⟨#[c]⟩) M2
  | _, _ => False) x) x
theorem Reps.atI {K : PySem.W.Frag} {F : Hp} {vs : List V} {ds : List D} {i : Int} {d : D} (r : Reps K F vs ds) (h : L2.atI ds i = some d) : ∃ v, L2.atI vs i = some v ∧ Rep K F v d := by
  unfold L2.atI at h ⊢
  rw [r.length]
  cases q : ixN ds.length i with
  | none => rw [q] at h; cases h
  | some j =>
    rw [q] at h
    exact r.get h
theorem de_ix (ha : DE X a wa) (hb : DE X b wb) (hs : PlainIx b := by intro _ _; rfl) : DE X (.Subscript a b pos) (wIx wa wb) := by
  refine ⟨fun W tk => pe_imp (pe_ix ix_seq (ha.pe W tk) (hb.pe W tk) hs) fun σ H Q q => ?_⟩
  obtain ⟨F, M, ρ, k, x, S, E, w, pv, px⟩ := q
  refine two S E w px fun v u d e H2 F2 M2 e2 S2 r1 r2 w2 => ?_
  have pv2 := pv.on e2
  cases e with
  | int n =>
    cases r2
    cases d with
    | ref l =>
      cases r1
      obtain ⟨ds, hm, w3⟩ := w2
      obtain ⟨y, h1, h2⟩ := onO_of w3
      obtain ⟨_, _, xs, hx, hr⟩ := S2.mlst hm
      obtain ⟨z, h3, h4⟩ := hr.atI h1
      exact .inl ⟨_, xs, _, z, rfl, rfl, SqL.of hx, h3, pv2.at S2 h4 h2⟩
    | str z =>
      cases r1
      obtain ⟨hz, w3⟩ := w2
      obtain ⟨y, h1, h2⟩ := onO_of w3
      exact .inr (.inr ⟨_, _, y, rfl, rfl, hz, h1, pv2.at S2 (.str _) h2⟩)
    | tup ds =>
      cases r1 with
      | tup hq hr hl =>
      obtain ⟨y, h1, h2⟩ := onO_of w2
      obtain ⟨z, h3, h4⟩ := hr.atI h1
      exact .inr (.inl ⟨_, _, _, z, rfl, rfl, seqT S2.fz hq, h3, pv2.at S2 h4 h2⟩)
    | lst ds =>
      cases r1 with
      | lst hq hr hl =>
      obtain ⟨y, h1, h2⟩ := onO_of w2
      obtain ⟨z, h3, h4⟩ := hr.atI h1
      exact .inl ⟨_, _, _, z, rfl, rfl, SqL.of (S2.fz _ _ hq), h3, pv2.at S2 h4 h2⟩
    | _ => exact w2.elim
  | _ => cases d <;> exact w2.elim
/-- the parts of a slice -/
abbrev WO := Rh → MH → (Option Int → MH → Prop) → KE → Prop
def tOfO (K : PySem.W.Frag) (W : WX) (w : WO) : TO := fun σ H Q => ∃ F M ρ k x, RepS K H F M ∧ RepE K F σ ρ ∧ w ρ M k x ∧ (∀ o H' F' M', Ext H F M H' F' M' → RepS K H' F' M' → k o M' → Q o H') ∧ PostX K H F M x (fun c d => W c d σ)
structure DO (X : Cx) (e : Option Expr) (w : WO) : Prop where
  po : ∀ W, Takes X W → PO X e (tOfO X.K W w)
def wNoPart : WO := fun _ M k _ => k none M
def wPart (w : WE) : WO := fun ρ M k x => w ρ M (fun d M1 => onInt d fun i => k (some i) M1) x
theorem po_imp {e : Option Expr} {t t' : TO} (h : PO X e t) (i : ∀ σ H Q, t' σ H Q → t σ H Q) : PO X e t' := ⟨fun pins s σ H Q I q => h.run pins s σ H Q I (i σ H Q q)⟩
theorem do_none : DO X none wNoPart := by
  refine ⟨fun W _ => po_imp po_none fun σ H Q q => ?_⟩
  obtain ⟨F, M, ρ, k, x, S, E, w, pv, px⟩ := q
  exact pv _ H F M (Ext.refl _ _ _) S w
theorem do_some (h : DE X e we) : DO X (some e) (wPart we) := by
  refine ⟨fun W tk => po_imp (po_some (h.pe W tk)) fun σ H Q q => ?_⟩
  obtain ⟨F, M, ρ, k, x, S, E, w, pv, px⟩ := q
  refine ⟨F, M, ρ, _, x, S, E, w, fun v d H1 F1 M1 e1 S1 r1 w1 => ?_, px⟩
  obtain ⟨i, rfl, w2⟩ := int_of r1 w1
  exact ⟨i, rfl, pv _ H1 F1 M1 e1 S1 w2⟩
def cutD {α : Type} (xs : List α) (lo hi : Option Int) : List α := (xs.drop (HT.sIx xs.length 0 lo)).take (HT.sIx xs.length xs.length hi - HT.sIx xs.length 0 lo)
theorem cutD_len {α : Type} (xs : List α) (lo hi : Option Int) : (cutD xs lo hi).length ≤ xs.length := by
  unfold cutD
  rw [List.length_take, List.length_drop]
  omega
theorem Reps.cut {K : PySem.W.Frag} {F : Hp} {vs : List V} {ds : List D} (r : Reps K F vs ds) (lo hi : Option Int) : Reps K F (cutV vs lo hi) (cutD ds lo hi) := by
  unfold cutV cutD
  rw [r.length]
  exact (r.drop _).take _
theorem cutD_all {α : Type} {xs : List α} {lo hi : Option Int} (h : HT.sIx xs.length 0 lo = 0 ∧ HT.sIx xs.length xs.length hi = xs.length) : cutD xs lo hi = xs := by
  unfold cutD
  rw [h.1, h.2, List.drop_zero, Nat.sub_zero, List.take_length]
theorem cutV_ints (ns : List Int) (lo hi : Option Int) : cutV (ns.map V.int) lo hi = (cutD ns lo hi).map V.int := by
  unfold cutV cutD
  rw [List.length_map, List.map_take, List.map_drop]
def wSl (wa : WE) (wl wh : WO) : WE := fun ρ M k x => wa ρ M (fun d M1 => wl ρ M1 (fun lo M2 => wh ρ M2 (fun hi M3 => match d with
  | .tup ds => k (.tup (cutD ds lo hi)) M3
  | .lst ds => k (.lst (cutD ds lo hi)) M3
  | .scr ns => k (.scr (cutD ns lo hi)) M3
  | .ref l => ∃ ds, M3 l = some (.lst ds) ∧ k (.lst (cutD ds lo hi)) M3
  | .str z => z.length ≤ sizeLine ∧ k (.str (cutS z lo hi)) M3
  | _ => False) x) x) x
theorem de_sl {lo hi : Option Expr} {wl wh : WO} {p2 : Pos} (ha : DE X a wa) (hl : DO X lo wl) (hh : DO X hi wh) : DE X (.Subscript a (.Slice lo hi none p2) pos) (wSl wa wl wh) := by
  refine ⟨fun W tk => pe_imp (pe_slice (sl_list.or (sl_tupA.or sl_str)) (ha.pe W tk) (hl.po W tk) (hh.po W tk)) fun σ H Q q => ?_⟩
  obtain ⟨F, M, ρ, k, x, S, E, w, pv, px⟩ := q
  refine ⟨F, M, ρ, _, x, S, E, w, fun v d H1 F1 M1 e1 S1 r1 w1 => ?_, px⟩
  refine ⟨F1, M1, ρ, _, x, S1, E.mono e1.sm, w1, fun l H2 F2 M2 e2 S2 w2 => ?_, px.on e1⟩
  have e12 := e1.trans e2
  refine ⟨F2, M2, ρ, _, x, S2, E.mono e12.sm, w2, fun u H3 F3 M3 e3 S3 w3 => ?_, px.on e12⟩
  have e13 := e12.trans e3
  have pv3 := pv.on e13
  have r3 := r1.mono (e2.trans e3).sm
  cases d with
  | ref q =>
    cases r3
    obtain ⟨ds, hm, w4⟩ := w3
    obtain ⟨_, hl, xs, hx, hr⟩ := S3.mlst hm
    refine .inl ⟨_, xs, rfl, SqL.of hx, fun p hp => ?_⟩
    obtain ⟨S4, e4⟩ := S3.lay hp (.lst (cutV xs l u))
    exact pv3 _ _ _ _ _ e4 S4 (.lst upd_same ((hr.cut l u).mono e4.sm) (Nat.le_trans (cutD_len _ _ _) hl)) w4
  | str z =>
    cases r3
    obtain ⟨hz, w4⟩ := w3
    exact .inr (.inr ⟨_, rfl, hz, pv3.at S3 (.str _) w4⟩)
  | tup ds =>
    have w4 : k (.tup (cutD ds l u)) M3 := w3
    cases r3 with
    | @tup p xs _ hq hr hl =>
    refine .inr (.inl ⟨p, xs, rfl, seqT S3.fz hq, fun hw => ?_, fun _ p hp => ?_⟩)
    · rw [hr.length] at hw
      rw [cutD_all hw] at w4
      exact pv3.at S3 (.tup hq hr hl) w4
    · obtain ⟨S4, e4⟩ := S3.lay hp (.tup (cutV xs l u))
      exact pv3 _ _ _ _ _ e4 S4 (.tup (SqT.of upd_same) ((hr.cut l u).mono e4.sm) (Nat.le_trans (cutD_len _ _ _) hl)) w4
  | lst ds =>
    have w4 : k (.lst (cutD ds l u)) M3 := w3
    cases r3 with
    | @lst p xs _ hq hr hl =>
    refine .inl ⟨p, xs, rfl, SqL.of (S3.fz _ _ hq), fun p hp => ?_⟩
    obtain ⟨S4, e4⟩ := S3.lay hp (.lst (cutV xs l u))
    exact pv3 _ _ _ _ _ e4 S4 (.lst upd_same ((hr.cut l u).mono e4.sm) (Nat.le_trans (cutD_len _ _ _) hl)) w4
  | scr ns =>
    have w4 : k (.scr (cutD ns l u)) M3 := w3
    cases r3 with
    | @scr p _ hq =>
    refine .inl ⟨p, ns.map V.int, rfl, S3.fz.seq hq, fun p hp => ?_⟩
    obtain ⟨S4, e4⟩ := S3.lay hp (.lst (cutV (ns.map V.int) l u))
    exact pv3 _ _ _ _ _ e4 S4 (.scr (by rw [← cutV_ints]; exact SqL.of upd_same)) w4
  | _ => exact w3.elim
end

/-! ### built-in functions and classes -/
section
variable {X : Cx} {x : Str} {p pos : Pos} {e : Expr} {es : List Expr} {wa : WA} {id T : String}
abbrev RB := List D → MH → KD → Prop
def CallD (X : Cx) (f : Value) (r : RB) : Prop := ∃ r2, CallR X f r2 ∧ ∀ ds vs H F M k Q, RepS X.K H F M → Reps X.K F vs ds → r ds M k → PostV X.K H F M k Q → r2 vs H Q
def wCB (r : RB) (wa : WA) : WE := fun ρ M k x => wa ρ M (fun ds M1 => r ds M1 k) x
theorem de_callB {r : RB} (hc : CallD X (.builtin id) r) (hm : X.mg x = none) (hv : bootBuiltins x = some (.builtin id)) (ha : DA X (e :: es) wa) (hg : Gl X x := by rfl) (hn : x ≠ "__name__" := by decide) (hdb : (x == ("__debug__" : Str)) = false := by decide)
    (he : starEach (e :: es) X.env = (false, eval e X.env) :: starEach es X.env := by rfl) (hpl : (backTo pos (starEach es X.env)).any (·.1) = false := by rfl) : DE X (.Call (.Name x p) (e :: es) [] pos) (wCB r wa) := by
  obtain ⟨r2, h, s⟩ := hc
  refine ⟨fun W tk => pe_imp (pe_callB h hg hm hv (ha.pa W tk) hn hdb he hpl) fun σ H Q q => ?_⟩
  obtain ⟨F, M, ρ, k, x, S, E, w, pv, px⟩ := q
  exact ⟨F, M, ρ, _, x, S, E, w, fun vs ds H1 F1 M1 e1 S1 r1 w1 => s ds vs H1 F1 M1 k Q S1 r1 w1 (pv.on e1), px⟩
theorem de_callTy {r : RB} (hc : CallD X (.type T) r) (hm : X.mg x = none) (hv : bootBuiltins x = some (.type T)) (ha : DA X (e :: es) wa) (hg : Gl X x := by rfl) (hn : x ≠ "__name__" := by decide) (hdb : (x == ("__debug__" : Str)) = false := by decide)
    (he : starEach (e :: es) X.env = (false, eval e X.env) :: starEach es X.env := by rfl) (hpl : (backTo pos (starEach es X.env)).any (·.1) = false := by rfl) : DE X (.Call (.Name x p) (e :: es) [] pos) (wCB r wa) := by
  obtain ⟨r2, h, s⟩ := hc
  refine ⟨fun W tk => pe_imp (pe_callTy h hg hm hv (ha.pa W tk) hn hdb he hpl) fun σ H Q q => ?_⟩
  obtain ⟨F, M, ρ, k, x, S, E, w, pv, px⟩ := q
  exact ⟨F, M, ρ, _, x, S, E, w, fun vs ds H1 F1 M1 e1 S1 r1 w1 => s ds vs H1 F1 M1 k Q S1 r1 w1 (pv.on e1), px⟩
/-- one argument -/
def on1 (ds : List D) (p : D → Prop) : Prop := match ds with
  | [d] => p d
  | _ => False
theorem on1_of {ds : List D} {p : D → Prop} (h : on1 ds p) : ∃ d, ds = [d] ∧ p d := by
  match ds, h with
  | [d], h => exact ⟨d, rfl, h⟩
def on2 (ds : List D) (p : D → D → Prop) : Prop := match ds with
  | [d, e] => p d e
  | _ => False
theorem on2_of {ds : List D} {p : D → D → Prop} (h : on2 ds p) : ∃ d e, ds = [d, e] ∧ p d e := by
  match ds, h with
  | [d, e], h => exact ⟨d, e, rfl, h⟩
theorem reps1 {K : PySem.W.Frag} {F : Hp} {vs : List V} {d : D} (r : Reps K F vs [d]) : ∃ v, vs = [v] ∧ Rep K F v d := by
  cases r with
  | cons h t => cases t; exact ⟨_, rfl, h⟩
theorem reps2 {K : PySem.W.Frag} {F : Hp} {vs : List V} {d e : D} (r : Reps K F vs [d, e]) : ∃ v u, vs = [v, u] ∧ Rep K F v d ∧ Rep K F u e := by
  cases r with
  | cons h t => cases t with
    | cons h2 t2 => cases t2; exact ⟨_, _, rfl, h, h2⟩
def lenD (d : D) (M : MH) (k : Nat → Prop) : Prop := match d with
  | .tup xs => k xs.length
  | .lst xs => k xs.length
  | .ref a => ∃ xs, M a = some (.lst xs) ∧ k xs.length
  | .str z => z.length ≤ sizeLine ∧ k z.length
  | _ => False
def rLn : RB := fun ds M k => on1 ds fun d => lenD d M fun n => k (.int n) M
theorem cd_len : CallD X (.builtin "len") rLn := by
  refine ⟨_, call_len, fun ds vs H F M k Q S r0 h0 pv => ?_⟩
  obtain ⟨d, rfl, h⟩ := on1_of h0
  obtain ⟨v, rfl, r⟩ := reps1 r0
  cases d with
  | ref a =>
    cases r
    obtain ⟨xs, hm, w⟩ := h
    obtain ⟨_, _, ys, hx, hr⟩ := S.mlst hm
    exact ⟨_, _, rfl, .inl ⟨ys, SqL.of hx, hr.length.symm⟩, pv.at S (.int _) w⟩
  | str z =>
    cases r
    obtain ⟨hz, w⟩ := h
    exact ⟨_, _, rfl, ⟨hz, rfl⟩, pv.at S (.int _) w⟩
  | tup ds =>
    cases r with
    | tup hq hr hl => exact ⟨_, _, rfl, .inr ⟨_, seqT S.fz hq, hr.length.symm⟩, pv.at S (.int _) h⟩
  | lst ds =>
    cases r with
    | lst hq hr hl => exact ⟨_, _, rfl, .inl ⟨_, SqL.of (S.fz _ _ hq), hr.length.symm⟩, pv.at S (.int _) h⟩
  | _ => exact h.elim
/-- list(x): a new list, frozen; the items of a list, a tuple, the script -/
def itemsD (d : D) (M : MH) (k : List D → Prop) : Prop := match d with
  | .tup xs => k xs
  | .lst xs => k xs
  | .scr ns => ns.length ≤ 100 ∧ k (ns.map .int)
  | .ref a => ∃ xs, M a = some (.lst xs) ∧ k xs
  | _ => False
theorem items_of {K : PySem.W.Frag} {H F : Hp} {M : MH} {v : V} {d : D} {k : List D → Prop} (S : RepS K H F M) (r : Rep K F v d) (h : itemsD d M k) : ∃ a xs ds, v = .ref a ∧ (SqL K H a xs ∨ SqT K H a xs) ∧ Reps K F xs ds ∧ ds.length ≤ sizeLine ∧ k ds := by
  cases d with
  | ref a =>
    cases r
    obtain ⟨xs, hm, w⟩ := h
    obtain ⟨_, hl, ys, hx, hr⟩ := S.mlst hm
    exact ⟨_, _, _, rfl, .inl (SqL.of hx), hr, hl, w⟩
  | tup ds =>
    cases r with
    | tup hq hr hl => exact ⟨_, _, _, rfl, .inr (seqT S.fz hq), hr, hl, h⟩
  | lst ds =>
    cases r with
    | lst hq hr hl => exact ⟨_, _, _, rfl, .inl (SqL.of (S.fz _ _ hq)), hr, hl, h⟩
  | scr ns =>
    cases r with
    | scr hq => exact ⟨_, _, _, rfl, .inl (S.fz.seq hq), Reps.of_ints _, by rw [List.length_map, sizeLine_eq]; have := h.1; omega, h.2⟩
  | _ => exact h.elim
def rList : RB := fun ds M k => on1 ds fun d => itemsD d M fun xs => k (.lst xs) M
def rListM : RB := fun ds M k => on1 ds fun d => itemsD d M fun xs => ∀ a, M a = none → k (.ref a) (mupd M a (.lst xs))
theorem cd_list : CallD X (.type "list") rList := by
  refine ⟨_, call_list_of, fun ds vs H F M k Q S r0 h0 pv => ?_⟩
  obtain ⟨d, rfl, h⟩ := on1_of h0
  obtain ⟨v, rfl, r⟩ := reps1 r0
  obtain ⟨a, xs, ds, rfl, hq, hr, hl, w⟩ := items_of S r h
  refine ⟨a, xs, rfl, hq, fun l hn => ?_⟩
  obtain ⟨S2, e2⟩ := S.lay hn (.lst xs)
  exact pv _ _ _ _ _ e2 S2 (.lst upd_same (hr.mono e2.sm) hl) w
theorem cd_listM : CallD X (.type "list") rListM := by
  refine ⟨_, call_list_of, fun ds vs H F M k Q S r0 h0 pv => ?_⟩
  obtain ⟨d, rfl, h⟩ := on1_of h0
  obtain ⟨v, rfl, r⟩ := reps1 r0
  obtain ⟨a, xs, ds, rfl, hq, hr, hl, w⟩ := items_of S r h
  refine ⟨a, xs, rfl, hq, fun l hn => ?_⟩
  obtain ⟨S2, e2⟩ := S.layM hn (o := .lst xs) (m := .lst ds) ⟨xs, rfl, hr, hl⟩
  exact pv _ _ _ _ _ e2 S2 (.ref l) (w l (S.mno hn))
def rTuple : RB := fun ds M k => on1 ds fun d => itemsD d M fun xs => k (.tup xs) M
theorem cd_tuple : CallD X (.type "tuple") rTuple := by
  refine ⟨_, call_tuple_of, fun ds vs H F M k Q S r0 h0 pv => ?_⟩
  obtain ⟨d, rfl, h⟩ := on1_of h0
  obtain ⟨v, rfl, r⟩ := reps1 r0
  have mk : ∀ {a : Addr} {xs : List V} {es : List D}, Reps X.K F xs es → es.length ≤ sizeLine → k (.tup es) M → ∀ l, H l = none → Q (.ref l) (upd H l (.tup xs)) := fun hr hl w l hn => by
    obtain ⟨S2, e2⟩ := S.lay hn (.tup _)
    exact pv _ _ _ _ _ e2 S2 (.tup (SqT.of upd_same) (hr.mono e2.sm) hl) w
  cases d with
  | ref a =>
    cases r
    obtain ⟨xs', hm, w'⟩ := h
    obtain ⟨_, hl', ys, hx, hr'⟩ := S.mlst hm
    exact ⟨_, _, rfl, .inl ⟨SqL.of hx, mk (a := a) hr' hl' w'⟩⟩
  | tup ds =>
    cases r with
    | tup hq hr hl => exact ⟨_, _, rfl, .inr ⟨seqT S.fz hq, pv.at S (.tup hq hr hl) h⟩⟩
  | lst ds =>
    cases r with
    | @lst a _ _ hq hr hl => exact ⟨_, _, rfl, .inl ⟨SqL.of (S.fz _ _ hq), mk (a := a) hr hl h⟩⟩
  | scr ns =>
    cases r with
    | @scr a _ hq => exact ⟨_, _, rfl, .inl ⟨S.fz.seq hq, mk (a := a) (Reps.of_ints _) (by rw [List.length_map, sizeLine_eq]; have := h.1; omega) h.2⟩⟩
  | _ => exact h.elim
def rInt1 : RB := fun ds M k => on1 ds fun d => match d with
  | .int i => k (.int i) M
  | .bl b => k (.int (if b then 1 else 0)) M
  | _ => False
theorem cd_int : CallD X (.type "int") rInt1 := by
  refine ⟨_, call_int1, fun ds vs H F M k Q S r0 h0 pv => ?_⟩
  obtain ⟨d, rfl, h⟩ := on1_of h0
  obtain ⟨v, rfl, r⟩ := reps1 r0
  cases d with
  | bl b => cases r; exact .inr ⟨_, rfl, pv.at S (.int _) h⟩
  | int i => cases r; exact .inl ⟨_, rfl, pv.at S (.int _) h⟩
  | _ => exact h.elim
def rAbs : RB := fun ds M k => on1 ds fun d => onInt d fun i => k (.int (if i < 0 then -i else i)) M
theorem cd_abs : CallD X (.builtin "abs") rAbs := by
  refine ⟨_, call_abs, fun ds vs H F M k Q S r0 h0 pv => ?_⟩
  obtain ⟨d, rfl, h⟩ := on1_of h0
  obtain ⟨v, rfl, r⟩ := reps1 r0
  obtain ⟨i, rfl, w⟩ := int_of r h
  exact ⟨i, rfl, pv.at S (.int _) w⟩
def rMax2 : RB := fun ds M k => on2 ds fun d e => onII d e fun i j => k (.int (if j > i then j else i)) M
theorem cd_max2 (hc : X.calm = true) : CallD X (.builtin "max") rMax2 := by
  refine ⟨_, call_max2 hc, fun ds vs H F M k Q S r0 h0 pv => ?_⟩
  obtain ⟨d, e, rfl, h⟩ := on2_of h0
  obtain ⟨v, u, rfl, r, r'⟩ := reps2 r0
  obtain ⟨i, j, rfl, rfl, w⟩ := ii_of r r' h
  exact ⟨i, j, rfl, pv.at S (.int _) w⟩
def rMin2 : RB := fun ds M k => on2 ds fun d e => onII d e fun i j => k (.int (if j < i then j else i)) M
theorem cd_min2 (hc : X.calm = true) : CallD X (.builtin "min") rMin2 := by
  refine ⟨_, call_min2 hc, fun ds vs H F M k Q S r0 h0 pv => ?_⟩
  obtain ⟨d, e, rfl, h⟩ := on2_of h0
  obtain ⟨v, u, rfl, r, r'⟩ := reps2 r0
  obtain ⟨i, j, rfl, rfl, w⟩ := ii_of r r' h
  exact ⟨i, j, rfl, pv.at S (.int _) w⟩
/-- the ints, the truth values of a list -/
def intsOf : List D → Option (List Int)
  | [] => some []
  | .int i :: r => (intsOf r).map (i :: ·)
  | _ => none
def blsOf : List D → Option (List Bool)
  | [] => some []
  | .bl i :: r => (blsOf r).map (i :: ·)
  | _ => none
theorem intsOf_eq : ∀ {ds : List D} {ns : List Int}, intsOf ds = some ns → ds = ns.map .int
  | [], ns, h => by cases h; rfl
  | .int i :: r, ns, h => by
    obtain ⟨ms, h1, rfl⟩ := Option.map_eq_some_iff.mp (show (intsOf r).map (i :: ·) = some ns from h)
    rw [intsOf_eq h1]
    rfl
theorem blsOf_eq : ∀ {ds : List D} {ns : List Bool}, blsOf ds = some ns → ds = ns.map .bl
  | [], ns, h => by cases h; rfl
  | .bl i :: r, ns, h => by
    obtain ⟨ms, h1, rfl⟩ := Option.map_eq_some_iff.mp (show (blsOf r).map (i :: ·) = some ns from h)
    rw [blsOf_eq h1]
    rfl
theorem intsOf_map : ∀ ns : List Int, intsOf (ns.map .int) = some ns
  | [] => rfl
  | n :: ns => by show (intsOf (ns.map .int)).map (n :: ·) = _; rw [intsOf_map ns]; rfl
theorem blsOf_map : ∀ ns : List Bool, blsOf (ns.map .bl) = some ns
  | [] => rfl
  | n :: ns => by show (blsOf (ns.map .bl)).map (n :: ·) = _; rw [blsOf_map ns]; rfl
def onLst (d : D) (p : List D → Prop) : Prop := match d with
  | .lst ds => p ds
  | _ => False
theorem lst_of {K : PySem.W.Frag} {F : Hp} {v : V} {d : D} {p : List D → Prop} (r : Rep K F v d) (h : onLst d p) : ∃ a xs ds, v = .ref a ∧ F a = some (.lst xs) ∧ Reps K F xs ds ∧ ds.length ≤ sizeLine ∧ p ds := by
  cases d with
  | lst ds => cases r with | lst a b c => exact ⟨_, _, _, rfl, a, b, c, h⟩
  | _ => exact h.elim
def rSum : RB := fun ds M k => on1 ds fun d => onLst d fun es => onO (intsOf es) fun ns => k (.int ns.sum) M
theorem cd_sum (hc : X.calm = true) : CallD X (.builtin "sum") rSum := by
  refine ⟨_, cr_sum hc, fun ds vs H F M k Q S r0 h0 pv => ?_⟩
  obtain ⟨d, rfl, h⟩ := on1_of h0
  obtain ⟨v, rfl, r⟩ := reps1 r0
  obtain ⟨a, xs, es, rfl, hq, hr, hl, w⟩ := lst_of r h
  obtain ⟨ns, h1, w⟩ := onO_of w
  rw [intsOf_eq h1] at hr
  have e := hr.ints
  subst e
  exact ⟨a, ns, rfl, SqL.of (S.fz _ _ hq), pv.at S (.int _) w⟩
def rAll : RB := fun ds M k => on1 ds fun d => onLst d fun es => onO (blsOf es) fun ns => k (.bl (ns.all (fun b => b))) M
theorem cd_all (hc : X.calm = true) : CallD X (.builtin "all") rAll := by
  refine ⟨_, cr_all hc, fun ds vs H F M k Q S r0 h0 pv => ?_⟩
  obtain ⟨d, rfl, h⟩ := on1_of h0
  obtain ⟨v, rfl, r⟩ := reps1 r0
  obtain ⟨a, xs, es, rfl, hq, hr, hl, w⟩ := lst_of r h
  obtain ⟨ns, h1, w⟩ := onO_of w
  rw [blsOf_eq h1] at hr
  have e := hr.bls
  subst e
  exact ⟨a, ns, rfl, SqL.of (S.fz _ _ hq), pv.at S (.bl _) w⟩
def rAny : RB := fun ds M k => on1 ds fun d => onLst d fun es => onO (blsOf es) fun ns => k (.bl (ns.any (fun b => b))) M
theorem cd_any (hc : X.calm = true) : CallD X (.builtin "any") rAny := by
  refine ⟨_, cr_any hc, fun ds vs H F M k Q S r0 h0 pv => ?_⟩
  obtain ⟨d, rfl, h⟩ := on1_of h0
  obtain ⟨v, rfl, r⟩ := reps1 r0
  obtain ⟨a, xs, es, rfl, hq, hr, hl, w⟩ := lst_of r h
  obtain ⟨ns, h1, w⟩ := onO_of w
  rw [blsOf_eq h1] at hr
  have e := hr.bls
  subst e
  exact ⟨a, ns, rfl, SqL.of (S.fz _ _ hq), pv.at S (.bl _) w⟩
/-- isinstance of a built-in class -/
inductive Kd where
  | non | bl | int | str | tup | lst
def Kd.name : Kd → String
  | .non => "NoneType" | .bl => "bool" | .int => "int" | .str => "str" | .tup => "tuple" | .lst => "list"
def kdOf : D → Option Kd
  | .non => some .non | .bl _ => some .bl | .int _ => some .int | .str _ => some .str | .tup _ => some .tup | .lst _ => some .lst
  | _ => none
def isiK : Kd → Ty → Bool
  | .bl, .bool => true | .bl, .int => true | .int, .int => true | .str, .str => true | .tup, .tuple => true | .lst, .list => true
  | _, _ => false
theorem isiK_ok (k : Kd) (t : Ty) : kitB k.name t.name = some (isiK k t) := by
  cases k <;> cases t <;> decide +kernel
def rIsi : RB := fun ds M k => on2 ds fun d e => match e with
  | .ty t => onO (kdOf d) fun q => k (.bl (isiK q t)) M
  | _ => False
theorem tyT {K : PySem.W.Frag} {H : Hp} {a : Addr} {xs : List V} (h : SqT K H a xs) : TyX K H (.ref a) (.type "tuple") := by
  rcases h with (h | ⟨o, h⟩) | ⟨o, its, n, h, hc, _⟩
  · exact .base (.tup h)
  · exact .fTuple h
  · exact .kTuple h hc
theorem cd_isi : CallD X (.builtin "isinstance") rIsi := by
  refine ⟨_, call_isi, fun ds vs H F M k Q S r0 h0 pv => ?_⟩
  obtain ⟨d, e, rfl, h⟩ := on2_of h0
  obtain ⟨v, u, rfl, r, r'⟩ := reps2 r0
  cases e <;> try exact h.elim
  rename_i t
  cases r'
  obtain ⟨q, hb, w⟩ := onO_of h
  have fin : TyX X.K H v (.type q.name) → ∃ (x c : V) (t' u : Value) (b : Bool), [v, V.ty t.name] = [x, c] ∧ ClsV c u ∧ TyX X.K H x t' ∧ PySem.W.kitOne X.K t' u = some b ∧ Q (.bl b) H :=
    fun ty => ⟨_, _, _, _, isiK q t, rfl, .ty _, ty, kit_ty (isiK_ok q t), pv.at S (.bl _) w⟩
  cases d with
  | non => cases hb; cases r; exact fin (.base .non)
  | bl b => cases hb; cases r; exact fin (.base (.bl _))
  | int b => cases hb; cases r; exact fin (.base (.int _))
  | str b => cases hb; cases r; exact fin (.base (.str _))
  | tup b => cases hb; cases r with | tup hq hr hl => exact fin (tyT (seqT S.fz hq))
  | lst b => cases hb; cases r with | lst hq hr hl => exact fin (.base (.lst (S.fz _ _ hq)))
  | _ => cases hb
end

/-! ### xs.append(e) -/
def wApp (wo we : WE) : WE := fun ρ M k x => wo ρ M (fun o M1 => ∃ a ds0, o = .ref a ∧ M1 a = some (.lst ds0) ∧ we ρ M1 (fun d M2 => ∃ ds, M2 a = some (.lst ds) ∧ ds.length < sizeLine ∧ k .non (mupd M2 a (.lst (ds ++ [d])))) x) x
section
variable {X : Cx} {o e : Expr} {wo we : WE} {apos cpos : Pos}
theorem de_app (ho : DE X o wo) (he : DE X e we) (hs : starEach (e :: []) X.env = (false, eval e X.env) :: starEach [] X.env := by rfl)
    (hbase : attributeBase o "append" X.env (eval o X.env) = eval o X.env := by rfl)
    (hfew : ((backTo cpos (starEach (e :: []) X.env)).all (fun x => !x.1) && (backToKw cpos (keywordEach [] X.env)).all (fun x => x.1.isSome)
      && decide ((e :: []).length + ([] : List Keyword).length + (if ([] : List Keyword).isEmpty then 0 else 1) < 30)) = true := by rfl)
    (hline : (apos.endLine == cpos.line) = true := by rfl) (hplain : (backTo cpos (starEach [] X.env)).any (·.1) = false := by rfl) :
    DE X (.Call (.Attribute o "append" apos) [e] [] cpos) (wApp wo we) := by
  refine ⟨fun W tk => pe_imp (pe_bm PySem.F.plainAttrs_list PySem.F.slot_list_append PySem.F.type_list_append mt_append (ho.pe W tk) (pa_cons (he.pe W tk) pa_nil hs) hbase hfew hline hs hplain) fun σ H Q q => ?_⟩
  obtain ⟨F, M, ρ, k, x, S, R, w, pv, px⟩ := q
  refine ⟨F, M, ρ, _, x, S, R, w, fun v d H1 F1 M1 e1 S1 r1 w1 => ?_, px⟩
  obtain ⟨a, ds0, rfl, hm0, w2⟩ := w1
  cases r1
  obtain ⟨_, _, xs0, hx0, _⟩ := S1.mlst hm0
  refine ⟨Or.inl ⟨rfl, _, SqL.of hx0⟩, F1, M1, ρ, _, x, S1, R.mono e1.sm, w2, fun u e H2 F2 M2 e2 S2 r2 w3 => ?_, px.on e1⟩
  obtain ⟨ds, hm, hl, w4⟩ := w3
  obtain ⟨_, _, xs, hx, hr⟩ := S2.mlst hm
  obtain ⟨S3, e3⟩ := S2.write hm (o := .lst (xs ++ [u])) (m := .lst (ds ++ [e])) ⟨_, rfl, hr.snoc r2, by rw [List.length_append]; exact hl⟩
  exact ⟨a, xs, u, rfl, rfl, hx, by rw [hr.length]; exact hl, pv _ _ _ _ _ ((e1.trans e2).trans e3) S3 .non w4⟩
end
end DL

namespace DL
open PySem PySem.Spec PyProof.Rows L2

/-! ### zip, enumerate -/
def zipD : List D → List D → List D
  | a :: as, b :: bs => .tup [a, b] :: zipD as bs
  | _, _ => []
theorem zipD_len : ∀ as bs : List D, (zipD as bs).length = min as.length bs.length
  | [], _ => by simp [zipD]
  | _ :: _, [] => by simp [zipD]
  | a :: as, b :: bs => by
    show (zipD as bs).length + 1 = min (as.length + 1) (bs.length + 1)
    rw [zipD_len as bs]
    omega
theorem zipD_get : ∀ (as bs : List D) (i : Nat) (a b : D), as[i]? = some a → bs[i]? = some b → (zipD as bs)[i]? = some (.tup [a, b])
  | [], _, _, _, _, h, _ => by simp at h
  | _ :: _, [], _, _, _, _, h => by simp at h
  | a :: as, b :: bs, 0, _, _, h1, h2 => by simp at h1 h2; subst h1 h2; rfl
  | a :: as, b :: bs, i + 1, _, _, h1, h2 => zipD_get as bs i _ _ (by simpa using h1) (by simpa using h2)
def enumD (lo : Int) : List D → List D
  | a :: as => .tup [.int lo, a] :: enumD (lo + 1) as
  | [] => []
theorem enumD_len : ∀ (as : List D) (lo : Int), (enumD lo as).length = as.length
  | [], _ => rfl
  | a :: as, lo => congrArg (· + 1) (enumD_len as (lo + 1))
theorem enumD_get : ∀ (as : List D) (lo : Int) (i : Nat) (a : D), as[i]? = some a → (enumD lo as)[i]? = some (.tup [.int (lo + i), a])
  | [], _, _, _, h => by simp at h
  | a :: as, lo, 0, _, h => by simp at h; subst h; simp [enumD]
  | a :: as, lo, i + 1, _, h => by
    have q := enumD_get as (lo + 1) i _ (by simpa using h)
    show (enumD (lo + 1) as)[i]? = _
    rw [q]
    congr 3
    congr 1
    omega
/-- two walked things that give a new pair each turn -/
theorem pair_yld {K : PySem.W.Frag} {H F : Hp} {M : MH} {T : Addr} {x y : V} {a b : D} (S : RepS K H F M) (hT : H T = none) (r1 : Rep K F x a) (r2 : Rep K F y b) :
    ∃ F3, Ext H F M (upd H T (.tup [x, y])) F3 M ∧ RepS K (upd H T (.tup [x, y])) F3 M ∧ Rep K F3 (.ref T) (.tup [a, b]) := by
  obtain ⟨S2, e2⟩ := S.lay hT (.tup [x, y])
  exact ⟨_, e2, S2, .tup (SqT.of upd_same) (.cons (r1.mono e2.sm) (.cons (r2.mono e2.sm) .nil)) (le_line (by show 2 ≤ 4096; decide))⟩
section
variable {K : PySem.W.Frag} {F : Hp} {a b : Addr} {xs ys : List V} {as bs : List D}
theorem wks_zip (h1 : F a = some (.lst xs)) (r1 : Reps K F xs as) (l1 : as.length ≤ sizeLine) (h2 : F b = some (.lst ys)) (r2 : Reps K F ys bs) : Wks K F (Itz K a b) (zipD as bs) (fun _ => True) where
  sz := by rw [zipD_len]; omega
  go := fun i H F' M hi s S _ => by
    rw [zipD_len] at hi
    have hx : i < xs.length := by rw [r1.length]; omega
    have hy : i < ys.length := by rw [r2.length]; omega
    exact ⟨xs, ys, xs[i], ys[i], SqL.of (S.fz _ _ (s _ _ h1)), SqL.of (S.fz _ _ (s _ _ h2)), by simp [hx], by simp [hy]⟩
  stop := fun H F' M s S _ => ⟨xs, ys, SqL.of (S.fz _ _ (s _ _ h1)), SqL.of (S.fz _ _ (s _ _ h2)), by rw [zipD_len, r1.length, r2.length]; omega⟩
  yld := fun i H v H3 F' M hi s S _ y => by
    obtain ⟨T, x, z, rfl, hT, rfl, q1, q2⟩ := y
    obtain ⟨d, g1, g2⟩ := r1.getV (q1 xs (SqL.of (S.fz _ _ (s _ _ h1))))
    obtain ⟨e, g3, g4⟩ := r2.getV (q2 ys (SqL.of (S.fz _ _ (s _ _ h2))))
    obtain ⟨F3, e3, S3, r3⟩ := pair_yld S hT (g2.mono s) (g4.mono s)
    exact ⟨F3, _, e3, S3, zipD_get as bs i d e g1 g3, r3⟩
theorem wks_zipT (h1 : SqT K F a xs) (r1 : Reps K F xs as) (l1 : as.length ≤ sizeLine) (h2 : SqT K F b ys) (r2 : Reps K F ys bs) : Wks K F (RZ.ItzT K a b) (zipD as bs) (fun _ => True) where
  sz := by rw [zipD_len]; omega
  go := fun i H F' M hi s S _ => by
    rw [zipD_len] at hi
    have hx : i < xs.length := by rw [r1.length]; omega
    have hy : i < ys.length := by rw [r2.length]; omega
    exact ⟨xs, ys, xs[i], ys[i], seqT S.fz (seqT s h1), seqT S.fz (seqT s h2), by simp [hx], by simp [hy]⟩
  stop := fun H F' M s S _ => ⟨xs, ys, seqT S.fz (seqT s h1), seqT S.fz (seqT s h2), by rw [zipD_len, r1.length, r2.length]; omega⟩
  yld := fun i H v H3 F' M hi s S _ y => by
    obtain ⟨T, x, z, rfl, hT, rfl, q1, q2⟩ := y
    obtain ⟨d, g1, g2⟩ := r1.getV (q1 xs (seqT S.fz (seqT s h1)))
    obtain ⟨e, g3, g4⟩ := r2.getV (q2 ys (seqT S.fz (seqT s h2)))
    obtain ⟨F3, e3, S3, r3⟩ := pair_yld S hT (g2.mono s) (g4.mono s)
    exact ⟨F3, _, e3, S3, zipD_get as bs i d e g1 g3, r3⟩
theorem wks_enum (h1 : F a = some (.lst xs)) (r1 : Reps K F xs as) (l1 : as.length ≤ sizeLine) : Wks K F (Ite K a) (enumD 0 as) (fun _ => True) where
  sz := by rw [enumD_len]; exact l1
  go := fun i H F' M hi s S _ => by
    rw [enumD_len] at hi
    have hx : i < xs.length := by rw [r1.length]; omega
    exact ⟨xs, xs[i], SqL.of (S.fz _ _ (s _ _ h1)), by simp [hx]⟩
  stop := fun H F' M s S _ => ⟨xs, SqL.of (S.fz _ _ (s _ _ h1)), by rw [enumD_len, r1.length]; omega⟩
  yld := fun i H v H3 F' M hi s S _ y => by
    obtain ⟨T, x, rfl, hT, rfl, q1⟩ := y
    obtain ⟨d, g1, g2⟩ := r1.getV (q1 xs (SqL.of (S.fz _ _ (s _ _ h1))))
    obtain ⟨F3, e3, S3, r3⟩ := pair_yld S hT (Rep.int (K := K) (F := F') (i : Nat)) (g2.mono s)
    refine ⟨F3, _, e3, S3, enumD_get as 0 i d g1, ?_⟩
    rw [Int.zero_add]
    exact r3
end
def wiZip (wa wb : WE) : WI := fun ρ M k x => wa ρ M (fun d M1 => wb ρ M1 (fun e M2 => match d, e with
  | .tup xs, .tup ys => k (zipD xs ys) (fun _ => True) M2
  | .lst xs, .lst ys => k (zipD xs ys) (fun _ => True) M2
  | _, _ => False) x) x
def wiEnum (wa : WE) : WI := fun ρ M k x => wa ρ M (fun d M1 => onLst d fun xs => k (enumD 0 xs) (fun _ => True) M1) x
section
variable {X : Cx} {a b : Expr} {wa wb : WE} {p pos tpos : Pos} {elts : List Expr} {kk : Nat}
theorem di_zip (hm : X.mg "zip" = none) (ha : DE X a wa) (hb : DE X b wb) (hg : Gl X "zip" := by rfl) (hs : starEach [a, b] X.env = (false, eval a X.env) :: starEach [b] X.env := by rfl) (hpl : (backTo pos (starEach [b] X.env)).any (·.1) = false := by rfl)
    (h00 : starEach (b :: []) X.env = (false, eval b X.env) :: starEach [] X.env := by rfl) : DI X (.Tuple elts kk tpos) (.Call (.Name "zip" p) [a, b] [] pos) (wiZip wa wb) := by
  refine ⟨fun W tk => pi_imp (RZ.pi_zipA hg hm (pa_cons (ha.pe W tk) (pa_cons (hb.pe W tk) pa_nil h00) hs) hs hpl) fun σ H R q => ?_⟩
  obtain ⟨F, M, ρ, k, x, S, E, w, f, px⟩ := q
  refine ⟨F, M, ρ, _, x, S, E, w, fun v d H1 F1 M1 e1 S1 r1 w1 => ?_, px⟩
  refine ⟨F1, M1, ρ, _, x, S1, E.mono e1.sm, w1, fun u e H2 F2 M2 e2 S2 r2 w2 => ?_, px.on e1⟩
  have r1' := r1.mono e2.sm
  have e12 := e1.trans e2
  cases d with
  | tup xs =>
    cases e with
    | tup ys =>
      cases r1' with
      | tup q1 q2 q3 =>
      cases r2 with
      | tup s1 s2 s3 => exact ⟨_, _, _, _, rfl, .inr ⟨seqT S2.fz q1, seqT S2.fz s1, f _ _ _ _ _ _ e12 S2 (wks_zipT q1 q2 q3 s1 s2) w2⟩⟩
    | _ => exact w2.elim
  | lst xs =>
    cases e with
    | lst ys =>
      cases r1' with
      | lst q1 q2 q3 =>
      cases r2 with
      | lst s1 s2 s3 => exact ⟨_, _, _, _, rfl, .inl ⟨SqL.of (S2.fz _ _ q1), SqL.of (S2.fz _ _ s1), f _ _ _ _ _ _ e12 S2 (wks_zip q1 q2 q3 s1 s2) w2⟩⟩
    | _ => exact w2.elim
  | _ => cases e <;> exact w2.elim
theorem di_enum (hm : X.mg "enumerate" = none) (ha : DE X a wa) (hg : Gl X "enumerate" := by rfl) (hs : starEach [a] X.env = [(false, eval a X.env)] := by rfl) (h00 : starEach (a :: []) X.env = (false, eval a X.env) :: starEach [] X.env := by rfl) :
    DI X (.Tuple elts kk tpos) (.Call (.Name "enumerate" p) [a] [] pos) (wiEnum wa) := by
  refine ⟨fun W tk => pi_imp (pi_enum hg hm (pa_cons (ha.pe W tk) pa_nil h00) hs) fun σ H R q => ?_⟩
  obtain ⟨F, M, ρ, k, x, S, E, w, f, px⟩ := q
  refine ⟨F, M, ρ, _, x, S, E, w, fun v d H1 F1 M1 e1 S1 r1 w1 => ?_, px⟩
  obtain ⟨q, xs, ds, rfl, h1, h2, h3, w2⟩ := lst_of r1 w1
  exact ⟨q, xs, rfl, SqL.of (S1.fz _ _ h1), f _ _ _ _ _ _ e1 S1 (wks_enum h1 h2 h3) w2⟩
end

/-! ### name op= e; a, b = x, y -/
def wAug (i : Nat) (r : RD) (we : WE) : WS := fun ρ M E => ∃ d, ρ[i]? = some (some d) ∧ we ρ M (fun e M1 => r d e M1 fun z M2 => E.nx (ρ.set i (some z)) M2) E.xc
def IpD (X : Cx) (op : Operator) (r : RD) : Prop := ∃ r2 : TIp, PIp X op r2 ∧ ∀ d e v u H F M k Q, RepS X.K H F M → Rep X.K F v d → Rep X.K F u e → r d e M k → PostV X.K H F M k Q → r2 v u H Q
section
variable {X : Cx} {e : Expr} {we : WE} {pos : Pos}
theorem ds_aug {i : Nat} {x : Str} {op : Operator} {r : RD} {pos' : Pos} (hN : X.N.Nodup) (hi : X.N[i]? = some x) (hx : Loc X.env.scope x) (ho : IpD X op r) (he : DE X e we) (hf : X.fn x = true ∨ X.env.scope.names.lookup x = some .local := by first | exact .inl rfl | exact .inr rfl | assumption) :
    DS X (.AugAssign (.Name x pos') op e pos) (wAug i r we) := by
  obtain ⟨r2, h, s⟩ := ho
  refine ⟨fun W tk _ => ps_imp (ps_aug hN hi hx (he.pe W tk) h hf) fun D σ H q => ?_⟩
  obtain ⟨F, M, ρ, E, S, R, ⟨d, h1, w⟩, f⟩ := q
  obtain ⟨v, hv, rv⟩ := R.get h1
  refine ⟨v, hv, F, M, ρ, _, _, S, R, w, fun u e H1 F1 M1 e1 S1 r1 w1 => ?_, f.xc σ⟩
  refine s d e v u H1 F1 M1 _ _ S1 (rv.mono e1.sm) r1 w1 fun z y H2 F2 M2 e2 S2 r2 w2 => ?_
  have e12 := e1.trans e2
  exact f.nx _ _ _ _ _ e12 S2 ((R.mono e12.sm).set i r2) w2
theorem ip_intD {op : Operator} {f : Int → Int → Int} (h : PIp X op (ipI f)) : IpD X op (rInt0 fun i j => .int (f i j)) :=
  ⟨_, h, fun d e v u H F M k Q S rd re h pv => by
    obtain ⟨i, j, rfl, rfl, w⟩ := ii_of rd re h
    exact ⟨i, j, rfl, rfl, pv.at S (.int _) w⟩⟩
def rIadd : RD := rInt0 fun i j => .int (i + j)
theorem id_add : IpD X .Add rIadd := ip_intD ip_add
def rIsub : RD := rInt0 fun i j => .int (i - j)
theorem id_sub : IpD X .Sub rIsub := ip_intD ip_sub
def wPar (i j : Nat) (wa : WA) : WS := fun ρ M E => wa ρ M (fun ds M1 => on2 ds fun d e => E.nx ((ρ.set i (some d)).set j (some e)) M1) E.xc
theorem ds_par {i j : Nat} {x y : Str} {a b : Expr} {wa : WA} {px py pt : Pos} {kt k2 pt2} (hc : X.calm = true) (hN : X.N.Nodup) (hi : X.N[i]? = some x) (hj : X.N[j]? = some y) (hij : i ≠ j)
    (hx : X.env.scope.names.lookup x = some .local) (hy : X.env.scope.names.lookup y = some .local) (ha : DA X [a, b] wa)
    (hw : swappedStores [.Tuple [.Name x px, .Name y py] kt pt] (.Tuple [a, b] k2 pt2) X.env = pure (some [x, y]) := by rfl)
    (hs : swapsWithSole [.Tuple [.Name x px, .Name y py] kt pt] (.Tuple [a, b] k2 pt2) pos.line X.env = pure false := by rfl) :
    DS X (.Assign [.Tuple [.Name x px, .Name y py] kt pt] (.Tuple [a, b] k2 pt2) pos) (wPar i j wa) := by
  refine ⟨fun W tk _ => ps_imp (ps_par hc hN hi hj hij hx hy (ha.pa W tk) hw hs) fun D σ H q => ?_⟩
  obtain ⟨F, M, ρ, E, S, R, w, f⟩ := q
  refine ⟨F, M, ρ, _, _, S, R, w, fun vs ds H1 F1 M1 e1 S1 r1 w1 => ?_, f.xc σ⟩
  obtain ⟨d, e, rfl, w2⟩ := on2_of w1
  obtain ⟨v, u, rfl, q1, q2⟩ := reps2 r1
  exact ⟨v, u, rfl, f.nx _ _ _ _ _ e1 S1 (((R.mono e1.sm).set i q1).set j q2) w2⟩
/-- == , != of anything told -/
def rEq : RD := fun d e M k => match d with
  | .ref a => ∃ ds, M a = some (.lst ds) ∧ rEqP (.lst ds) e M k
  | _ => match scalD d e with
    | some b => k (.bl b) M
    | none => rEqP d e M k
def rNe : RD := fun d e M k => match d with
  | .ref a => ∃ ds, M a = some (.lst ds) ∧ rNeP (.lst ds) e M k
  | _ => match scalD d e with
    | some b => k (.bl (!b)) M
    | none => rNeP d e M k
def rEq0 : RD := fun d e M k => match scalD d e with
    | some b => k (.bl b) M
    | none => rEqP d e M k
def rNe0 : RD := fun d e M k => match scalD d e with
    | some b => k (.bl (!b)) M
    | none => rNeP d e M k
theorem rEq_cases {d e : D} {M : MH} {k : KD} (h : rEq d e M k) : (∃ a ds, d = .ref a ∧ M a = some (.lst ds) ∧ rEqP (.lst ds) e M k) ∨ rEq0 d e M k := by
  cases d with
  | ref a =>
    obtain ⟨ds, h1, h2⟩ := h
    exact .inl ⟨a, ds, rfl, h1, h2⟩
  | _ => exact .inr h
theorem rNe_cases {d e : D} {M : MH} {k : KD} (h : rNe d e M k) : (∃ a ds, d = .ref a ∧ M a = some (.lst ds) ∧ rNeP (.lst ds) e M k) ∨ rNe0 d e M k := by
  cases d with
  | ref a =>
    obtain ⟨ds, h1, h2⟩ := h
    exact .inl ⟨a, ds, rfl, h1, h2⟩
  | _ => exact .inr h
theorem dp_ref {K : PySem.W.Frag} {H F : Hp} {M : MH} {a : Addr} {ds : List D} {p : PyData} (S : RepS K H F M) (h : M a = some (.lst ds)) (e : toPy (.lst ds) = some p) : Dp K H (.ref a) p := by
  obtain ⟨ps, e1, rfl⟩ := Option.map_eq_some_iff.mp e
  obtain ⟨_, _, xs, hx, hr⟩ := S.mlst h
  exact .lst (SqL.of hx) (dps_of S.fz hr e1)
theorem od_eq (hu : X.A.units + 64 < cLine) : OpD X (compareOp .Eq) rEq := by
  refine ⟨_, op_eq.or (op_eqD hu), fun d e v u H F M k Q S rd re h0 pv => ?_⟩
  rcases rEq_cases h0 with ⟨a, ds, rfl, hm, h⟩ | h
  · unfold rEqP at h
    obtain ⟨p, q, h1, h2, h3, h4, h5⟩ := h
    cases rd
    exact .inr ⟨p, q, dp_ref S hm h1, dp_of S.fz re h2, h3, h4, pv.at S (.bl _) h5⟩
  unfold rEq0 at h
  split at h
  · rename_i b hb
    obtain ⟨h3, h4⟩ := scal_of rd re hb
    exact .inl ⟨h3, by rw [h4]; exact pv.at S (.bl _) h⟩
  · unfold rEqP at h
    obtain ⟨p, q, h1, h2, h3, h4, h5⟩ := h
    exact .inr ⟨p, q, dp_of S.fz rd h1, dp_of S.fz re h2, h3, h4, pv.at S (.bl _) h5⟩
theorem od_ne (hu : X.A.units + 64 < cLine) : OpD X (compareOp .NotEq) rNe := by
  refine ⟨_, op_ne.or (op_neD hu), fun d e v u H F M k Q S rd re h0 pv => ?_⟩
  rcases rNe_cases h0 with ⟨a, ds, rfl, hm, h⟩ | h
  · unfold rNeP at h
    obtain ⟨p, q, h1, h2, h3, h4, h5⟩ := h
    cases rd
    exact .inr ⟨p, q, dp_ref S hm h1, dp_of S.fz re h2, h3, h4, pv.at S (.bl _) h5⟩
  unfold rNe0 at h
  split at h
  · rename_i b hb
    obtain ⟨h3, h4⟩ := scal_of rd re hb
    exact .inl ⟨h3, by rw [h4]; exact pv.at S (.bl _) h⟩
  · unfold rNeP at h
    obtain ⟨p, q, h1, h2, h3, h4, h5⟩ := h
    exact .inr ⟨p, q, dp_of S.fz rd h1, dp_of S.fz re h2, h3, h4, pv.at S (.bl _) h5⟩
end
end DL

namespace DL
open PySem PySem.Spec PyProof.Rows L2
/-! ### comprehensions and loops, told -/
section
variable {gt : WG} {wt : WT} {we : WE} {g : MH → Prop} {ρ : Rh}
/-- elements that change nothing -/
theorem compD_map (f : D → D) : ∀ (ds : List D) {M : MH} {k : List D → MH → Prop}, g M → (∀ d, d ∈ ds → ∀ k' : KD, k' (f d) M → gt d ρ M fun ρ1 M1 => we ρ1 M1 k' noX) → k (ds.map f) M → compD gt wYes we g ρ ds M k
  | [], _, _, hg, _, hk => ⟨hg, hk⟩
  | d :: r, M, k, hg, h, hk => ⟨hg, h d List.mem_cons_self _ (compD_map f r hg (fun e he => h e (List.mem_cons_of_mem _ he)) hk)⟩
/-- with a test -/
theorem compD_filter (p : D → Bool) (f : D → D) : ∀ (ds : List D) {M : MH} {k : List D → MH → Prop}, g M →
    (∀ d, d ∈ ds → ∀ (k1 : KD) (k2 : MH → Prop), (p d = true → k1 (f d) M) → (p d = false → k2 M) → gt d ρ M fun ρ1 M1 => wt ρ1 M1 (fun b M2 => match b with
      | true => we ρ1 M2 k1 noX
      | false => k2 M2) noX) → k ((ds.filter p).map f) M → compD gt wt we g ρ ds M k
  | [], _, _, hg, _, hk => ⟨hg, hk⟩
  | d :: r, M, k, hg, h, hk => by
    refine ⟨hg, h d List.mem_cons_self _ _ (fun hp => ?_) fun hp => ?_⟩
    · refine compD_filter p f r hg (fun e he => h e (List.mem_cons_of_mem _ he)) ?_
      rw [List.filter_cons, if_pos hp] at hk
      exact hk
    · refine compD_filter p f r hg (fun e he => h e (List.mem_cons_of_mem _ he)) ?_
      rw [List.filter_cons, if_neg (by rw [hp]; exact Bool.false_ne_true)] at hk
      exact hk
/-- elements that are drawn: each is such as R says of its item -/
inductive All2 (R : D → D → Prop) : List D → List D → Prop
  | nil : All2 R [] []
  | cons {a b : D} {as bs : List D} : R a b → All2 R as bs → All2 R (a :: as) (b :: bs)
theorem All2.len {R : D → D → Prop} : ∀ {as bs : List D}, All2 R as bs → bs.length = as.length
  | _, _, .nil => rfl
  | _, _, .cons _ r => congrArg (· + 1) (All2.len r)
theorem All2.all {R : D → D → Prop} {P : D → Prop} : ∀ {as bs : List D}, All2 R as bs → (∀ a b, R a b → P b) → ∀ b, b ∈ bs → P b
  | _, _, .nil, _, _, h => nomatch h
  | _, _, .cons q r, f, b, h => by
    rcases List.mem_cons.mp h with e | h
    · subst e; exact f _ _ q
    · exact All2.all r f b h
theorem compD_draw (I : MH → Prop) (R : D → D → Prop) (hI : ∀ M, I M → g M) : ∀ (ds : List D) {M : MH} {k : List D → MH → Prop}, I M →
    (∀ d, d ∈ ds → ∀ M (k' : KD), I M → (∀ e M', R d e → I M' → k' e M') → gt d ρ M fun ρ1 M1 => we ρ1 M1 k' noX) → (∀ es M', All2 R ds es → I M' → k es M') → compD gt wYes we g ρ ds M k
  | [], M, _, hi, _, hk => ⟨hI M hi, hk [] M .nil hi⟩
  | d :: r, M, k, hi, h, hk => ⟨hI M hi, h d List.mem_cons_self M _ hi fun e M' he hi' => compD_draw I R hI r hi' (fun a ha => h a (List.mem_cons_of_mem _ ha)) fun es M2 hs hi2 => hk _ _ (.cons he hs) hi2⟩
end
/-- a for whose turns keep I, told of what is still to be walked -/
theorem forD0_inv {gt : WG} {wb : WS} {g : MH → Prop} {E : EndsD} (I : List D → Rh → MH → Prop) (hg : ∀ ds ρ M, I ds ρ M → g M) (hnil : ∀ ρ M, I [] ρ M → E.nx ρ M)
    (hs : ∀ d r ρ M (nx : Rh → MH → Prop), I (d :: r) ρ M → (∀ ρ' M', I r ρ' M' → nx ρ' M') → gt d ρ M fun ρ1 M1 => wb ρ1 M1 { nx := nx, rt := E.rt, bk := E.nx, ct := nx, xc := E.xc }) : ∀ (ds : List D) (ρ : Rh) (M : MH), I ds ρ M → forD0 gt wb g E ds ρ M
  | [], ρ, M, h => ⟨hg _ _ _ h, hnil ρ M h⟩
  | d :: r, ρ, M, h => ⟨hg _ _ _ h, hs d r ρ M _ h fun ρ' M' h' => forD0_inv I hg hnil hs r ρ' M' h'⟩
theorem forD_inv {gt : WG} {wb : WS} {g : MH → Prop} {E : EndsD} (I : List D → Rh → MH → Prop) (hg : ∀ ds ρ M, I ds ρ M → g M) (hnil : ∀ ρ M, I [] ρ M → E.nx ρ M)
    (hs : ∀ d r ρ M (nx : Rh → MH → Prop), I (d :: r) ρ M → (∀ ρ' M', I r ρ' M' → nx ρ' M') → gt d ρ M fun ρ1 M1 => wb ρ1 M1 { nx := nx, rt := E.rt, bk := E.nx, ct := nx, xc := E.xc }) : ∀ (ds : List D) (ρ : Rh) (M : MH), I ds ρ M → forD gt wb g E ds ρ M := fun ds ρ M h => forD_eq ▸ forD0_inv I hg hnil hs ds ρ M h
/-- a while with a measure -/
theorem whD_inv {wt : WT} {wb : WS} {E : EndsD} (I : Rh → MH → Prop) (μ : Rh → MH → Nat)
    (hs : ∀ ρ M (nx : Rh → MH → Prop), I ρ M → (∀ ρ' M', I ρ' M' → μ ρ' M' < μ ρ M → nx ρ' M') → wt ρ M (fun b M1 => match b with
      | true => wb ρ M1 { nx := nx, rt := E.rt, bk := E.nx, ct := nx, xc := E.xc }
      | false => E.nx ρ M1) E.xc) : ∀ (n : Nat) (ρ : Rh) (M : MH), I ρ M → μ ρ M < n → whD wt wb E n ρ M
  | 0, _, _, _, h => absurd h (Nat.not_lt_zero _)
  | n + 1, ρ, M, h, hn => hs ρ M _ h fun ρ' M' h' hl => whD_inv I μ hs n ρ' M' h' (by omega)

/-! ### what the laws draw from -/
/-- the box: the script's cells, the turn, the rest of a great number, the mark -/
def BoxAt (M : MH) (a : Addr) : Prop := ∃ (cs : List Int) (i s m : Int), M a = some (.lst [.lst (cs.map .int), .int i, .int s, .int m]) ∧ cs.length ≤ 63 ∧ 0 ≤ i
/-- the same but at a -/
def Off (a : Addr) (M M' : MH) : Prop := ∀ b, b ≠ a → M' b = M b
theorem Off.refl (a : Addr) (M : MH) : Off a M M := fun _ _ => rfl
theorem Off.trans {a : Addr} {M M1 M2 : MH} (h : Off a M M1) (h' : Off a M1 M2) : Off a M M2 := fun b hb => (h' b hb).trans (h b hb)
theorem Off.upd (a : Addr) (M : MH) (o : MO) : Off a M (mupd M a o) := fun b hb => mupd_ne hb
theorem Off.upd2 {a : Addr} {M M' : MH} (h : Off a M M') (o : MO) : Off a M (mupd M' a o) := fun b hb => (mupd_ne hb).trans (h b hb)
def sp__law_a_box : WF := fun ds M k _ => ∃ ns, ds = [.scr ns] ∧ ns.length ≤ 63 ∧ ∀ a M', M a = none → BoxAt M' a → Off a M M' → k (.ref a) M'
def sp__law_draw : WF := fun ds M k _ => ∃ a n, ds = [.ref a, .int n] ∧ 0 < n ∧ n.natAbs.log2 < 9000 ∧ BoxAt M a ∧ ∀ v M', 0 ≤ v → v < n → BoxAt M' a → Off a M M' → k (.int v) M'
/-- what may be chosen from -/
def pickD : D → Option (List D)
  | .lst ds => some ds
  | .tup ds => some ds
  | .str z => some (z.cps.toList.map fun c => .str ⟨#[c]⟩)
  | _ => none
def sp__law_any : WF := fun ds M k _ => ∃ a row its, ds = [.ref a, row] ∧ pickD row = some its ∧ its ≠ [] ∧ its.length ≤ 4096 ∧ BoxAt M a ∧ ∀ d M', d ∈ its → BoxAt M' a → Off a M M' → k d M'
def isInt : D → Bool
  | .int _ => true
  | _ => false
def sp__law_whole : WF := fun ds M k _ => ∃ d q, ds = [d] ∧ kdOf d = some q ∧ k (.bl (isInt d)) M
/-! plain data, and how deep it is -/
mutual
def plain : D → Bool
  | .non => true | .bl _ => true | .int _ => true | .str _ => true
  | .tup ds => plains ds | .lst ds => plains ds
  | _ => false
def plains : List D → Bool
  | [] => true
  | d :: ds => plain d && plains ds
end
mutual
def dep : D → Nat
  | .tup ds => deps ds + 1
  | .lst ds => deps ds + 1
  | _ => 0
def deps : List D → Nat
  | [] => 0
  | d :: ds => max (dep d) (deps ds)
end
def sp__law_same (n : Nat) : WF := fun ds M k _ => ∃ d, ds = [d, d] ∧ plain d = true ∧ dep d ≤ n ∧ k (.bl true) M
/-- the promise of nothing -/
def noSp : WF := fun _ _ _ _ => False
theorem fn_no {P : Program} {w : World} {K : PySem.W.Frag} {mg : Str → Option Value} {base : Heap} {x qual : Str} {st : Stmt} {f : Addr} {fd : FuncData} {N ps : List Str} {k : Nat} (G : Fun K x qual st f fd) (S : FnScope N ps (defScope st)) : FnOk P w K mg base (L2.CX P w) (k + 1) f fd ps (spD K ps.length noSp) := by
  refine G.okX S (fun vs H Q E h => ?_) (fun cdv A outer s H vs Q E hr h => ?_)
  · obtain ⟨F, M, ds, k, x, S, r, hl, q, _⟩ := h
    exact q.elim
  · obtain ⟨F, M, ds, k, x, S, r, hl, q, _⟩ := h
    exact q.elim
end DL

namespace DL
open PySem PySem.Spec PyProof.Rows L2
/-! ### the end -/
theorem walk_ofEW {l : PySem.W.OpenLaw} {n k : Nat} {q : Program} {loose : List Str} {XP : (Str → Option Value) → Heap → Prop} {YP : World → Heap → Prop} {d : DefRec} {x : Str}
    (hn : l.most = some n) (hn2 : n ≤ sizeLine) (hdf : d.params.defaults = []) (hr : Room k callerA)
    (F : ∀ (w : World) (mg : Str → Option Value) (fa : Addr) (h : Heap), YP w h → h.Ns mainGlobals mg → mg d.name = some (.ref fa) →
      ∃ (K : PySem.W.Frag) (fd : FuncData) (sp : Sp), K.In h ∧ (∀ (s : Shared) (u : Value), BindsTo s fd ⟨[u], []⟩ [(x, u)]) ∧
        (∀ (H : Hp) (a : Addr) (ns : List Int), ns.length ≤ n → Only H → SqL K H a (ns.map V.int) → sp [.ref a] H (fun v _ => v = .bl true) fun _ _ _ => False) ∧
        ∀ base : Heap, K.In base → base.Ns mainGlobals mg → FnOk l.prog w K mg base (L2.CX l.prog w) k fa fd [x] sp) :
    PySem.W.WalkO q loose XP YP l.row.toRowW d [] (fun f vs => PySem.call f vs) := by
  refine Att.attach_call hn hdf fun w s₀ s₁ mg mb fa o pm cd doc a vs ns G Y ho hd hcd hmg hobj hints hlen hg => ?_
  obtain ⟨K, fd, sp, KX, hb, hsp, hF⟩ := F w mg fa _ Y G.T.g hmg
  exact law_call KX G.T.g G.T.b G.T.builtins G.T.nolimit hg hobj hints (Nat.le_trans hlen hn2) hr hF hb (fun H hO hS => hsp H a ns hlen hO hS) fun H e s' h => by
    obtain ⟨_, _, _, _, _, _, _, _, _, _, _, _, z⟩ := h
    exact z.elim
/-- the law's promise -/
def sp_law : WF := fun ds M k _ => ∃ ns, ds = [.scr ns] ∧ ns.length ≤ 63 ∧ ∀ M', k (.bl true) M'
theorem sp_law_in {K : PySem.W.Frag} {H : Hp} {a : Addr} {ns : List Int} (hl : ns.length ≤ 63) (hS : SqL K H a (ns.map V.int)) : spD K 1 sp_law [.ref a] H (fun v _ => v = .bl true) fun _ _ _ => False :=
  ⟨H, fun _ => none, [.scr ns], fun d _ => d = .bl true, fun _ _ _ => False, ⟨Same.refl H, fun _ _ h => nomatch h⟩, .cons (.scr hS) .nil, rfl, ⟨ns, rfl, hl, fun _ => rfl⟩,
    fun v d H' F' M' _ _ r h => by subst h; cases r; rfl, fun _ _ _ _ _ _ _ _ _ _ _ z => z.elim⟩

local macro_rules | `(tactic| walk_at "w") => `(tactic| try conv => whnf)
local macro_rules | `(tactic| walk_at "m") => `(tactic| (refine ⟨_, (by first | assumption | exact mupd_same : _ = some (MO.lst _)), ?_⟩; try conv => whnf))
local macro_rules | `(tactic| walk_at "p") => `(tactic| (refine ⟨_, _, _, _, rfl, rfl, (by first | assumption | exact mupd_same : _ = some (MO.lst _)), rfl, ?_⟩; try conv => whnf))
local macro_rules | `(tactic| walk_at "*") => `(tactic| (refine ⟨(by first | exact mulOk_r (by decide) (by decide) | exact mulOk_l (by decide) (by decide) | exact mulOk_l (by omega) (by omega) | exact mulOk_r (by omega) (by omega) : IntMulOk _ _), ?_⟩; try conv => whnf))
local macro_rules | `(tactic| walk_at "/") => `(tactic| (refine ⟨by first | decide | omega | exact ⟨by decide, by decide⟩, ?_⟩; try conv => whnf))
local macro_rules | `(tactic| walk_at "go") => `(tactic| ((try conv => whnf); repeat (first | walk_at "m" | walk_at "p" | walk_at "*")))

/-! ### lists, numbers -/
theorem atI_map {α β : Type} {f : α → β} {xs : List α} {i : Int} (h0 : 0 ≤ i) (h1 : i < xs.length) : ∃ c, atI (xs.map f) i = some (f c) := by
  have hl : i.toNat < xs.length := by omega
  refine ⟨xs[i.toNat], ?_⟩
  unfold atI ixN
  rw [if_pos h0, List.length_map, if_pos h1]
  show (xs.map f)[i.toNat]? = _
  rw [List.getElem?_map, List.getElem?_eq_getElem hl]
  rfl
theorem atI_mem {α : Type} {xs : List α} {i : Int} (h0 : 0 ≤ i) (h1 : i < xs.length) : ∃ c, c ∈ xs ∧ atI xs i = some c := by
  have hl : i.toNat < xs.length := by omega
  refine ⟨xs[i.toNat], List.getElem_mem hl, ?_⟩
  unfold atI ixN
  rw [if_pos h0, if_pos h1]
  show xs[i.toNat]? = _
  rw [List.getElem?_eq_getElem hl]
theorem atI_cons0 {α : Type} {a : α} {r : List α} : atI (a :: r) 0 = some a := by
  unfold atI ixN
  rw [if_pos (by decide), if_pos (by rw [List.length_cons]; omega)]
  rfl
theorem onO_mk {α : Type} {o : Option α} {p : α → Prop} {a : α} (h : o = some a) (q : p a) : onO o p := by subst h; exact q
theorem fmod_lo {a b : Int} (h : 0 < b) : 0 ≤ a.fmod b := Int.fmod_nonneg_of_pos a h
theorem fmod_hi {a b : Int} (h : 0 < b) : a.fmod b < b := Int.fmod_lt_of_pos a h
theorem flat1 {α : Type} (n : Nat) (a : α) : (List.replicate n [a]).flatten = List.replicate n a := by
  induction n with
  | zero => rfl
  | succ n ih => rw [List.replicate_succ, List.flatten_cons, ih]; rfl
/-- the walked list's wish, told by each item and its element -/
theorem compD_all2 {gt : WG} {we : WE} {g : MH → Prop} {ρ : Rh} (R : D → D → Prop) : ∀ (ds es : List D) {M : MH} {k : List D → MH → Prop}, All2 R ds es → g M → (∀ d e, R d e → ∀ k' : KD, k' e M → gt d ρ M fun ρ1 M1 => we ρ1 M1 k' noX) → k es M → compD gt wYes we g ρ ds M k
  | _, _, _, _, .nil, hg, _, hk => ⟨hg, hk⟩
  | _, _, M, k, .cons r rs, hg, h, hk => ⟨hg, h _ _ r _ (compD_all2 R _ _ rs hg h hk)⟩
theorem blsOf_rep : ∀ n, blsOf (List.replicate n (.bl true)) = some (List.replicate n true)
  | 0 => rfl
  | n + 1 => by
    show (blsOf (List.replicate n (.bl true))).map (true :: ·) = _
    rw [blsOf_rep n]
    rfl
theorem all_rep : ∀ n, (List.replicate n true).all (fun b => b) = true
  | 0 => rfl
  | n + 1 => by rw [List.replicate_succ, List.all_cons, all_rep n]; rfl
theorem Lt.as {k : KD} {d e : D} {M : MH} (h : k d M) (q : e = d) : Lt k e M := by subst q; exact Lt.now h

/-! ### == of plain data -/
mutual
def pyOf : D → PyData
  | .non => .none
  | .bl b => .bool b
  | .int i => .int i
  | .str x => .str x
  | .tup ds => .tuple (pyOfs ds)
  | .lst ds => .list (pyOfs ds)
  | .ref _ => .none
  | .ty _ => .none
  | .scr _ => .none
def pyOfs : List D → List PyData
  | [] => []
  | d :: ds => pyOf d :: pyOfs ds
end
mutual
def lays : D → Bool
  | .non => true | .bl _ => true | .int _ => true
  | .str x => PyData.strOk x
  | .tup ds => layss ds | .lst ds => layss ds
  | _ => false
def layss : List D → Bool
  | [] => true
  | d :: ds => lays d && layss ds
end
mutual
theorem lays_py : ∀ {d : D}, lays d = true → toPy d = some (pyOf d) ∧ (pyOf d).canLay0 = true ∧ (pyOf d).depth = dep d
  | .non, _ => ⟨rfl, rfl, rfl⟩
  | .bl _, _ => ⟨rfl, rfl, rfl⟩
  | .int _, _ => ⟨rfl, rfl, rfl⟩
  | .str x, h => ⟨rfl, h, rfl⟩
  | .tup ds, h => by
    obtain ⟨h1, h2, h3⟩ := layss_py (ds := ds) h
    refine ⟨?_, h2, ?_⟩
    · show (toPys ds).map PyData.tuple = _
      rw [h1]
      rfl
    · show PyData.depthAll (pyOfs ds) + 1 = deps ds + 1
      rw [h3]
  | .lst ds, h => by
    obtain ⟨h1, h2, h3⟩ := layss_py (ds := ds) h
    refine ⟨?_, h2, ?_⟩
    · show (toPys ds).map PyData.list = _
      rw [h1]
      rfl
    · show PyData.depthAll (pyOfs ds) + 1 = deps ds + 1
      rw [h3]
  | .ref _, h => by cases h
  | .ty _, h => by cases h
  | .scr _, h => by cases h
theorem layss_py : ∀ {ds : List D}, layss ds = true → toPys ds = some (pyOfs ds) ∧ PyData.canLayAll0 (pyOfs ds) = true ∧ PyData.depthAll (pyOfs ds) = deps ds
  | [], _ => ⟨rfl, rfl, rfl⟩
  | d :: ds, h => by
    have h' : lays d = true ∧ layss ds = true := Bool.and_eq_true_iff.mp h
    obtain ⟨a1, a2, a3⟩ := lays_py h'.1
    obtain ⟨b1, b2, b3⟩ := layss_py h'.2
    refine ⟨?_, ?_, ?_⟩
    · show (toPy d).bind (fun p => (toPys ds).map (p :: ·)) = _
      rw [a1, b1]
      rfl
    · show ((pyOf d).canLay0 && PyData.canLayAll0 (pyOfs ds)) = true
      rw [a2, b2]
      rfl
    · show max (pyOf d).depth (PyData.depthAll (pyOfs ds)) = max (dep d) (deps ds)
      rw [a3, b3]
end
def eqD (d e : D) : Bool := PyData.eqv (pyOf d) (pyOf e)
theorem scal_eqv {d e : D} {b : Bool} (h : scalD d e = some b) : eqD d e = b := by
  cases d <;> cases e <;> first | (cases h; done) | skip
  all_goals (have h' := Option.some.inj h; rw [← h']; first | rfl | (show (_ == _) = decide (_ = _); rw [Bool.eq_iff_iff]; simp))
theorem rEqP_lays {d e : D} {M : MH} {k : KD} (h1 : lays d = true) (h2 : lays e = true) (q : k (.bl (eqD d e)) M) (h3 : dep d ≤ 64 := by decide) (h4 : dep e ≤ 64 := by decide) : rEqP d e M k := by
  unfold rEqP
  obtain ⟨a1, a2, a3⟩ := lays_py h1
  obtain ⟨b1, b2, b3⟩ := lays_py h2
  exact ⟨_, _, a1, b1, by unfold SeqAt.shaped; rw [a2, a3, decide_eq_true h3]; rfl, by unfold SeqAt.shaped; rw [b2, b3, decide_eq_true h4]; rfl, q⟩
theorem rNeP_lays {d e : D} {M : MH} {k : KD} (h1 : lays d = true) (h2 : lays e = true) (q : k (.bl (!eqD d e)) M) (h3 : dep d ≤ 64 := by decide) (h4 : dep e ≤ 64 := by decide) : rNeP d e M k := by
  unfold rNeP
  obtain ⟨a1, a2, a3⟩ := lays_py h1
  obtain ⟨b1, b2, b3⟩ := lays_py h2
  exact ⟨_, _, a1, b1, by unfold SeqAt.shaped; rw [a2, a3, decide_eq_true h3]; rfl, by unfold SeqAt.shaped; rw [b2, b3, decide_eq_true h4]; rfl, q⟩
theorem eqD_nil (xs : List D) : eqD (.lst xs) (.lst []) = xs.isEmpty := by
  cases xs <;> simp [eqD, pyOf, pyOfs, PyData.eqv, PyData.eqvAll]
theorem layss_mem : ∀ {ds : List D}, (∀ d, d ∈ ds → lays d = true) → layss ds = true
  | [], _ => rfl
  | d :: ds, h => by show (lays d && layss ds) = true; rw [h d List.mem_cons_self, layss_mem fun e he => h e (List.mem_cons_of_mem _ he)]; rfl
theorem deps_le {n : Nat} : ∀ {ds : List D}, (∀ d, d ∈ ds → dep d ≤ n) → deps ds ≤ n
  | [], _ => Nat.zero_le _
  | d :: ds, h => by show max (dep d) (deps ds) ≤ n; have := h d List.mem_cons_self; have := deps_le fun e he => h e (List.mem_cons_of_mem _ he); omega
/-- the same but at a and b -/
def Off2 (a b : Addr) (M M' : MH) : Prop := ∀ c, c ≠ a → c ≠ b → M' c = M c
theorem Off.two {a b : Addr} {M M' : MH} (h : Off a M M') : Off2 a b M M' := fun c h1 _ => h c h1
theorem Off2.trans {a b : Addr} {M M1 M2 : MH} (h : Off2 a b M M1) (h' : Off2 a b M1 M2) : Off2 a b M M2 := fun c h1 h2 => (h' c h1 h2).trans (h c h1 h2)
theorem Off2.on {a b : Addr} {M M1 M2 : MH} (h : Off2 a b M M1) (h' : Off a M1 M2) : Off2 a b M M2 := h.trans h'.two
theorem Off2.updb {a b : Addr} {M M' : MH} (h : Off2 a b M M') (o : MO) : Off2 a b M (mupd M' b o) := fun c h1 h2 => (mupd_ne h2).trans (h c h1 h2)
theorem Off2.frz {a b : Addr} {M M' : MH} (h : Off2 a b M M') (hb : M b = none) : Off a M (mdel M' b) := fun c hc => by
  by_cases e : c = b
  · subst e; rw [mdel_same, hb]
  · rw [mdel_ne e]; exact h c hc e
theorem BoxAt.ne {M : MH} {a b : Addr} (h : BoxAt M a) (hb : M b = none) : b ≠ a := fun e => by
  obtain ⟨_, _, _, _, q, _⟩ := h
  subst e; rw [hb] at q; cases q
theorem BoxAt.upd {M : MH} {a b : Addr} (h : BoxAt M a) (hb : b ≠ a) (o : MO) : BoxAt (mupd M b o) a := by
  obtain ⟨cs, i, s, m, q, r⟩ := h
  exact ⟨cs, i, s, m, by rw [mupd_ne hb.symm]; exact q, r⟩
theorem BoxAt.del {M : MH} {a b : Addr} (h : BoxAt M a) (hb : b ≠ a) : BoxAt (mdel M b) a := by
  obtain ⟨cs, i, s, m, q, r⟩ := h
  exact ⟨cs, i, s, m, by rw [mdel_ne hb.symm]; exact q, r⟩
theorem cutD_map {α β : Type} (f : α → β) (xs : List α) (lo hi : Option Int) : cutD (xs.map f) lo hi = (cutD xs lo hi).map f := by
  unfold cutD
  rw [List.length_map, List.map_take, List.map_drop]
theorem layss_map {α : Type} (f : α → D) (h : ∀ a, lays (f a) = true) : ∀ xs : List α, layss (xs.map f) = true
  | [] => rfl
  | x :: xs => by show (lays (f x) && layss (xs.map f)) = true; rw [h x, layss_map f h xs]; rfl
theorem deps_map {α : Type} (f : α → D) {n : Nat} (h : ∀ a, dep (f a) ≤ n) : ∀ xs : List α, deps (xs.map f) ≤ n
  | [] => Nat.zero_le _
  | x :: xs => by show max (dep (f x)) (deps (xs.map f)) ≤ n; have := h x; have := deps_map f h xs; omega
theorem plains_map {α : Type} (f : α → D) (h : ∀ a, plain (f a) = true) : ∀ xs : List α, plains (xs.map f) = true
  | [] => rfl
  | x :: xs => by show (plain (f x) && plains (xs.map f)) = true; rw [h x, plains_map f h xs]; rfl
/-! ### what the laws draw from: the defs that every law has -/
def N__law_a_box : List Str := ["_law_script", "_law_cells", "_law_mark", "_law_cell"]
def w__law_a_box : WS := (wSeq (wSet 1 (wCB rList (wCons (wSl (wVar 0) wNoPart (wPart (wC (.int 63)))) wNil)))
  (wSeq (wSet 2 (wOp rAdd (wC (.int 3814)) (wOp rMul (wC (.int 67)) (wCB rLn (wCons (wVar 1) wNil)))))
  (wSeq (wFor (wiSeq (wVar 1)) (wgN 3) (wSet 2 (wOp rMod (wOp rAdd (wOp rMul (wVar 2) (wC (.int 1709))) (wVar 3)) (wC (.int 2147483587)))))
  (wRet (wLstM (wCons (wVar 1) (wCons (wC (.int 0)) (wCons (wC (.int 0)) (wCons (wVar 2) wNil)))))))))
theorem hw__law_a_box (ds : List D) (M : MH) (k : KD) (x : KE) (_ : ds.length = 1) (h : sp__law_a_box ds M k x) : w__law_a_box (startD N__law_a_box ds) M (retE k x) := by
  obtain ⟨ns, rfl, hl, hk⟩ := h
  walk_at "w"
  have hc : (cutD ns none (some 63)).length ≤ 63 := Nat.le_trans (cutD_len _ _ _) hl
  generalize cutD ns none (some 63) = cs at hc
  refine ⟨by omega, ?_⟩
  walk_at "go"
  refine forD_inv (fun ds ρ M' => M' = M ∧ (∃ cs', ds = cs'.map .int) ∧ ∃ m o, ρ = [some (.scr ns), some (.lst (cs.map .int)), some (.int m), o]) (fun _ _ _ _ => trivial) (fun ρ M' hI => ?_) (fun d r ρ M' nx hI hn => ?_) _ _ _ ⟨rfl, ⟨cs, rfl⟩, _, _, rfl⟩
  · obtain ⟨rfl, _, m, o, rfl⟩ := hI
    walk_at "w"
    intro a ha
    exact Lt.now (hk _ _ ha ⟨cs, 0, 0, m, mupd_same, hc, by decide⟩ (DL.Off.upd _ _ _))
  · obtain ⟨rfl, ⟨cs', e⟩, m, o, rfl⟩ := hI
    cases cs' with
    | nil => cases e
    | cons c cs' =>
      cases e
      walk_at "go"
      refine ⟨(by decide : (2147483587 : Int) ≠ 0), ?_⟩
      exact hn _ _ ⟨rfl, ⟨cs', rfl⟩, _, _, rfl⟩
def N__law_draw : List Str := ["_law_box", "_law_many", "_law_drawn", "_law_seed", "_law_fold", "_law_twist"]
def w__law_draw : WS := (wSeq (wIfS (wTest (wOp rLt (wIx (wVar 0) (wC (.int 2))) (wC (.int 2)))) (wSeq (wPut (wVar 0) (wC (.int 1)) (wOp rAdd (wIx (wVar 0) (wC (.int 1))) (wC (.int 1))))
  (wSeq (wSet 3 (wOp rAdd (wIx (wVar 0) (wC (.int 3))) (wOp rMul (wIx (wVar 0) (wC (.int 1))) (wC (.int 6151)))))
  (wSeq (wIfS (wTest (wOp rLe (wIx (wVar 0) (wC (.int 1))) (wCB rLn (wCons (wIx (wVar 0) (wC (.int 0))) wNil)))) (wSet 3 (wIx (wIx (wVar 0) (wC (.int 0))) (wOp rSub (wIx (wVar 0) (wC (.int 1))) (wC (.int 1))))) wNext)
  (wSeq (wIfS (wOr (wTest (wOp rGt (wIx (wVar 0) (wC (.int 1))) (wCB rLn (wCons (wIx (wVar 0) (wC (.int 0))) wNil)))) (wTest (wOp rLt (wVar 3) (wOp rPow (wC (.int 10)) (wC (.int 18)))))) (wSeq (wSet 4 (wOp rMod (wOp rAdd (wOp rAdd (wOp rMul (wVar 3) (wC (.int 48271))) (wOp rMul (wIx (wVar 0) (wC (.int 1))) (wC (.int 40692)))) (wIx (wVar 0) (wC (.int 3)))) (wC (.int 2147483647))))
  (wSeq (wSet 5 (wOp rMod (wOp rAdd (wOp rMul (wVar 4) (wVar 4)) (wIx (wVar 0) (wC (.int 1)))) (wC (.int 998244353))))
  (wRet (wOp rMod (wOp rFdiv (wOp rMod (wOp rAdd (wOp rMul (wVar 5) (wC (.int 69621))) (wVar 4)) (wC (.int 2147483629))) (wC (.int 7))) (wVar 1))))) wNext)
  (wPut (wVar 0) (wC (.int 2)) (wVar 3)))))) wNext)
  (wSeq (wSet 2 (wOp rMod (wIx (wVar 0) (wC (.int 2))) (wVar 1)))
  (wSeq (wPut (wVar 0) (wC (.int 2)) (wOp rFdiv (wIx (wVar 0) (wC (.int 2))) (wVar 1)))
  (wRet (wVar 2)))))
theorem hw__law_draw (ds : List D) (M : MH) (k : KD) (x : KE) (_ : ds.length = 2) (h : sp__law_draw ds M k x) : w__law_draw (startD N__law_draw ds) M (retE k x) := by
  obtain ⟨a, n, rfl, hn, hn2, ⟨cs, i, s, m, hM, hc, hi⟩, hk⟩ := h
  have hfin : ∀ (s' i' : Int) (M' : MH) (o1 o2 o3 o4 : Option D), 0 ≤ i' → DL.Off a M M' → M' a = some (.lst [.lst (cs.map .int), .int i', .int s', .int m]) → wSeq (wSet 2 (wOp rMod (wIx (wVar 0) (wC (.int 2))) (wVar 1)))
      (wSeq (wPut (wVar 0) (wC (.int 2)) (wOp rFdiv (wIx (wVar 0) (wC (.int 2))) (wVar 1))) (wRet (wVar 2))) [some (.ref a), some (.int n), o1, o2, o3, o4] M' (retE k x) := by
    intro s' i' M' o1 o2 o3 o4 hi' hO hM'
    walk_at "go"
    walk_at "/"
    walk_at "go"
    refine ⟨⟨by omega, hn2⟩, ?_⟩
    walk_at "go"
    exact Lt.now (hk _ _ (fmod_lo hn) (fmod_hi hn) ⟨cs, i', _, m, mupd_same, hc, hi'⟩ (hO.upd2 _))
  walk_at "w"
  walk_at "m"
  cases hs : decide (s < 2)
  · exact hfin s i M _ _ _ _ hi (DL.Off.refl _ _) hM
  walk_at "go"
  have hmid : ∀ (sd : Int) (M' : MH) (o1 : Option D) , DL.Off a M M' → M' a = some (.lst [.lst (cs.map .int), .int (i + 1), .int s, .int m]) → wSeq
            (wIfS
              (wOr (wTest (wOp rGt (wIx (wVar 0) (wC (D.int 1))) (wCB rLn (wCons (wIx (wVar 0) (wC (D.int 0))) wNil))))
                (wTest (wOp rLt (wVar 3) (wOp rPow (wC (D.int 10)) (wC (D.int 18))))))
              (wSeq
                (wSet 4
                  (wOp rMod
                    (wOp DL.rAdd
                      (wOp DL.rAdd (wOp rMul (wVar 3) (wC (D.int 48271)))
                        (wOp rMul (wIx (wVar 0) (wC (D.int 1))) (wC (D.int 40692))))
                      (wIx (wVar 0) (wC (D.int 3))))
                    (wC (D.int 2147483647))))
                (wSeq
                  (wSet 5
                    (wOp rMod (wOp DL.rAdd (wOp rMul (wVar 4) (wVar 4)) (wIx (wVar 0) (wC (D.int 1))))
                      (wC (D.int 998244353))))
                  (wRet
                    (wOp rMod
                      (wOp rFdiv
                        (wOp rMod (wOp DL.rAdd (wOp rMul (wVar 5) (wC (D.int 69621))) (wVar 4)) (wC (D.int 2147483629)))
                        (wC (D.int 7)))
                      (wVar 1)))))
              wNext)
            (wPut (wVar 0) (wC (D.int 2)) (wVar 3)) [some (.ref a), some (.int n), o1, some (.int sd), none, none] M'
        { nx := fun ρ1 M1 => wSeq (wSet 2 (wOp rMod (wIx (wVar 0) (wC (D.int 2))) (wVar 1)))
                  (wSeq (wPut (wVar 0) (wC (D.int 2)) (wOp rFdiv (wIx (wVar 0) (wC (D.int 2))) (wVar 1)))
                    (wRet (wVar 2))) ρ1 M1 (retE k x), rt := (retE k x).rt, bk := (retE k x).bk, ct := (retE k x).ct, xc := (retE k x).xc } := by
    intro sd M' o1 hO hM'
    have body : ∀ (E : EndsD), E.rt = (retE k x).rt → (wSeq
                (wSet 4
                  (wOp rMod
                    (wOp DL.rAdd
                      (wOp DL.rAdd (wOp rMul (wVar 3) (wC (D.int 48271)))
                        (wOp rMul (wIx (wVar 0) (wC (D.int 1))) (wC (D.int 40692))))
                      (wIx (wVar 0) (wC (D.int 3))))
                    (wC (D.int 2147483647))))
                (wSeq
                  (wSet 5
                    (wOp rMod (wOp DL.rAdd (wOp rMul (wVar 4) (wVar 4)) (wIx (wVar 0) (wC (D.int 1))))
                      (wC (D.int 998244353))))
                  (wRet
                    (wOp rMod
                      (wOp rFdiv
                        (wOp rMod (wOp DL.rAdd (wOp rMul (wVar 5) (wC (D.int 69621))) (wVar 4)) (wC (D.int 2147483629)))
                        (wC (D.int 7)))
                      (wVar 1))))) [some (.ref a), some (.int n), o1, some (.int sd), none, none] M' E := by
      intro E hE
      walk_at "go"
      walk_at "/"
      have f1 := fmod_lo (a := sd * 48271 + (i + 1) * 40692 + m) (b := 2147483647) (by decide)
      have f2 := fmod_hi (a := sd * 48271 + (i + 1) * 40692 + m) (b := 2147483647) (by decide)
      generalize (sd * 48271 + (i + 1) * 40692 + m).fmod 2147483647 = fo at f1 f2
      walk_at "go"
      walk_at "/"
      walk_at "go"
      walk_at "/"
      refine ⟨⟨by decide, by decide⟩, ?_⟩
      walk_at "go"
      walk_at "/"
      show E.rt _ _
      rw [hE]
      exact Lt.now (hk _ _ (fmod_lo hn) (fmod_hi hn) ⟨cs, i + 1, s, m, hM', hc, by omega⟩ hO)
    walk_at "go"
    cases h1 : decide ((List.map D.int cs).length < i + 1)
    · walk_at "go"
      walk_at "/"
      cases h2 : decide (sd < 10 ^ (18 : Int).toNat)
      · walk_at "w"
        refine ⟨_, _, _, _, rfl, rfl, hM', rfl, ?_⟩
        exact hfin _ _ _ _ _ _ _ (by omega) (hO.upd2 _) mupd_same
      · exact body _ rfl
    · exact body _ rfl
  cases h1 : decide (i + 1 ≤ (List.map D.int cs).length)
  · exact hmid _ _ _ (DL.Off.upd _ _ _) mupd_same
  · walk_at "go"
    obtain ⟨c, h3⟩ := atI_map (f := D.int) (xs := cs) (i := i + 1 - 1) (by omega) (by have := of_decide_eq_true h1; rw [List.length_map] at this; omega)
    refine onO_mk h3 ?_
    exact hmid _ _ _ (DL.Off.upd _ _ _) mupd_same
def N__law_any : List Str := ["_law_box", "_law_row"]
def w__law_any : WS := (wRet (wIx (wVar 1) (wCall sp__law_draw 2 (wCons (wVar 0) (wCons (wCB rLn (wCons (wVar 1) wNil)) wNil)))))
theorem log2_4096 {n : Nat} (h : n ≤ 4096) : n.log2 < 9000 := by
  by_cases h0 : n = 0
  · subst h0; decide
  · have : n < 2 ^ 9000 := Nat.lt_of_le_of_lt h (Nat.lt_of_lt_of_le (by decide : 4096 < 2 ^ 13) (Nat.pow_le_pow_right (by decide) (by decide)))
    exact (Nat.log2_lt h0).mpr this
theorem hw__law_any (ds : List D) (M : MH) (k : KD) (x : KE) (_ : ds.length = 2) (h : sp__law_any ds M k x) : w__law_any (startD N__law_any ds) M (retE k x) := by
  obtain ⟨a, row, its, rfl, hp, hne, hl, hB, hk⟩ := h
  have hpos : 0 < its.length := List.length_pos_iff.mpr hne
  cases row with
  | lst ds =>
    cases hp
    walk_at "w"
    refine ⟨_, _, rfl, Int.ofNat_lt.mpr hpos, log2_4096 hl, hB, fun v M' h0 h1 hB' hO => ?_⟩
    obtain ⟨c, hc, e⟩ := atI_mem h0 h1
    walk_at "w"
    rw [e]
    exact Lt.now (hk _ _ hc hB' hO)
  | tup ds =>
    cases hp
    walk_at "w"
    refine ⟨_, _, rfl, Int.ofNat_lt.mpr hpos, log2_4096 hl, hB, fun v M' h0 h1 hB' hO => ?_⟩
    obtain ⟨c, hc, e⟩ := atI_mem h0 h1
    walk_at "w"
    rw [e]
    exact Lt.now (hk _ _ hc hB' hO)
  | str z =>
    cases hp
    have hz : z.cps.toList.length = z.length := rfl
    rw [List.length_map] at hl hpos
    walk_at "w"
    refine ⟨le_line (by rw [← hz]; exact hl), ?_⟩
    walk_at "w"
    refine ⟨_, _, rfl, Int.ofNat_lt.mpr hpos, log2_4096 hl, hB, fun v M' h0 h1 hB' hO => ?_⟩
    obtain ⟨c, hc, e⟩ := atI_mem (xs := z.cps.toList) h0 h1
    walk_at "w"
    refine ⟨le_line (by rw [← hz]; exact hl), ?_⟩
    walk_at "w"
    rw [e]
    exact Lt.now (hk _ _ (List.mem_map_of_mem hc) hB' hO)
  | _ => cases hp
def N__law_whole : List Str := ["_law_found"]
def w__law_whole : WS := (wRet (wAndV (wCB rIsi (wCons (wVar 0) (wCons (wC (.ty .int)) wNil))) (wNotV (wCB rIsi (wCons (wVar 0) (wCons (wC (.ty .bool)) wNil))))))
theorem hw__law_whole (ds : List D) (M : MH) (k : KD) (x : KE) (_ : ds.length = 1) (h : sp__law_whole ds M k x) : w__law_whole (startD N__law_whole ds) M (retE k x) := by
  obtain ⟨d, q, rfl, hq, hk⟩ := h
  cases d <;> cases hq <;> exact Lt.now hk
def N__law_same : List Str := ["_law_found", "_law_due", "_law_one", "_law_other"]
def w__law_same (sr : WF) : WS := (wSeq (wIfS (wTest (wOp rIs (wVar 1) (wC .non))) (wRet (wOp rIs (wVar 0) (wC .non))) wNext)
  (wSeq (wIfS (wTest (wCB rIsi (wCons (wVar 1) (wCons (wC (.ty .bool)) wNil)))) (wRet (wAndV (wCB rIsi (wCons (wVar 0) (wCons (wC (.ty .bool)) wNil))) (wOp rEq (wVar 0) (wVar 1)))) wNext)
  (wSeq (wIfS (wTest (wCB rIsi (wCons (wVar 1) (wCons (wC (.ty .int)) wNil)))) (wRet (wAndV (wCall sp__law_whole 1 (wCons (wVar 0) wNil)) (wOp rEq (wVar 0) (wVar 1)))) wNext)
  (wSeq (wIfS (wTest (wCB rIsi (wCons (wVar 1) (wCons (wC (.ty .str)) wNil)))) (wRet (wAndV (wCB rIsi (wCons (wVar 0) (wCons (wC (.ty .str)) wNil))) (wOp rEq (wVar 0) (wVar 1)))) wNext)
  (wSeq (wIfS (wOr (wTest (wOp rNe (wCB rIsi (wCons (wVar 1) (wCons (wC (.ty .list)) wNil))) (wCB rIsi (wCons (wVar 0) (wCons (wC (.ty .list)) wNil))))) (wTest (wOp rNe (wCB rIsi (wCons (wVar 1) (wCons (wC (.ty .tuple)) wNil))) (wCB rIsi (wCons (wVar 0) (wCons (wC (.ty .tuple)) wNil)))))) (wRet (wC (.bl false))) wNext)
  (wSeq (wIfS (wTest (wOp rNe (wCB rLn (wCons (wVar 0) wNil)) (wCB rLn (wCons (wVar 1) wNil)))) (wRet (wC (.bl false))) wNext)
  (wRet (wCB rAll (wCons (wLc (wiZip (wVar 0) (wVar 1)) (wgTup 2 (wgCons (wgN 2) (wgCons (wgN 3) wgNil))) wYes (wCall sr 2 (wCons (wVar 2) (wCons (wVar 3) wNil))) [2, 3]) wNil)))))))))
theorem plain_kd : ∀ {d : D}, plain d = true → ∃ q, kdOf d = some q
  | .non, _ => ⟨_, rfl⟩
  | .bl _, _ => ⟨_, rfl⟩
  | .int _, _ => ⟨_, rfl⟩
  | .str _, _ => ⟨_, rfl⟩
  | .tup _, _ => ⟨_, rfl⟩
  | .lst _, _ => ⟨_, rfl⟩
theorem plains_mem : ∀ {ds : List D} {d : D}, plains ds = true → d ∈ ds → plain d = true
  | e :: ds, d, h, m => by
    have h' : plain e = true ∧ plains ds = true := Bool.and_eq_true_iff.mp h
    rcases List.mem_cons.mp m with q | q
    · subst q; exact h'.1
    · exact plains_mem h'.2 q
theorem deps_mem : ∀ {ds : List D} {d : D}, d ∈ ds → dep d ≤ deps ds
  | e :: ds, d, m => by
    have h : deps (e :: ds) = max (dep e) (deps ds) := rfl
    rw [h]
    rcases List.mem_cons.mp m with q | q
    · subst q; omega
    · have := deps_mem q; omega
theorem zip_self (P : D → Prop) : ∀ (ds : List D), (∀ d, d ∈ ds → P d) → All2 (fun d e => e = .bl true ∧ ∃ a, d = .tup [a, a] ∧ P a) (zipD ds ds) (List.replicate ds.length (.bl true))
  | [], _ => .nil
  | d :: ds, h => .cons ⟨rfl, d, rfl, h d List.mem_cons_self⟩ (zip_self P ds fun e he => h e (List.mem_cons_of_mem _ he))
theorem hw_same {n : Nat} {sr : WF} (hs : ∀ d, plain d = true → dep d < n → ∀ M k x, k (.bl true) M → sr [d, d] M k x) (ds : List D) (M : MH) (k : KD) (x : KE) (h : sp__law_same n ds M k x) : w__law_same sr (startD N__law_same ds) M (retE k x) := by
  obtain ⟨d, rfl, hp, hd, hk⟩ := h
  cases d with
  | non => exact Lt.now hk
  | bl b => cases b <;> exact Lt.now hk
  | int i =>
    walk_at "w"
    refine ⟨_, _, rfl, rfl, ?_⟩
    walk_at "w"
    exact Lt.as (e := .bl (decide (i = i))) hk (by simp)
  | str z =>
    walk_at "w"
    exact Lt.as (e := .bl (decide (z = z))) hk (by simp)
  | tup ds =>
    have hp' : plains ds = true := hp
    have hd' : deps ds + 1 ≤ n := hd
    walk_at "w"
    rw [show decide ((ds.length : Int) = (ds.length : Int)) = true from decide_eq_true rfl]
    walk_at "w"
    refine compD_all2 _ _ _ (zip_self (fun a => plain a = true ∧ dep a < n) ds fun a ha => ⟨plains_mem hp' ha, by have := deps_mem ha; omega⟩) trivial (fun d e r k' hk' => ?_) ?_
    · obtain ⟨rfl, a, rfl, h1, h2⟩ := r
      exact hs a h1 h2 _ _ _ hk'
    · walk_at "w"
      rw [blsOf_rep]
      exact Lt.as hk (by rw [all_rep])
  | lst ds =>
    have hp' : plains ds = true := hp
    have hd' : deps ds + 1 ≤ n := hd
    walk_at "w"
    rw [show decide ((ds.length : Int) = (ds.length : Int)) = true from decide_eq_true rfl]
    walk_at "w"
    refine compD_all2 _ _ _ (zip_self (fun a => plain a = true ∧ dep a < n) ds fun a ha => ⟨plains_mem hp' ha, by have := deps_mem ha; omega⟩) trivial (fun d e r k' hk' => ?_) ?_
    · obtain ⟨rfl, a, rfl, h1, h2⟩ := r
      exact hs a h1 h2 _ _ _ hk'
    · walk_at "w"
      rw [blsOf_rep]
      exact Lt.as hk (by rw [all_rep])
  | _ => cases hp
theorem hw_same0 (ds : List D) (M : MH) (k : KD) (x : KE) (_ : ds.length = 2) (h : sp__law_same 0 ds M k x) : w__law_same noSp (startD N__law_same ds) M (retE k x) := hw_same (n := 0) (fun d _ h => absurd h (Nat.not_lt_zero _)) ds M k x h
theorem hw_same1 (n : Nat) (ds : List D) (M : MH) (k : KD) (x : KE) (_ : ds.length = 2) (h : sp__law_same (n + 1) ds M k x) : w__law_same (sp__law_same n) (startD N__law_same ds) M (retE k x) := hw_same (n := n + 1) (fun d h1 h2 M k x hk => ⟨d, rfl, h1, Nat.le_of_lt_succ h2, hk⟩) ds M k x h
/-! ### lists walked -/
theorem each_map (f : D → D) : ∀ (ds : List D), All2 (fun d e => d ∈ ds ∧ e = f d) ds (ds.map f) := fun ds =>
  have h : ∀ es : List D, (∀ e, e ∈ es → e ∈ ds) → All2 (fun d e => d ∈ ds ∧ e = f d) es (es.map f) := fun es => by
    induction es with
    | nil => exact fun _ => .nil
    | cons a r ih => exact fun h => .cons ⟨h a List.mem_cons_self, rfl⟩ (ih fun e he => h e (List.mem_cons_of_mem _ he))
  h ds fun _ h => h
theorem blsOf_mapf (f : D → Bool) : ∀ ds : List D, blsOf (ds.map fun d => .bl (f d)) = some (ds.map f)
  | [] => rfl
  | d :: ds => by
    show (blsOf (ds.map fun d => .bl (f d))).map (f d :: ·) = _
    rw [blsOf_mapf f ds]
    rfl
theorem all_mapf (f : D → Bool) (ds : List D) : (ds.map f).all (fun b => b) = ds.all f := by
  induction ds with
  | nil => rfl
  | cons a r ih => rw [List.map_cons, List.all_cons, List.all_cons, ih]
theorem zip_map2 (f : Int → Int → Int) : ∀ (as ms : List Int), All2 (fun d e => ∃ a m, m ∈ ms ∧ d = .tup [.int a, .int m] ∧ e = .int (f a m)) (zipD (as.map .int) (ms.map .int)) ((List.zipWith f as ms).map .int) := fun as ms =>
  have h : ∀ as ns : List Int, (∀ n, n ∈ ns → n ∈ ms) → All2 (fun d e => ∃ a m, m ∈ ms ∧ d = .tup [.int a, .int m] ∧ e = .int (f a m)) (zipD (as.map .int) (ns.map .int)) ((List.zipWith f as ns).map .int) := fun as => by
    induction as with
    | nil => exact fun _ _ => .nil
    | cons a r ih =>
      intro ns h
      cases ns with
      | nil => exact .nil
      | cons n ns => exact .cons ⟨a, n, h n List.mem_cons_self, rfl, rfl⟩ (ih ns fun e he => h e (List.mem_cons_of_mem _ he))
  h as ms fun _ h => h
theorem ints_of_all2 {R : D → D → Prop} (h : ∀ d e, R d e → ∃ i, e = .int i) : ∀ {ds es : List D}, All2 R ds es → ∃ ns : List Int, es = ns.map .int ∧ ns.length = ds.length
  | _, _, .nil => ⟨[], rfl, rfl⟩
  | _, _, .cons r rs => by
    obtain ⟨i, rfl⟩ := h _ _ r
    obtain ⟨ns, rfl, hl⟩ := ints_of_all2 h rs
    exact ⟨i :: ns, rfl, congrArg (· + 1) hl⟩
end DL

namespace DL
open PySem PySem.Spec PyProof.Rows L2
/-! ### calls by position, of defs that gather what is left over -/
section
variable {X : Cx} {CX : CXT} {k : Nat} {f : Addr} {sp : Sp} {E : L2.St → XK} {x : Str} {p pos : Pos} {e : Expr} {es : List Expr} {t : TA}
theorem run_fnRS {pins : List (Addr × Obj)} {σ : L2.St} {H : Hp} {s : Shared} {Q : VK} {us : List Value} {vs : List V} (F : FnR X.prog X.w X.K X.mg X.base CX k f sp) (hr : Room k X.A) (hx : PassesAt CX X σ (E σ)) (I : Inv X pins σ H s) (r : Vals vs us) (h : sp vs H Q (E σ)) :
    wpAny (model X.prog X.w) X.A (call (.ref f) us) (EP X pins σ Q) X.xe s := by
  refine wpAny_call (codeAny_mono (F X.A X.stack s H us vs Q (E σ) hr I.env0 r h) fun r s' hq => ?_)
  cases r with
  | error e => exact hx pins H s e s' I hq
  | ok fl =>
    cases fl with
    | ret u => exact I.after hq
    | next => exact False.elim hq
    | brk => exact False.elim hq
    | cont => exact False.elim hq
theorem pe_callR (F : FnR X.prog X.w X.K X.mg X.base CX k f sp) (hr : Room k X.A) (hk : PySem.W.keepIn X.K (.ref f) = true) (hg : Gl X x) (hm : X.mg x = some (.ref f)) (hx : ∀ σ, PassesAt CX X σ (E σ)) (ha : PA X (e :: es) t) (hd : (x == ("__debug__" : Str)) = false := by decide)
    (he : starEach (e :: es) X.env = (false, eval e X.env) :: starEach es X.env := by rfl) (hpl : (backTo pos (starEach es X.env)).any (·.1) = false := by rfl) : PE X (.Call (.Name x p) (e :: es) [] pos) (tCallS sp E t) := by
  refine ⟨fun pins s σ H Q I h => ?_⟩
  refine wpAny_Call_Name_kw (ld_glob I hg hm ?_ hd)
  refine PySem.W.callWith_K (h₀ := X.base) I.ok.mod.kin hk (thn (ha.run pos pins s σ H _ I h) fun us s1 ⟨vs, H1, I1, r, q⟩ => ⟨I1.kIn, ?_⟩) he hpl
  exact run_fnRS F hr (hx σ) I1 r q
theorem pe_callRS (F : FnR X.prog X.w X.K X.mg X.base CX k f sp) (hr : Room k X.A) (hk : PySem.W.keepIn X.K (.ref f) = true) (hg : Gl X x) (hm : X.mg x = some (.ref f)) (hx : ∀ σ, PassesAt CX X σ (E σ)) (ha : PA X (e :: es) t) (hd : (x == ("__debug__" : Str)) = false := by decide)
    (he : starEach (e :: es) X.env = (false, eval e X.env) :: starEach es X.env := by rfl) (hst : (backTo pos (starEach es X.env)).any (·.1) = true := by rfl) : PE X (.Call (.Name x p) (e :: es) [] pos) (tCallS sp E t) := by
  refine ⟨fun pins s σ H Q I h => ?_⟩
  refine wpAny_Call_Name_kw (ld_glob I hg hm ?_ hd)
  refine PySem.W.callWith_S2 (h₀ := X.base) I.ok.mod.kin hk (thn (ha.run pos pins s σ H _ I h) fun us s1 ⟨vs, H1, I1, r, q⟩ => ⟨I1.kIn, ?_⟩) he hst
  exact run_fnRS F hr (hx σ) I1 r q
end
def spV (K : PySem.W.Frag) (m : Nat) (wf : WF) : Sp := fun vs H Q E => ∃ ws rest, vs = ws ++ rest ∧ ws.length = m ∧ rest.length ≤ sizeLine ∧ ∀ p, H p = Option.none → spD K (m + 1) wf (ws ++ [V.ref p]) (upd H p (.tup rest)) Q E
structure FnV (P : Program) (w : World) (K : PySem.W.Frag) (mg : Str → Option Value) (base : Heap) (f : Str) (k m : Nat) (wf : WF) : Prop where
  ex : ∃ a : Addr, FnR P w K mg base (L2.CX P w) k a (spV K m wf) ∧ mg f = some (.ref a) ∧ PySem.W.keepIn K (.ref a) = true
def wCallV (wf : WF) (m : Nat) (wa : WA) : WE := fun ρ M k x => wa ρ M (fun ds M1 => gd (Nat.ble m ds.length) (gd (Nat.ble ds.length 4096) (wf (ds.take m ++ [.tup (ds.drop m)]) M1 k x))) x
theorem spV_in {K : PySem.W.Frag} {m : Nat} {wf : WF} {H F : Hp} {M : MH} {vs : List V} {ds : List D} {k : KD} {x : KE} {Q : VK} {E : XK} (S : RepS K H F M) (r : Reps K F vs ds) (w : gd (Nat.ble m ds.length) (gd (Nat.ble ds.length 4096) (wf (ds.take m ++ [.tup (ds.drop m)]) M k x)))
    (pv : PostV K H F M k Q) (px : PostX K H F M x E) : spV K m wf vs H Q E := by
  obtain ⟨h1, w⟩ := gd_of w
  obtain ⟨h2, w⟩ := gd_of w
  have h1 := Nat.le_of_ble_eq_true h1
  have h2 := Nat.le_of_ble_eq_true h2
  have hl := r.length
  have hd : (ds.drop m).length ≤ sizeLine := le_line (by rw [List.length_drop]; omega)
  refine ⟨vs.take m, vs.drop m, (List.take_append_drop m vs).symm, by rw [List.length_take, hl]; omega, by rw [List.length_drop, hl]; have := le_line h2; omega, fun p hp => ?_⟩
  obtain ⟨S2, e2⟩ := S.lay hp (.tup (vs.drop m))
  exact ⟨_, M, _, k, x, S2, ((r.take m).mono e2.sm).snoc (.tup (SqT.of upd_same) ((r.drop m).mono e2.sm) hd), by rw [List.length_append, List.length_take, List.length_singleton]; omega, w, pv.on e2, px.on e2⟩
section
variable {X : Cx} {pos p : Pos} {f : Str} {e : Expr} {es : List Expr} {k m : Nat} {wf : WF} {wa : WA}
theorem de_callV (F : FnV X.prog X.w X.K X.mg X.base f k m wf) (hr : Room k X.A) (ha : DA X (e :: es) wa) (hg : Gl X f := by rfl) (hd : (f == ("__debug__" : Str)) = false := by decide)
    (he : starEach (e :: es) X.env = (false, eval e X.env) :: starEach es X.env := by rfl) (hpl : (backTo pos (starEach es X.env)).any (·.1) = false := by rfl) : DE X (.Call (.Name f p) (e :: es) [] pos) (wCallV wf m wa) := by
  obtain ⟨a, G, hm, hk⟩ := F.ex
  refine ⟨fun W tk => pe_imp (pe_callR G hr hk hg hm (fun σ => passAt tk σ) (ha.pa W tk) hd he hpl) fun σ H Q q => ?_⟩
  obtain ⟨F, M, ρ, k, x, S, R, w, pv, px⟩ := q
  exact ⟨F, M, ρ, _, x, S, R, w, fun vs ds H1 F1 M1 e1 S1 r1 w1 => spV_in S1 r1 w1 (pv.on e1) (px.on e1), px⟩
theorem de_callVS (F : FnV X.prog X.w X.K X.mg X.base f k m wf) (hr : Room k X.A) (ha : DA X (e :: es) wa) (hg : Gl X f := by rfl) (hd : (f == ("__debug__" : Str)) = false := by decide)
    (he : starEach (e :: es) X.env = (false, eval e X.env) :: starEach es X.env := by rfl) (hst : (backTo pos (starEach es X.env)).any (·.1) = true := by rfl) : DE X (.Call (.Name f p) (e :: es) [] pos) (wCallV wf m wa) := by
  obtain ⟨a, G, hm, hk⟩ := F.ex
  refine ⟨fun W tk => pe_imp (pe_callRS G hr hk hg hm (fun σ => passAt tk σ) (ha.pa W tk) hd he hst) fun σ H Q q => ?_⟩
  obtain ⟨F, M, ρ, k, x, S, R, w, pv, px⟩ := q
  exact ⟨F, M, ρ, _, x, S, R, w, fun vs ds H1 F1 M1 e1 S1 r1 w1 => spV_in S1 r1 w1 (pv.on e1) (px.on e1), px⟩
end
section
variable {P : Program} {w : World} {K : PySem.W.Frag} {mg : Str → Option Value} {base : Heap}
theorem fn_dV {x qual : Str} {st : Stmt} {f : Addr} {fd : FuncData} {N ps : List Str} {pv : Str} {k : Nat} {wf : WF} {wb : WS} (G : Fun K x qual st f fd) (S : FnScope N (ps ++ [pv]) (defScope st))
    (hbind : ∀ (kV doc pm cdv ct : Value) (an : Option Addr) (us rest : List Value), us.length = ps.length → bindArgs (PySem.W.fnOf x qual (defArgs st) (defBody st) (defScope st) .none kV doc pm an cdv ct) ⟨us ++ rest, []⟩ = (newTuple rest >>= fun t => pure (ps.zip us ++ [(pv, t)])))
    (hb : ∀ (cdv : Value) (A : Around) (outer : List Env) (s : Shared) (H : Hp) (E : XK), Room k (A.deeper (envOfC qual (defScope st) s.heap.objs.size f cdv)) → DSs (cxOf (L2.CX P w) P w K mg base N qual (defScope st) f cdv A outer s H E) (defBody st) wb)
    (hw : ∀ ds M k x, ds.length = ps.length + 1 → wf ds M k x → wb (startD N ds) M (retE k x)) : FnR P w K mg base (L2.CX P w) (k + 1) f (spV K ps.length wf) := by
  obtain ⟨oc, od, kV, doc, pm, an, cdv, ct, osl, rfl, lk, hcd⟩ := G.ex
  refine StX.fn_star (sp := spD K (ps.length + 1) wf) lk hcd S StX.cxUp (hbind kV doc pm cdv ct an) fun A outer s H vs Q E hr h => ?_
  have d := hb cdv A outer s H E hr
  refine ⟨_, d.ps (fun cls d _ H => E cls d H) (takes_of rfl rfl rfl rfl) (passes_of rfl), ?_⟩
  obtain ⟨F, M, ds, k, x, S1, r, hl, q, pv, px⟩ := h
  exact ⟨F, M, startD N ds, retE k x, S1, RepE.start r, hw ds M k x hl q, fun σ' ρ' H' F' M' e' S' R' w' => pv.lt _ _ _ _ _ e' S' .non w', pv.lt, fun _ _ _ _ _ _ _ _ z => z.elim, fun _ _ _ _ _ _ _ _ z => z.elim, fun σ => px.lt⟩
end
/-! ### a module's constant that is an int -/
theorem de_gint {X : Cx} {x : Str} {i : Int} {pos : Pos} (hm : ∃ t, X.mg x = some (.int i t)) (hg : Gl X x := by rfl) (hd : (x == ("__debug__" : Str)) = false := by decide) : DE X (.Name x pos) (wC (.int i)) := by
  obtain ⟨t, h⟩ := hm
  exact de_glob (v := V.int i) h ⟨t, rfl⟩ (fun _ => .int i) hg hd
theorem de_gstr {X : Cx} {x z : Str} {pos : Pos} (hm : ∃ t, X.mg x = some (.str z t)) (hg : Gl X x := by rfl) (hd : (x == ("__debug__" : Str)) = false := by decide) : DE X (.Name x pos) (wC (.str z)) := by
  obtain ⟨t, h⟩ := hm
  exact de_glob (v := V.str z) h ⟨t, rfl⟩ (fun _ => .str z) hg hd
end DL

namespace DL
open PySem PySem.Spec PyProof.Rows L2
local macro_rules | `(tactic| walk_at "w") => `(tactic| try conv => whnf)
/-! ### shared defs: their promises -/
abbrev tI (ns : List Int) : D := .tup (ns.map .int)
def fwd : List Int → Bool
  | [] => false
  | n :: r => if n = 0 then fwd r else decide (0 < n)
def placeD : D → Int → Bool
  | .tup xs, n => decide ((xs.length : Int) = n) && xs.all isInt
  | _, _ => false
/-- no greater than b either way -/
def Bd (b : Int) (ns : List Int) : Prop := ∀ n, n ∈ ns → -b ≤ n ∧ n ≤ b
def sp_is_whole : WF := sp__law_whole
def sp_is_place : WF := fun ds M k _ => ∃ d n, ds = [d, .int n] ∧ plain d = true ∧ k (.bl (placeD d n)) M
def sp_is_forward : WF := fun ds M k _ => ∃ ns, ds = [tI ns] ∧ k (.bl (fwd ns)) M
def sp_residue : WF := fun ds M k _ => ∃ as ms, ds = [tI as, tI ms] ∧ (∀ m, m ∈ ms → m ≠ 0) ∧ k (tI (List.zipWith Int.fmod as ms)) M
def sp__law_spot : WF := fun ds M k _ => ∃ a n, ds = [.ref a, .int n] ∧ 0 ≤ n ∧ n ≤ 1000 ∧ BoxAt M a ∧ ∀ ns M', (ns.length : Int) = n → Bd (10 ^ 40) ns → BoxAt M' a → Off a M M' → k (tI ns) M'
def sp__law_zero : WF := fun ds M k _ => ∃ n, ds = [.int n] ∧ 0 ≤ n ∧ n ≤ 1000 ∧ k (tI (List.replicate n.toNat 0)) M
def sp_origin : WF := sp__law_zero
def sp__law_forward : WF := sp_is_forward
def sp_add : WF := fun ds M k _ => ∃ (as : List Int) (bss : List (List Int)), ds = [tI as, .tup (bss.map tI)] ∧ k (tI (bss.foldl (List.zipWith (· + ·)) as)) M
def sp_scale : WF := fun ds M k _ => ∃ n ns, ds = [.int n, tI ns] ∧ (∀ x, x ∈ ns → IntMulOk n x) ∧ k (tI (ns.map (n * ·))) M
def sp_opposite : WF := fun ds M k _ => ∃ ns, ds = [tI ns] ∧ k (tI (ns.map (fun x => -x))) M
def sp__law_sum : WF := fun ds M k _ => ∃ as bs, ds = [tI as, tI bs] ∧ k (tI (List.zipWith (· + ·) as bs)) M
def sp__law_scaled : WF := sp_scale
def sp__law_num : WF := fun ds M k _ => ∃ a, ds = [.ref a] ∧ BoxAt M a ∧ ∀ v M', -(10 ^ 12) ≤ v → v ≤ 10 ^ 12 → BoxAt M' a → Off a M M' → k (.int v) M'
def sp__law_big : WF := fun ds M k _ => ∃ a, ds = [.ref a] ∧ BoxAt M a ∧ ∀ v M', 1 ≤ v → v ≤ 10 ^ 30 → BoxAt M' a → Off a M M' → k (.int v) M'
def N_is_whole : List Str := ["thing"]
def w_is_whole : WS := (wRet (wAndV (wCB rIsi (wCons (wVar 0) (wCons (wC (.ty .int)) wNil))) (wNotV (wCB rIsi (wCons (wVar 0) (wCons (wC (.ty .bool)) wNil))))))
def N_is_place : List Str := ["thing", "dimension", "one"]
def w_is_place : WS := (wRet (wAndV (wCB rIsi (wCons (wVar 0) (wCons (wC (.ty .tuple)) wNil))) (wAndV (wOp rEq (wCB rLn (wCons (wVar 0) wNil)) (wVar 1)) (wCB rAll (wCons (wLc (wiSeq (wVar 0)) (wgN 2) wYes (wCall sp_is_whole 1 (wCons (wVar 2) wNil)) [2]) wNil)))))
def N_is_forward : List Str := ["vector", "one"]
def w_is_forward : WS := (wSeq (wFor (wiSeq (wVar 0)) (wgN 1) (wIfS (wTest (wOp rNe (wVar 1) (wC (.int 0)))) (wRet (wOp rGt (wVar 1) (wC (.int 0)))) wNext))
  (wRet (wC (.bl false))))
def N_residue : List Str := ["place", "moduli", "one", "modulus"]
def w_residue : WS := (wRet (wCB rTuple (wCons (wLc (wiZip (wVar 0) (wVar 1)) (wgTup 2 (wgCons (wgN 2) (wgCons (wgN 3) wgNil))) wYes (wOp rMod (wVar 2) (wVar 3)) [2, 3]) wNil)))
def N__law_forward : List Str := ["_law_vector", "_law_signs", "_law_one"]
def w__law_forward : WS := (wSeq (wSet 1 (wLc (wiSeq (wVar 0)) (wgN 2) (wTest (wOp rNe (wVar 2) (wC (.int 0)))) (wVar 2) [2]))
  (wRet (wAndV (wOp rNe (wVar 1) (wLst wNil)) (wOp rGt (wIx (wVar 1) (wC (.int 0))) (wC (.int 0))))))
def N_origin : List Str := ["dimension"]
def w_origin : WS := (wRet (wOp rMul (wTup (wCons (wC (.int 0)) wNil)) (wVar 0)))
def N_add : List Str := ["one", "others", "result", "other", "a", "b"]
def w_add : WS := (wSeq (wSet 2 (wVar 0))
  (wSeq (wFor (wiSeq (wVar 1)) (wgN 3) (wSet 2 (wCB rTuple (wCons (wLc (wiZip (wVar 2) (wVar 3)) (wgTup 2 (wgCons (wgN 4) (wgCons (wgN 5) wgNil))) wYes (wOp rAdd (wVar 4) (wVar 5)) [4, 5]) wNil))))
  (wRet (wVar 2))))
def N_scale : List Str := ["number", "place", "one"]
def w_scale : WS := (wRet (wCB rTuple (wCons (wLc (wiSeq (wVar 1)) (wgN 2) wYes (wOp rMul (wVar 0) (wVar 2)) [2]) wNil)))
def N_opposite : List Str := ["place"]
def w_opposite : WS := (wRet (wCall sp_scale 2 (wCons (wUn rNeg (wC (.int 1))) (wCons (wVar 0) wNil))))
def N__law_big : List Str := ["_law_box", "_law_pick"]
def w__law_big : WS := (wSeq (wSet 1 (wCall sp__law_draw 2 (wCons (wVar 0) (wCons (wC (.int 6)) wNil))))
  (wSeq (wIfS (wTest (wOp rEq (wVar 1) (wC (.int 0)))) (wRet (wOp rPow (wC (.int 10)) (wC (.int 30)))) wNext)
  (wSeq (wIfS (wTest (wOp rLt (wVar 1) (wC (.int 3)))) (wRet (wOp rAdd (wC (.int 1)) (wCall sp__law_draw 2 (wCons (wVar 0) (wCons (wOp rPow (wC (.int 10)) (wC (.int 30))) wNil))))) wNext)
  (wRet (wOp rAdd (wC (.int 2)) (wCall sp__law_draw 2 (wCons (wVar 0) (wCons (wIx (wLst (wCons (wC (.int 3)) (wCons (wC (.int 40)) (wCons (wOp rPow (wC (.int 10)) (wC (.int 9))) wNil)))) (wOp rSub (wVar 1) (wC (.int 3)))) wNil))))))))
def N__law_num : List Str := ["_law_box", "_law_pick"]
def w__law_num : WS := (wSeq (wSet 1 (wCall sp__law_draw 2 (wCons (wVar 0) (wCons (wC (.int 8)) wNil))))
  (wSeq (wIfS (wTest (wOp rLt (wVar 1) (wC (.int 4)))) (wRet (wIx (wLst (wCons (wC (.int 0)) (wCons (wC (.int 1)) (wCons (wUn rNeg (wC (.int 1))) (wCons (wC (.int 2)) wNil))))) (wVar 1))) wNext)
  (wSeq (wIfS (wTest (wOp rLt (wVar 1) (wC (.int 6)))) (wRet (wOp rSub (wCall sp__law_draw 2 (wCons (wVar 0) (wCons (wC (.int 19)) wNil))) (wC (.int 9)))) wNext)
  (wRet (wOp rSub (wCall sp__law_draw 2 (wCons (wVar 0) (wCons (wOp rAdd (wOp rMul (wC (.int 2)) (wOp rPow (wC (.int 10)) (wC (.int 12)))) (wC (.int 1))) wNil))) (wOp rPow (wC (.int 10)) (wC (.int 12))))))))
def N__law_spot : List Str := ["_law_box", "_law_ways", "_law_k"]
def w__law_spot : WS := (wSeq (wIfS (wTest (wOp rEq (wCall sp__law_draw 2 (wCons (wVar 0) (wCons (wC (.int 3)) wNil))) (wC (.int 0)))) (wRet (wCB rTuple (wCons (wLc (wiR1 (wVar 1)) (wgN 2) wYes (wOp rSub (wCall sp__law_draw 2 (wCons (wVar 0) (wCons (wOp rAdd (wOp rMul (wC (.int 2)) (wOp rPow (wC (.int 10)) (wC (.int 40)))) (wC (.int 1))) wNil))) (wOp rPow (wC (.int 10)) (wC (.int 40)))) [2]) wNil))) wNext)
  (wRet (wCB rTuple (wCons (wLc (wiR1 (wVar 1)) (wgN 2) wYes (wOp rSub (wCall sp__law_draw 2 (wCons (wVar 0) (wCons (wC (.int 21)) wNil))) (wC (.int 10))) [2]) wNil))))
def N__law_sum : List Str := ["_law_one", "_law_other", "_law_a", "_law_b"]
def w__law_sum : WS := (wRet (wCB rTuple (wCons (wLc (wiZip (wVar 0) (wVar 1)) (wgTup 2 (wgCons (wgN 2) (wgCons (wgN 3) wgNil))) wYes (wOp rAdd (wVar 2) (wVar 3)) [2, 3]) wNil)))
def N__law_scaled : List Str := ["_law_number", "_law_place", "_law_a"]
def w__law_scaled : WS := (wRet (wCB rTuple (wCons (wLc (wiSeq (wVar 1)) (wgN 2) wYes (wOp rMul (wVar 0) (wVar 2)) [2]) wNil)))
def N__law_zero : List Str := ["_law_ways"]
def w__law_zero : WS := (wRet (wOp rMul (wTup (wCons (wC (.int 0)) wNil)) (wVar 0)))
theorem hw_is_whole (ds : List D) (M : MH) (k : KD) (x : KE) (hl : ds.length = 1) (h : sp_is_whole ds M k x) : w_is_whole (startD N_is_whole ds) M (retE k x) := hw__law_whole ds M k x hl h
theorem hw_is_place (ds : List D) (M : MH) (k : KD) (x : KE) (hl : ds.length = 2) (h : sp_is_place ds M k x) : w_is_place (startD N_is_place ds) M (retE k x) := by
  obtain ⟨d, n, rfl, hp, hk⟩ := h
  cases d with
  | tup xs =>
    have hp' : plains xs = true := hp
    walk_at "w"
    have e : placeD (.tup xs) n = (decide ((xs.length : Int) = n) && xs.all isInt) := rfl
    rw [e] at hk
    cases hd : decide ((xs.length : Int) = n)
    · rw [hd, Bool.false_and] at hk
      exact Lt.now hk
    · rw [hd, Bool.true_and] at hk
      walk_at "w"
      refine compD_all2 _ _ _ (each_map (fun d => .bl (isInt d)) xs) trivial (fun d e r k' hk' => ?_) ?_
      · obtain ⟨hm, rfl⟩ := r
        obtain ⟨q, hq⟩ := plain_kd (plains_mem hp' hm)
        exact ⟨d, q, rfl, hq, hk'⟩
      · walk_at "w"
        rw [blsOf_mapf]
        exact Lt.as hk (by rw [all_mapf])
  | _ => first | exact Lt.now hk | cases hp
theorem hw_is_forward (ds : List D) (M : MH) (k : KD) (x : KE) (hl : ds.length = 1) (h : sp_is_forward ds M k x) : w_is_forward (startD N_is_forward ds) M (retE k x) := by
  obtain ⟨ns, rfl, hk⟩ := h
  walk_at "w"
  refine forD_inv (fun ds ρ M' => M' = M ∧ ∃ cs o, ds = cs.map .int ∧ fwd cs = fwd ns ∧ ρ = [some (tI ns), o]) (fun _ _ _ _ => trivial) (fun ρ M' hI => ?_) (fun d r ρ M' nx hI hn => ?_) _ _ _ ⟨rfl, ns, _, rfl, rfl, rfl⟩
  · obtain ⟨rfl, cs, o, hc, hf, rfl⟩ := hI
    cases cs with
    | nil =>
      rw [← hf] at hk
      exact Lt.now hk
    | cons c cs => cases hc
  · obtain ⟨rfl, cs, o, hc, hf, rfl⟩ := hI
    cases cs with
    | nil => cases hc
    | cons c cs =>
      cases hc
      walk_at "w"
      cases h0 : decide (c = 0)
      · have h0' := of_decide_eq_false h0
        rw [← hf] at hk
        exact Lt.as hk (by show _ = D.bl (if c = 0 then _ else _); rw [if_neg h0'])
      · have h0' := of_decide_eq_true h0
        refine hn _ _ ⟨rfl, cs, _, rfl, ?_, rfl⟩
        rw [← hf]
        show _ = (if c = 0 then _ else _)
        rw [if_pos h0']
theorem hw_residue (ds : List D) (M : MH) (k : KD) (x : KE) (hl : ds.length = 2) (h : sp_residue ds M k x) : w_residue (startD N_residue ds) M (retE k x) := by
  obtain ⟨as, ms, rfl, h0, hk⟩ := h
  walk_at "w"
  refine compD_all2 _ _ _ (zip_map2 Int.fmod as ms) trivial (fun d e r k' hk' => ?_) (Lt.now hk)
  obtain ⟨a, m, hm, rfl, rfl⟩ := r
  exact ⟨h0 m hm, hk'⟩
theorem hw__law_zero (ds : List D) (M : MH) (k : KD) (x : KE) (hl : ds.length = 1) (h : sp__law_zero ds M k x) : w__law_zero (startD N__law_zero ds) M (retE k x) := by
  obtain ⟨n, rfl, h0, h1, hk⟩ := h
  walk_at "w"
  refine ⟨⟨h1, by omega, by decide⟩, ?_⟩
  exact Lt.as hk (by rw [flat1, tI, List.map_replicate])
theorem fwd_filter : ∀ ns : List Int, fwd ns = match ns.filter (fun n => !decide (n = 0)) with
    | [] => false
    | n :: _ => decide (0 < n)
  | [] => rfl
  | n :: r => by
    show (if n = 0 then fwd r else decide (0 < n)) = _
    by_cases h : n = 0
    · rw [if_pos h, fwd_filter r, List.filter_cons, if_neg (by simp [h])]
    · rw [if_neg h, List.filter_cons, if_pos (by simp [h])]
theorem filter_ints (ns : List Int) : ((ns.map D.int).filter (fun d => match d with
    | .int n => !decide (n = 0)
    | _ => false)).map (fun d => d) = (ns.filter (fun n => !decide (n = 0))).map .int := by
  rw [List.map_id']
  induction ns with
  | nil => rfl
  | cons n r ih =>
    rw [List.map_cons, List.filter_cons, List.filter_cons]
    cases h : decide (n = 0)
    · have q : (!false) = true := rfl
      simp only [h]
      rw [if_pos q, if_pos q, List.map_cons, ih]
    · have q : ¬ (!true) = true := by decide
      simp only [h]
      rw [if_neg q, if_neg q, ih]
theorem hw__law_forward (ds : List D) (M : MH) (k : KD) (x : KE) (hl : ds.length = 1) (h : sp__law_forward ds M k x) : w__law_forward (startD N__law_forward ds) M (retE k x) := by
  obtain ⟨ns, rfl, hk⟩ := h
  walk_at "w"
  refine compD_filter (fun d => match d with
    | .int n => !decide (n = 0)
    | _ => false) (fun d => d) _ trivial (fun d hd k1 k2 h1 h2 => ?_) ?_
  · obtain ⟨n, _, rfl⟩ := List.mem_map.mp hd
    walk_at "w"
    cases h0 : decide (n = 0)
    · exact h1 (by show (!decide (n = 0)) = true; rw [h0]; rfl)
    · exact h2 (by show (!decide (n = 0)) = false; rw [h0]; rfl)
  · rw [filter_ints]
    rw [fwd_filter] at hk
    generalize ns.filter (fun n => !decide (n = 0)) = fs at hk
    walk_at "w"
    refine rNeP_lays (layss_map .int (fun _ => rfl) fs) rfl ?_ (by show deps (fs.map .int) + 1 ≤ 64; have := deps_map D.int (n := 0) (fun _ => Nat.le_refl _) fs; omega)
    rw [eqD_nil]
    cases fs with
    | nil => exact Lt.now hk
    | cons c cs => walk_at "w"; rw [List.map_cons, atI_cons0]; exact Lt.now hk

theorem ints_bd {lo hi : Int} {R : D → D → Prop} (h : ∀ d e, R d e → ∃ i, e = .int i ∧ lo ≤ i ∧ i ≤ hi) : ∀ {ds es : List D}, All2 R ds es → ∃ ns : List Int, es = ns.map .int ∧ ns.length = ds.length ∧ ∀ n, n ∈ ns → lo ≤ n ∧ n ≤ hi
  | _, _, .nil => ⟨[], rfl, rfl, fun _ h => nomatch h⟩
  | _, _, .cons r rs => by
    obtain ⟨i, rfl, hi⟩ := h _ _ r
    obtain ⟨ns, rfl, hl, hn⟩ := ints_bd h rs
    exact ⟨i :: ns, rfl, congrArg (· + 1) hl, fun n hm => by
      rcases List.mem_cons.mp hm with e | e
      · subst e; exact hi
      · exact hn n e⟩
theorem hw__law_spot (ds : List D) (M : MH) (k : KD) (x : KE) (hl : ds.length = 2) (h : sp__law_spot ds M k x) : w__law_spot (startD N__law_spot ds) M (retE k x) := by
  obtain ⟨a, n, rfl, h0, h1, hB, hk⟩ := h
  walk_at "w"
  refine ⟨_, _, rfl, by decide, by decide, hB, fun v M1 _ _ hB1 hO1 => ?_⟩
  walk_at "w"
  cases hv : decide (v = 0)
  · walk_at "w"
    refine ⟨by omega, by omega, ?_⟩
    refine compD_draw (fun M' => BoxAt M' a ∧ Off a M M') (fun d e => ∃ i, e = .int i ∧ -(10 ^ 40) ≤ i ∧ i ≤ 10 ^ 40) (fun _ _ => trivial) _ ⟨hB1, hO1⟩ (fun d hd M' k' hI hk' => ?_) (fun es M' hA hI => ?_)
    · walk_at "w"
      refine ⟨_, _, rfl, by decide, by decide, hI.1, fun v M1 v0 v1 hB1 hO1 => ?_⟩
      exact hk' _ _ ⟨_, rfl, by omega, by omega⟩ ⟨hB1, hI.2.trans hO1⟩
    · obtain ⟨ns, rfl, hl, hb⟩ := ints_bd (fun _ _ h => h) hA
      rw [intsFrom_len] at hl
      exact Lt.now (hk ns _ (by omega) hb hI.1 hI.2)
  · walk_at "w"
    refine ⟨by omega, by omega, ?_⟩
    refine compD_draw (fun M' => BoxAt M' a ∧ Off a M M') (fun d e => ∃ i, e = .int i ∧ -(10 ^ 40) ≤ i ∧ i ≤ 10 ^ 40) (fun _ _ => trivial) _ ⟨hB1, hO1⟩ (fun d hd M' k' hI hk' => ?_) (fun es M' hA hI => ?_)
    · walk_at "w"
      refine ⟨⟨by decide, by decide, by decide⟩, ?_⟩
      walk_at "w"
      refine ⟨mulOk_l (by decide) (by decide), ?_⟩
      walk_at "w"
      refine ⟨_, _, rfl, by decide, by decide, hI.1, fun v M1 v0 v1 hB1 hO1 => ?_⟩
      refine ⟨⟨by decide, by decide, by decide⟩, ?_⟩
      have e40 : (10 : Int) ^ (40 : Int).toNat = 10 ^ 40 := rfl
      rw [e40] at v1
      exact hk' _ _ ⟨_, rfl, by show _ ≤ v - 10 ^ 40; omega, by show v - 10 ^ 40 ≤ _; omega⟩ ⟨hB1, hI.2.trans hO1⟩
    · obtain ⟨ns, rfl, hl, hb⟩ := ints_bd (fun _ _ h => h) hA
      rw [intsFrom_len] at hl
      exact Lt.now (hk ns _ (by omega) hb hI.1 hI.2)
theorem hw_origin (ds : List D) (M : MH) (k : KD) (x : KE) (hl : ds.length = 1) (h : sp_origin ds M k x) : w_origin (startD N_origin ds) M (retE k x) := hw__law_zero ds M k x hl h
theorem hw_add (ds : List D) (M : MH) (k : KD) (x : KE) (hl : ds.length = 2) (h : sp_add ds M k x) : w_add (startD N_add ds) M (retE k x) := by
  obtain ⟨as, bss, rfl, hk⟩ := h
  walk_at "w"
  refine forD_inv (fun ds ρ M' => M' = M ∧ ∃ cs dss o3 o4 o5, ds = dss.map tI ∧ dss.foldl (List.zipWith (· + ·)) cs = bss.foldl (List.zipWith (· + ·)) as ∧ ρ = [some (tI as), some (.tup (bss.map tI)), some (tI cs), o3, o4, o5]) (fun _ _ _ _ => trivial) (fun ρ M' hI => ?_) (fun d r ρ M' nx hI hn => ?_) _ _ _ ⟨rfl, as, bss, _, _, _, rfl, rfl, rfl⟩
  · obtain ⟨rfl, cs, dss, o3, o4, o5, hd, hf, rfl⟩ := hI
    cases dss with
    | nil => exact Lt.as hk (by rw [← hf]; rfl)
    | cons c cs => cases hd
  · obtain ⟨rfl, cs, dss, o3, o4, o5, hd, hf, rfl⟩ := hI
    cases dss with
    | nil => cases hd
    | cons c dss =>
      cases hd
      walk_at "w"
      refine compD_all2 _ _ _ (zip_map2 (· + ·) cs c) trivial (fun d e r k' hk' => ?_) ?_
      · obtain ⟨a, m, hm, rfl, rfl⟩ := r
        exact hk'
      · exact hn _ _ ⟨rfl, List.zipWith (· + ·) cs c, dss, _, _, _, rfl, hf, rfl⟩
theorem each_int (f : Int → Int) : ∀ (ns : List Int), All2 (fun d e => ∃ n, n ∈ ns ∧ d = .int n ∧ e = .int (f n)) (ns.map .int) ((ns.map f).map .int) := fun ns =>
  have h : ∀ es : List Int, (∀ e, e ∈ es → e ∈ ns) → All2 (fun d e => ∃ n, n ∈ ns ∧ d = .int n ∧ e = .int (f n)) (es.map .int) ((es.map f).map .int) := fun es => by
    induction es with
    | nil => exact fun _ => .nil
    | cons a r ih => exact fun h => .cons ⟨a, h a List.mem_cons_self, rfl, rfl⟩ (ih fun e he => h e (List.mem_cons_of_mem _ he))
  h ns fun _ h => h
theorem hw_scale (ds : List D) (M : MH) (k : KD) (x : KE) (hl : ds.length = 2) (h : sp_scale ds M k x) : w_scale (startD N_scale ds) M (retE k x) := by
  obtain ⟨n, ns, rfl, hm, hk⟩ := h
  walk_at "w"
  refine compD_all2 _ _ _ (each_int (n * ·) ns) trivial (fun d e r k' hk' => ?_) (Lt.now hk)
  obtain ⟨m, hm', rfl, rfl⟩ := r
  exact ⟨hm m hm', hk'⟩
theorem hw__law_scaled (ds : List D) (M : MH) (k : KD) (x : KE) (hl : ds.length = 2) (h : sp__law_scaled ds M k x) : w__law_scaled (startD N__law_scaled ds) M (retE k x) := hw_scale ds M k x hl h
theorem hw_opposite (ds : List D) (M : MH) (k : KD) (x : KE) (hl : ds.length = 1) (h : sp_opposite ds M k x) : w_opposite (startD N_opposite ds) M (retE k x) := by
  obtain ⟨ns, rfl, hk⟩ := h
  walk_at "w"
  refine ⟨-1, ns, rfl, fun _ _ => mulOk_l (by decide) (by decide), ?_⟩
  have e : (ns.map fun x => -1 * x) = ns.map fun x => -x := by
    congr 1
    funext x
    omega
  rw [e]
  exact Lt.now hk
theorem hw__law_sum (ds : List D) (M : MH) (k : KD) (x : KE) (hl : ds.length = 2) (h : sp__law_sum ds M k x) : w__law_sum (startD N__law_sum ds) M (retE k x) := by
  obtain ⟨as, bs, rfl, hk⟩ := h
  walk_at "w"
  refine compD_all2 _ _ _ (zip_map2 (· + ·) as bs) trivial (fun d e r k' hk' => ?_) (Lt.now hk)
  obtain ⟨a, m, hm, rfl, rfl⟩ := r
  exact hk'
theorem hw__law_num (ds : List D) (M : MH) (k : KD) (x : KE) (hl : ds.length = 1) (h : sp__law_num ds M k x) : w__law_num (startD N__law_num ds) M (retE k x) := by
  obtain ⟨a, rfl, hB, hk⟩ := h
  walk_at "w"
  refine ⟨_, _, rfl, by decide, by decide, hB, fun v M1 v0 v1 hB1 hO1 => ?_⟩
  walk_at "w"
  cases h1 : decide (v < 4)
  · walk_at "w"
    cases h2 : decide (v < 6)
    · walk_at "w"
      refine ⟨⟨by decide, by decide, by decide⟩, ?_⟩
      walk_at "w"
      refine ⟨mulOk_l (by decide) (by decide), ?_⟩
      walk_at "w"
      refine ⟨_, _, rfl, by decide, by decide, hB1, fun u M2 u0 u1 hB2 hO2 => ?_⟩
      refine ⟨⟨by decide, by decide, by decide⟩, ?_⟩
      have e12 : (10 : Int) ^ (12 : Int).toNat = 10 ^ 12 := rfl
      rw [e12] at u1
      exact Lt.now (hk (u - 10 ^ 12) M2 (by omega) (by omega) hB2 (hO1.trans hO2))
    · walk_at "w"
      refine ⟨_, _, rfl, by decide, by decide, hB1, fun u M2 u0 u1 hB2 hO2 => ?_⟩
      exact Lt.now (hk (u - 9) M2 (by omega) (by omega) hB2 (hO1.trans hO2))
  · have h4 := of_decide_eq_true h1
    have hv : v = 0 ∨ v = 1 ∨ v = 2 ∨ v = 3 := by omega
    rcases hv with rfl | rfl | rfl | rfl
    · exact Lt.now (hk 0 M1 (by decide) (by decide) hB1 hO1)
    · exact Lt.now (hk 1 M1 (by decide) (by decide) hB1 hO1)
    · exact Lt.now (hk (-1) M1 (by decide) (by decide) hB1 hO1)
    · exact Lt.now (hk 2 M1 (by decide) (by decide) hB1 hO1)
theorem hw__law_big (ds : List D) (M : MH) (k : KD) (x : KE) (hl : ds.length = 1) (h : sp__law_big ds M k x) : w__law_big (startD N__law_big ds) M (retE k x) := by
  obtain ⟨a, rfl, hB, hk⟩ := h
  walk_at "w"
  refine ⟨_, _, rfl, by decide, by decide, hB, fun v M1 v0 v1 hB1 hO1 => ?_⟩
  walk_at "w"
  cases h0 : decide (v = 0)
  · have h0' := of_decide_eq_false h0
    walk_at "w"
    cases h1 : decide (v < 3)
    · have h1' := of_decide_eq_false h1
      walk_at "w"
      refine ⟨⟨by decide, by decide, by decide⟩, ?_⟩
      have hv : v = 3 ∨ v = 4 ∨ v = 5 := by omega
      rcases hv with rfl | rfl | rfl
      · walk_at "w"
        refine ⟨_, _, rfl, by decide, by decide, hB1, fun u M2 u0 u1 hB2 hO2 => ?_⟩
        exact Lt.now (hk (2 + u) M2 (by omega) (by omega) hB2 (hO1.trans hO2))
      · walk_at "w"
        refine ⟨_, _, rfl, by decide, by decide, hB1, fun u M2 u0 u1 hB2 hO2 => ?_⟩
        exact Lt.now (hk (2 + u) M2 (by omega) (by omega) hB2 (hO1.trans hO2))
      · walk_at "w"
        refine ⟨_, _, rfl, by decide, by decide, hB1, fun u M2 u0 u1 hB2 hO2 => ?_⟩
        have e9 : (10 : Int) ^ (9 : Int).toNat = 10 ^ 9 := rfl
        rw [e9] at u1
        exact Lt.now (hk (2 + u) M2 (by omega) (by omega) hB2 (hO1.trans hO2))
    · walk_at "w"
      refine ⟨⟨by decide, by decide, by decide⟩, ?_⟩
      walk_at "w"
      refine ⟨_, _, rfl, by decide, by decide, hB1, fun u M2 u0 u1 hB2 hO2 => ?_⟩
      have e30 : (10 : Int) ^ (30 : Int).toNat = 10 ^ 30 := rfl
      rw [e30] at u1
      exact Lt.now (hk (1 + u) M2 (by omega) (by omega) hB2 (hO1.trans hO2))
  · walk_at "w"
    refine ⟨⟨by decide, by decide, by decide⟩, ?_⟩
    exact Lt.now (hk (10 ^ 30) M1 (by decide) (by decide) hB1 hO1)
/-! ### what _law_same may be asked -/
structure Gd (n : Nat) (d : D) : Prop where
  p : plain d = true
  q : dep d ≤ n
structure GdL (n : Nat) (ds : List D) : Prop where
  p : plains ds = true
  q : deps ds ≤ n
theorem GdL.nil {n : Nat} : GdL n [] := ⟨rfl, Nat.zero_le _⟩
theorem GdL.cons {n : Nat} {d : D} {ds : List D} (h : Gd n d) (r : GdL n ds) : GdL n (d :: ds) := ⟨by show (plain d && plains ds) = true; rw [h.p, r.p]; rfl, by show max (dep d) (deps ds) ≤ n; have := h.q; have := r.q; omega⟩
theorem GdL.map {α : Type} {n : Nat} {f : α → D} (h : ∀ a, Gd n (f a)) (xs : List α) : GdL n (xs.map f) := ⟨plains_map f (fun a => (h a).p) xs, deps_map f (fun a => (h a).q) xs⟩
theorem GdL.mem {n : Nat} : ∀ {ds : List D}, (∀ d, d ∈ ds → Gd n d) → GdL n ds
  | [], _ => .nil
  | d :: ds, h => .cons (h d List.mem_cons_self) (GdL.mem fun e he => h e (List.mem_cons_of_mem _ he))
theorem GdL.app {n : Nat} : ∀ {ds es : List D}, GdL n ds → GdL n es → GdL n (ds ++ es)
  | [], _, _, h => h
  | d :: ds, es, h, h' => by
    have a : plain d = true ∧ plains ds = true := Bool.and_eq_true_iff.mp h.p
    have b : max (dep d) (deps ds) ≤ n := h.q
    exact .cons ⟨a.1, by omega⟩ (GdL.app ⟨a.2, by omega⟩ h')
theorem Gd.lst {n : Nat} {ds : List D} (h : GdL n ds) : Gd (n + 1) (.lst ds) := ⟨h.p, Nat.succ_le_succ h.q⟩
theorem Gd.tup {n : Nat} {ds : List D} (h : GdL n ds) : Gd (n + 1) (.tup ds) := ⟨h.p, Nat.succ_le_succ h.q⟩
theorem Gd.int {n : Nat} {i : Int} : Gd n (.int i) := ⟨rfl, Nat.zero_le _⟩
theorem Gd.bl {n : Nat} {i : Bool} : Gd n (.bl i) := ⟨rfl, Nat.zero_le _⟩
theorem Gd.str {n : Nat} {i : Str} : Gd n (.str i) := ⟨rfl, Nat.zero_le _⟩
theorem Gd.non {n : Nat} : Gd n .non := ⟨rfl, Nat.zero_le _⟩
theorem Gd.tI {n : Nat} {ns : List Int} : Gd (n + 1) (tI ns) := .tup (.map (fun _ => .int) ns)
theorem same_ex {a b : D} {n : Nat} {P : Prop} (e : a = b) (g : Gd n b) (h : P) : ∃ d, [a, b] = [d, d] ∧ plain d = true ∧ dep d ≤ n ∧ P := ⟨b, by rw [e], g.p, g.q, h⟩
theorem neg1_map (ns : List Int) : (ns.map fun x => -1 * x) = ns.map fun x => -x := by
  congr 1
  funext x
  omega
end DL

namespace DL
open PySem PySem.Spec PyProof.Rows L2
/-! ### x in xs: flat items; a text in a text -/
def flatD : D → Bool
  | .non => true | .bl _ => true | .int _ => true | .str _ => true
  | _ => false
def fV : D → V
  | .bl b => .bl b | .int i => .int i | .str x => .str x
  | _ => .non
theorem fV_of {K : PySem.W.Frag} {F : Hp} {v : V} {d : D} (r : Rep K F v d) (h : flatD d = true) : v = fV d ∧ flatV v = true := by
  cases d <;> first | (cases h; done) | (cases r; exact ⟨rfl, rfl⟩)
theorem fVs_of {K : PySem.W.Frag} {F : Hp} : ∀ {vs : List V} {ds : List D}, Reps K F vs ds → ds.all flatD = true → vs = ds.map fV ∧ vs.all flatV = true
  | _, _, .nil, _ => ⟨rfl, rfl⟩
  | _, _, .cons r rs, h => by
    rw [List.all_cons, Bool.and_eq_true] at h
    obtain ⟨a, b⟩ := fV_of r h.1
    obtain ⟨c, d⟩ := fVs_of rs h.2
    exact ⟨by rw [a, c]; rfl, by rw [List.all_cons, b, d]; rfl⟩
def inD (d : D) (ds : List D) : Bool := inV (fV d) (ds.map fV)
def occS (i j : Str) : Bool := !(Builtin.Str.occurrences j i 0 j.length 1).isEmpty
def rInB (g : Bool → Bool) : RD := fun d e M k => match e with
  | .lst ds => gd (flatD d && ds.all flatD) (k (.bl (g (inD d ds))) M)
  | .tup ds => gd (flatD d && ds.all flatD) (k (.bl (g (inD d ds))) M)
  | .ref a => ∃ ds, M a = some (.lst ds) ∧ gd (flatD d && ds.all flatD) (k (.bl (g (inD d ds))) M)
  | .str j => match d with
    | .str i => k (.bl (g (occS i j))) M
    | _ => False
  | _ => False
def rIn : RD := rInB (fun b => b)
def rNotIn : RD := rInB (fun b => !b)
section
variable {X : Cx}
theorem in_seq {K : PySem.W.Frag} {F H : Hp} {M : MH} (S : RepS K H F M) {g : Bool → Bool} {d e : D} {v u : V} {k : KD} (rd : Rep K F v d) (re : Rep K F u e) (h : rInB g d e M k) :
    (∃ p xs, u = .ref p ∧ (SqL K H p xs ∨ SqT K H p xs) ∧ flatV v = true ∧ xs.all flatV = true ∧ k (.bl (g (inV v xs))) M) ∨ ∃ i j, v = .str i ∧ u = .str j ∧ k (.bl (g (occS i j))) M := by
  cases e with
  | lst ds =>
    obtain ⟨h1, h2⟩ := gd_of h
    rw [Bool.and_eq_true] at h1
    cases re with
    | lst hq hr hl =>
    obtain ⟨a, b⟩ := fV_of rd h1.1
    obtain ⟨c, f⟩ := fVs_of hr h1.2
    exact .inl ⟨_, _, rfl, .inl (SqL.of (S.fz _ _ hq)), b, f, by rw [a, c]; exact h2⟩
  | tup ds =>
    obtain ⟨h1, h2⟩ := gd_of h
    rw [Bool.and_eq_true] at h1
    cases re with
    | tup hq hr hl =>
    obtain ⟨a, b⟩ := fV_of rd h1.1
    obtain ⟨c, f⟩ := fVs_of hr h1.2
    exact .inl ⟨_, _, rfl, .inr (seqT S.fz hq), b, f, by rw [a, c]; exact h2⟩
  | ref q =>
    obtain ⟨ds, hm, h⟩ := h
    obtain ⟨h1, h2⟩ := gd_of h
    rw [Bool.and_eq_true] at h1
    cases re
    obtain ⟨_, _, xs, hx, hr⟩ := S.mlst hm
    obtain ⟨a, b⟩ := fV_of rd h1.1
    obtain ⟨c, f⟩ := fVs_of hr h1.2
    exact .inl ⟨_, _, rfl, .inl (SqL.of hx), b, f, by rw [a, c]; exact h2⟩
  | str j =>
    cases d with
    | str i => cases rd; cases re; exact .inr ⟨_, _, rfl, rfl, h⟩
    | _ => exact h.elim
  | _ => exact h.elim
theorem od_in : OpD X (compareOp .In) rIn := by
  refine ⟨_, op_in_seq.or op_in_str, fun d e v u H F M k Q S rd re h pv => ?_⟩
  rcases in_seq S rd re h with ⟨p, xs, rfl, h1, h2, h3, h4⟩ | ⟨i, j, rfl, rfl, h4⟩
  · exact .inl ⟨p, xs, rfl, h1, h2, h3, pv.at S (.bl _) h4⟩
  · exact .inr ⟨i, j, rfl, rfl, pv.at S (.bl _) h4⟩
theorem od_notIn : OpD X (compareOp .NotIn) rNotIn := by
  refine ⟨_, op_notIn_seq.or op_notIn_str, fun d e v u H F M k Q S rd re h pv => ?_⟩
  rcases in_seq S rd re h with ⟨p, xs, rfl, h1, h2, h3, h4⟩ | ⟨i, j, rfl, rfl, h4⟩
  · exact .inl ⟨p, xs, rfl, h1, h2, h3, pv.at S (.bl _) h4⟩
  · exact .inr ⟨i, j, rfl, rfl, pv.at S (.bl _) h4⟩
end
theorem inD_strs (x : Str) (xs : List Str) : inD (.str x) (xs.map .str) = decide (x ∈ xs) := by
  unfold inD
  induction xs with
  | nil => rfl
  | cons y ys ih =>
    have e : inV (V.str x) ((y :: ys).map (fun z => fV (.str z))) = ((y == x) || inV (V.str x) (ys.map (fun z => fV (.str z)))) := rfl
    rw [List.map_map] at ih ⊢
    show inV (V.str x) ((y :: ys).map (fun z => fV (.str z))) = _
    have ih' : inV (V.str x) (ys.map (fun z => fV (.str z))) = decide (x ∈ ys) := ih
    rw [e, ih', Bool.eq_iff_iff]
    simp only [Bool.or_eq_true, beq_iff_eq, decide_eq_true_eq, List.mem_cons]
    exact or_congr eq_comm Iff.rfl
theorem flat_strs : ∀ xs : List Str, (xs.map D.str).all flatD = true
  | [] => rfl
  | _ :: xs => flat_strs xs
theorem occ_sign (c : Nat) (z : Str) : occS ⟨#[c]⟩ z = decide (c ∈ z.cps.toList) := PySem.StrLaws.found_one z c
/-! ### sep.join(xs) -/
def strsOf : List D → Option (List Str)
  | [] => some []
  | .str i :: r => (strsOf r).map (i :: ·)
  | _ => none
theorem strsOf_eq : ∀ {ds : List D} {ns : List Str}, strsOf ds = some ns → ds = ns.map .str
  | [], ns, h => by cases h; rfl
  | .str i :: r, ns, h => by
    obtain ⟨ms, h1, rfl⟩ := Option.map_eq_some_iff.mp (show (strsOf r).map (i :: ·) = some ns from h)
    rw [strsOf_eq h1]
    rfl
theorem strsOf_map : ∀ ns : List Str, strsOf (ns.map .str) = some ns
  | [] => rfl
  | n :: ns => by show (strsOf (ns.map .str)).map (n :: ·) = _; rw [strsOf_map ns]; rfl
def onStr (d : D) (p : Str → Prop) : Prop := match d with
  | .str z => p z
  | _ => False
def wJoin (wo we : WE) : WE := fun ρ M k x => wo ρ M (fun o M1 => onStr o fun a => we ρ M1 (fun d M2 => onSeq d fun es => onO (strsOf es) fun ys => (ys.map (·.length)).sum + ys.length * a.length ≤ 16777216 ∧ k (.str (Txt.join a ys)) M2) x) x
theorem de_join {X : Cx} {o e : Expr} {wo we : WE} {apos pos : Pos} (ho : DE X o wo) (he : DE X e we) (hs : starEach [e] X.env = [(false, eval e X.env)] := by rfl) (hbase : attributeBase o "join" X.env (eval o X.env) = eval o X.env := by rfl) (hline : (apos.endLine == pos.line) = true := by rfl) :
    DE X (.Call (.Attribute o "join" apos) [e] [] pos) (wJoin wo we) := by
  refine ⟨fun W tk => pe_imp (pe_join (ho.pe W tk) (he.pe W tk) hs hbase hline) fun σ H Q q => ?_⟩
  obtain ⟨F, M, ρ, k, x, S, R, w, pv, px⟩ := q
  refine ⟨F, M, ρ, _, x, S, R, w, fun v d H1 F1 M1 e1 S1 r1 w1 => ?_, px⟩
  cases d with
  | str a =>
    cases r1
    refine ⟨⟨a, rfl⟩, F1, M1, ρ, _, x, S1, R.mono e1.sm, w1, fun u e H2 F2 M2 e2 S2 r2 w2 => ?_, px.on e1⟩
    obtain ⟨p, xs, ds, rfl, hq, hr, hl, w3⟩ := seq_of r2 w2
    obtain ⟨ys, h1, h2, w4⟩ := onO_of w3
    rw [strsOf_eq h1] at hr
    have e := hr.strs
    subst e
    exact ⟨a, p, ys, rfl, rfl, hq.symm.imp S2.fz.seq (seqT S2.fz), h2, pv _ _ _ _ _ (e1.trans e2) S2 (.str _) w4⟩
  | _ => exact w1.elim
end DL

namespace DL
open PySem PySem.Spec PyProof.Rows L2
local macro_rules | `(tactic| walk_at "w") => `(tactic| try conv => whnf)
/-! ### code blocks -/
inductive Cd where
  | go (v : List Int) | put (n : Int) | ref (u : Bool) (nm : Str) | rep (t : Int) (b : List Cd)
mutual
def toD : Cd → D
  | .go v => .tup [.str "go", tI v]
  | .put n => .tup [.str "put", .int n]
  | .ref true nm => .tup [.str "undo", .str nm]
  | .ref false nm => .tup [.str "do", .str nm]
  | .rep t b => .tup [.str "repeat", .int t, .tup (toDs b)]
def toDs : List Cd → List D
  | [] => []
  | c :: r => toD c :: toDs r
end
theorem toDs_map : ∀ cs : List Cd, toDs cs = cs.map toD
  | [] => rfl
  | c :: r => by show toD c :: toDs r = _; rw [toDs_map r]; rfl
abbrev tB (cs : List Cd) : D := .tup (toDs cs)
/-- a name as the laws make them -/
def IsLab (z : Str) : Prop := 1 ≤ z.length ∧ z.length ≤ 8 ∧ ∀ c, c ∈ z.cps.toList → 97 ≤ c ∧ c ≤ 122
/-- code of depth n -/
inductive OkC (W : Nat) (N : List Str) (L : Nat) : Nat → Cd → Prop
  | go {n : Nat} {v : List Int} : v.length = W → Bd 4 v → OkC W N L n (.go v)
  | put {n : Nat} {i : Int} : -(10 ^ 12) ≤ i → i ≤ 10 ^ 12 → OkC W N L n (.put i)
  | ref {n : Nat} {u : Bool} {nm : Str} : nm ∈ N → OkC W N L n (.ref u nm)
  | rep {n : Nat} {t : Int} {b : List Cd} : -3 ≤ t → t ≤ 4 → b.length ≤ L → (∀ c, c ∈ b → OkC W N L n c) → OkC W N L (n + 1) (.rep t b)
def sp__law_arrow : WF := fun ds M k _ => ∃ a n, ds = [.ref a, .int n] ∧ 0 ≤ n ∧ n ≤ 1000 ∧ BoxAt M a ∧ ∀ v M', (v.length : Int) = n → Bd 4 v → BoxAt M' a → Off a M M' → k (tI v) M'
def sp__law_label : WF := fun ds M k _ => ∃ a, ds = [.ref a] ∧ BoxAt M a ∧ ∀ z M', IsLab z → BoxAt M' a → Off a M M' → k (.str z) M'
abbrev lS (xs : List Str) : D := .lst (xs.map .str)
def sp__law_labels : WF := fun ds M k _ => ∃ a n, ds = [.ref a, .int n] ∧ 0 ≤ n ∧ n ≤ 12 ∧ BoxAt M a ∧ ∀ xs M', (xs.length : Int) ≤ n → (0 < n → xs ≠ []) → xs.Nodup → (∀ z, z ∈ xs → IsLab z) → BoxAt M' a → Off a M M' → k (lS xs) M'
def CodeIn (n : Nat) (ds : List D) (M : MH) (p : Addr → Nat → List Str → Nat → Prop) : Prop := ∃ (a : Addr) (W : Nat) (N : List Str) (d L : Nat), ds = [.ref a, .int W, lS N, .int d, .int L] ∧ W ≤ 1000 ∧ N.length ≤ 4096 ∧ (∀ z, z ∈ N → PyData.strOk z = true) ∧ d ≤ n ∧ L ≤ 100 ∧ BoxAt M a ∧ p a W N L
def sp__law_code (n : Nat) : WF := fun ds M k _ => ∃ (a : Addr) (W : Nat) (N : List Str) (d L : Nat), ds = [.ref a, .int W, lS N, .int d, .int L] ∧ W ≤ 1000 ∧ N.length ≤ 4096 ∧ (∀ z, z ∈ N → PyData.strOk z = true) ∧ d ≤ n ∧ L ≤ 100 ∧ BoxAt M a ∧
  ∀ cs M', cs.length ≤ L → (∀ c, c ∈ cs → OkC W N L d c) → BoxAt M' a → Off a M M' → k (tB cs) M'
def sp__law_statement (n : Nat) : WF := fun ds M k _ => ∃ (a : Addr) (W : Nat) (N : List Str) (d L : Nat), ds = [.ref a, .int W, lS N, .int d, .int L] ∧ W ≤ 1000 ∧ N.length ≤ 4096 ∧ (∀ z, z ∈ N → PyData.strOk z = true) ∧ d ≤ n ∧ L ≤ 100 ∧ BoxAt M a ∧
  ∀ c M', OkC W N L d c → BoxAt M' a → Off a M M' → k (toD c) M'
def N__law_arrow : List Str := ["_law_box", "_law_ways", "_law_wide", "_law_k"]
def w__law_arrow : WS := (wSeq (wSet 2 (wIx (wLst (wCons (wC (.int 3)) (wCons (wC (.int 3)) (wCons (wC (.int 5)) (wCons (wC (.int 9)) wNil))))) (wCall sp__law_draw 2 (wCons (wVar 0) (wCons (wC (.int 4)) wNil)))))
  (wRet (wCB rTuple (wCons (wLc (wiR1 (wVar 1)) (wgN 3) wYes (wOp rSub (wCall sp__law_draw 2 (wCons (wVar 0) (wCons (wVar 2) wNil))) (wOp rFdiv (wVar 2) (wC (.int 2)))) [3]) wNil))))
def N__law_label : List Str := ["_law_box", "_law_k"]
def w__law_label : WS := (wRet (wJoin (wC (.str "")) (wLc (wiR1 (wOp rAdd (wC (.int 1)) (wCall sp__law_draw 2 (wCons (wVar 0) (wCons (wC (.int 8)) wNil))))) (wgN 1) wYes (wCall sp__law_any 2 (wCons (wVar 0) (wCons (wC (.str "abcdefghijklmnopqrstuvwxyz")) wNil))) [1])))
def N__law_labels : List Str := ["_law_box", "_law_many", "_law_found", "_law_k", "_law_name", "_law_spare"]
def w__law_labels : WS := (wSeq (wSet 2 (wLstM wNil))
  (wSeq (wFor (wiR1 (wVar 1)) (wgN 3) (wSeq (wSet 4 (wCall sp__law_label 1 (wCons (wVar 0) wNil)))
  (wSeq (wSet 5 (wOp rMul (wIx (wC (.str "abcdefghijkl")) (wVar 3)) (wC (.int 8))))
  (wIfS (wTest (wOp rNotIn (wVar 4) (wVar 2))) (wDrop (wApp (wVar 2) (wVar 4))) (wIfS (wTest (wOp rNotIn (wVar 5) (wVar 2))) (wDrop (wApp (wVar 2) (wVar 5))) wNext)))))
  (wRet (wVar 2))))
def N__law_statement : List Str := ["_law_box", "_law_ways", "_law_names", "_law_deep", "_law_most", "_law_pick", "_law_times"]
def w__law_statement (sr__law_code : WF) : WS := (wSeq (wSet 5 (wCall sp__law_draw 2 (wCons (wVar 0) (wCons (wC (.int 10)) wNil))))
  (wSeq (wIfS (wAnd (wTest (wOp rLt (wVar 5) (wC (.int 2)))) (wTest (wOp rGt (wVar 3) (wC (.int 0))))) (wSeq (wSet 6 (wIx (wLst (wCons (wC (.int 0)) (wCons (wC (.int 1)) (wCons (wC (.int 2)) (wCons (wC (.int 3)) (wCons (wUn rNeg (wC (.int 1))) (wCons (wUn rNeg (wC (.int 2))) (wCons (wUn rNeg (wC (.int 3))) (wCons (wC (.int 4)) wNil))))))))) (wCall sp__law_draw 2 (wCons (wVar 0) (wCons (wC (.int 8)) wNil)))))
  (wRet (wTup (wCons (wC (.str "repeat")) (wCons (wVar 6) (wCons (wCall sr__law_code 5 (wCons (wVar 0) (wCons (wVar 1) (wCons (wVar 2) (wCons (wOp rSub (wVar 3) (wC (.int 1))) (wCons (wVar 4) wNil)))))) wNil)))))) wNext)
  (wSeq (wIfS (wAnd (wTest (wOp rLt (wVar 5) (wC (.int 4)))) (wTest (wOp rNe (wVar 2) (wLst wNil)))) (wRet (wTup (wCons (wIx (wLst (wCons (wC (.str "do")) (wCons (wC (.str "undo")) wNil))) (wOp rSub (wVar 5) (wC (.int 2)))) (wCons (wCall sp__law_any 2 (wCons (wVar 0) (wCons (wVar 2) wNil))) wNil)))) wNext)
  (wSeq (wIfS (wTest (wOp rLt (wVar 5) (wC (.int 7)))) (wRet (wTup (wCons (wC (.str "go")) (wCons (wCall sp__law_arrow 2 (wCons (wVar 0) (wCons (wVar 1) wNil))) wNil)))) wNext)
  (wRet (wTup (wCons (wC (.str "put")) (wCons (wCall sp__law_num 1 (wCons (wVar 0) wNil)) wNil))))))))
def N__law_code : List Str := ["_law_box", "_law_ways", "_law_names", "_law_deep", "_law_most", "_law_k"]
def w__law_code (sr__law_statement : WF) : WS := (wRet (wCB rTuple (wCons (wLc (wiR1 (wCall sp__law_draw 2 (wCons (wVar 0) (wCons (wOp rAdd (wVar 4) (wC (.int 1))) wNil)))) (wgN 5) wYes (wCall sr__law_statement 5 (wCons (wVar 0) (wCons (wVar 1) (wCons (wVar 2) (wCons (wVar 3) (wCons (wVar 4) wNil)))))) [5]) wNil)))
def N_names_in : List Str := ["block", "found", "statement", "names", "name"]
def w_names_in (sr : WF) : WS := (wSeq (wSet 1 (wLstM wNil))
  (wSeq (wFor (wiSeq (wVar 0)) (wgN 2) (wSeq (wSet 3 (wLst wNil))
  (wSeq (wIfS (wTest (wOp rEq (wIx (wVar 2) (wC (.int 0))) (wC (.str "repeat")))) (wSet 3 (wCall sr 1 (wCons (wIx (wVar 2) (wC (.int 2))) wNil))) (wIfS (wTest (wOp rIn (wIx (wVar 2) (wC (.int 0))) (wTup (wCons (wC (.str "do")) (wCons (wC (.str "undo")) wNil))))) (wSet 3 (wLst (wCons (wIx (wVar 2) (wC (.int 1))) wNil))) wNext))
  (wFor (wiSeq (wVar 3)) (wgN 4) (wIfS (wTest (wOp rNotIn (wVar 4) (wVar 1))) (wDrop (wApp (wVar 1) (wVar 4))) wNext)))))
  (wRet (wVar 1))))
def N_renamed : List Str := ["block", "old", "new", "result", "statement"]
def w_renamed (sr : WF) : WS := (wSeq (wSet 3 (wLstM wNil))
  (wSeq (wFor (wiSeq (wVar 0)) (wgN 4) (wIfS (wTest (wOp rEq (wIx (wVar 4) (wC (.int 0))) (wC (.str "repeat")))) (wDrop (wApp (wVar 3) (wTup (wCons (wC (.str "repeat")) (wCons (wIx (wVar 4) (wC (.int 1))) (wCons (wCall sr 3 (wCons (wIx (wVar 4) (wC (.int 2))) (wCons (wVar 1) (wCons (wVar 2) wNil)))) wNil)))))) (wIfS (wAnd (wTest (wOp rIn (wIx (wVar 4) (wC (.int 0))) (wTup (wCons (wC (.str "do")) (wCons (wC (.str "undo")) wNil))))) (wTest (wOp rEq (wIx (wVar 4) (wC (.int 1))) (wVar 1)))) (wDrop (wApp (wVar 3) (wTup (wCons (wIx (wVar 4) (wC (.int 0))) (wCons (wVar 2) wNil))))) (wDrop (wApp (wVar 3) (wVar 4))))))
  (wFrz 3 (wRet (wCB rTuple (wCons (wVar 3) wNil))))))
def N__law_all_names : List Str := ["_law_block", "_law_found", "_law_one", "_law_inner"]
def w__law_all_names (sr : WF) : WS := (wSeq (wSet 1 (wLst wNil))
  (wSeq (wFor (wiSeq (wVar 0)) (wgN 2) (wSeq (wSet 3 (wOp rMul (wLst (wCons (wIx (wVar 2) (wC (.int 1))) wNil)) (wCB rInt1 (wCons (wOp rIn (wIx (wVar 2) (wC (.int 0))) (wTup (wCons (wC (.str "do")) (wCons (wC (.str "undo")) wNil)))) wNil))))
  (wSet 1 (wOp rAdd (wVar 1) (wIf (wTest (wOp rEq (wIx (wVar 2) (wC (.int 0))) (wC (.str "repeat")))) (wCall sr 1 (wCons (wIx (wVar 2) (wC (.int 2))) wNil)) (wVar 3))))))
  (wRet (wVar 1))))
def N__law_swapped : List Str := ["_law_block", "_law_old", "_law_new", "_law_found", "_law_one"]
def w__law_swapped (sr : WF) : WS := (wSeq (wSet 3 (wLstM wNil))
  (wSeq (wFor (wiSeq (wVar 0)) (wgN 4) (wIfS (wTest (wOp rEq (wIx (wVar 4) (wC (.int 0))) (wC (.str "repeat")))) (wDrop (wApp (wVar 3) (wTup (wCons (wC (.str "repeat")) (wCons (wIx (wVar 4) (wC (.int 1))) (wCons (wCall sr 3 (wCons (wIx (wVar 4) (wC (.int 2))) (wCons (wVar 1) (wCons (wVar 2) wNil)))) wNil)))))) (wDrop (wApp (wVar 3) (wIf (wAnd (wTest (wOp rIn (wIx (wVar 4) (wC (.int 0))) (wTup (wCons (wC (.str "do")) (wCons (wC (.str "undo")) wNil))))) (wTest (wOp rEq (wIx (wVar 4) (wC (.int 1))) (wVar 1)))) (wTup (wCons (wIx (wVar 4) (wC (.int 0))) (wCons (wVar 2) wNil))) (wVar 4))))))
  (wFrz 3 (wRet (wCB rTuple (wCons (wVar 3) wNil))))))
theorem hw__law_arrow (ds : List D) (M : MH) (k : KD) (x : KE) (hl : ds.length = 2) (h : sp__law_arrow ds M k x) : w__law_arrow (startD N__law_arrow ds) M (retE k x) := by
  obtain ⟨a, n, rfl, h0, h1, hB, hk⟩ := h
  walk_at "w"
  refine ⟨_, _, rfl, by decide, by decide, hB, fun v M1 v0 v1 hB1 hO1 => ?_⟩
  have hv : v = 0 ∨ v = 1 ∨ v = 2 ∨ v = 3 := by omega
  -- the rest, at each width
  have rest : ∀ (wd : Int) , 3 ≤ wd → wd ≤ 9 → wd.natAbs.log2 < 9000 → (∀ u : Int, 0 ≤ u → u < wd → -4 ≤ u - wd.fdiv 2 ∧ u - wd.fdiv 2 ≤ 4) → wRet (wCB rTuple (wCons (wLc (wiR1 (wVar 1)) (wgN 3) wYes (wOp rSub (wCall sp__law_draw 2 (wCons (wVar 0) (wCons (wVar 2) wNil))) (wOp rFdiv (wVar 2) (wC (.int 2)))) [3]) wNil))
      [some (.ref a), some (.int n), some (.int wd), none] M1 (retE k x) := by
    intro wd w3 w9 wl hw
    walk_at "w"
    refine ⟨by omega, by omega, ?_⟩
    refine compD_draw (fun M' => BoxAt M' a ∧ Off a M M') (fun d e => ∃ i, e = .int i ∧ -4 ≤ i ∧ i ≤ 4) (fun _ _ => trivial) _ ⟨hB1, hO1⟩ (fun d hd M' k' hI hk' => ?_) (fun es M' hA hI => ?_)
    · walk_at "w"
      refine ⟨_, _, rfl, by omega, wl, hI.1, fun u M2 u0 u1 hB2 hO2 => ?_⟩
      walk_at "w"
      refine ⟨⟨by decide, by decide⟩, ?_⟩
      exact hk' _ _ ⟨_, rfl, (hw u u0 u1).1, (hw u u0 u1).2⟩ ⟨hB2, hI.2.trans hO2⟩
    · obtain ⟨ns, rfl, hl, hb⟩ := ints_bd (fun _ _ h => h) hA
      rw [intsFrom_len] at hl
      exact Lt.now (hk ns _ (by omega) hb hI.1 hI.2)
  rcases hv with rfl | rfl | rfl | rfl
  · exact rest 3 (by decide) (by decide) (by decide) (fun u h0 h1 => by rw [show (3 : Int).fdiv 2 = 1 from rfl]; omega)
  · exact rest 3 (by decide) (by decide) (by decide) (fun u h0 h1 => by rw [show (3 : Int).fdiv 2 = 1 from rfl]; omega)
  · exact rest 5 (by decide) (by decide) (by decide) (fun u h0 h1 => by rw [show (5 : Int).fdiv 2 = 2 from rfl]; omega)
  · exact rest 9 (by decide) (by decide) (by decide) (fun u h0 h1 => by rw [show (9 : Int).fdiv 2 = 4 from rfl]; omega)
theorem joinL_nil : ∀ ps : List (List Nat), TL.joinL [] ps = ps.flatten
  | [] => rfl
  | [p] => by simp [TL.joinL]
  | p :: q :: r => by
    show p ++ ([] ++ TL.joinL [] (q :: r)) = _
    rw [joinL_nil (q :: r)]
    rfl
theorem flat_one (cs : List Nat) : (cs.map fun c => [c]).flatten = cs := by
  induction cs with
  | nil => rfl
  | cons c r ih => rw [List.map_cons, List.flatten_cons, ih]; rfl
theorem join_signs (cs : List Nat) : (Txt.join (Str.ofString "") (cs.map fun c => (⟨#[c]⟩ : Str))).cps.toList = cs := by
  show TL.tl (Txt.join (Str.ofString "") _) = cs
  unfold Txt.join
  rw [StrLaws.glued_eq_join, TL.tl_join]
  have e : TL.tl (Str.ofString "") = [] := by decide +kernel
  rw [e, joinL_nil, List.map_map]
  exact flat_one cs
theorem sum_ones (cs : List Nat) : ((cs.map fun c => (⟨#[c]⟩ : Str)).map (·.length)).sum = cs.length := by
  induction cs with
  | nil => rfl
  | cons c r ih => rw [List.map_cons, List.map_cons, List.sum_cons, ih, List.length_cons]; show 1 + _ = _; omega
theorem strsOf_signs (cs : List Nat) : strsOf (cs.map fun c => D.str ⟨#[c]⟩) = some (cs.map fun c => (⟨#[c]⟩ : Str)) := by
  have := strsOf_map (cs.map fun c => (⟨#[c]⟩ : Str))
  rw [List.map_map] at this
  exact this
theorem signs_of {R : D → D → Prop} {P : Nat → Prop} (h : ∀ d e, R d e → ∃ c, e = .str ⟨#[c]⟩ ∧ P c) : ∀ {ds es : List D}, All2 R ds es → ∃ cs : List Nat, es = cs.map (fun c => .str ⟨#[c]⟩) ∧ cs.length = ds.length ∧ ∀ c, c ∈ cs → P c
  | _, _, .nil => ⟨[], rfl, rfl, fun _ h => nomatch h⟩
  | _, _, .cons r rs => by
    obtain ⟨i, rfl, hi⟩ := h _ _ r
    obtain ⟨ns, rfl, hl, hn⟩ := signs_of h rs
    exact ⟨i :: ns, rfl, congrArg (· + 1) hl, fun n hm => by
      rcases List.mem_cons.mp hm with e | e
      · subst e; exact hi
      · exact hn n e⟩
theorem hw__law_label (ds : List D) (M : MH) (k : KD) (x : KE) (hl : ds.length = 1) (h : sp__law_label ds M k x) : w__law_label (startD N__law_label ds) M (retE k x) := by
  obtain ⟨a, rfl, hB, hk⟩ := h
  walk_at "w"
  refine ⟨_, _, rfl, by decide, by decide, hB, fun v M1 v0 v1 hB1 hO1 => ?_⟩
  refine ⟨by omega, by omega, ?_⟩
  refine compD_draw (fun M' => BoxAt M' a ∧ Off a M M') (fun d e => ∃ c, e = .str ⟨#[c]⟩ ∧ 97 ≤ c ∧ c ≤ 122) (fun _ _ => trivial) _ ⟨hB1, hO1⟩ (fun d hd M' k' hI hk' => ?_) (fun es M' hA hI => ?_)
  · walk_at "w"
    refine ⟨_, _, _, rfl, rfl, by decide, by decide, hI.1, fun d M2 hd hB2 hO2 => ?_⟩
    obtain ⟨c, hc, rfl⟩ := List.mem_map.mp hd
    have hr : 97 ≤ c ∧ c ≤ 122 := (by decide +kernel : ∀ c, c ∈ (Str.ofString "abcdefghijklmnopqrstuvwxyz").cps.toList → 97 ≤ c ∧ c ≤ 122) c hc
    exact hk' _ _ ⟨c, rfl, hr⟩ ⟨hB2, hI.2.trans hO2⟩
  · obtain ⟨cs, rfl, hl, hc⟩ := signs_of (P := fun c => 97 ≤ c ∧ c ≤ 122) (fun _ _ h => h) hA
    rw [intsFrom_len] at hl
    walk_at "w"
    rw [strsOf_signs]
    refine ⟨by rw [sum_ones, List.length_map, show (Str.ofString "").length = 0 from by decide +kernel]; omega, ?_⟩
    have hj := join_signs cs
    refine Lt.now (hk _ _ ⟨?_, ?_, fun c hm => hc c (by rw [← hj]; exact hm)⟩ hI.1 hI.2)
    · show 1 ≤ (Txt.join (Str.ofString "") _).cps.size
      rw [← Array.length_toList, hj]
      omega
    · show (Txt.join (Str.ofString "") _).cps.size ≤ 8
      rw [← Array.length_toList, hj]
      omega
theorem sub_mdel (M : MH) (b : Addr) : Sub (mdel M b) M := fun c o q => by
  have hb : c ≠ b := fun e => by rw [e, mdel_same] at q; cases q
  rw [mdel_ne hb] at q
  exact q
/-- a list that was filled is handed back -/
theorem Lt.list {k : KD} {b : Addr} {ds : List D} {M : MH} (h1 : M b = some (.lst ds)) (h : k (.lst ds) (mdel M b)) : Lt k (.ref b) M := Lt.frz (sub_mdel M b) h1 mdel_same h
theorem IsLab.ok {z : Str} (h : IsLab z) : PyData.strOk z = true := by
  show z.cps.all (· < 0x110000) = true
  rw [Array.all_eq_true']
  intro c hc
  have := h.2.2 c (Array.mem_toList_iff.mpr hc)
  exact decide_eq_true (by omega)
theorem lab_spare {c : Nat} (h : 97 ≤ c ∧ c ≤ 122) : IsLab (strRep ⟨#[c]⟩ 8) := by
  have hl : (strRep ⟨#[c]⟩ 8).length = 8 := by rw [strRep_len]; rfl
  refine ⟨by omega, by omega, fun e he => ?_⟩
  rw [strRep_list] at he
  obtain ⟨l, h1, h2⟩ := List.mem_flatten.mp he
  have := (List.mem_replicate.mp h1).2
  subst this
  have : e = c := by simpa using h2
  omega
theorem intsFrom_nil {j : Int} {n : Nat} {d : D} {r : List D} (h : d :: r = intsFrom j n) : ∃ m, n = m + 1 ∧ d = .int j ∧ r = intsFrom (j + 1) m := by
  cases n with
  | zero => cases h
  | succ m => cases h; exact ⟨m, rfl, rfl, rfl⟩
theorem hw__law_labels (ds : List D) (M : MH) (k : KD) (x : KE) (hl : ds.length = 2) (h : sp__law_labels ds M k x) : w__law_labels (startD N__law_labels ds) M (retE k x) := by
  obtain ⟨a, n, rfl, h0, h1, hB, hk⟩ := h
  walk_at "w"
  intro b hb
  have hba := hB.ne hb
  walk_at "w"
  refine ⟨by omega, by omega, ?_⟩
  refine forD_inv (fun ds ρ M' => BoxAt M' a ∧ Off2 a b M M' ∧ ∃ (j : Nat) (xs : List Str), ds = intsFrom (j : Int) (n.toNat - j) ∧ j ≤ n.toNat ∧ xs.length ≤ j ∧ (0 < j → xs ≠ []) ∧ xs.Nodup ∧ (∀ z, z ∈ xs → IsLab z) ∧ M' b = some (.lst (xs.map .str)) ∧
    ∃ o3 o4 o5, ρ = [some (.ref a), some (.int n), some (.ref b), o3, o4, o5]) (fun _ _ _ _ => trivial) (fun ρ M' hI => ?_) (fun d r ρ M' nx hI hn => ?_) _ _ _
    ⟨hB.upd hba _, (Off2.updb (fun _ _ _ => rfl) _), 0, [], rfl, Nat.zero_le _, Nat.zero_le _, fun h => absurd h (Nat.lt_irrefl _), List.nodup_nil, fun _ h => (nomatch h), mupd_same, _, _, _, rfl⟩
  · obtain ⟨hB1, hO1, j, xs, hd, hj, hxl, hx0, hnd, hxs, hM, o3, o4, o5, rfl⟩ := hI
    have hj' : n.toNat - j = 0 := by
      have := congrArg List.length hd
      rw [intsFrom_len] at this
      exact this.symm
    walk_at "w"
    exact Lt.list hM (hk xs _ (by omega) (fun h => hx0 (by omega)) hnd hxs (hB1.del hba) (hO1.frz hb))
  · obtain ⟨hB1, hO1, j, xs, hd, hj, hxl, hx0, hnd, hxs, hM, o3, o4, o5, rfl⟩ := hI
    obtain ⟨m, hm, rfl, rfl⟩ := intsFrom_nil hd
    have hr : intsFrom ((j : Int) + 1) m = intsFrom ((j + 1 : Nat) : Int) (n.toNat - (j + 1)) := by
      rw [show n.toNat - (j + 1) = m by omega]
      rfl
    walk_at "w"
    refine ⟨a, rfl, hB1, fun z M2 hz hB2 hO2 => ?_⟩
    have hM2 := (hO2 b hba).trans hM
    have hO12 := hO1.on hO2
    walk_at "w"
    refine ⟨by rw [show (Str.ofString "abcdefghijkl").length = 12 from by decide +kernel, sizeLine_eq]; decide, ?_⟩
    obtain ⟨c, hc, e⟩ := atI_mem (xs := (Str.ofString "abcdefghijkl").cps.toList) (i := (j : Int)) (by omega) (by rw [show (Str.ofString "abcdefghijkl").cps.toList.length = 12 from by decide +kernel]; omega)
    have hcr : 97 ≤ c ∧ c ≤ 122 := (by decide +kernel : ∀ c, c ∈ (Str.ofString "abcdefghijkl").cps.toList → 97 ≤ c ∧ c ≤ 122) c hc
    have hsp := lab_spare hcr
    refine onO_mk e ?_
    walk_at "w"
    refine ⟨⟨by decide, by decide, by show 1 ≤ 1000; decide⟩, ?_⟩
    walk_at "w"
    refine ⟨_, hM2, ?_⟩
    refine gd_mk (by rw [flat_strs]; rfl) ?_
    have app : ∀ (w : Str) (o3 o4 o5 : Option D), w ∉ xs → IsLab w → nx [some (.ref a), some (.int n), some (.ref b), o3, o4, o5] (mupd M2 b (.lst (xs.map .str ++ [.str w]))) := by
      intro w o3 o4 o5 hw hl
      refine hn _ _ ⟨hB2.upd hba _, hO12.updb _, j + 1, xs ++ [w], hr, by omega, by rw [List.length_append, List.length_singleton]; omega, fun _ => by simp, ?_, ?_, by rw [mupd_same, List.map_append]; rfl, _, _, _, rfl⟩
      · rw [List.nodup_append]
        exact ⟨hnd, List.nodup_cons.mpr ⟨List.not_mem_nil, List.nodup_nil⟩, fun p hp q hq => by
          have : q = w := by simpa using hq
          subst this
          exact fun e => hw (e ▸ hp)⟩
      · intro z hz
        rcases List.mem_append.mp hz with h | h
        · exact hxs z h
        · have : z = w := by simpa using h
          subst this; exact hl
    have hlen : (xs.map D.str).length < sizeLine := by rw [List.length_map, sizeLine_eq]; omega
    show onBl (.bl (!inD (.str z) (xs.map .str))) _
    rw [inD_strs]
    by_cases hz1 : z ∈ xs
    · rw [decide_eq_true hz1]
      walk_at "w"
      refine ⟨_, hM2, ?_⟩
      refine gd_mk (by rw [flat_strs]; rfl) ?_
      show onBl (.bl (!inD (.str (strRep ⟨#[c]⟩ 8)) (xs.map .str))) _
      rw [inD_strs]
      by_cases hz2 : strRep ⟨#[c]⟩ 8 ∈ xs
      · rw [decide_eq_true hz2]
        exact hn _ _ ⟨hB2, hO12, j + 1, xs, hr, by omega, by omega, fun _ h => by rw [h] at hz1; exact absurd hz1 List.not_mem_nil, hnd, hxs, hM2, _, _, _, rfl⟩
      · rw [decide_eq_false hz2]
        walk_at "w"
        refine ⟨_, _, rfl, hM2, ?_⟩
        refine ⟨_, hM2, hlen, ?_⟩
        exact app _ _ _ _ hz2 hsp
    · rw [decide_eq_false hz1]
      walk_at "w"
      refine ⟨_, _, rfl, hM2, ?_⟩
      refine ⟨_, hM2, hlen, ?_⟩
      exact app _ _ _ _ hz1 hz
theorem lays_lS {N : List Str} (h : ∀ z, z ∈ N → PyData.strOk z = true) : lays (lS N) = true := by
  show layss (N.map .str) = true
  exact layss_mem fun d hd => by
    obtain ⟨z, hz, rfl⟩ := List.mem_map.mp hd
    exact h z hz
theorem dep_lS (N : List Str) : dep (lS N) ≤ 1 := Nat.succ_le_succ (deps_map D.str (n := 0) (fun _ => Nat.le_refl _) N)
/-- a statement, told what is beneath it -/
theorem hw_statement {sc : WF} (ds : List D) (M : MH) (k : KD) (x : KE) (n : Nat) (hs : ∀ (a : Addr) (W : Nat) (N : List Str) (d L : Nat) (M : MH) (k : KD) (x : KE), d + 1 ≤ n → W ≤ 1000 → N.length ≤ 4096 → (∀ z, z ∈ N → PyData.strOk z = true) → L ≤ 100 → BoxAt M a →
      (∀ cs M', cs.length ≤ L → (∀ c, c ∈ cs → OkC W N L d c) → BoxAt M' a → Off a M M' → k (tB cs) M') → sc [.ref a, .int W, lS N, .int d, .int L] M k x)
    (h : sp__law_statement n ds M k x) : w__law_statement sc (startD N__law_statement ds) M (retE k x) := by
  obtain ⟨a, W, N, d, L, rfl, hW, hN, hNs, hd, hL, hB, hk⟩ := h
  walk_at "w"
  refine ⟨_, _, rfl, by decide, by decide, hB, fun v M1 v0 v1 hB1 hO1 => ?_⟩
  walk_at "w"
  cases h2 : decide (v < 2)
  · walk_at "w"
    cases h4 : decide (v < 4)
    · walk_at "w"
      cases h7 : decide (v < 7)
      · walk_at "w"
        refine ⟨a, rfl, hB1, fun i M2 i0 i1 hB2 hO2 => ?_⟩
        exact Lt.now (hk (.put i) M2 (.put i0 i1) hB2 (hO1.trans hO2))
      · walk_at "w"
        refine ⟨a, W, rfl, by omega, by omega, hB1, fun u M2 ul ub hB2 hO2 => ?_⟩
        exact Lt.now (hk (.go u) M2 (.go (by omega) ub) hB2 (hO1.trans hO2))
    · walk_at "w"
      refine rNeP_lays (lays_lS hNs) rfl ?_ (by have := dep_lS N; omega)
      rw [eqD_nil]
      cases hn : (N.map D.str).isEmpty
      · have hv4 := of_decide_eq_true h4
        have hv : v = 0 ∨ v = 1 ∨ v = 2 ∨ v = 3 := by omega
        rcases hv with rfl | rfl | rfl | rfl
        · walk_at "w"
          refine ⟨a, lS N, N.map .str, rfl, rfl, (fun e => by rw [e] at hn; cases hn), by rw [List.length_map]; exact hN, hB1, fun y M2 hy hB2 hO2 => ?_⟩
          obtain ⟨nm, hnm, rfl⟩ := List.mem_map.mp hy
          exact Lt.now (hk (.ref false nm) M2 (.ref hnm) hB2 (hO1.trans hO2))
        · walk_at "w"
          refine ⟨a, lS N, N.map .str, rfl, rfl, (fun e => by rw [e] at hn; cases hn), by rw [List.length_map]; exact hN, hB1, fun y M2 hy hB2 hO2 => ?_⟩
          obtain ⟨nm, hnm, rfl⟩ := List.mem_map.mp hy
          exact Lt.now (hk (.ref true nm) M2 (.ref hnm) hB2 (hO1.trans hO2))
        · walk_at "w"
          refine ⟨a, lS N, N.map .str, rfl, rfl, (fun e => by rw [e] at hn; cases hn), by rw [List.length_map]; exact hN, hB1, fun y M2 hy hB2 hO2 => ?_⟩
          obtain ⟨nm, hnm, rfl⟩ := List.mem_map.mp hy
          exact Lt.now (hk (.ref false nm) M2 (.ref hnm) hB2 (hO1.trans hO2))
        · walk_at "w"
          refine ⟨a, lS N, N.map .str, rfl, rfl, (fun e => by rw [e] at hn; cases hn), by rw [List.length_map]; exact hN, hB1, fun y M2 hy hB2 hO2 => ?_⟩
          obtain ⟨nm, hnm, rfl⟩ := List.mem_map.mp hy
          exact Lt.now (hk (.ref true nm) M2 (.ref hnm) hB2 (hO1.trans hO2))
      · walk_at "w"
        cases h7 : decide (v < 7)
        · walk_at "w"
          refine ⟨a, rfl, hB1, fun i M2 i0 i1 hB2 hO2 => ?_⟩
          exact Lt.now (hk (.put i) M2 (.put i0 i1) hB2 (hO1.trans hO2))
        · walk_at "w"
          refine ⟨a, W, rfl, by omega, by omega, hB1, fun u M2 ul ub hB2 hO2 => ?_⟩
          exact Lt.now (hk (.go u) M2 (.go (by omega) ub) hB2 (hO1.trans hO2))
  · walk_at "w"
    cases hd1 : decide ((0 : Int) < d)
    · walk_at "w"
      cases h4 : decide (v < 4)
      · walk_at "w"
        cases h7 : decide (v < 7)
        · walk_at "w"
          refine ⟨a, rfl, hB1, fun i M2 i0 i1 hB2 hO2 => ?_⟩
          exact Lt.now (hk (.put i) M2 (.put i0 i1) hB2 (hO1.trans hO2))
        · walk_at "w"
          refine ⟨a, W, rfl, by omega, by omega, hB1, fun u M2 ul ub hB2 hO2 => ?_⟩
          exact Lt.now (hk (.go u) M2 (.go (by omega) ub) hB2 (hO1.trans hO2))
      · walk_at "w"
        refine rNeP_lays (lays_lS hNs) rfl ?_ (by have := dep_lS N; omega)
        rw [eqD_nil]
        cases hn : (N.map D.str).isEmpty
        · have hv4 := of_decide_eq_true h4
          have hv : v = 0 ∨ v = 1 ∨ v = 2 ∨ v = 3 := by omega
          rcases hv with rfl | rfl | rfl | rfl
          · walk_at "w"
            refine ⟨a, lS N, N.map .str, rfl, rfl, (fun e => by rw [e] at hn; cases hn), by rw [List.length_map]; exact hN, hB1, fun y M2 hy hB2 hO2 => ?_⟩
            obtain ⟨nm, hnm, rfl⟩ := List.mem_map.mp hy
            exact Lt.now (hk (.ref false nm) M2 (.ref hnm) hB2 (hO1.trans hO2))
          · walk_at "w"
            refine ⟨a, lS N, N.map .str, rfl, rfl, (fun e => by rw [e] at hn; cases hn), by rw [List.length_map]; exact hN, hB1, fun y M2 hy hB2 hO2 => ?_⟩
            obtain ⟨nm, hnm, rfl⟩ := List.mem_map.mp hy
            exact Lt.now (hk (.ref true nm) M2 (.ref hnm) hB2 (hO1.trans hO2))
          · walk_at "w"
            refine ⟨a, lS N, N.map .str, rfl, rfl, (fun e => by rw [e] at hn; cases hn), by rw [List.length_map]; exact hN, hB1, fun y M2 hy hB2 hO2 => ?_⟩
            obtain ⟨nm, hnm, rfl⟩ := List.mem_map.mp hy
            exact Lt.now (hk (.ref false nm) M2 (.ref hnm) hB2 (hO1.trans hO2))
          · walk_at "w"
            refine ⟨a, lS N, N.map .str, rfl, rfl, (fun e => by rw [e] at hn; cases hn), by rw [List.length_map]; exact hN, hB1, fun y M2 hy hB2 hO2 => ?_⟩
            obtain ⟨nm, hnm, rfl⟩ := List.mem_map.mp hy
            exact Lt.now (hk (.ref true nm) M2 (.ref hnm) hB2 (hO1.trans hO2))
        · walk_at "w"
          cases h7 : decide (v < 7)
          · walk_at "w"
            refine ⟨a, rfl, hB1, fun i M2 i0 i1 hB2 hO2 => ?_⟩
            exact Lt.now (hk (.put i) M2 (.put i0 i1) hB2 (hO1.trans hO2))
          · walk_at "w"
            refine ⟨a, W, rfl, by omega, by omega, hB1, fun u M2 ul ub hB2 hO2 => ?_⟩
            exact Lt.now (hk (.go u) M2 (.go (by omega) ub) hB2 (hO1.trans hO2))
    · walk_at "w"
      refine ⟨_, _, rfl, by decide, by decide, hB1, fun t M2 t0 t1 hB2 hO2 => ?_⟩
      have hd0 := of_decide_eq_true hd1
      have hd2 : ((d : Int) - 1) = ((d - 1 : Nat) : Int) := by omega
      have fin : ∀ (t : Int), -3 ≤ t → t ≤ 4 → sc [.ref a, .int W, lS N, .int ((d : Int) - 1), .int L] M2 (fun e M' => Lt k (.tup [.str "repeat", .int t, e]) M') (Ltx x) := by
        intro t t0 t1
        rw [hd2]
        refine hs a W N (d - 1) L M2 _ _ (by omega) hW hN hNs hL hB2 fun cs M3 hl hc hB3 hO3 => ?_
        have e : d = (d - 1) + 1 := by omega
        exact Lt.now (hk (.rep t cs) M3 (by rw [e]; exact .rep t0 t1 hl hc) hB3 ((hO1.trans hO2).trans hO3))
      have ht : t = 0 ∨ t = 1 ∨ t = 2 ∨ t = 3 ∨ t = 4 ∨ t = 5 ∨ t = 6 ∨ t = 7 := by omega
      rcases ht with rfl | rfl | rfl | rfl | rfl | rfl | rfl | rfl
      · walk_at "w"; exact fin 0 (by decide) (by decide)
      · walk_at "w"; exact fin 1 (by decide) (by decide)
      · walk_at "w"; exact fin 2 (by decide) (by decide)
      · walk_at "w"; exact fin 3 (by decide) (by decide)
      · walk_at "w"; exact fin (-1) (by decide) (by decide)
      · walk_at "w"; exact fin (-2) (by decide) (by decide)
      · walk_at "w"; exact fin (-3) (by decide) (by decide)
      · walk_at "w"; exact fin 4 (by decide) (by decide)
theorem hw_code {ss : WF} (ds : List D) (M : MH) (k : KD) (x : KE) (n : Nat) (hs : ∀ (a : Addr) (W : Nat) (N : List Str) (d L : Nat) (M : MH) (k : KD) (x : KE), d ≤ n → W ≤ 1000 → N.length ≤ 4096 → (∀ z, z ∈ N → PyData.strOk z = true) → L ≤ 100 → BoxAt M a →
      (∀ c M', OkC W N L d c → BoxAt M' a → Off a M M' → k (toD c) M') → ss [.ref a, .int W, lS N, .int d, .int L] M k x)
    (h : sp__law_code n ds M k x) : w__law_code ss (startD N__law_code ds) M (retE k x) := by
  obtain ⟨a, W, N, d, L, rfl, hW, hN, hNs, hd, hL, hB, hk⟩ := h
  walk_at "w"
  refine ⟨_, _, rfl, by omega, by have := log2_4096 (n := ((L : Int) + 1).natAbs) (by omega); exact this, hB, fun v M1 v0 v1 hB1 hO1 => ?_⟩
  refine ⟨by omega, by omega, ?_⟩
  refine compD_draw (fun M' => BoxAt M' a ∧ Off a M M') (fun _ e => ∃ c, e = toD c ∧ OkC W N L d c) (fun _ _ => trivial) _ ⟨hB1, hO1⟩ (fun _ _ M' k' hI hk' => ?_) (fun es M' hA hI => ?_)
  · walk_at "w"
    exact hs a W N d L M' _ _ hd hW hN hNs hL hI.1 fun c M2 hc hB2 hO2 => hk' _ _ ⟨c, rfl, hc⟩ ⟨hB2, hI.2.trans hO2⟩
  · have hcs : ∀ {ds es : List D}, All2 (fun _ e => ∃ c, e = toD c ∧ OkC W N L d c) ds es → ∃ cs : List Cd, es = toDs cs ∧ cs.length = ds.length ∧ ∀ c, c ∈ cs → OkC W N L d c := by
      intro ds es A
      induction A with
      | nil => exact ⟨[], rfl, rfl, fun _ h => nomatch h⟩
      | cons r _ ih =>
        obtain ⟨c, rfl, hc⟩ := r
        obtain ⟨cs, rfl, hl, hcs⟩ := ih
        exact ⟨c :: cs, rfl, congrArg (· + 1) hl, fun e he => by
          rcases List.mem_cons.mp he with q | q
          · subst q; exact hc
          · exact hcs e q⟩
    obtain ⟨cs, rfl, hl, hc⟩ := hcs hA
    rw [intsFrom_len] at hl
    exact Lt.now (hk cs M' (by omega) hc hI.1 hI.2)
theorem hw_statement0 (ds : List D) (M : MH) (k : KD) (x : KE) (_ : ds.length = 5) (h : sp__law_statement 0 ds M k x) : w__law_statement noSp (startD N__law_statement ds) M (retE k x) := hw_statement ds M k x 0 (fun _ _ _ _ _ _ _ _ h => absurd h (Nat.not_succ_le_zero _)) h
theorem hw_statement1 (n : Nat) (ds : List D) (M : MH) (k : KD) (x : KE) (_ : ds.length = 5) (h : sp__law_statement (n + 1) ds M k x) : w__law_statement (sp__law_code n) (startD N__law_statement ds) M (retE k x) :=
  hw_statement ds M k x (n + 1) (fun a W N d L M k x h1 h2 h3 h4 h5 h6 h7 => ⟨a, W, N, d, L, rfl, h2, h3, h4, Nat.le_of_succ_le_succ h1, h5, h6, h7⟩) h
theorem hw_code1 (n : Nat) (ds : List D) (M : MH) (k : KD) (x : KE) (_ : ds.length = 5) (h : sp__law_code n ds M k x) : w__law_code (sp__law_statement n) (startD N__law_code ds) M (retE k x) :=
  hw_code ds M k x n (fun a W N d L M k x h1 h2 h3 h4 h5 h6 h7 => ⟨a, W, N, d, L, rfl, h2, h3, h4, h1, h5, h6, h7⟩) h
end DL

namespace DL
open PySem PySem.Spec PyProof.Rows L2
local macro_rules | `(tactic| walk_at "w") => `(tactic| try conv => whnf)
/-! ### depth and size of blocks -/
mutual
def dC : Cd → Nat
  | .rep _ b => dCs b + 1
  | .go _ => 0 | .put _ => 0 | .ref _ _ => 0
def dCs : List Cd → Nat
  | [] => 0
  | c :: r => max (dC c) (dCs r)
end
mutual
def sz : Cd → Nat
  | .rep _ b => szs b + 1
  | .go _ => 1 | .put _ => 1 | .ref _ _ => 1
def szs : List Cd → Nat
  | [] => 0
  | c :: r => sz c + szs r
end
theorem sz_pos : ∀ c : Cd, 1 ≤ sz c
  | .rep _ b => Nat.succ_le_succ (Nat.zero_le _)
  | .go _ => Nat.le_refl _
  | .put _ => Nat.le_refl _
  | .ref _ _ => Nat.le_refl _
theorem len_szs : ∀ cs : List Cd, cs.length ≤ szs cs
  | [] => Nat.le_refl _
  | c :: r => by have := sz_pos c; have := len_szs r; show r.length + 1 ≤ sz c + szs r; omega
theorem dCs_le {n : Nat} : ∀ {cs : List Cd}, (∀ c, c ∈ cs → dC c ≤ n) → dCs cs ≤ n
  | [], _ => Nat.zero_le _
  | c :: r, h => by show max (dC c) (dCs r) ≤ n; have := h c List.mem_cons_self; have := dCs_le (n := n) (cs := r) fun e he => h e (List.mem_cons_of_mem _ he); omega
theorem szs_le {s : Nat} : ∀ {cs : List Cd}, (∀ c, c ∈ cs → sz c ≤ s) → szs cs ≤ cs.length * s
  | [], _ => Nat.zero_le _
  | c :: r, h => by
    show sz c + szs r ≤ (r.length + 1) * s
    have := h c List.mem_cons_self
    have := szs_le (s := s) (cs := r) fun e he => h e (List.mem_cons_of_mem _ he)
    rw [Nat.succ_mul]
    omega
def sBd (L : Nat) : Nat → Nat
  | 0 => 1
  | n + 1 => L * sBd L n + 1
theorem OkC.dep {W L : Nat} {N : List Str} {n : Nat} {c : Cd} (h : OkC W N L n c) : dC c ≤ n := by
  induction h with
  | go => exact Nat.zero_le _
  | put => exact Nat.zero_le _
  | ref => exact Nat.zero_le _
  | rep _ _ _ _ ih => exact Nat.succ_le_succ (dCs_le ih)
theorem OkC.size {W L : Nat} {N : List Str} {n : Nat} {c : Cd} (h : OkC W N L n c) : sz c ≤ sBd L n := by
  have one : ∀ n, 1 ≤ sBd L n := fun n => by cases n with | zero => exact Nat.le_refl _ | succ n => exact Nat.succ_le_succ (Nat.zero_le _)
  induction h with
  | go => exact one _
  | put => exact one _
  | ref => exact one _
  | rep _ _ hl _ ih => exact Nat.succ_le_succ (Nat.le_trans (szs_le ih) (Nat.mul_le_mul_right _ hl))
theorem deps_mem' {ds : List D} {d : D} (h : d ∈ ds) : dep d ≤ deps ds := deps_mem h
mutual
theorem gd_toD : ∀ (c : Cd), Gd (2 * dC c + 2) (toD c)
  | .go v => .tup (.cons .str (.cons .tI .nil))
  | .put n => .tup (.cons .str (.cons .int .nil))
  | .ref true nm => .tup (.cons .str (.cons .str .nil))
  | .ref false nm => .tup (.cons .str (.cons .str .nil))
  | .rep t b => by
    have h := gd_toDs b
    refine .tup (.cons .str (.cons .int (.cons ⟨h.p, ?_⟩ .nil)))
    show deps (toDs b) + 1 ≤ 2 * (dCs b + 1) + 1
    have := h.q
    omega
theorem gd_toDs : ∀ (cs : List Cd), GdL (2 * dCs cs + 2) (toDs cs)
  | [] => .nil
  | c :: r => by
    have h1 := gd_toD c
    have h2 := gd_toDs r
    have e : dCs (c :: r) = max (dC c) (dCs r) := rfl
    exact .cons ⟨h1.p, by have := h1.q; rw [e]; omega⟩ ⟨h2.p, by have := h2.q; rw [e]; omega⟩
end
theorem gd_tB {n : Nat} {cs : List Cd} (h : 2 * dCs cs + 3 ≤ n) : Gd n (tB cs) := ⟨(gd_toDs cs).p, by show deps _ + 1 ≤ n; have := (gd_toDs cs).q; omega⟩
/-! ### names -/
def addN (f : List Str) (x : Str) : List Str := if x ∈ f then f else f ++ [x]
def addAll (f xs : List Str) : List Str := xs.foldl addN f
mutual
def nmI : Cd → List Str
  | .rep _ b => nmIs [] b
  | .ref _ nm => [nm]
  | .go _ => [] | .put _ => []
def nmIs (f : List Str) : List Cd → List Str
  | [] => f
  | c :: r => nmIs (addAll f (nmI c)) r
end
mutual
def alN : Cd → List Str
  | .rep _ b => alNs b
  | .ref _ nm => [nm]
  | .go _ => [] | .put _ => []
def alNs : List Cd → List Str
  | [] => []
  | c :: r => alN c ++ alNs r
end
theorem mem_addN {f : List Str} {x y : Str} : y ∈ addN f x ↔ y ∈ f ∨ y = x := by
  unfold addN
  by_cases h : x ∈ f
  · rw [if_pos h]
    exact ⟨.inl, fun q => q.elim (fun q => q) (fun q => q ▸ h)⟩
  · rw [if_neg h]
    simp
theorem addAll_cons (f : List Str) (x : Str) (xs : List Str) : addAll f (x :: xs) = addAll (addN f x) xs := rfl
theorem addAll_app (f xs ys : List Str) : addAll f (xs ++ ys) = addAll (addAll f xs) ys := List.foldl_append
theorem mem_addAll {f xs : List Str} {y : Str} : y ∈ addAll f xs ↔ y ∈ f ∨ y ∈ xs := by
  induction xs generalizing f with
  | nil => simp [addAll]
  | cons x xs ih =>
    rw [addAll_cons, ih, mem_addN]
    simp [or_assoc]
theorem addAll_addN (f g : List Str) (x : Str) : addAll f (addN g x) = addN (addAll f g) x := by
  by_cases h : x ∈ g
  · have h' : x ∈ addAll f g := mem_addAll.mpr (.inr h)
    unfold addN
    rw [if_pos h, if_pos h']
  · have e : addN g x = g ++ [x] := by unfold addN; rw [if_neg h]
    rw [e, addAll_app]
    rfl
theorem addAll_addAll (f g xs : List Str) : addAll f (addAll g xs) = addAll (addAll f g) xs := by
  induction xs generalizing g with
  | nil => rfl
  | cons x xs ih => rw [addAll_cons, ih, addAll_addN, addAll_cons]
mutual
theorem nmI_al : ∀ c : Cd, nmI c = addAll [] (alN c)
  | .rep _ b => (nmIs_al [] b).trans rfl
  | .ref _ nm => rfl
  | .go _ => rfl
  | .put _ => rfl
theorem nmIs_al : ∀ (f : List Str) (cs : List Cd), nmIs f cs = addAll f (alNs cs)
  | _, [] => rfl
  | f, c :: r => by
    show nmIs (addAll f (nmI c)) r = addAll f (alN c ++ alNs r)
    rw [nmIs_al _ r, nmI_al c, addAll_app, addAll_addAll]
    rfl
end
theorem addN_len (f : List Str) (x : Str) : (addN f x).length ≤ f.length + 1 := by
  unfold addN
  by_cases h : x ∈ f
  · rw [if_pos h]; omega
  · rw [if_neg h, List.length_append]; exact Nat.le_refl _
theorem addAll_len (f xs : List Str) : (addAll f xs).length ≤ f.length + xs.length := by
  induction xs generalizing f with
  | nil => exact Nat.le_refl _
  | cons x xs ih => rw [addAll_cons]; have := ih (addN f x); have := addN_len f x; rw [List.length_cons]; omega
mutual
theorem alN_len : ∀ c : Cd, (alN c).length ≤ sz c
  | .rep _ b => Nat.le_succ_of_le (alNs_len b)
  | .ref _ nm => Nat.le_refl _
  | .go _ => Nat.zero_le _
  | .put _ => Nat.zero_le _
theorem alNs_len : ∀ cs : List Cd, (alNs cs).length ≤ szs cs
  | [] => Nat.le_refl _
  | c :: r => by show (alN c ++ alNs r).length ≤ sz c + szs r; rw [List.length_append]; have := alN_len c; have := alNs_len r; omega
end
theorem nmI_len (c : Cd) : (nmI c).length ≤ sz c := by rw [nmI_al]; have := addAll_len [] (alN c); have := alN_len c; simp at *; omega
def sp_names_in (n : Nat) : WF := fun ds M k _ => ∃ cs, ds = [tB cs] ∧ dCs cs ≤ n ∧ szs cs ≤ 4000 ∧ k (lS (nmIs [] cs)) M
theorem mdel_eq {M M' : MH} {b : Addr} (h : Off b M M') (hb : M b = none) : mdel M' b = M := funext fun c => by
  by_cases e : c = b
  · subst e; rw [mdel_same, hb]
  · rw [mdel_ne e]; exact h c e
/-- the names of one statement are added to what was found -/
theorem add_loop {xs : List Str} {b : Addr} {M0 : MH} {E : EndsD} (p0 p1 p2 p3 : Option D) (hb : p1 = some (.ref b)) : ∀ (f : List Str) (M' : MH) (p4 : Option D), f.length + xs.length ≤ 4096 → Off b M0 M' → M' b = some (.lst (f.map .str)) →
    (∀ M'' p4, Off b M0 M'' → M'' b = some (.lst ((addAll f xs).map .str)) → E.nx [p0, p1, p2, p3, p4] M'') →
    forD (wgN 4) (wIfS (wTest (wOp rNotIn (wVar 4) (wVar 1))) (wDrop (wApp (wVar 1) (wVar 4))) wNext) (fun _ => True) E (xs.map .str) [p0, p1, p2, p3, p4] M' := by
  subst hb
  intro f M' p4 hl hO hM hk
  refine forD_inv (fun ds ρ M1 => Off b M0 M1 ∧ ∃ ys g p4, ds = ys.map .str ∧ g.length + ys.length ≤ 4096 ∧ addAll g ys = addAll f xs ∧ M1 b = some (.lst (g.map .str)) ∧ ρ = [p0, some (.ref b), p2, p3, p4]) (fun _ _ _ _ => trivial) (fun ρ M1 hI => ?_) (fun d r ρ M1 nx hI hn => ?_) _ _ _ ⟨hO, xs, f, p4, rfl, hl, rfl, hM, rfl⟩
  · obtain ⟨hO1, ys, g, q4, hd, _, hg, hM1, rfl⟩ := hI
    cases ys with
    | nil => exact hk _ _ hO1 (by rw [← hg]; exact hM1)
    | cons y ys => cases hd
  · obtain ⟨hO1, ys, g, q4, hd, hgl, hg, hM1, rfl⟩ := hI
    cases ys with
    | nil => cases hd
    | cons y ys =>
      cases hd
      rw [List.length_cons] at hgl
      rw [addAll_cons] at hg
      walk_at "w"
      refine ⟨_, hM1, ?_⟩
      refine gd_mk (by rw [flat_strs]; rfl) ?_
      show onBl (.bl (!inD (.str y) (g.map .str))) _
      rw [inD_strs]
      by_cases hy : y ∈ g
      · rw [decide_eq_true hy]
        have e : addN g y = g := by unfold addN; rw [if_pos hy]
        rw [e] at hg
        exact hn _ _ ⟨hO1, ys, g, _, rfl, by omega, hg, hM1, rfl⟩
      · rw [decide_eq_false hy]
        have e : addN g y = g ++ [y] := by unfold addN; rw [if_neg hy]
        rw [e] at hg
        walk_at "w"
        refine ⟨_, _, rfl, hM1, ?_⟩
        refine ⟨_, hM1, by rw [List.length_map, sizeLine_eq]; omega, ?_⟩
        refine hn _ _ ⟨hO1.upd2 _, ys, g ++ [y], _, rfl, by rw [List.length_append, List.length_singleton]; omega, hg, by rw [mupd_same, List.map_append]; rfl, rfl⟩
theorem hw_names {sr : WF} {n : Nat} (hs : ∀ b M k x, dCs b + 1 ≤ n → szs b ≤ 4000 → k (lS (nmIs [] b)) M → sr [tB b] M k x) (ds : List D) (M : MH) (k : KD) (x : KE) (h : sp_names_in n ds M k x) : w_names_in sr (startD N_names_in ds) M (retE k x) := by
  obtain ⟨cs, rfl, hd, hz, hk⟩ := h
  walk_at "w"
  intro b hb
  walk_at "w"
  refine forD_inv (fun ds ρ M' => Off b M M' ∧ ∃ cs1 f o2 o3 o4, ds = toDs cs1 ∧ dCs cs1 ≤ n ∧ f.length + szs cs1 ≤ 4000 ∧ nmIs f cs1 = nmIs [] cs ∧ M' b = some (.lst (f.map .str)) ∧ ρ = [some (tB cs), some (.ref b), o2, o3, o4]) (fun _ _ _ _ => trivial) (fun ρ M' hI => ?_) (fun d r ρ M' nx hI hn => ?_) _ _ _
    ⟨DL.Off.upd _ _ _, cs, [], _, _, _, rfl, hd, by rw [List.length_nil]; omega, rfl, mupd_same, rfl⟩
  · obtain ⟨hO, cs1, f, o2, o3, o4, hd, _, _, hf, hM, rfl⟩ := hI
    cases cs1 with
    | nil =>
      walk_at "w"
      refine Lt.list hM ?_
      rw [mdel_eq hO hb]
      have e : f = nmIs [] cs := hf
      rw [e]
      exact hk
    | cons c cs1 => cases hd
  · obtain ⟨hO, cs1, f, o2, o3, o4, hd, hdl, hfl, hf, hM, rfl⟩ := hI
    cases cs1 with
    | nil => cases hd
    | cons c cs1 =>
      cases hd
      have hs1 : dC c ≤ n ∧ dCs cs1 ≤ n := by have e : dCs (c :: cs1) = max (dC c) (dCs cs1) := rfl; rw [e] at hdl; omega
      have hs2 : f.length + (sz c + szs cs1) ≤ 4000 := hfl
      -- the inner loop, and on
      have inner : ∀ (p : D) (E : EndsD), p = lS (nmI c) → E.nx = nx → forD (wgN 4) (wIfS (wTest (wOp rNotIn (wVar 4) (wVar 1))) (wDrop (wApp (wVar 1) (wVar 4))) wNext) (fun _ => True) E ((nmI c).map .str) [some (tB cs), some (.ref b), some (toD c), some p, o4] M' := by
        rintro p E rfl hE
        refine add_loop _ _ _ _ rfl f M' _ (by have := nmI_len c; omega) hO hM fun M'' p4 hO2 hM2 => ?_
        rw [hE]
        exact hn _ _ ⟨hO2, cs1, addAll f (nmI c), _, _, _, rfl, hs1.2, by have := addAll_len f (nmI c); have := nmI_len c; omega, hf, hM2, rfl⟩
      cases c with
      | go v => walk_at "w"; exact inner _ _ rfl rfl
      | put i => walk_at "w"; exact inner _ _ rfl rfl
      | ref u nm => cases u <;> (walk_at "w"; exact inner _ _ rfl rfl)
      | rep t bb =>
        walk_at "w"
        refine hs bb M' _ _ hs1.1 (by have e : sz (.rep t bb) = szs bb + 1 := rfl; omega) ?_
        walk_at "w"
        exact inner _ _ rfl rfl
/-! ### renaming -/
mutual
def ren (o n : Str) : Cd → Cd
  | .rep t b => .rep t (rens o n b)
  | .ref u nm => .ref u (if nm = o then n else nm)
  | .go v => .go v | .put i => .put i
def rens (o n : Str) : List Cd → List Cd
  | [] => []
  | c :: r => ren o n c :: rens o n r
end
theorem toDs_app : ∀ (a b : List Cd), toDs (a ++ b) = toDs a ++ toDs b
  | [], _ => rfl
  | c :: r, b => by show toD c :: toDs (r ++ b) = _; rw [toDs_app r b]; rfl
theorem toDs_len : ∀ cs : List Cd, (toDs cs).length = cs.length
  | [] => rfl
  | _ :: r => congrArg (· + 1) (toDs_len r)
def sp_renamed (n : Nat) : WF := fun ds M k _ => ∃ cs o nw, ds = [tB cs, .str o, .str nw] ∧ dCs cs ≤ n ∧ szs cs ≤ 4000 ∧ k (tB (rens o nw cs)) M
def sp__law_swapped (n : Nat) : WF := sp_renamed n
theorem hw_ren {sr : WF} {n : Nat} (hs : ∀ b o nw M k x, dCs b + 1 ≤ n → szs b ≤ 4000 → k (tB (rens o nw b)) M → sr [tB b, .str o, .str nw] M k x) (ds : List D) (M : MH) (k : KD) (x : KE) (h : sp_renamed n ds M k x) : w_renamed sr (startD N_renamed ds) M (retE k x) := by
  obtain ⟨cs, o, nw, rfl, hd, hz, hk⟩ := h
  walk_at "w"
  intro b hb
  walk_at "w"
  refine forD_inv (fun ds ρ M' => Off b M M' ∧ ∃ cs1 dn o4, ds = toDs cs1 ∧ dCs cs1 ≤ n ∧ dn.length + szs cs1 ≤ 4000 ∧ dn ++ rens o nw cs1 = rens o nw cs ∧ M' b = some (.lst (toDs dn)) ∧ ρ = [some (tB cs), some (.str o), some (.str nw), some (.ref b), o4]) (fun _ _ _ _ => trivial) (fun ρ M' hI => ?_) (fun d r ρ M' nx hI hn => ?_) _ _ _
    ⟨DL.Off.upd _ _ _, cs, [], _, rfl, hd, by rw [List.length_nil]; omega, rfl, mupd_same, rfl⟩
  · obtain ⟨hO, cs1, dn, o4, hd, _, _, hf, hM, rfl⟩ := hI
    cases cs1 with
    | nil =>
      refine ⟨b, _, rfl, hM, ?_⟩
      rw [mdel_eq hO hb]
      have e : dn = rens o nw cs := by rw [← hf]; exact (List.append_nil dn).symm
      rw [e]
      exact Lt.now hk
    | cons c cs1 => cases hd
  · obtain ⟨hO, cs1, dn, o4, hd, hdl, hfl, hf, hM, rfl⟩ := hI
    cases cs1 with
    | nil => cases hd
    | cons c cs1 =>
      cases hd
      have hs1 : dC c ≤ n ∧ dCs cs1 ≤ n := by have e : dCs (c :: cs1) = max (dC c) (dCs cs1) := rfl; rw [e] at hdl; omega
      have hs2 : dn.length + (sz c + szs cs1) ≤ 4000 := hfl
      have hp := sz_pos c
      have hlen : (toDs dn).length < sizeLine := by rw [toDs_len, sizeLine_eq]; omega
      have fin : ∀ e p4, e = toD (ren o nw c) → nx [some (tB cs), some (.str o), some (.str nw), some (.ref b), p4] (mupd M' b (.lst (toDs dn ++ [e]))) := by
        rintro e p4 rfl
        refine hn _ _ ⟨hO.upd2 _, cs1, dn ++ [ren o nw c], _, rfl, hs1.2, by rw [List.length_append, List.length_singleton]; omega, ?_, by rw [mupd_same, toDs_app]; rfl, rfl⟩
        rw [List.append_assoc]
        exact hf
      cases c with
      | go v => walk_at "w"; refine ⟨_, _, rfl, hM, ?_⟩; refine ⟨_, hM, hlen, ?_⟩; exact fin _ _ rfl
      | put i => walk_at "w"; refine ⟨_, _, rfl, hM, ?_⟩; refine ⟨_, hM, hlen, ?_⟩; exact fin _ _ rfl
      | ref u nm =>
        have e : ren o nw (.ref u nm) = .ref u (if nm = o then nw else nm) := rfl
        by_cases hnm : nm = o
        · rw [e, if_pos hnm] at fin
          cases u <;> (walk_at "w"; rw [decide_eq_true hnm]; walk_at "w"; refine ⟨_, _, rfl, hM, ?_⟩; refine ⟨_, hM, hlen, ?_⟩; exact fin _ _ rfl)
        · rw [e, if_neg hnm] at fin
          cases u <;> (walk_at "w"; rw [decide_eq_false hnm]; walk_at "w"; refine ⟨_, _, rfl, hM, ?_⟩; refine ⟨_, hM, hlen, ?_⟩; exact fin _ _ rfl)
      | rep t bb =>
        walk_at "w"
        refine ⟨_, _, rfl, hM, ?_⟩
        refine hs bb o nw M' _ _ hs1.1 (by have e : sz (.rep t bb) = szs bb + 1 := rfl; omega) ?_
        walk_at "w"
        refine ⟨_, hM, hlen, ?_⟩
        exact fin _ _ rfl
theorem hw_swap {sr : WF} {n : Nat} (hs : ∀ b o nw M k x, dCs b + 1 ≤ n → szs b ≤ 4000 → k (tB (rens o nw b)) M → sr [tB b, .str o, .str nw] M k x) (ds : List D) (M : MH) (k : KD) (x : KE) (h : sp__law_swapped n ds M k x) : w__law_swapped sr (startD N__law_swapped ds) M (retE k x) := by
  obtain ⟨cs, o, nw, rfl, hd, hz, hk⟩ := h
  walk_at "w"
  intro b hb
  walk_at "w"
  refine forD_inv (fun ds ρ M' => Off b M M' ∧ ∃ cs1 dn o4, ds = toDs cs1 ∧ dCs cs1 ≤ n ∧ dn.length + szs cs1 ≤ 4000 ∧ dn ++ rens o nw cs1 = rens o nw cs ∧ M' b = some (.lst (toDs dn)) ∧ ρ = [some (tB cs), some (.str o), some (.str nw), some (.ref b), o4]) (fun _ _ _ _ => trivial) (fun ρ M' hI => ?_) (fun d r ρ M' nx hI hn => ?_) _ _ _
    ⟨DL.Off.upd _ _ _, cs, [], _, rfl, hd, by rw [List.length_nil]; omega, rfl, mupd_same, rfl⟩
  · obtain ⟨hO, cs1, dn, o4, hd, _, _, hf, hM, rfl⟩ := hI
    cases cs1 with
    | nil =>
      refine ⟨b, _, rfl, hM, ?_⟩
      rw [mdel_eq hO hb]
      have e : dn = rens o nw cs := by rw [← hf]; exact (List.append_nil dn).symm
      rw [e]
      exact Lt.now hk
    | cons c cs1 => cases hd
  · obtain ⟨hO, cs1, dn, o4, hd, hdl, hfl, hf, hM, rfl⟩ := hI
    cases cs1 with
    | nil => cases hd
    | cons c cs1 =>
      cases hd
      have hs1 : dC c ≤ n ∧ dCs cs1 ≤ n := by have e : dCs (c :: cs1) = max (dC c) (dCs cs1) := rfl; rw [e] at hdl; omega
      have hs2 : dn.length + (sz c + szs cs1) ≤ 4000 := hfl
      have hp := sz_pos c
      have hlen : (toDs dn).length < sizeLine := by rw [toDs_len, sizeLine_eq]; omega
      have fin : ∀ e p4, e = toD (ren o nw c) → nx [some (tB cs), some (.str o), some (.str nw), some (.ref b), p4] (mupd M' b (.lst (toDs dn ++ [e]))) := by
        rintro e p4 rfl
        refine hn _ _ ⟨hO.upd2 _, cs1, dn ++ [ren o nw c], _, rfl, hs1.2, by rw [List.length_append, List.length_singleton]; omega, ?_, by rw [mupd_same, toDs_app]; rfl, rfl⟩
        rw [List.append_assoc]
        exact hf
      cases c with
      | go v => walk_at "w"; refine ⟨_, _, rfl, hM, ?_⟩; walk_at "w"; refine ⟨_, hM, hlen, ?_⟩; exact fin _ _ rfl
      | put i => walk_at "w"; refine ⟨_, _, rfl, hM, ?_⟩; walk_at "w"; refine ⟨_, hM, hlen, ?_⟩; exact fin _ _ rfl
      | ref u nm =>
        have e : ren o nw (.ref u nm) = .ref u (if nm = o then nw else nm) := rfl
        by_cases hnm : nm = o
        · rw [e, if_pos hnm] at fin
          cases u <;> (walk_at "w"; refine ⟨_, _, rfl, hM, ?_⟩; walk_at "w"; rw [decide_eq_true hnm]; walk_at "w"; refine ⟨_, hM, hlen, ?_⟩; exact fin _ _ rfl)
        · rw [e, if_neg hnm] at fin
          cases u <;> (walk_at "w"; refine ⟨_, _, rfl, hM, ?_⟩; walk_at "w"; rw [decide_eq_false hnm]; walk_at "w"; refine ⟨_, hM, hlen, ?_⟩; exact fin _ _ rfl)
      | rep t bb =>
        walk_at "w"
        refine ⟨_, _, rfl, hM, ?_⟩
        refine hs bb o nw M' _ _ hs1.1 (by have e : sz (.rep t bb) = szs bb + 1 := rfl; omega) ?_
        walk_at "w"
        refine ⟨_, hM, hlen, ?_⟩
        exact fin _ _ rfl
def sp__law_all_names (n : Nat) : WF := fun ds M k _ => ∃ cs, ds = [tB cs] ∧ dCs cs ≤ n ∧ szs cs ≤ 4000 ∧ k (lS (alNs cs)) M
theorem hw_allNames {sr : WF} {n : Nat} (hs : ∀ b M k x, dCs b + 1 ≤ n → szs b ≤ 4000 → k (lS (alNs b)) M → sr [tB b] M k x) (ds : List D) (M : MH) (k : KD) (x : KE) (h : sp__law_all_names n ds M k x) : w__law_all_names sr (startD N__law_all_names ds) M (retE k x) := by
  obtain ⟨cs, rfl, hd, hz, hk⟩ := h
  walk_at "w"
  refine forD_inv (fun ds ρ M' => M' = M ∧ ∃ cs1 f o2 o3, ds = toDs cs1 ∧ dCs cs1 ≤ n ∧ f.length + szs cs1 ≤ 4000 ∧ f ++ alNs cs1 = alNs cs ∧ ρ = [some (tB cs), some (lS f), o2, o3]) (fun _ _ _ _ => trivial) (fun ρ M' hI => ?_) (fun d r ρ M' nx hI hn => ?_) _ _ _
    ⟨rfl, cs, [], _, _, rfl, hd, by rw [List.length_nil]; omega, rfl, rfl⟩
  · obtain ⟨rfl, cs1, f, o2, o3, hd, _, _, hf, rfl⟩ := hI
    cases cs1 with
    | nil =>
      have e : f = alNs cs := by rw [← hf]; exact (List.append_nil f).symm
      rw [e]
      exact Lt.now hk
    | cons c cs1 => cases hd
  · obtain ⟨rfl, cs1, f, o2, o3, hd, hdl, hfl, hf, rfl⟩ := hI
    cases cs1 with
    | nil => cases hd
    | cons c cs1 =>
      cases hd
      have hs1 : dC c ≤ n ∧ dCs cs1 ≤ n := by have e : dCs (c :: cs1) = max (dC c) (dCs cs1) := rfl; rw [e] at hdl; omega
      have hs2 : f.length + (sz c + szs cs1) ≤ 4000 := hfl
      have hal := alN_len c
      have fin : ∀ p2 p3 (g : List D), g = (alN c).map D.str → (f.map D.str).length + g.length ≤ sizeLine ∧ nx [some (tB cs), some (.lst (f.map .str ++ g)), p2, p3] M' := by
        rintro p2 p3 g rfl
        rw [List.length_map, List.length_map, sizeLine_eq]
        refine ⟨by omega, ?_⟩
        rw [← List.map_append]
        refine hn _ _ ⟨rfl, cs1, f ++ alN c, _, _, rfl, hs1.2, by rw [List.length_append]; omega, ?_, rfl⟩
        rw [List.append_assoc]
        exact hf
      cases c with
      | go v => walk_at "w"; refine ⟨⟨by decide, by decide, by show 1 ≤ 1000; decide⟩, ?_⟩; walk_at "w"; exact fin _ _ _ rfl
      | put i => walk_at "w"; refine ⟨⟨by decide, by decide, by show 1 ≤ 1000; decide⟩, ?_⟩; walk_at "w"; exact fin _ _ _ rfl
      | ref u nm => cases u <;> (walk_at "w"; refine ⟨⟨by decide, by decide, by show 1 ≤ 1000; decide⟩, ?_⟩; walk_at "w"; exact fin _ _ _ rfl)
      | rep t bb =>
        walk_at "w"
        refine ⟨⟨by decide, by decide, by show 1 ≤ 1000; decide⟩, ?_⟩
        walk_at "w"
        refine hs bb M' _ _ hs1.1 (by have e : sz (.rep t bb) = szs bb + 1 := rfl; omega) ?_
        walk_at "w"
        exact fin _ _ _ rfl
theorem hw0_names_in (ds : List D) (M : MH) (k : KD) (x : KE) (_ : ds.length = 1) (h : sp_names_in 0 ds M k x) : w_names_in noSp (startD N_names_in ds) M (retE k x) := hw_names (n := 0) (fun _ _ _ _ h => absurd h (Nat.not_succ_le_zero _)) ds M k x h
theorem hw1_names_in (n : Nat) (ds : List D) (M : MH) (k : KD) (x : KE) (_ : ds.length = 1) (h : sp_names_in (n + 1) ds M k x) : w_names_in (sp_names_in n) (startD N_names_in ds) M (retE k x) := hw_names (n := n + 1) (fun a M k x h1 h2 h3 => ⟨a, rfl, Nat.le_of_succ_le_succ h1, h2, h3⟩) ds M k x h
theorem hw0_renamed (ds : List D) (M : MH) (k : KD) (x : KE) (_ : ds.length = 3) (h : sp_renamed 0 ds M k x) : w_renamed noSp (startD N_renamed ds) M (retE k x) := hw_ren (n := 0) (fun _ _ _ _ _ _ h => absurd h (Nat.not_succ_le_zero _)) ds M k x h
theorem hw1_renamed (n : Nat) (ds : List D) (M : MH) (k : KD) (x : KE) (_ : ds.length = 3) (h : sp_renamed (n + 1) ds M k x) : w_renamed (sp_renamed n) (startD N_renamed ds) M (retE k x) := hw_ren (n := n + 1) (fun a o nw M k x h1 h2 h3 => ⟨a, o, nw, rfl, Nat.le_of_succ_le_succ h1, h2, h3⟩) ds M k x h
theorem hw0__law_swapped (ds : List D) (M : MH) (k : KD) (x : KE) (_ : ds.length = 3) (h : sp__law_swapped 0 ds M k x) : w__law_swapped noSp (startD N__law_swapped ds) M (retE k x) := hw_swap (n := 0) (fun _ _ _ _ _ _ h => absurd h (Nat.not_succ_le_zero _)) ds M k x h
theorem hw1__law_swapped (n : Nat) (ds : List D) (M : MH) (k : KD) (x : KE) (_ : ds.length = 3) (h : sp__law_swapped (n + 1) ds M k x) : w__law_swapped (sp__law_swapped n) (startD N__law_swapped ds) M (retE k x) := hw_swap (n := n + 1) (fun a o nw M k x h1 h2 h3 => ⟨a, o, nw, rfl, Nat.le_of_succ_le_succ h1, h2, h3⟩) ds M k x h
theorem hw0__law_all_names (ds : List D) (M : MH) (k : KD) (x : KE) (_ : ds.length = 1) (h : sp__law_all_names 0 ds M k x) : w__law_all_names noSp (startD N__law_all_names ds) M (retE k x) := hw_allNames (n := 0) (fun _ _ _ _ h => absurd h (Nat.not_succ_le_zero _)) ds M k x h
theorem hw1__law_all_names (n : Nat) (ds : List D) (M : MH) (k : KD) (x : KE) (_ : ds.length = 1) (h : sp__law_all_names (n + 1) ds M k x) : w__law_all_names (sp__law_all_names n) (startD N__law_all_names ds) M (retE k x) := hw_allNames (n := n + 1) (fun a M k x h1 h2 h3 => ⟨a, rfl, Nat.le_of_succ_le_succ h1, h2, h3⟩) ds M k x h
end DL

namespace DL
open PySem PySem.Spec PyProof.Rows L2
/-! ### match: patterns that bind slots -/
inductive RelB (X : Cx) (F : Hp) : List (Nat × D) → List (Str × Value) → Prop
  | nil : RelB X F [] []
  | cons {i : Nat} {d : D} {x : Str} {u : Value} {v : V} {r : List (Nat × D)} {r' : List (Str × Value)} : X.N[i]? = some x → Loc X.env.scope x → (X.fn x = true ∨ X.env.scope.names.lookup x = some .local) → RelV v u → Rep X.K F v d → RelB X F r r' → RelB X F ((i, d) :: r) ((x, u) :: r')
theorem RelB.append {X : Cx} {F : Hp} : ∀ {a b : List (Nat × D)} {a' b' : List (Str × Value)}, RelB X F a a' → RelB X F b b' → RelB X F (a ++ b) (a' ++ b')
  | _, _, _, _, .nil, h => h
  | _, _, _, _, .cons h1 h2 h3 h4 h5 r, h => .cons h1 h2 h3 h4 h5 (r.append h)
abbrev KP := Option (List (Nat × D)) → Prop
abbrev WP := D → MH → KP → Prop
abbrev WPs := List D → MH → KP → Prop
def RelO (X : Cx) (F : Hp) : Option (List (Nat × D)) → Option (List (Str × Value)) → Prop
  | none, none => True
  | some a, some b => RelB X F a b
  | _, _ => False
structure DP (X : Cx) (p : Pattern) (w : WP) : Prop where
  run : ∀ (pins : List (Addr × Obj)) (s : Shared) (σ : L2.St) (H : Hp) (v : V) (u : Value) (d : D) (F : Hp) (M : MH) (k : KP) (Q : Option (List (Str × Value)) → Shared → Prop), Inv X pins σ H s → RepS X.K H F M → RelV v u → Rep X.K F v d → w d M k →
    (∀ r r' s', Inv X pins σ H s' → k r → RelO X F r r' → Q r' s') → wpAny (model X.prog X.w) X.A (matchPattern p X.env u) Q X.xe s
structure DPs (X : Cx) (ps : List Pattern) (w : WPs) : Prop where
  run : ∀ (pins : List (Addr × Obj)) (s : Shared) (σ : L2.St) (H : Hp) (vs : List V) (us : List Value) (ds : List D) (F : Hp) (M : MH) (k : KP) (Q : Option (List (Str × Value)) → Shared → Prop), Inv X pins σ H s → RepS X.K H F M → Vals vs us → Reps X.K F vs ds → w ds M k →
    (∀ r r' s', Inv X pins σ H s' → k r → RelO X F r r' → Q r' s') → wpAny (model X.prog X.w) X.A (matchEach ps X.env us) Q X.xe s
def wpStr (x : Str) : WP := fun d _ k => onO (scalD d (.str x)) fun b => match b with
  | true => k (some [])
  | false => k none
def wpN (i : Nat) : WP := fun d _ k => k (some [(i, d)])
def wpAnyP : WP := fun _ _ k => k (some [])
def wpNil : WPs := fun ds _ k => match ds with
  | [] => k (some [])
  | _ => False
def wpCons (w : WP) (ws : WPs) : WPs := fun ds M k => match ds with
  | d :: r => w d M fun o => match o with
    | none => k none
    | some b => ws r M fun o2 => match o2 with
      | none => k none
      | some b2 => k (some (b ++ b2))
  | [] => False
def onTup (d : D) (p : List D → Prop) : Prop := match d with
  | .tup ds => p ds
  | _ => False
def wpSeq (n : Nat) (ws : WPs) : WP := fun d M k => onTup d fun ds => match Nat.beq ds.length n with
  | true => ws ds M k
  | false => k none
section
variable {X : Cx} {pos p2 : Pos}
theorem dp_str {x : Str} {j} : DP X (.MatchValue (.Constant (.str x) j p2) pos) (wpStr x) := by
  refine ⟨fun pins s σ H v u d F M k Q I S rv rd w f => ?_⟩
  obtain ⟨b, hb, w⟩ := onO_of w
  refine wpAny_matchPattern_Value ?_
  refine thn (pe_str.run pins s σ H (fun v' H' => v' = V.str x ∧ H' = H) I ⟨rfl, rfl⟩) fun c s1 ⟨v', H', I1, r1, e1, e2⟩ => ?_
  subst e1 e2
  obtain ⟨h3, h4⟩ := scal_of rd (Rep.str (K := X.K) (F := F) x) hb
  refine thn (op_eq pins s1 σ H' v (.str x) u c (fun z H2 => z = V.bl b ∧ H2 = H') I1 rv r1 ⟨h3, by rw [h4]; exact ⟨rfl, rfl⟩⟩) fun c2 s2 ⟨v2, H2, I2, r2, e1, e2⟩ => ?_
  subst e1 e2
  obtain rfl : c2 = Value.bool b := r2
  refine wpAny_truthy_bool ?_
  cases b with
  | true => exact f _ _ s2 I2 w RelB.nil
  | false => exact f _ _ s2 I2 w trivial
theorem dp_name {i : Nat} {x : Str} (hi : X.N[i]? = some x) (hx : Loc X.env.scope x) (hf : X.fn x = true ∨ X.env.scope.names.lookup x = some .local := by first | exact .inl rfl | exact .inr rfl | assumption) : DP X (.MatchAs none (some x) pos) (wpN i) :=
  ⟨fun pins s σ H v u d F M k Q I S rv rd w f => wpAny_matchPattern_Capture (f _ _ s I w (.cons hi hx hf rv rd .nil))⟩
theorem dp_any : DP X (.MatchAs none none pos) wpAnyP := ⟨fun pins s σ H v u d F M k Q I S rv rd w f => wpAny_matchPattern_Capture (f _ _ s I w .nil)⟩
theorem dps_nilP : DPs X [] wpNil := by
  refine ⟨fun pins s σ H vs us ds F M k Q I S rv rd w f => ?_⟩
  cases ds with
  | nil =>
    cases rd
    cases rv
    exact wpAny_matchEach_nil (f _ _ s I w .nil)
  | cons d r => exact w.elim
theorem dps_consP {p : Pattern} {ps : List Pattern} {w : WP} {ws : WPs} (h1 : DP X p w) (h2 : DPs X ps ws) (hp : p.isStar = false := by rfl) : DPs X (p :: ps) (wpCons w ws) := by
  refine ⟨fun pins s σ H vs us ds F M k Q I S rv rd w f => ?_⟩
  cases ds with
  | nil => exact w.elim
  | cons d r =>
    cases rd with
    | cons q1 q2 =>
    cases rv with
    | cons r1 r2 =>
    refine wpAny_matchEach_cons (h1.run pins s σ H _ _ d F M _ _ I S r1 q1 w fun o o' s1 I1 k1 ro => ?_) hp
    match o, o', ro with
    | none, none, _ => exact f _ _ s1 I1 k1 trivial
    | some b, some b', rb =>
      refine h2.run pins s1 σ H _ _ r F M _ _ I1 S r2 q2 k1 fun o2 o2' s2 I2 k2 ro2 => ?_
      match o2, o2', ro2 with
      | none, none, _ => exact f _ _ s2 I2 k2 trivial
      | some b2, some b2', rb2 => exact f _ _ s2 I2 k2 (rb.append rb2)
theorem dp_seq {ps : List Pattern} {ws : WPs} {n : Nat} (hc : X.calm = true) (h : DPs X ps ws) (hn : ps.length = n := by rfl) (hstar : ps.findIdx? (·.isStar) = none := by rfl)
    (hwild : (ps.all fun p => p.isWildcard || (p.isStar && p.names.isEmpty)) = false := by rfl) : DP X (.MatchSequence ps pos) (wpSeq n ws) := by
  refine ⟨fun pins s σ H v u d F M k Q I S rv rd w f => ?_⟩
  cases d with
  | tup ds =>
    have w : (match Nat.beq ds.length n with
      | true => ws ds M k
      | false => k none) := w
    cases rd with
    | @tup a xs _ hq hr hl =>
    cases rv
    obtain ⟨its, rv, ht, hz⟩ := I.tuple (seqT S.fz hq)
    have hlen : its.length = ds.length := rv.length.symm.trans hr.length
    have hfit : (its.toArray.size : Int) < 2 ^ 63 := by rw [List.size_toArray, hlen]; have := sizeLine_eq; omega
    by_cases hb : ds.length = n
    · have e : Nat.beq ds.length n = true := by rw [hb]; exact Nat.beq_refl n
      rw [e] at w
      have hsz : its.toArray.size = ps.length := by rw [List.size_toArray, hlen, hb, hn]
      refine matchSeq_tuple_hit ht hfit hsz ?_ hstar hwild
      rw [← hsz]
      refine wpAny_unpackItems_tuple (s := { s with toks := s.toks + 1 + 1 }) (I.ok.hd hc) ht fun h' hx => ?_
      have I1 : Inv X pins σ H { s with heap := h', toks := s.toks + 1 + 1 } := I.kept (t' := s.toks + 1 + 1) fun b o e => hx b o (Nat.ne_of_lt (Heap.lt_size e)) e
      exact h.run pins _ σ H xs _ ds F M k Q I1 S (by simpa using rv) hr w f
    · have e : Nat.beq ds.length n = false := by
        cases q : Nat.beq ds.length n with
        | false => rfl
        | true => exact absurd (Nat.eq_of_beq_eq_true q) hb
      rw [e] at w
      refine matchSeq_tuple_miss ht hfit (by rw [List.size_toArray, hlen, hn]; exact hb) ?_ hstar hwild
      exact f _ _ _ (I.tok _) w trivial
  | _ => exact w.elim
end
def setB (ρ : Rh) : List (Nat × D) → Rh
  | [] => ρ
  | (i, d) :: r => setB (ρ.set i (some d)) r
structure DM (X : Cx) (cs : List MatchCase) (w : D → WS) : Prop where
  run : ∀ (W : WX), Takes X W → Pss X → ∀ (pins : List (Addr × Obj)) (s : Shared) (σ : L2.St) (H : Hp) (D' : Ends) (v : V) (u : Value) (d : D) (F : Hp) (M : MH) (ρ : Rh) (E : EndsD) (first : Bool), Inv X pins σ H s → RelV v u → RepS X.K H F M → RepE X.K F σ ρ → Rep X.K F v d → w d ρ M E → FinD X.K W H F M E D' →
    wpAny (model X.prog X.w) X.A (matchCases cs X.env u first) (SP X pins D') X.xe s
def wmNil : D → WS := fun _ => wNext
def wmCons (wp : WP) (wb : WS) (wr : D → WS) : D → WS := fun d ρ M E => wp d M fun o => match o with
  | none => wr d ρ M E
  | some bs => wb (setB ρ bs) M E
def wMatch (we : WE) (wm : D → WS) : WS := fun ρ M E => we ρ M (fun d M1 => wm d ρ M1 E) E.xc
section
variable {X : Cx} {pos : Pos}
theorem bind_all {pins : List (Addr × Obj)} {H : Hp} {F : Hp} (hN : X.N.Nodup) : ∀ {bs : List (Nat × D)} {bs' : List (Str × Value)} {s : Shared} {σ : L2.St} {ρ : Rh} {Q : Unit → Shared → Prop}, RelB X F bs bs' → Inv X pins σ H s → RepE X.K F σ ρ →
    (∀ s' σ', Inv X pins σ' H s' → RepE X.K F σ' (setB ρ bs) → Q () s') → wpAny (model X.prog X.w) X.A (assignInOrder (bs'.map fun (n, _) => bindName X.env n) (bs'.map (·.2))) Q X.xe s
  | _, _, s, σ, ρ, Q, .nil, I, R, f => wpAny_assignInOrder_none (f s σ I R)
  | _, _, s, σ, ρ, Q, .cons (i := i) (d := d) hi hx hf rv rd r, I, R, f => by
    refine wpAny_assignInOrder_more (wpAny_bindName (store_ok I hN hi hx rv (fun s' I' => ?_) hf))
    exact bind_all hN r I' (R.set i rd) f
theorem dm_nil : DM X [] wmNil := by
  refine ⟨fun W tk hp pins s σ H D' v u d F M ρ E first I rv S R rd w f => ?_⟩
  exact wpAny_matchCases_nil ⟨σ, H, I, f.nx _ _ H F M (Ext.refl _ _ _) S R w⟩
theorem dm_cons {p : Pattern} {body : List Stmt} {rest : List MatchCase} {wp : WP} {wb : WS} {wr : D → WS} (hN : X.N.Nodup) (hp : DP X p wp) (hb : DSs X body wb) (hr : DM X rest wr) : DM X (⟨p, none, body⟩ :: rest) (wmCons wp wb wr) := by
  refine ⟨fun W tk hps pins s σ H D' v u d F M ρ E first I rv S R rd w f => ?_⟩
  refine wpAny_matchCases_cons ?_
  refine hp.run pins s σ H v u d F M _ _ I S rv rd w fun o o' s1 I1 k1 ro => ?_
  match o, o', ro with
  | none, none, _ => exact hr.run W tk hps pins s1 σ H D' v u d F M ρ E false I1 rv S R rd k1 f
  | some bs, some bs', rb => exact bind_all hN rb I1 R fun s2 σ2 I2 R2 => (hb.ps W tk hps).run pins s2 σ2 H D' I2 ⟨F, M, _, E, S, R2, k1, f⟩
theorem ds_match {e : Expr} {cs : List MatchCase} {we : WE} {wm : D → WS} (he : DE X e we) (hm : DM X cs wm) : DS X (.Match e cs pos) (wMatch we wm) := by
  refine ⟨fun W tk hp => ⟨fun pins s σ H D' I q => ?_⟩⟩
  obtain ⟨F, M, ρ, E, S, R, w, f⟩ := q
  refine wpAny_Match (thn ((he.pe W tk).run pins s σ H (fun v H1 => ∃ d F1 M1, Ext H F M H1 F1 M1 ∧ RepS X.K H1 F1 M1 ∧ Rep X.K F1 v d ∧ wm d ρ M1 E) I ⟨F, M, ρ, _, _, S, R, w, fun v d H1 F1 M1 e1 S1 r1 w1 => ⟨d, F1, M1, e1, S1, r1, w1⟩, f.xc σ⟩) fun u s1 ⟨v, H1, I1, rv, d, F1, M1, e1, S1, r1, w1⟩ => ?_)
  exact hm.run W tk hp pins s1 σ H1 D' v u d F1 M1 ρ E true I1 rv S1 (R.mono e1.sm) r1 w1 (f.on e1)
end
end DL

namespace DL
open PySem PySem.Spec PyProof.Rows L2
/-! ### xs[::-1], a tuple's too -/
theorem adj_rev (n : Nat) : Builtin.Slice.sliceAdjust none none (-1) (n : Int) = ((n : Int) - 1, -1) := by
  unfold Builtin.Slice.sliceAdjust
  rfl
theorem places_rev (n : Nat) : Builtin.Slice.slicePlaces ((n : Int) - 1) (-1) (-1) = n := by
  unfold Builtin.Slice.slicePlaces
  rw [if_neg (by decide)]
  by_cases h : n = 0
  · subst h; rfl
  · rw [if_pos (by omega)]
    have e : ((n : Int) - 1 - -1 - 1) / (- -1) = (n : Int) - 1 := by
      rw [show (- -1 : Int) = 1 from rfl, Int.ediv_one]
      omega
    rw [e]
    omega
theorem range_all {α : Type} : ∀ r : List α, (List.range r.length).filterMap (fun m => r[m]?) = r
  | [] => rfl
  | a :: t => by
    rw [List.length_cons, List.range_succ_eq_map, List.filterMap_cons, List.filterMap_map]
    show a :: List.filterMap (fun m => (a :: t)[m + 1]?) (List.range t.length) = _
    have e : (fun m => (a :: t)[m + 1]?) = fun m => t[m]? := by funext m; simp
    rw [e, range_all t]
theorem filterMap_eq {α β : Type} {f g : α → Option β} : ∀ {l : List α}, (∀ a, a ∈ l → f a = g a) → l.filterMap f = l.filterMap g
  | [], _ => rfl
  | a :: l, h => by
    rw [List.filterMap_cons, List.filterMap_cons, h a List.mem_cons_self, filterMap_eq fun b hb => h b (List.mem_cons_of_mem _ hb)]
theorem range_rev {α : Type} (l : List α) : (List.range l.length).filterMap (fun m => l[l.length - 1 - m]?) = l.reverse := by
  have e : (List.range l.length).filterMap (fun m => l[l.length - 1 - m]?) = (List.range l.length).filterMap (fun m => l.reverse[m]?) := by
    refine filterMap_eq fun m hm => ?_
    rw [List.getElem?_reverse (List.mem_range.mp hm)]
  rw [e]
  have q := range_all l.reverse
  rw [List.length_reverse] at q
  exact q
section
variable {prog : Program} {w : World} {A : Around} {E : Value → Shared → Prop} {s : Shared}
theorem applied_rev {sl : Addr} {t : Tok} {n : Nat} {Q : Int × Int × Nat → Shared → Prop} (hs : s.heap.IsSliceOf sl .none .none (.int (-1) t)) (h : Q ((n : Int) - 1, -1, n) s) :
    wpAny (model prog w) A (Builtin.Slice.sliceApplied (.ref sl) (pure (n : Int))) Q E s := by
  obtain ⟨ob, g1, g2, g3⟩ := id hs
  unfold Builtin.Slice.sliceApplied Builtin.Slice.sliceFields
  refine wpAny_bind (wpAny_bind (wpAny_field g1 g3 (x := Value.none) rfl (wpAny_bind (wpAny_field g1 g3 (x := Value.none) rfl (wpAny_bind (wpAny_field g1 g3 (x := Value.int (-1) t) rfl (wpAny_pure ?_)))))))
  refine wpAny_bind (slicePart_int ?_)
  show wpAny _ _ (if ((-1 : Int) == 0) = true then _ else _) _ _ s
  rw [if_neg (by decide)]
  refine wpAny_bind (slicePart_none (wpAny_bind (slicePart_none (wpAny_bind (wpAny_pure ?_)))))
  show wpAny _ _ (match Builtin.Slice.sliceAdjust none none (-1) (n : Int) with | (lo, hi) => pure (lo, (-1 : Int), Builtin.Slice.slicePlaces lo hi (-1))) _ _ s
  rw [adj_rev n]
  show wpAny _ _ (pure ((n : Int) - 1, (-1 : Int), Builtin.Slice.slicePlaces ((n : Int) - 1) (-1) (-1))) _ _ s
  rw [places_rev]
  exact wpAny_pure h
theorem getItem_tuple_rev {tp sl : Addr} {its : Array Value} {t : Tok} {Q : Value → Shared → Prop} (ht : IsTup s.heap tp its) (hs : s.heap.IsSliceOf sl .none .none (.int (-1) t)) (hz : its.size ≤ sizeLine)
    (h : Q (.ref s.heap.objs.size) { s with heap := s.heap.push { cls := .type "tuple", data := .seq its.toList.reverse.toArray } }) : wpAny (model prog w) A (getItem (.ref tp) (.ref sl)) Q E s := by
  have fits : sizeOk (.seq its.toList.reverse.toArray) := by
    show its.toList.reverse.toArray.size ≤ sizeLine
    rw [List.size_toArray, List.length_reverse, Array.length_toList]
    exact hz
  have isSl : s.TypeIs (.ref sl) "slice" := let ⟨ob, g1, g2, _⟩ := id hs; ⟨ob, g1, g2⟩
  unfold getItem
  try with_reducible refine wpAny_holding ?_
  first | refine wpAny_bind (wpAny_pure ?_) | skip
  refine wpAny_bind (wpAny_sequenceKey ht.typeIs (by decide) (wpAny_bind (wpAny_callSpecial?_slot (name := Str.ofString "__getitem__") ht.typeIs PyProof.Rows.slot_tuple_getitem (wpAny_call_entry PyProof.Rows.slot_tuple_getitem ht.typeIs entry_tuple_getitem ?_ (args_tuple_getitem _ _)))))
  show wpAny _ _ (Builtin.Tuple.tupleItemsOf (.ref tp) >>= _) _ _ s
  refine wpAny_bind (tupleItemsOf_ ht (wpAny_bind (wpAny_typeOf isSl ?_)))
  rw [if_pos (by decide)]
  refine wpAny_bind (applied_rev hs ?_)
  have no : ¬ ((((its.size : Int) - 1) == 0 && (-1 : Int) == 1 && its.size == its.size) = true) := by
    rw [show ((-1 : Int) == 1) = false from rfl, Bool.and_false, Bool.false_and]
    exact Bool.false_ne_true
  show wpAny _ _ (if (((its.size : Int) - 1) == 0 && (-1 : Int) == 1 && its.size == its.size) = true then _ else _) _ _ s
  have pick : ((List.range its.size).filterMap fun (k : Nat) => its[(((its.size : Int) - 1) + (k : Int) * -1).toNat]?).toArray = its.toList.reverse.toArray := by
    have e : ∀ k, k ∈ List.range its.size → its[(((its.size : Int) - 1) + (k : Int) * -1).toNat]? = its.toList[its.toList.length - 1 - k]? := fun k hk => by
      have := List.mem_range.mp hk
      rw [Array.length_toList, Array.getElem?_toList]
      congr 1
      omega
    rw [filterMap_eq e]
    have q := range_rev its.toList
    rw [Array.length_toList] at q
    rw [Array.length_toList, q]
  rw [if_neg no, pick]
  first
    | exact wpAny_bind (m := Builtin.Tuple.tupleExact _) (wpAny_newObj_type (wpAny_pure ⟨_, rfl, wpAny_pure h⟩) fits)
    | exact wpAny_bind (m := Builtin.Tuple.tupleExact _) (wpAny_newObj_type (wpAny_bind (wpAny_pure (wpAny_pure ⟨_, rfl, wpAny_pure h⟩))) fits)
    | exact wpAny_bind (wpAny_bind (m := Builtin.Tuple.tupleExact _) (wpAny_newObj_type (wpAny_pure (wpAny_pure ⟨_, rfl, wpAny_pure h⟩)) fits))
    | exact wpAny_bind (wpAny_bind (m := Builtin.Tuple.tupleExact _) (wpAny_newObj_type (wpAny_pure ⟨_, rfl, wpAny_pure h⟩) fits))
end
def tRevT (K : PySem.W.Frag) (te : TE) : TE := fun σ H Q => te σ H fun x H1 => ∃ a xs, x = .ref a ∧ SqT K H1 a xs ∧ ∀ p, H1 p = none → Q (.ref p) (upd H1 p (.tup xs.reverse))
theorem pe_revT {X : Cx} {e : Expr} {te : TE} {k : Nat} {p1 p2 p3 pos : Pos} (he : PE X e te) : PE X (.Subscript e (.Slice none none (some (.UnaryOp .USub (.Constant (.int 1) k p1) p2)) p3) pos) (tRevT X.K te) := by
  refine ⟨fun pins s σ H Q I h => ?_⟩
  refine Subscript_ (thn (he.run pins s σ H _ I h) fun v s1 ⟨x, H1, I1, r1, a, xs, ex, hx, q⟩ => ?_)
  subst ex
  cases r1
  have part : PO X (some (.UnaryOp .USub (.Constant (.int 1) k p1) p2)) (tPart (tUn (rU fun i => .int (-i)) (tC (.int 1)))) := po_some (pe_un un_neg pe_int)
  refine wpAny_Slice (thn (po_none.run pins s1 σ H1 (fun o G => o = none ∧ G = H1) I1 ⟨rfl, rfl⟩) fun vl s2 ⟨l, H2, I2, pl, el, e2⟩ => thn (po_none.run pins s2 σ H2 (fun o G => o = none ∧ G = H2) I2 ⟨rfl, rfl⟩) fun vu s3 ⟨u, H3, I3, pu, eu, e3⟩ => ?_)
  subst el e2 eu e3
  refine thn (part.run pins s3 σ H3 (fun o G => o = some (-1) ∧ G = H3) I3 ⟨1, rfl, -1, rfl, rfl, rfl⟩) fun vs s4 ⟨o, H4, I4, ps, eo, e4⟩ => ?_
  subst eo e4
  cases pl
  cases pu
  cases ps with
  | int i t =>
  have I5 : Inv X pins σ H4 { s4 with heap := s4.heap.push { cls := .type "slice", data := .fields #[.none, .none, .int (-1) t] } } := I4.kept (t' := s4.toks) fun b ob q => Heap.get?_push_of_some _ q
  obtain ⟨its, r, ht, hz⟩ := I5.tuple hx
  have hlen := r.length
  show wpAny (model X.prog X.w) X.A (subscriptTail e (.Slice none none (some (.UnaryOp .USub (.Constant (.int 1) k p1) p2)) p3) (.ref a) (.ref s4.heap.objs.size)) (EP X pins σ Q) X.xe { s4 with heap := s4.heap.push { cls := .type "slice", data := .fields #[.none, .none, .int (-1) t] } }
  refine tail_any (ops := [.ref a, .ref s4.heap.objs.size]) ht.typeIs PyProof.Rows.slot_tuple_getitem.lookup ?_ (by with_unfolding_all rfl)
  refine getItem_tuple_rev ht (Heap.IsSliceOf.new ..) (by rw [List.size_toArray]; omega) ?_
  refine ⟨.ref _, _, I5.laid (t' := s4.toks) (o := .tup xs.reverse) (fun b ob q => Heap.get?_push_of_some _ q) (Nat.le_refl _) ?_, rfl, q _ (I5.hok.fresh (Nat.le_refl _))⟩
  exact ⟨by rw [List.length_reverse]; exact hz, _, r.reverse, IsTup.new _ _⟩
def wRevT (we : WE) : WE := fun ρ M k x => we ρ M (fun d M1 => onTup d fun ds => k (.tup ds.reverse) M1) x
theorem de_revT {X : Cx} {e : Expr} {we : WE} {k : Nat} {p1 p2 p3 pos : Pos} (he : DE X e we) : DE X (.Subscript e (.Slice none none (some (.UnaryOp .USub (.Constant (.int 1) k p1) p2)) p3) pos) (wRevT we) := by
  refine ⟨fun W tk => pe_imp (pe_revT (he.pe W tk)) fun σ H Q q => ?_⟩
  obtain ⟨F, M, ρ, k, x, S, R, w, pv, px⟩ := q
  refine ⟨F, M, ρ, _, x, S, R, w, fun v d H1 F1 M1 e1 S1 r1 w1 => ?_, px⟩
  cases d with
  | tup ds =>
    cases r1 with
    | @tup a xs _ hq hr hl =>
    refine ⟨a, xs, rfl, seqT S1.fz hq, fun p hp => ?_⟩
    obtain ⟨S2, e2⟩ := S1.lay hp (.tup xs.reverse)
    exact pv _ _ _ _ _ (e1.trans e2) S2 (.tup (SqT.of upd_same) (hr.reverse.mono e2.sm) (by rw [List.length_reverse]; exact hl)) w1
  | _ => exact w1.elim
end DL

/-! max(xs, default=d): the loop with a default told along -/
namespace DX
open PySem PyProof.Rows
section
variable {prog : Program} {w : World} {A : Around} {R : Result → Shared → Prop} {it0 B : Addr} {fp wr : List Addr} {n : Nat} {P : Nat → Value → Prop} {St : Nat → Heap → Prop} {dv : Value}
abbrev lpA (it0 B : Addr) (dv : Value) : Args := ⟨[.ref it0, .none, .ref B], [(("default" : Str), dv)]⟩
theorem nmL : (toString "max" ++ toString ".loop" : String) = "max.loop" := by decide
theorem qtL {as : Args} : (Code.builtin "max.loop" as).quiet = true := plainId_quiet F.plain_max_loop _
abbrev bst (xs : Array Value) (c : Nat) : Obj := { cls := .type "list", dict := none, data := .seq xs c, slots := #[] }
theorem turns (W : Walks prog w A.in1 it0 fp wr n P St) (gt : Nat → Nat → Bool) (cmp : CmpOf prog w A.in1 .Gt P gt) (nB : B ∉ fp) : ∀ (m i : Nat) (s : Shared) (vb : Value) (c : Nat), n - (i + 1) = m → i + 1 ≤ n → St (i + 1) s.heap → P (argBest gt i) vb → s.heap.get? B = some (bst #[vb, vb] c) →
    (∀ v h' tk, P (argBest gt (n - 1)) v → (∀ b o, b ∉ wr → b ≠ B → s.heap.get? b = some o → h'.get? b = some o) → R (.ok (.ret v)) { s with heap := h', toks := tk }) → codeAny (model prog w) A (.builtin "max.loop" (lpA it0 B dv)) R s := by
  have nW : B ∉ wr := fun q => nB (W.sub _ q)
  intro m
  induction m with
  | zero =>
    intro i s vb c e1 e2 st pb g fin
    have ei : i + 1 = n := by omega
    refine codeAny_builtin F.entry_max_loop ?_
    rw [Around.under_plainId F.plain_max_loop (lpA it0 B dv)]
    show wpAny _ A.in1 (seqItems? (.ref B) >>= _) _ _ s
    refine wpAny_bind (wpAny_seqItems g rfl ?_)
    show wpAny _ A.in1 (tryCatch (pyNext (.ref it0)) _ >>= _) _ _ s
    refine wpAny_bind (wpAny_tryCatch (W.done s _ _ (ei ▸ st) fun h1 t1 k1 => ?_))
    show wpAny _ A.in1 (updateSeq B (fun _ => #[]) >>= _) _ _ _
    refine wpAny_bind (wpAny_updateSeq (k1 B _ nW g) rfl (wpAny_bind (wpAny_letGo (wpAny_pure ?_))))
    exact fin vb _ t1 (by rw [← ei]; exact pb) fun b o q1 q2 e => (Heap.get?_update_other _ _ (Ne.symm q2)).trans (k1 b o q1 e)
  | succ m ih =>
    intro i s vb c e1 e2 st pb g fin
    have lt : i + 1 < n := by omega
    refine codeAny_builtin F.entry_max_loop ?_
    rw [Around.under_plainId F.plain_max_loop (lpA it0 B dv)]
    show wpAny _ A.in1 (seqItems? (.ref B) >>= _) _ _ s
    refine wpAny_bind (wpAny_seqItems g rfl ?_)
    show wpAny _ A.in1 (tryCatch (pyNext (.ref it0)) _ >>= _) _ _ s
    refine wpAny_bind (wpAny_tryCatch (W.item (i + 1) s _ _ lt st fun v h1 t1 pv st1 k1 => ?_))
    have g1 := k1 B _ nW g
    show wpAny _ A.in1 (tryCatch (holding [v, v] (richCompare .Gt v vb >>= _)) _ >>= _) _ _ _
    refine wpAny_bind (wpAny_tryCatch (wpAny_holding (wpAny_bind (cmp (i + 1) (argBest gt i) v vb _ _ _ pv pb (wpAny_bind (wpAny_holding (wpAny_truthy_bool (wpAny_bind (wpAny_letGo (wpAny_pure ?_))))))))))
    cases hb : gt (i + 1) (argBest gt i) with
    | true =>
      simp only [if_true]
      refine wpAny_bind (wpAny_updateSeq g1 rfl (wpAny_bind (wpAny_letGo ?_)))
      rw [nmL]
      have pb1 : P (argBest gt (i + 1)) v := by simp only [argBest, hb, if_true]; exact pv
      refine wpAny_pure ⟨qtL, ih (i + 1) _ v _ (by omega) lt (W.frame _ _ _ st1 fun b q o e => ?_) pb1 (Heap.get?_update_self _ g1 rfl) fun v2 h2 t2 pv2 k2 => ?_⟩
      · exact (Heap.get?_update_other _ _ (fun q2 : B = b => nB (q2 ▸ q))).trans e
      · exact fin v2 h2 t2 pv2 fun b o q1 q2 e => k2 b o q1 q2 ((Heap.get?_update_other _ _ (Ne.symm q2)).trans (k1 b o q1 e))
    | false =>
      simp only [Bool.false_eq_true, if_false]
      refine wpAny_bind (wpAny_letGo ?_)
      rw [nmL]
      have pb1 : P (argBest gt (i + 1)) vb := by simp only [argBest, hb, Bool.false_eq_true, if_false]; exact pb
      exact wpAny_pure ⟨qtL, ih (i + 1) _ vb c (by omega) lt st1 pb1 g1 fun v2 h2 t2 pv2 k2 => fin v2 h2 t2 pv2 fun b o q1 q2 e => k2 b o q1 q2 (k1 b o q1 e)⟩
theorem first_ (W : Walks prog w A.in1 it0 fp wr n P St) (gt : Nat → Nat → Bool) (cmp : CmpOf prog w A.in1 .Gt P gt) (nB : B ∉ fp) (pos : 0 < n) {s : Shared} {c : Nat} (st : St 0 s.heap) (g : s.heap.get? B = some (bst #[] c))
    (fin : ∀ v h' tk, P (argBest gt (n - 1)) v → (∀ b o, b ∉ wr → b ≠ B → s.heap.get? b = some o → h'.get? b = some o) → R (.ok (.ret v)) { s with heap := h', toks := tk }) : codeAny (model prog w) A (.builtin "max.loop" (lpA it0 B dv)) R s := by
  have nW : B ∉ wr := fun q => nB (W.sub _ q)
  refine codeAny_builtin F.entry_max_loop ?_
  rw [Around.under_plainId F.plain_max_loop (lpA it0 B dv)]
  show wpAny _ A.in1 (seqItems? (.ref B) >>= _) _ _ s
  refine wpAny_bind (wpAny_seqItems g rfl ?_)
  show wpAny _ A.in1 (tryCatch (pyNext (.ref it0)) _ >>= _) _ _ s
  refine wpAny_bind (wpAny_tryCatch (W.item 0 s _ _ pos st fun v h1 t1 pv st1 k1 => ?_))
  have g1 := k1 B _ nW g
  show wpAny _ A.in1 (updateSeq B (fun _ => #[v, v]) >>= _) _ _ _
  refine wpAny_bind (wpAny_updateSeq g1 rfl ?_)
  rw [nmL]
  refine wpAny_pure ⟨qtL, turns W gt cmp nB _ 0 _ v _ rfl pos (W.frame _ _ _ st1 fun b q o e => ?_) pv (Heap.get?_update_self _ g1 rfl) fun v2 h2 t2 pv2 k2 => ?_⟩
  · exact (Heap.get?_update_other _ _ (fun q2 : B = b => nB (q2 ▸ q))).trans e
  · exact fin v2 h2 t2 pv2 fun b o q1 q2 e => k2 b o q1 q2 ((Heap.get?_update_other _ _ (Ne.symm q2)).trans (k1 b o q1 e))
theorem none_ (W : Walks prog w A.in1 it0 fp wr n P St) (nB : B ∉ fp) (no : n = 0) {s : Shared} {c : Nat} (st : St 0 s.heap) (g : s.heap.get? B = some (bst #[] c))
    (fin : ∀ h' tk, (∀ b o, b ∉ wr → s.heap.get? b = some o → h'.get? b = some o) → R (.ok (.ret dv)) { s with heap := h', toks := tk }) : codeAny (model prog w) A (.builtin "max.loop" (lpA it0 B dv)) R s := by
  subst no
  refine codeAny_builtin F.entry_max_loop ?_
  rw [Around.under_plainId F.plain_max_loop (lpA it0 B dv)]
  show wpAny _ A.in1 (seqItems? (.ref B) >>= _) _ _ s
  refine wpAny_bind (wpAny_seqItems g rfl ?_)
  show wpAny _ A.in1 (tryCatch (pyNext (.ref it0)) _ >>= _) _ _ s
  refine wpAny_bind (wpAny_tryCatch (W.done s _ _ st fun h1 t1 k1 => ?_))
  exact wpAny_bind (wpAny_rule (wpAny_pure (fin h1 t1 k1)))
end
section
variable {prog : Program} {w : World} {A : Around} {E : Value → Shared → Prop} {s : Shared}
theorem args_maxd (a d : Value) : argsOk "max" ⟨[a], [(("default" : Str), d)]⟩ := by unfold argsOk; kernel_rfl
theorem bind_maxd (d : Value) : Builtin.Builtins.bindParams "max" ["key", "default"] 0 ⟨[], [(("default" : Str), d)]⟩ = pure [none, some d] := by first | rfl | kernel_rfl
theorem call_maxd {l : Addr} {xs : Array (Int × Tok)} {d : Value} {Q : Value → Shared → Prop} (hh : A.handled = none) (hl : s.heap.IsList l (intItems xs))
    (h1 : ∀ v h' tk, 0 < xs.size → (intItems xs)[argBest (fun i j => decide (numAt xs i > numAt xs j)) (xs.size - 1)]? = some v → (∀ b o, s.heap.get? b = some o → h'.get? b = some o) → Q v { s with heap := h', toks := tk })
    (h0 : ∀ h' tk, xs.size = 0 → (∀ b o, s.heap.get? b = some o → h'.get? b = some o) → Q d { s with heap := h', toks := tk }) : wpAny (model prog w) A (call (.builtin "max") [.ref l] [(("default" : Str), d)]) Q E s := by
  refine wpAny_call (codeAny_call_builtin F.plain_max F.entry_max ?_)
  have body : wpAny (model prog w) A.in1 (Builtin.«max» ⟨[.ref l], [(("default" : Str), d)]⟩) (fun fin s' => match fin with
      | .done f => (match (Except.ok f : Result) with | .ok (.ret v) => Q v s' | .ok _ => False | .error e => E e s')
      | .again c' => c'.quiet = true ∧ codeAny (model prog w) A c' (fun r s' => match r with | .ok (.ret v) => Q v s' | .ok _ => False | .error e => E e s') s') E s := by
    show wpAny _ A.in1 (Builtin.Builtins.bindParams "max" ["key", "default"] 0 ⟨[], [(("default" : Str), d)]⟩ >>= _) _ _ s
    refine wpAny_bind (wpAny_of_eq (bind_maxd d) (wpAny_bind (wpAny_pure ?_)))
    refine wpAny_bind (iter_intList hl fun s2 e st bl ne => ?_)
    subst e
    refine wpAny_bind (wpAny_newObj_type ?_)
    rw [nmL]
    have W := Walks.list (prog := prog) (w := w) (A := A.in1) hh s.heap.objs.size l ne (intItems xs)
    have nB : ({ s with heap := s.heap.push { cls := .type "list_iterator", data := .fields #[.ref l, .int 0 0] } } : Shared).heap.objs.size ∉ [s.heap.objs.size, l] := fun q => Nat.lt_irrefl _ (bl _ q)
    refine wpAny_pure ⟨qtL, ?_⟩
    by_cases z : xs.size = 0
    · refine none_ W nB (by simpa [intItems] using z) (W.frame _ _ _ st fun b _ o e => Heap.get?_push_of_some _ e) (Heap.get?_push_size _ rfl) fun h' tk kp => ?_
      exact h0 h' tk z (old_kept fun b o q e => kp b o q (Heap.get?_push_of_some _ e))
    · refine first_ W _ (CmpOf.ints_gt (numAt xs) (fun _ _ => intItems_at)) nB (by simpa [intItems] using Nat.pos_of_ne_zero z) (W.frame _ _ _ st fun b _ o e => Heap.get?_push_of_some _ e) (Heap.get?_push_size _ rfl) fun v h' tk pv kp => ?_
      refine h1 v h' tk (Nat.pos_of_ne_zero z) (by simpa [intItems] using pv) (old_kept fun b o q e => kp b o q (Nat.ne_of_lt (Heap.lt_size e)) (Heap.get?_push_of_some _ e))
  simp only [checkBuiltinCall, F.kind_max]
  have ha := args_maxd (.ref l) d
  cases sg : Manifest.signature? "max" with
  | none => exact wpAny_pure body
  | some sig =>
    simp only [argsOk, sg] at ha
    have h2 : Bind.checkArgs "max" sig ⟨[.ref l], [(("default" : Str), d)]⟩ = pure () := ha
    show wpAny _ A.in1 (Bind.checkArgs "max" sig ⟨[.ref l], [(("default" : Str), d)]⟩) _ _ s
    rw [h2]
    exact wpAny_pure body
end
end DX
namespace DL
open PySem PySem.Spec PyProof.Rows L2
/-- the greatest, d of none -/
def mxD (d : Int) : List Int → Int
  | [] => d
  | a :: r => r.foldl (fun x y => if x < y then y else x) a
theorem fold_mx : ∀ (r : List Int) (a : Int), (r.foldl (fun x y => if x < y then y else x) a ∈ a :: r) ∧ ∀ y, y ∈ a :: r → y ≤ r.foldl (fun x y => if x < y then y else x) a
  | [], a => ⟨List.mem_cons_self, fun y h => by
    have e : y = a := (by simpa using h)
    subst e
    exact Int.le_refl _⟩
  | b :: r, a => by
    obtain ⟨h1, h2⟩ := fold_mx r (if a < b then b else a)
    rw [List.foldl_cons]
    refine ⟨?_, fun y hy => ?_⟩
    · rcases List.mem_cons.mp h1 with e | e
      · rw [e]
        by_cases q : a < b
        · rw [if_pos q]; simp
        · rw [if_neg q]; simp
      · exact List.mem_cons_of_mem _ (List.mem_cons_of_mem _ e)
    · have q0 := h2 _ List.mem_cons_self
      rcases List.mem_cons.mp hy with e | hy
      · subst e
        by_cases q : y < b
        · rw [if_pos q] at q0 ⊢; omega
        · rw [if_neg q] at q0 ⊢; omega
      rcases List.mem_cons.mp hy with e | hy
      · subst e
        by_cases q : a < y
        · rw [if_pos q] at q0 ⊢; omega
        · rw [if_neg q] at q0 ⊢; omega
      · exact h2 y (List.mem_cons_of_mem _ hy)
theorem mxD_eq {d m : Int} {ns : List Int} (h1 : m ∈ ns) (h2 : ∀ y, y ∈ ns → y ≤ m) : mxD d ns = m := by
  cases ns with
  | nil => cases h1
  | cons a r =>
    obtain ⟨q1, q2⟩ := fold_mx r a
    have := h2 _ q1
    have := q2 _ h1
    show r.foldl _ a = m
    omega
def rMaxK (K : PySem.W.Frag) : List V → List V → Hp → VK → Prop := fun xs zs H Q => ∃ a ns d, xs = [V.ref a] ∧ zs = [V.int d] ∧ SqL K H a (ns.map V.int) ∧ Q (.int (mxD d ns)) H
theorem cr_maxK {X : Cx} (hc : X.calm = true) : CallRK X (.builtin "max") [("default" : Str)] (rMaxK X.K) := by
  intro pins s σ H xs zs us ws Q I r1 r2 h
  obtain ⟨a, ns, d, rfl, rfl, hs, q⟩ := h
  obtain ⟨its, rv, hl, _⟩ := I.list hs
  rw [Vals.ref1 r1]
  cases r2 with
  | cons r2 r3 =>
  cases r3
  obtain ⟨t, rfl⟩ := r2
  have hi := rv.ints
  obtain ⟨ys, e⟩ := hi.allInts.items
  have hn : numsOf (intItems ys).toList = ns := by rw [← e]; exact hi.numsOf
  rw [nums_intItems] at hn
  subst hn
  have hl' := hl.isList
  rw [e] at hl'
  refine DX.call_maxd (I.ok.hd hc) hl' (fun v h' tk pos hv hk => ?_) fun h' tk z hk => ?_
  · obtain ⟨t, rfl⟩ := intItems_at hv
    obtain ⟨h1, h2⟩ := argBest_gt (numAt ys) (ys.size - 1)
    have e : mxD d (ys.toList.map (·.1)) = numAt ys (argBest (fun i j => decide (numAt ys i > numAt ys j)) (ys.size - 1)) := by
      refine mxD_eq ?_ fun a ha => ?_
      · rw [numAt_eq]; exact PySem.getD_mem (by rw [List.length_map, Array.length_toList]; omega)
      · obtain ⟨j, hj, rfl⟩ := mem_getD ha
        rw [List.length_map, Array.length_toList] at hj
        rw [← numAt_eq]; exact h2 j (by omega)
    rw [e] at q
    exact ⟨.int _, H, I.kept hk, ⟨_, rfl⟩, q⟩
  · have e : ys.toList.map (·.1) = [] := List.eq_nil_of_length_eq_zero (by rw [List.length_map, Array.length_toList]; exact z)
    rw [e] at q
    exact ⟨.int d, H, I.kept hk, ⟨_, rfl⟩, q⟩
def wMaxD (we wd : WE) : WE := fun ρ M k x => we ρ M (fun d M1 => onLst d fun es => onO (intsOf es) fun ns => wd ρ M1 (fun z M2 => onInt z fun i => k (.int (mxD i ns)) M2) x) x
theorem de_maxD {X : Cx} {e ed : Expr} {we wd : WE} {p pos kpos : Pos} (hc : X.calm = true) (hm : X.mg "max" = none) (he : DE X e we) (hd : DE X ed wd) (hg : Gl X "max" := by rfl)
    (hs : starEach (e :: []) X.env = (false, eval e X.env) :: starEach [] X.env := by rfl) (h1 : backTo pos (starEach (e :: []) X.env) = (false, eval e X.env) :: backTo pos (starEach [] X.env) := by rfl) (hpl : (backTo pos (starEach (e :: []) X.env)).any (·.1) = false := by rfl)
    (hall : (backToKw pos (keywordEach [⟨some "default", ed, kpos⟩] X.env)).all (·.1.isSome) = true := by rfl) (hnone : (backToKw pos (keywordEach [⟨some "default", ed, kpos⟩] X.env)).any (·.1.isNone) = false := by rfl)
    (hks : (backToKw pos (keywordEach [⟨some "default", ed, kpos⟩] X.env)).filterMap (·.1) = [("default" : Str)] := by rfl) :
    DE X (.Call (.Name "max" p) [e] [⟨some "default", ed, kpos⟩] pos) (wMaxD we wd) := by
  refine ⟨fun W tk => pe_imp (pe_callBK (cr_maxK hc) hg hm (by decide +kernel) (pa_cons (he.pe W tk) pa_nil hs) (pk_cons (hd.pe W tk) pk_nil) (by decide) (by decide) h1 hpl hall hnone hks) fun σ H Q q => ?_⟩
  obtain ⟨F, M, ρ, k, x, S, R, w, pv, px⟩ := q
  refine ⟨F, M, ρ, _, x, S, R, w, fun v d H1 F1 M1 e1 S1 r1 w1 => ?_, px⟩
  obtain ⟨a, xs, es, rfl, hq, hr, hl, w2⟩ := lst_of r1 w1
  obtain ⟨ns, hn, w3⟩ := onO_of w2
  rw [intsOf_eq hn] at hr
  have exs := hr.ints
  subst exs
  refine ⟨F1, M1, ρ, _, x, S1, R.mono e1.sm, w3, fun u z H2 F2 M2 e2 S2 r2 w4 => ?_, px.on e1⟩
  obtain ⟨i, rfl, w5⟩ := int_of r2 w4
  exact ⟨a, ns, i, rfl, rfl, SqL.of (S2.fz _ _ (e2.sm _ _ hq)), pv _ _ _ _ _ (e1.trans e2) S2 (.int _) w5⟩
end DL

namespace DL
open PySem PySem.Spec PyProof.Rows L2
/-! ### {'a': 'b', 'c': 'd'}[x] -/
def wPick2 (k1 v1 k2 v2 : Str) (we : WE) : WE := fun ρ M k x => we ρ M (fun d M1 => onStr d fun z => match decide (z = k1) with
  | true => k (.str v1) M1
  | false => match decide (z = k2) with
    | true => k (.str v2) M1
    | false => False) x
abbrev kvs2 (k1 v1 k2 v2 : Str) : List (Key × V) := [(.inr k1, .str v1), (.inr k2, .str v2)]
theorem de_pick2 {X : Cx} {e : Expr} {we : WE} {k1 v1 k2 v2 : Str} {j1 j2 j3 j4} {p1 p2 p3 p4 pd pos : Pos} (hu : X.A.units + 64 < cLine) (he : DE X e we) (hs : NoSl e)
    (h1 : valV (mergeK [] (kvs2 k1 v1 k2 v2)) (.inr k1) = some (.str v1) := by rfl) (h2 : valV (mergeK [] (kvs2 k1 v1 k2 v2)) (.inr k2) = some (.str v2) := by rfl) :
    DE X (.Subscript (.Dict [some (.Constant (.str k1) j1 p1), some (.Constant (.str k2) j2 p2)] [.Constant (.str v1) j3 p3, .Constant (.str v2) j4 p4] pd) e pos) (wPick2 k1 v1 k2 v2 we) := by
  refine ⟨fun W tk => pe_imp (pe_dget (by omega) (pe_disp (pps_cons pe_str pe_str (pps_cons pe_str pe_str pps_nil)) rfl rfl (fun q => nomatch q) (by show 2 ≤ 15; decide)) (he.pe W tk) hs) fun σ H Q q => ?_⟩
  obtain ⟨F, M, ρ, k, x, S, R, w, pv, px⟩ := q
  intro p hp
  have fp := S.fno hp
  have mp := S.mno hp
  refine ⟨upd_same, kvs2 k1 v1 k2 v2, rfl, by show 2 ≤ 15; decide, ?_⟩
  have e0 : Ext H F M (upd (upd H p (.dK [])) p (.dK (mergeK [] (kvs2 k1 v1 k2 v2)))) F M := ((Ext.refl H F M).at_new hp _).at_new hp _
  refine ⟨F, M, ρ, _, x, (S.untold fp mp _).untold fp mp _, R, w, fun v d H1 F1 M1 e1 S1 r1 w1 => ?_, px.on e0⟩
  obtain ⟨g, _, _⟩ := e1.fr p _ upd_same fp mp
  cases d with
  | str z =>
    cases r1
    have w2 : (match decide (z = k1) with
      | true => k (.str v1) M1
      | false => match decide (z = k2) with
        | true => k (.str v2) M1
        | false => False) := w1
    by_cases c1 : z = k1
    · rw [decide_eq_true c1] at w2
      subst c1
      exact ⟨p, _, rfl, by rw [← h1]; exact DGet.k (k := .inr z) g, pv _ _ _ _ _ (e0.trans e1) S1 (.str _) w2⟩
    · rw [decide_eq_false c1] at w2
      by_cases c2 : z = k2
      · rw [decide_eq_true c2] at w2
        subst c2
        exact ⟨p, _, rfl, by rw [← h2]; exact DGet.k (k := .inr z) g, pv _ _ _ _ _ (e0.trans e1) S1 (.str _) w2⟩
      · rw [decide_eq_false c2] at w2
        exact w2.elim
  | _ => exact w1.elim
end DL

namespace DL
open PySem PySem.Spec PyProof.Rows L2
local macro_rules | `(tactic| walk_at "w") => `(tactic| try conv => whnf)
/-! ### blocks run backwards, counted, their depth -/
mutual
def rv : Cd → Cd
  | .rep t b => .rep t (rvs b)
  | .go v => .go (v.map fun x => -x)
  | .put n => .put (-n)
  | .ref u nm => .ref (!u) nm
def rvs : List Cd → List Cd
  | [] => []
  | c :: r => rvs r ++ [rv c]
end
theorem rvs_eq : ∀ cs : List Cd, rvs cs = cs.reverse.map rv
  | [] => rfl
  | c :: r => by show rvs r ++ [rv c] = _; rw [rvs_eq r, List.reverse_cons, List.map_append]; rfl
theorem rvs_app : ∀ (a b : List Cd), rvs (a ++ b) = rvs b ++ rvs a := fun a b => by
  rw [rvs_eq, rvs_eq, rvs_eq, List.reverse_append, List.map_append]
mutual
theorem rv_rv : ∀ c : Cd, rv (rv c) = c
  | .rep t b => by show Cd.rep t (rvs (rvs b)) = _; rw [rvs_rvs b]
  | .go v => by show Cd.go ((v.map fun x => -x).map fun x => -x) = _; rw [List.map_map]; congr 1; exact (List.map_congr_left fun a _ => by show - -a = a; omega).trans (List.map_id' v)
  | .put n => by show Cd.put (- -n) = _; rw [Int.neg_neg]
  | .ref u nm => by show Cd.ref (!!u) nm = _; rw [Bool.not_not]
theorem rvs_rvs : ∀ cs : List Cd, rvs (rvs cs) = cs
  | [] => rfl
  | c :: r => by
    show rvs (rvs r ++ [rv c]) = _
    rw [rvs_app, rvs_rvs r]
    show [rv (rv c)] ++ r = _
    rw [rv_rv c]
    rfl
end
theorem dCs_app : ∀ (a b : List Cd), dCs (a ++ b) = max (dCs a) (dCs b)
  | [], b => by show dCs b = max 0 (dCs b); omega
  | c :: r, b => by show max (dC c) (dCs (r ++ b)) = max (max (dC c) (dCs r)) (dCs b); rw [dCs_app r b]; omega
mutual
theorem dC_rv : ∀ c : Cd, dC (rv c) = dC c
  | .rep t b => congrArg (· + 1) (dCs_rvs b)
  | .go v => rfl
  | .put n => rfl
  | .ref u nm => rfl
theorem dCs_rvs : ∀ cs : List Cd, dCs (rvs cs) = dCs cs
  | [] => rfl
  | c :: r => by
    show dCs (rvs r ++ [rv c]) = max (dC c) (dCs r)
    rw [dCs_app, dCs_rvs r]
    show max (dCs r) (max (dC (rv c)) 0) = _
    rw [dC_rv c]
    omega
end
theorem toDs_rev : ∀ cs : List Cd, (toDs cs).reverse = toDs cs.reverse := fun cs => by rw [toDs_map, toDs_map, List.map_reverse]
/-- the blocks within -/
def inn : List Cd → List (List Cd)
  | [] => []
  | .rep _ b :: r => b :: inn r
  | .go _ :: r => inn r
  | .put _ :: r => inn r
  | .ref _ _ :: r => inn r
inductive FR (T : D → Prop) (R : D → D → Prop) : List D → List D → Prop
  | nil : FR T R [] []
  | skip {d : D} {ds es : List D} : T d → FR T R ds es → FR T R (d :: ds) es
  | take {d e : D} {ds es : List D} : R d e → FR T R ds es → FR T R (d :: ds) (e :: es)
theorem compD_fr {gt : WG} {wt : WT} {we : WE} {g : MH → Prop} {ρ : Rh} (T : D → Prop) (R : D → D → Prop) : ∀ (ds es : List D) {M : MH} {k : List D → MH → Prop}, FR T R ds es → g M →
    (∀ d, T d → ∀ (k1 : KD) (k2 : MH → Prop), k2 M → gt d ρ M fun ρ1 M1 => wt ρ1 M1 (fun b M2 => match b with
      | true => we ρ1 M2 k1 noX
      | false => k2 M2) noX) →
    (∀ d e, R d e → ∀ (k1 : KD) (k2 : MH → Prop), k1 e M → gt d ρ M fun ρ1 M1 => wt ρ1 M1 (fun b M2 => match b with
      | true => we ρ1 M2 k1 noX
      | false => k2 M2) noX) → k es M → compD gt wt we g ρ ds M k
  | _, _, _, _, .nil, hg, _, _, hk => ⟨hg, hk⟩
  | _, _, M, k, .skip t r, hg, h1, h2, hk => ⟨hg, h1 _ t _ _ (compD_fr T R _ _ r hg h1 h2 hk)⟩
  | _, _, M, k, .take t r, hg, h1, h2, hk => ⟨hg, h2 _ _ t _ _ (compD_fr T R _ _ r hg h1 h2 hk)⟩
/-- of a block: what is no repeat is left out -/
def noRep (d : D) : Prop := ∃ c, d = toD c ∧ ∀ t b, c ≠ .rep t b
theorem fr_inn (f : List Cd → D) : ∀ cs : List Cd, FR noRep (fun d e => ∃ t b, d = toD (.rep t b) ∧ e = f b ∧ b ∈ inn cs) (toDs cs) ((inn cs).map f) := fun cs =>
  have h : ∀ (es : List Cd), (∀ b, b ∈ inn es → b ∈ inn cs) → FR noRep (fun d e => ∃ t b, d = toD (.rep t b) ∧ e = f b ∧ b ∈ inn cs) (toDs es) ((inn es).map f) := fun es => by
    induction es with
    | nil => exact fun _ => .nil
    | cons c r ih =>
      intro h
      cases c with
      | rep t b => exact .take ⟨t, b, rfl, rfl, h b List.mem_cons_self⟩ (ih fun e he => h e (List.mem_cons_of_mem _ he))
      | go v => exact .skip ⟨_, rfl, fun _ _ q => nomatch q⟩ (ih h)
      | put v => exact .skip ⟨_, rfl, fun _ _ q => nomatch q⟩ (ih h)
      | ref u v => exact .skip ⟨_, rfl, fun _ _ q => nomatch q⟩ (ih h)
  h cs fun _ h => h
theorem inn_dep : ∀ {cs : List Cd} {b : List Cd}, b ∈ inn cs → dCs b + 1 ≤ dCs cs ∧ szs b + 1 ≤ szs cs
  | c :: r, b, h => by
    have e1 : dCs (c :: r) = max (dC c) (dCs r) := rfl
    have e2 : szs (c :: r) = sz c + szs r := rfl
    have hp := sz_pos c
    have up : b ∈ inn r → dCs b + 1 ≤ dCs (c :: r) ∧ szs b + 1 ≤ szs (c :: r) := fun hr => by have := inn_dep hr; rw [e1, e2]; omega
    cases c with
    | rep t bb =>
      rcases List.mem_cons.mp h with q | q
      · subst q
        have e3 : dC (.rep t b) = dCs b + 1 := rfl
        have e4 : sz (.rep t b) = szs b + 1 := rfl
        rw [e1, e2, e3, e4]
        omega
      · exact up q
    | go v => exact up h
    | put v => exact up h
    | ref u v => exact up h
theorem inn_mem {t : Int} {b : List Cd} : ∀ {cs : List Cd}, Cd.rep t b ∈ cs → b ∈ inn cs
  | a :: r, h => by
    rcases List.mem_cons.mp h with q | q
    · subst q; exact List.mem_cons_self
    · have := inn_mem q
      cases a with
      | rep t b => exact List.mem_cons_of_mem _ this
      | go v => exact this
      | put v => exact this
      | ref u v => exact this
theorem inn_sum : ∀ cs : List Cd, (cs.length : Int) + ((inn cs).map fun b => (szs b : Int)).sum = szs cs
  | [] => rfl
  | .rep t b :: r => by
    have e : szs (.rep t b :: r) = szs b + 1 + szs r := rfl
    have q := inn_sum r
    show ((r.length + 1 : Nat) : Int) + ((szs b : Int) + ((inn r).map fun b => (szs b : Int)).sum) = _
    rw [e]
    omega
  | .go v :: r => by
    have e : szs (.go v :: r) = 1 + szs r := rfl
    have q := inn_sum r
    show ((r.length + 1 : Nat) : Int) + ((inn r).map fun b => (szs b : Int)).sum = _
    rw [e]; omega
  | .put v :: r => by
    have e : szs (.put v :: r) = 1 + szs r := rfl
    have q := inn_sum r
    show ((r.length + 1 : Nat) : Int) + ((inn r).map fun b => (szs b : Int)).sum = _
    rw [e]; omega
  | .ref u v :: r => by
    have e : szs (.ref u v :: r) = 1 + szs r := rfl
    have q := inn_sum r
    show ((r.length + 1 : Nat) : Int) + ((inn r).map fun b => (szs b : Int)).sum = _
    rw [e]; omega
theorem inn_max : ∀ cs : List Cd, (dCs cs = 0 ∧ inn cs = []) ∨ ∃ b, b ∈ inn cs ∧ dCs cs = dCs b + 1
  | [] => .inl ⟨rfl, rfl⟩
  | .rep t b :: r => by
    have e : dCs (.rep t b :: r) = max (dCs b + 1) (dCs r) := rfl
    rcases inn_max r with ⟨h1, h2⟩ | ⟨b2, h1, h2⟩
    · exact .inr ⟨b, List.mem_cons_self, by rw [e]; omega⟩
    · by_cases q : dCs b + 1 ≤ dCs r
      · exact .inr ⟨b2, List.mem_cons_of_mem _ h1, by rw [e]; omega⟩
      · exact .inr ⟨b, List.mem_cons_self, by rw [e]; omega⟩
  | .go v :: r => by
    have e : dCs (.go v :: r) = dCs r := by show max 0 (dCs r) = _; omega
    rw [e]; exact inn_max r
  | .put v :: r => by
    have e : dCs (.put v :: r) = dCs r := by show max 0 (dCs r) = _; omega
    rw [e]; exact inn_max r
  | .ref u v :: r => by
    have e : dCs (.ref u v :: r) = dCs r := by show max 0 (dCs r) = _; omega
    rw [e]; exact inn_max r
theorem mx_inn (cs : List Cd) : mxD 0 ((inn cs).map fun b => 1 + (dCs b : Int)) = dCs cs := by
  rcases inn_max cs with ⟨h1, h2⟩ | ⟨b, h1, h2⟩
  · rw [h1, h2]; rfl
  · refine mxD_eq (List.mem_map.mpr ⟨b, h1, by omega⟩) fun y hy => ?_
    obtain ⟨b2, hb, rfl⟩ := List.mem_map.mp hy
    have := (inn_dep hb).1
    omega
def sp_inner_blocks : WF := fun ds M k _ => ∃ cs, ds = [tB cs] ∧ k (.lst ((inn cs).map tB)) M
def sp_reverse (n : Nat) : WF := fun ds M k _ => ∃ cs, ds = [tB cs] ∧ dCs cs ≤ n ∧ k (tB (rvs cs)) M
def sp__law_reverse (n : Nat) : WF := fun ds M k _ => ∃ cs, ds = [tB cs] ∧ dCs cs ≤ n ∧ cs.length ≤ 4000 ∧ szs cs ≤ 4000 ∧ k (tB (rvs cs)) M
def sp_reversed_statement (n : Nat) : WF := fun ds M k _ => ∃ c, ds = [toD c] ∧ dC c ≤ n ∧ k (toD (rv c)) M
def sp_statements (n : Nat) : WF := fun ds M k _ => ∃ cs, ds = [tB cs] ∧ dCs cs ≤ n ∧ k (.int (szs cs)) M
def sp__law_count (n : Nat) : WF := sp_statements n
def sp_depth (n : Nat) : WF := fun ds M k _ => ∃ cs, ds = [tB cs] ∧ dCs cs ≤ n ∧ k (.int (dCs cs)) M
def sp__law_a_deep (n : Nat) : WF := sp_depth n
def N_reversed_statement : List Str := ["statement", "vector", "number", "name"]
def w_reversed_statement (sr_reverse : WF) : WS := (wSeq (wMatch (wVar 0) (wmCons (wpSeq 2 (wpCons (wpStr "go") (wpCons (wpN 1) wpNil))) (wRet (wTup (wCons (wC (.str "go")) (wCons (wCall sp_opposite 1 (wCons (wVar 1) wNil)) wNil)))) (wmCons (wpSeq 2 (wpCons (wpStr "put") (wpCons (wpN 2) wpNil))) (wRet (wTup (wCons (wC (.str "put")) (wCons (wUn rNeg (wVar 2)) wNil)))) (wmCons (wpSeq 2 (wpCons (wpStr "do") (wpCons (wpN 3) wpNil))) (wRet (wTup (wCons (wC (.str "undo")) (wCons (wVar 3) wNil)))) (wmCons (wpSeq 2 (wpCons (wpStr "undo") (wpCons (wpN 3) wpNil))) (wRet (wTup (wCons (wC (.str "do")) (wCons (wVar 3) wNil)))) wmNil)))))
  (wRet (wTup (wCons (wC (.str "repeat")) (wCons (wIx (wVar 0) (wC (.int 1))) (wCons (wCall sr_reverse 1 (wCons (wIx (wVar 0) (wC (.int 2))) wNil)) wNil))))))
def N_reverse : List Str := ["block", "statement"]
def w_reverse (sr_reversed_statement : WF) : WS := (wRet (wCB rTuple (wCons (wLc (wiSeq (wRevT (wVar 0))) (wgN 1) wYes (wCall sr_reversed_statement 1 (wCons (wVar 1) wNil)) [1]) wNil)))
def N_inner_blocks : List Str := ["block", "statement"]
def w_inner_blocks : WS := (wRet (wLc (wiSeq (wVar 0)) (wgN 1) (wTest (wOp rEq (wIx (wVar 1) (wC (.int 0))) (wC (.str "repeat")))) (wIx (wVar 1) (wC (.int 2))) [1]))
def N_statements : List Str := ["block", "inner"]
def w_statements (sr : WF) : WS := (wRet (wOp rAdd (wCB rLn (wCons (wVar 0) wNil)) (wCB rSum (wCons (wLc (wiSeq (wCall sp_inner_blocks 1 (wCons (wVar 0) wNil))) (wgN 1) wYes (wCall sr 1 (wCons (wVar 1) wNil)) [1]) wNil))))
def N_depth : List Str := ["block", "inner"]
def w_depth (sr : WF) : WS := (wRet (wMaxD (wLc (wiSeq (wCall sp_inner_blocks 1 (wCons (wVar 0) wNil))) (wgN 1) wYes (wOp rAdd (wC (.int 1)) (wCall sr 1 (wCons (wVar 1) wNil))) [1]) (wC (.int 0))))
def N__law_reverse : List Str := ["_law_block", "_law_found", "_law_statement", "_law_a"]
def w__law_reverse (sr : WF) : WS := (wSeq (wSet 1 (wLstM wNil))
  (wSeq (wFor (wiSeq (wRevT (wVar 0))) (wgN 2) (wIfS (wTest (wOp rEq (wIx (wVar 2) (wC (.int 0))) (wC (.str "repeat")))) (wDrop (wApp (wVar 1) (wTup (wCons (wC (.str "repeat")) (wCons (wIx (wVar 2) (wC (.int 1))) (wCons (wCall sr 1 (wCons (wIx (wVar 2) (wC (.int 2))) wNil)) wNil)))))) (wIfS (wTest (wOp rEq (wIx (wVar 2) (wC (.int 0))) (wC (.str "go")))) (wDrop (wApp (wVar 1) (wTup (wCons (wC (.str "go")) (wCons (wCB rTuple (wCons (wLc (wiSeq (wIx (wVar 2) (wC (.int 1)))) (wgN 3) wYes (wUn rNeg (wVar 3)) [3]) wNil)) wNil))))) (wIfS (wTest (wOp rEq (wIx (wVar 2) (wC (.int 0))) (wC (.str "put")))) (wDrop (wApp (wVar 1) (wTup (wCons (wC (.str "put")) (wCons (wUn rNeg (wIx (wVar 2) (wC (.int 1)))) wNil))))) (wDrop (wApp (wVar 1) (wTup (wCons (wPick2 "do" "undo" "undo" "do" (wIx (wVar 2) (wC (.int 0)))) (wCons (wIx (wVar 2) (wC (.int 1))) wNil)))))))))
  (wFrz 1 (wRet (wCB rTuple (wCons (wVar 1) wNil))))))
def N__law_count : List Str := ["_law_block", "_law_one"]
def w__law_count (sr : WF) : WS := (wRet (wOp rAdd (wCB rLn (wCons (wVar 0) wNil)) (wCB rSum (wCons (wLc (wiSeq (wVar 0)) (wgN 1) (wTest (wOp rEq (wIx (wVar 1) (wC (.int 0))) (wC (.str "repeat")))) (wCall sr 1 (wCons (wIx (wVar 1) (wC (.int 2))) wNil)) [1]) wNil))))
def N__law_a_deep : List Str := ["_law_block", "_law_found", "_law_one"]
def w__law_a_deep (sr : WF) : WS := (wSeq (wSet 1 (wC (.int 0)))
  (wSeq (wFor (wiSeq (wVar 0)) (wgN 2) (wIfS (wTest (wOp rEq (wIx (wVar 2) (wC (.int 0))) (wC (.str "repeat")))) (wSet 1 (wCB rMax2 (wCons (wVar 1) (wCons (wOp rAdd (wC (.int 1)) (wCall sr 1 (wCons (wIx (wVar 2) (wC (.int 2))) wNil))) wNil)))) wNext))
  (wRet (wVar 1))))
theorem hw_rstat {sr : WF} {n : Nat} (hs : ∀ b M k x, dCs b + 1 ≤ n → k (tB (rvs b)) M → sr [tB b] M k x) (ds : List D) (M : MH) (k : KD) (x : KE) (h : sp_reversed_statement n ds M k x) : w_reversed_statement sr (startD N_reversed_statement ds) M (retE k x) := by
  obtain ⟨c, rfl, hd, hk⟩ := h
  cases c with
  | go v =>
    walk_at "w"
    refine ⟨v, rfl, ?_⟩
    walk_at "w"
    exact Lt.now hk
  | put i => walk_at "w"; exact Lt.now hk
  | ref u nm => cases u <;> (walk_at "w"; exact Lt.now hk)
  | rep t b =>
    walk_at "w"
    refine hs b M _ _ hd ?_
    walk_at "w"
    exact Lt.now hk
theorem hw_rev {ss : WF} {n : Nat} (hs : ∀ c M k x, dC c ≤ n → k (toD (rv c)) M → ss [toD c] M k x) (ds : List D) (M : MH) (k : KD) (x : KE) (h : sp_reverse n ds M k x) : w_reverse ss (startD N_reverse ds) M (retE k x) := by
  obtain ⟨cs, rfl, hd, hk⟩ := h
  walk_at "w"
  rw [toDs_rev]
  have hm : ∀ es : List Cd, (∀ c, c ∈ es → dC c ≤ n) → All2 (fun d e => ∃ c, d = toD c ∧ e = toD (rv c) ∧ dC c ≤ n) (toDs es) (toDs (es.map rv)) := fun es => by
    induction es with
    | nil => exact fun _ => .nil
    | cons c r ih => exact fun h => .cons ⟨c, rfl, rfl, h c List.mem_cons_self⟩ (ih fun e he => h e (List.mem_cons_of_mem _ he))
  have hall : ∀ c, c ∈ cs → dC c ≤ n := by
    clear hk hm
    intro c hc
    induction cs with
    | nil => cases hc
    | cons a r ih =>
      have e : dCs (a :: r) = max (dC a) (dCs r) := rfl
      rw [e] at hd
      rcases List.mem_cons.mp hc with q | q
      · subst q; omega
      · exact ih (by omega) q
  refine compD_all2 _ _ _ (hm cs.reverse fun c hc => hall c (List.mem_reverse.mp hc)) trivial (fun d e r k' hk' => ?_) ?_
  · obtain ⟨c, rfl, rfl, hc⟩ := r
    exact hs c M k' _ hc hk'
  · rw [← rvs_eq]
    exact Lt.now hk
theorem hw_rstat0 (ds : List D) (M : MH) (k : KD) (x : KE) (_ : ds.length = 1) (h : sp_reversed_statement 0 ds M k x) : w_reversed_statement noSp (startD N_reversed_statement ds) M (retE k x) := hw_rstat (n := 0) (fun _ _ _ _ h => absurd h (Nat.not_succ_le_zero _)) ds M k x h
theorem hw_rstat1 (n : Nat) (ds : List D) (M : MH) (k : KD) (x : KE) (_ : ds.length = 1) (h : sp_reversed_statement (n + 1) ds M k x) : w_reversed_statement (sp_reverse n) (startD N_reversed_statement ds) M (retE k x) := hw_rstat (n := n + 1) (fun b M k x h1 h2 => ⟨b, rfl, Nat.le_of_succ_le_succ h1, h2⟩) ds M k x h
theorem hw_rev1 (n : Nat) (ds : List D) (M : MH) (k : KD) (x : KE) (_ : ds.length = 1) (h : sp_reverse n ds M k x) : w_reverse (sp_reversed_statement n) (startD N_reverse ds) M (retE k x) := hw_rev (n := n) (fun c M k x h1 h2 => ⟨c, rfl, h1, h2⟩) ds M k x h
theorem skip_ {T : Prop} (h : T) : T := h
theorem hw_inner_blocks (ds : List D) (M : MH) (k : KD) (x : KE) (_ : ds.length = 1) (h : sp_inner_blocks ds M k x) : w_inner_blocks (startD N_inner_blocks ds) M (retE k x) := by
  obtain ⟨cs, rfl, hk⟩ := h
  walk_at "w"
  refine compD_fr _ _ _ _ (fr_inn tB cs) trivial (fun d t k1 k2 h2 => ?_) (fun d e r k1 k2 h1 => ?_) (Lt.now hk)
  · obtain ⟨c, rfl, hc⟩ := t
    cases c with
    | rep t b => exact absurd rfl (hc t b)
    | go v => exact h2
    | put v => exact h2
    | ref u v => cases u <;> exact h2
  · obtain ⟨t, b, rfl, rfl, _⟩ := r
    exact h1
theorem each_f {α : Type} (f g : α → D) (xs : List α) : All2 (fun d e => ∃ b, b ∈ xs ∧ d = f b ∧ e = g b) (xs.map f) (xs.map g) :=
  have h : ∀ es : List α, (∀ b, b ∈ es → b ∈ xs) → All2 (fun d e => ∃ b, b ∈ xs ∧ d = f b ∧ e = g b) (es.map f) (es.map g) := fun es => by
    induction es with
    | nil => exact fun _ => .nil
    | cons c r ih => exact fun h => .cons ⟨c, h c List.mem_cons_self, rfl, rfl⟩ (ih fun e he => h e (List.mem_cons_of_mem _ he))
  h xs fun _ h => h
theorem hw_stats {sr : WF} {n : Nat} (hs : ∀ b M k x, dCs b + 1 ≤ n → k (.int (szs b)) M → sr [tB b] M k x) (ds : List D) (M : MH) (k : KD) (x : KE) (h : sp_statements n ds M k x) : w_statements sr (startD N_statements ds) M (retE k x) := by
  obtain ⟨cs, rfl, hd, hk⟩ := h
  walk_at "w"
  refine ⟨cs, rfl, ?_⟩
  refine compD_all2 _ _ _ (each_f tB (fun b => .int (szs b)) (inn cs)) trivial (fun d e r k' hk' => ?_) ?_
  · obtain ⟨b, hb, rfl, rfl⟩ := r
    exact hs b M k' _ (by have := (inn_dep hb).1; omega) hk'
  · have e : ((inn cs).map fun b => D.int (szs b)) = ((inn cs).map fun b => (szs b : Int)).map .int := by rw [List.map_map]; rfl
    rw [e]
    walk_at "w"
    rw [intsOf_map]
    refine Lt.as hk ?_
    show D.int (((toDs cs).length : Int) + _) = _
    rw [toDs_len]
    exact congrArg D.int (inn_sum cs)
theorem hw_count {sr : WF} {n : Nat} (hs : ∀ b M k x, dCs b + 1 ≤ n → k (.int (szs b)) M → sr [tB b] M k x) (ds : List D) (M : MH) (k : KD) (x : KE) (h : sp__law_count n ds M k x) : w__law_count sr (startD N__law_count ds) M (retE k x) := by
  obtain ⟨cs, rfl, hd, hk⟩ := h
  walk_at "w"
  refine compD_fr _ _ _ _ (fr_inn (fun b => .int (szs b)) cs) trivial (fun d t k1 k2 h2 => ?_) (fun d e r k1 k2 h1 => ?_) ?_
  · obtain ⟨c, rfl, hc⟩ := t
    cases c with
    | rep t b => exact absurd rfl (hc t b)
    | go v => exact h2
    | put v => exact h2
    | ref u v => cases u <;> exact h2
  · obtain ⟨t, b, rfl, rfl, hb⟩ := r
    exact hs b M k1 _ (by have := (inn_dep hb).1; omega) h1
  · have e : ((inn cs).map fun b => D.int (szs b)) = ((inn cs).map fun b => (szs b : Int)).map .int := by rw [List.map_map]; rfl
    rw [e]
    walk_at "w"
    rw [intsOf_map]
    refine Lt.as hk ?_
    show D.int (((toDs cs).length : Int) + _) = _
    rw [toDs_len]
    exact congrArg D.int (inn_sum cs)
theorem hw_dep {sr : WF} {n : Nat} (hs : ∀ b M k x, dCs b + 1 ≤ n → k (.int (dCs b)) M → sr [tB b] M k x) (ds : List D) (M : MH) (k : KD) (x : KE) (h : sp_depth n ds M k x) : w_depth sr (startD N_depth ds) M (retE k x) := by
  obtain ⟨cs, rfl, hd, hk⟩ := h
  walk_at "w"
  refine ⟨cs, rfl, ?_⟩
  refine compD_all2 _ _ _ (each_f tB (fun b => .int (1 + (dCs b : Int))) (inn cs)) trivial (fun d e r k' hk' => ?_) ?_
  · obtain ⟨b, hb, rfl, rfl⟩ := r
    exact hs b M _ _ (by have := (inn_dep hb).1; omega) hk'
  · have e : ((inn cs).map fun b => D.int (1 + (dCs b : Int))) = ((inn cs).map fun b => 1 + (dCs b : Int)).map .int := by rw [List.map_map]; rfl
    rw [e]
    walk_at "w"
    rw [intsOf_map]
    exact Lt.as hk (congrArg D.int (mx_inn cs))
theorem hw_deep {sr : WF} {n : Nat} (hs : ∀ b M k x, dCs b + 1 ≤ n → k (.int (dCs b)) M → sr [tB b] M k x) (ds : List D) (M : MH) (k : KD) (x : KE) (h : sp__law_a_deep n ds M k x) : w__law_a_deep sr (startD N__law_a_deep ds) M (retE k x) := by
  obtain ⟨cs, rfl, hd, hk⟩ := h
  walk_at "w"
  refine forD_inv (fun ds ρ M' => M' = M ∧ ∃ (cs1 : List Cd) (m : Nat) (o2 : Option D), ds = toDs cs1 ∧ dCs cs1 ≤ n ∧ max m (dCs cs1) = dCs cs ∧ ρ = [some (tB cs), some (.int m), o2]) (fun _ _ _ _ => trivial) (fun ρ M' hI => ?_) (fun d r ρ M' nx hI hn => ?_) _ _ _
    ⟨rfl, cs, 0, _, rfl, hd, by omega, rfl⟩
  · obtain ⟨rfl, cs1, m, o2, hd1, _, hm, rfl⟩ := hI
    cases cs1 with
    | nil =>
      have hm' : max m 0 = dCs cs := hm
      exact Lt.as hk (by show D.int (m : Int) = D.int (dCs cs : Int); congr 2; omega)
    | cons c cs1 => cases hd1
  · obtain ⟨rfl, cs1, m, o2, hd1, hdl, hm, rfl⟩ := hI
    cases cs1 with
    | nil => cases hd1
    | cons c cs1 =>
      cases hd1
      have e1 : dCs (c :: cs1) = max (dC c) (dCs cs1) := rfl
      rw [e1] at hdl hm
      cases c with
      | go v => walk_at "w"; exact hn _ _ ⟨rfl, cs1, m, _, rfl, by omega, by have : dC (.go v) = 0 := rfl; omega, rfl⟩
      | put v => walk_at "w"; exact hn _ _ ⟨rfl, cs1, m, _, rfl, by omega, by have : dC (.put v) = 0 := rfl; omega, rfl⟩
      | ref u v => cases u <;> (walk_at "w"; exact hn _ _ ⟨rfl, cs1, m, _, rfl, by omega, by first | (have : dC (.ref true v) = 0 := rfl; omega) | (have : dC (.ref false v) = 0 := rfl; omega), rfl⟩)
      | rep t b =>
        have e2 : dC (.rep t b) = dCs b + 1 := rfl
        walk_at "w"
        refine hs b M' _ _ (by omega) ?_
        have e3 : (if (1 + (dCs b : Int)) > (m : Int) then 1 + (dCs b : Int) else (m : Int)) = ((max m (dCs b + 1) : Nat) : Int) := by
          by_cases q : (1 + (dCs b : Int)) > (m : Int)
          · rw [if_pos q]; omega
          · rw [if_neg q]; omega
        walk_at "w"
        rw [e3]
        exact hn _ _ ⟨rfl, cs1, max m (dCs b + 1), _, rfl, by omega, by omega, rfl⟩
theorem hw_lrev {sr : WF} {n : Nat} (hs : ∀ b M k x, dCs b + 1 ≤ n → b.length ≤ 4000 → szs b ≤ 4000 → k (tB (rvs b)) M → sr [tB b] M k x) (ds : List D) (M : MH) (k : KD) (x : KE) (h : sp__law_reverse n ds M k x) : w__law_reverse sr (startD N__law_reverse ds) M (retE k x) := by
  obtain ⟨cs, rfl, hd, hl4, hz, hk⟩ := h
  walk_at "w"
  intro b hb
  walk_at "w"
  rw [toDs_rev]
  refine forD_inv (fun ds ρ M' => Off b M M' ∧ ∃ cs1 dn o2 o3, ds = toDs cs1 ∧ (∀ c, c ∈ cs1 → c ∈ cs) ∧ dn.length + cs1.length ≤ 4000 ∧ dn ++ cs1.map rv = rvs cs ∧ M' b = some (.lst (toDs dn)) ∧ ρ = [some (tB cs), some (.ref b), o2, o3]) (fun _ _ _ _ => trivial) (fun ρ M' hI => ?_) (fun d r ρ M' nx hI hn => ?_) _ _ _
    ⟨DL.Off.upd _ _ _, cs.reverse, [], _, _, rfl, fun c hc => List.mem_reverse.mp hc, by rw [List.length_nil, List.length_reverse]; omega, by rw [rvs_eq]; rfl, mupd_same, rfl⟩
  · obtain ⟨hO, cs1, dn, o2, o3, hd1, _, _, hf, hM, rfl⟩ := hI
    cases cs1 with
    | nil =>
      refine ⟨b, _, rfl, hM, ?_⟩
      rw [mdel_eq hO hb]
      have e : dn = rvs cs := by rw [← hf]; exact (List.append_nil dn).symm
      rw [e]
      exact Lt.now hk
    | cons c cs1 => cases hd1
  · obtain ⟨hO, cs1, dn, o2, o3, hd1, hmem, hfl, hf, hM, rfl⟩ := hI
    cases cs1 with
    | nil => cases hd1
    | cons c cs1 =>
      cases hd1
      rw [List.length_cons] at hfl
      have hlen : (toDs dn).length < sizeLine := by rw [toDs_len, sizeLine_eq]; omega
      have fin : ∀ e p2 p3, e = toD (rv c) → nx [some (tB cs), some (.ref b), p2, p3] (mupd M' b (.lst (toDs dn ++ [e]))) := by
        rintro e p2 p3 rfl
        refine hn _ _ ⟨hO.upd2 _, cs1, dn ++ [rv c], _, _, rfl, fun e he => hmem e (List.mem_cons_of_mem _ he), by rw [List.length_append, List.length_singleton]; omega, ?_, by rw [mupd_same, toDs_app]; rfl, rfl⟩
        rw [List.append_assoc]
        exact hf
      have hc := hmem c List.mem_cons_self
      cases c with
      | go v =>
        walk_at "w"
        refine ⟨_, _, rfl, hM, ?_⟩
        walk_at "w"
        refine compD_all2 _ _ _ (each_int (fun x => -x) v) trivial (fun d e r k' hk' => ?_) ?_
        · obtain ⟨m, hm', rfl, rfl⟩ := r
          exact hk'
        · walk_at "w"
          refine ⟨_, hM, hlen, ?_⟩
          exact fin _ _ _ rfl
      | put i => walk_at "w"; refine ⟨_, _, rfl, hM, ?_⟩; refine ⟨_, hM, hlen, ?_⟩; exact fin _ _ _ rfl
      | ref u nm => cases u <;> (walk_at "w"; refine ⟨_, _, rfl, hM, ?_⟩; walk_at "w"; refine ⟨_, hM, hlen, ?_⟩; exact fin _ _ _ rfl)
      | rep t bb =>
        have hin : bb ∈ inn cs := inn_mem hc
        obtain ⟨q1, q2⟩ := inn_dep hin
        have q3 := len_szs bb
        walk_at "w"
        refine ⟨_, _, rfl, hM, ?_⟩
        refine hs bb M' _ _ (by omega) (by omega) (by omega) ?_
        walk_at "w"
        refine ⟨_, hM, hlen, ?_⟩
        exact fin _ _ _ rfl
theorem hw0_statements (ds : List D) (M : MH) (k : KD) (x : KE) (_ : ds.length = 1) (h : sp_statements 0 ds M k x) : w_statements noSp (startD N_statements ds) M (retE k x) := hw_stats (n := 0) (fun _ _ _ _ h => absurd h (Nat.not_succ_le_zero _)) ds M k x h
theorem hw1_statements (n : Nat) (ds : List D) (M : MH) (k : KD) (x : KE) (_ : ds.length = 1) (h : sp_statements (n + 1) ds M k x) : w_statements (sp_statements n) (startD N_statements ds) M (retE k x) := hw_stats (n := n + 1) (fun b M k x h1 h2 => ⟨b, rfl, Nat.le_of_succ_le_succ h1, h2⟩) ds M k x h
theorem hw0__law_count (ds : List D) (M : MH) (k : KD) (x : KE) (_ : ds.length = 1) (h : sp__law_count 0 ds M k x) : w__law_count noSp (startD N__law_count ds) M (retE k x) := hw_count (n := 0) (fun _ _ _ _ h => absurd h (Nat.not_succ_le_zero _)) ds M k x h
theorem hw1__law_count (n : Nat) (ds : List D) (M : MH) (k : KD) (x : KE) (_ : ds.length = 1) (h : sp__law_count (n + 1) ds M k x) : w__law_count (sp__law_count n) (startD N__law_count ds) M (retE k x) := hw_count (n := n + 1) (fun b M k x h1 h2 => ⟨b, rfl, Nat.le_of_succ_le_succ h1, h2⟩) ds M k x h
theorem hw0_depth (ds : List D) (M : MH) (k : KD) (x : KE) (_ : ds.length = 1) (h : sp_depth 0 ds M k x) : w_depth noSp (startD N_depth ds) M (retE k x) := hw_dep (n := 0) (fun _ _ _ _ h => absurd h (Nat.not_succ_le_zero _)) ds M k x h
theorem hw1_depth (n : Nat) (ds : List D) (M : MH) (k : KD) (x : KE) (_ : ds.length = 1) (h : sp_depth (n + 1) ds M k x) : w_depth (sp_depth n) (startD N_depth ds) M (retE k x) := hw_dep (n := n + 1) (fun b M k x h1 h2 => ⟨b, rfl, Nat.le_of_succ_le_succ h1, h2⟩) ds M k x h
theorem hw0__law_a_deep (ds : List D) (M : MH) (k : KD) (x : KE) (_ : ds.length = 1) (h : sp__law_a_deep 0 ds M k x) : w__law_a_deep noSp (startD N__law_a_deep ds) M (retE k x) := hw_deep (n := 0) (fun _ _ _ _ h => absurd h (Nat.not_succ_le_zero _)) ds M k x h
theorem hw1__law_a_deep (n : Nat) (ds : List D) (M : MH) (k : KD) (x : KE) (_ : ds.length = 1) (h : sp__law_a_deep (n + 1) ds M k x) : w__law_a_deep (sp__law_a_deep n) (startD N__law_a_deep ds) M (retE k x) := hw_deep (n := n + 1) (fun b M k x h1 h2 => ⟨b, rfl, Nat.le_of_succ_le_succ h1, h2⟩) ds M k x h
theorem hw0__law_reverse (ds : List D) (M : MH) (k : KD) (x : KE) (_ : ds.length = 1) (h : sp__law_reverse 0 ds M k x) : w__law_reverse noSp (startD N__law_reverse ds) M (retE k x) := hw_lrev (n := 0) (fun _ _ _ _ h => absurd h (Nat.not_succ_le_zero _)) ds M k x h
theorem hw1__law_reverse (n : Nat) (ds : List D) (M : MH) (k : KD) (x : KE) (_ : ds.length = 1) (h : sp__law_reverse (n + 1) ds M k x) : w__law_reverse (sp__law_reverse n) (startD N__law_reverse ds) M (retE k x) := hw_lrev (n := n + 1) (fun b M k x h1 h2 h3 h4 => ⟨b, rfl, Nat.le_of_succ_le_succ h1, h2, h3, h4⟩) ds M k x h
end DL

namespace K4
open PySem PySem.Spec PyProof.Rows L2 DL
def top (i : Nat) : Stmt := PySem.Challenge.pw_strewfar_k04_blocks_reversed.main.body.getD i (.Pass ⟨0, 0, 0, 0⟩)
/-- the built-in names that the program leaves as they are -/
structure Bl (mg : Str → Option Value) : Prop where
  all : mg "all" = none
  bool : mg "bool" = none
  int : mg "int" = none
  isinstance : mg "isinstance" = none
  len : mg "len" = none
  list : mg "list" = none
  max : mg "max" = none
  range : mg "range" = none
  str : mg "str" = none
  sum : mg "sum" = none
  tuple : mg "tuple" = none
  zip : mg "zip" = none
/-! scale -/
abbrev s_scale : Stmt := top 1
abbrev N_scale : List Str := ["number", "place", "one"]
theorem sc_scale : FnScope N_scale ["number", "place"] (defScope s_scale) := ⟨rfl, rfl, rfl, by decide +kernel, rfl, by decide +kernel, by decide +kernel⟩
def w_scale : WS := (wRet (wCB rTuple (wCons (wLc (wiSeq (wVar 1)) (wgN 2) wYes (wOp rMul (wVar 0) (wVar 2)) [2]) wNil)))
theorem d_scale {P : Program} {w : World} {K : PySem.W.Frag} {mg : Str → Option Value} {base : Heap} {f : Addr} {cdv : Value} {A : Around} {outer : List Env} {s : Shared} {H : Hp} {E : XK} (B : Bl mg) (hr : Room 0 (A.deeper (envOfC "scale" (defScope s_scale) s.heap.objs.size f cdv))) :
    DSs (cxOf (L2.CX P w) P w K mg base N_scale "scale" (defScope s_scale) f cdv A outer s H E) (defBody s_scale) w_scale := by
  have sc := sc_scale
  exact (dss_one (ds_ret (de_callTy cd_tuple B.tuple (by decide +kernel) (da_cons (de_lc (own := [("one", 2)]) (wt := wYes) (we := (wOp rMul (wVar 0) (wVar 2))) (gt := (wgN 2)) rfl sc.nd (di_seq (dv 1)) (blkOk_by (N := N_scale) (sc := defScope s_scale) (by decide +kernel)) (by decide) (fun _ _ _ _ _ => (dg_name (i := 2) sc.nd rfl (by first | exact Or.inl rfl | exact Or.inr rfl))) (fun _ _ _ _ _ => dts_nil) (fun _ _ _ _ _ => (de_op od_mul (dv 0) (dv 2)))) da_nil))))
theorem ok_scale {P : Program} {w : World} {K : PySem.W.Frag} {mg : Str → Option Value} {base : Heap} {f : Addr} {fd : FuncData} (sp : WF) (B : Bl mg) (F : Fun K "scale" "scale" s_scale f fd) (hm : mg "scale" = some (.ref f))
    (hw : ∀ ds M k x, ds.length = 2 → sp ds M k x → w_scale (startD N_scale ds) M (retE k x)) : FnD P w K mg base "scale" (0 + 1) 2 sp :=
  ⟨_, _, _, rfl, fn_d F sc_scale (fun cdv A outer s H E hr => d_scale B hr) hw, hm, F.kp, F.binds fun _ _ _ _ _ _ us hl => match us, hl with | [_, _], _ => rfl⟩
/-! opposite -/
abbrev s_opposite : Stmt := top 2
abbrev N_opposite : List Str := ["place"]
theorem sc_opposite : FnScope N_opposite ["place"] (defScope s_opposite) := ⟨rfl, rfl, rfl, by decide +kernel, rfl, by decide +kernel, by decide +kernel⟩
def w_opposite : WS := (wRet (wCall sp_scale 2 (wCons (wUn rNeg (wC (.int 1))) (wCons (wVar 0) wNil))))
theorem d_opposite {P : Program} {w : World} {K : PySem.W.Frag} {mg : Str → Option Value} {base : Heap} {f : Addr} {cdv : Value} {A : Around} {outer : List Env} {s : Shared} {H : Hp} {E : XK} (B : Bl mg) (G_scale : FnD P w K mg base "scale" 1 2 sp_scale) (hr : Room 1 (A.deeper (envOfC "opposite" (defScope s_opposite) s.heap.objs.size f cdv))) :
    DSs (cxOf (L2.CX P w) P w K mg base N_opposite "opposite" (defScope s_opposite) f cdv A outer s H E) (defBody s_opposite) w_opposite := by
  have sc := sc_opposite
  exact (dss_one (ds_ret (de_call G_scale (hr.mono (by decide)) (da_cons (de_un ud_neg de_int) (da_cons (dv 0) da_nil)))))
theorem ok_opposite {P : Program} {w : World} {K : PySem.W.Frag} {mg : Str → Option Value} {base : Heap} {f : Addr} {fd : FuncData} (sp : WF) (B : Bl mg) (G_scale : FnD P w K mg base "scale" 1 2 sp_scale) (F : Fun K "opposite" "opposite" s_opposite f fd) (hm : mg "opposite" = some (.ref f))
    (hw : ∀ ds M k x, ds.length = 1 → sp ds M k x → w_opposite (startD N_opposite ds) M (retE k x)) : FnD P w K mg base "opposite" (1 + 1) 1 sp :=
  ⟨_, _, _, rfl, fn_d F sc_opposite (fun cdv A outer s H E hr => d_opposite B G_scale hr) hw, hm, F.kp, F.binds fun _ _ _ _ _ _ us hl => match us, hl with | [_], _ => rfl⟩
/-! reversed_statement -/
abbrev s_reversed_statement : Stmt := top 4
abbrev N_reversed_statement : List Str := ["statement", "vector", "number", "name"]
theorem sc_reversed_statement : FnScope N_reversed_statement ["statement"] (defScope s_reversed_statement) := ⟨rfl, rfl, rfl, by decide +kernel, rfl, by decide +kernel, by decide +kernel⟩
theorem no_reversed_statement {P : Program} {w : World} {K : PySem.W.Frag} {mg : Str → Option Value} {base : Heap} {f : Addr} {fd : FuncData} (k : Nat) (F : Fun K "reversed_statement" "reversed_statement" s_reversed_statement f fd) (hm : mg "reversed_statement" = some (.ref f)) : FnD P w K mg base "reversed_statement" (k + 1) 1 noSp :=
  ⟨_, _, _, rfl, fn_no F sc_reversed_statement, hm, F.kp, F.binds fun _ _ _ _ _ _ us hl => match us, hl with | [_], _ => rfl⟩
def w_reversed_statement (sr_reverse : WF) : WS := (wSeq (wMatch (wVar 0) (wmCons (wpSeq 2 (wpCons (wpStr "go") (wpCons (wpN 1) wpNil))) (wRet (wTup (wCons (wC (.str "go")) (wCons (wCall sp_opposite 1 (wCons (wVar 1) wNil)) wNil)))) (wmCons (wpSeq 2 (wpCons (wpStr "put") (wpCons (wpN 2) wpNil))) (wRet (wTup (wCons (wC (.str "put")) (wCons (wUn rNeg (wVar 2)) wNil)))) (wmCons (wpSeq 2 (wpCons (wpStr "do") (wpCons (wpN 3) wpNil))) (wRet (wTup (wCons (wC (.str "undo")) (wCons (wVar 3) wNil)))) (wmCons (wpSeq 2 (wpCons (wpStr "undo") (wpCons (wpN 3) wpNil))) (wRet (wTup (wCons (wC (.str "do")) (wCons (wVar 3) wNil)))) wmNil)))))
  (wRet (wTup (wCons (wC (.str "repeat")) (wCons (wIx (wVar 0) (wC (.int 1))) (wCons (wCall sr_reverse 1 (wCons (wIx (wVar 0) (wC (.int 2))) wNil)) wNil))))))
theorem d_reversed_statement {P : Program} {w : World} {K : PySem.W.Frag} {mg : Str → Option Value} {base : Heap} {f : Addr} {cdv : Value} {A : Around} {outer : List Env} {s : Shared} {H : Hp} {E : XK} {k : Nat} {sr_reverse : WF} (B : Bl mg) (G_opposite : FnD P w K mg base "opposite" 2 1 sp_opposite) (G_reverse : FnD P w K mg base "reverse" k 1 sr_reverse) (hk : 2 ≤ k) (hr : Room k (A.deeper (envOfC "reversed_statement" (defScope s_reversed_statement) s.heap.objs.size f cdv))) :
    DSs (cxOf (L2.CX P w) P w K mg base N_reversed_statement "reversed_statement" (defScope s_reversed_statement) f cdv A outer s H E) (defBody s_reversed_statement) (w_reversed_statement sr_reverse) := by
  have sc := sc_reversed_statement
  exact (dss_cons (ds_match (dv 0) (dm_cons sc.nd (dp_seq rfl (dps_consP dp_str (dps_consP (dp_name (i := 1) rfl (by first | exact Or.inl rfl | exact Or.inr rfl)) dps_nilP))) (dss_one (ds_ret (de_tup (da_cons de_str (da_cons (de_call G_opposite (hr.mono (by omega)) (da_cons (dv 1) da_nil)) da_nil))))) (dm_cons sc.nd (dp_seq rfl (dps_consP dp_str (dps_consP (dp_name (i := 2) rfl (by first | exact Or.inl rfl | exact Or.inr rfl)) dps_nilP))) (dss_one (ds_ret (de_tup (da_cons de_str (da_cons (de_un ud_neg (dv 2)) da_nil))))) (dm_cons sc.nd (dp_seq rfl (dps_consP dp_str (dps_consP (dp_name (i := 3) rfl (by first | exact Or.inl rfl | exact Or.inr rfl)) dps_nilP))) (dss_one (ds_ret (de_tup (da_cons de_str (da_cons (dv 3) da_nil))))) (dm_cons sc.nd (dp_seq rfl (dps_consP dp_str (dps_consP (dp_name (i := 3) rfl (by first | exact Or.inl rfl | exact Or.inr rfl)) dps_nilP))) (dss_one (ds_ret (de_tup (da_cons de_str (da_cons (dv 3) da_nil))))) dm_nil)))))
  (dss_one (ds_ret (de_tup (da_cons de_str (da_cons (de_ix (dv 0) de_int) (da_cons (de_call G_reverse (hr.mono (by omega)) (da_cons (de_ix (dv 0) de_int) da_nil)) da_nil)))))))
theorem ok_reversed_statement {P : Program} {w : World} {K : PySem.W.Frag} {mg : Str → Option Value} {base : Heap} {f : Addr} {fd : FuncData} {k : Nat} {sr_reverse : WF} (sp : WF) (B : Bl mg) (G_opposite : FnD P w K mg base "opposite" 2 1 sp_opposite) (G_reverse : FnD P w K mg base "reverse" k 1 sr_reverse) (hk : 2 ≤ k) (F : Fun K "reversed_statement" "reversed_statement" s_reversed_statement f fd) (hm : mg "reversed_statement" = some (.ref f))
    (hw : ∀ ds M k x, ds.length = 1 → sp ds M k x → (w_reversed_statement sr_reverse) (startD N_reversed_statement ds) M (retE k x)) : FnD P w K mg base "reversed_statement" (k + 1) 1 sp :=
  ⟨_, _, _, rfl, fn_d F sc_reversed_statement (fun cdv A outer s H E hr => d_reversed_statement B G_opposite G_reverse hk hr) hw, hm, F.kp, F.binds fun _ _ _ _ _ _ us hl => match us, hl with | [_], _ => rfl⟩
/-! reverse -/
abbrev s_reverse : Stmt := top 5
abbrev N_reverse : List Str := ["block", "statement"]
theorem sc_reverse : FnScope N_reverse ["block"] (defScope s_reverse) := ⟨rfl, rfl, rfl, by decide +kernel, rfl, by decide +kernel, by decide +kernel⟩
theorem no_reverse {P : Program} {w : World} {K : PySem.W.Frag} {mg : Str → Option Value} {base : Heap} {f : Addr} {fd : FuncData} (k : Nat) (F : Fun K "reverse" "reverse" s_reverse f fd) (hm : mg "reverse" = some (.ref f)) : FnD P w K mg base "reverse" (k + 1) 1 noSp :=
  ⟨_, _, _, rfl, fn_no F sc_reverse, hm, F.kp, F.binds fun _ _ _ _ _ _ us hl => match us, hl with | [_], _ => rfl⟩
def w_reverse (sr_reversed_statement : WF) : WS := (wRet (wCB rTuple (wCons (wLc (wiSeq (wRevT (wVar 0))) (wgN 1) wYes (wCall sr_reversed_statement 1 (wCons (wVar 1) wNil)) [1]) wNil)))
theorem d_reverse {P : Program} {w : World} {K : PySem.W.Frag} {mg : Str → Option Value} {base : Heap} {f : Addr} {cdv : Value} {A : Around} {outer : List Env} {s : Shared} {H : Hp} {E : XK} {k : Nat} {sr_reversed_statement : WF} (B : Bl mg) (G_reversed_statement : FnD P w K mg base "reversed_statement" k 1 sr_reversed_statement) (hk : 0 ≤ k) (hr : Room k (A.deeper (envOfC "reverse" (defScope s_reverse) s.heap.objs.size f cdv))) :
    DSs (cxOf (L2.CX P w) P w K mg base N_reverse "reverse" (defScope s_reverse) f cdv A outer s H E) (defBody s_reverse) (w_reverse sr_reversed_statement) := by
  have sc := sc_reverse
  exact (dss_one (ds_ret (de_callTy cd_tuple B.tuple (by decide +kernel) (da_cons (de_lc (own := [("statement", 1)]) (wt := wYes) (we := (wCall sr_reversed_statement 1 (wCons (wVar 1) wNil))) (gt := (wgN 1)) rfl sc.nd (di_seq (de_revT (dv 0))) (blkOk_by (N := N_reverse) (sc := defScope s_reverse) (by decide +kernel)) (by decide) (fun _ _ _ _ _ => (dg_name (i := 1) sc.nd rfl (by first | exact Or.inl rfl | exact Or.inr rfl))) (fun _ _ _ _ _ => dts_nil) (fun _ _ _ _ _ => (de_call G_reversed_statement (hr.mono (by omega)) (da_cons (dv 1) da_nil)))) da_nil))))
theorem ok_reverse {P : Program} {w : World} {K : PySem.W.Frag} {mg : Str → Option Value} {base : Heap} {f : Addr} {fd : FuncData} {k : Nat} {sr_reversed_statement : WF} (sp : WF) (B : Bl mg) (G_reversed_statement : FnD P w K mg base "reversed_statement" k 1 sr_reversed_statement) (hk : 0 ≤ k) (F : Fun K "reverse" "reverse" s_reverse f fd) (hm : mg "reverse" = some (.ref f))
    (hw : ∀ ds M k x, ds.length = 1 → sp ds M k x → (w_reverse sr_reversed_statement) (startD N_reverse ds) M (retE k x)) : FnD P w K mg base "reverse" (k + 1) 1 sp :=
  ⟨_, _, _, rfl, fn_d F sc_reverse (fun cdv A outer s H E hr => d_reverse B G_reversed_statement hk hr) hw, hm, F.kp, F.binds fun _ _ _ _ _ _ us hl => match us, hl with | [_], _ => rfl⟩
/-! inner_blocks -/
abbrev s_inner_blocks : Stmt := top 6
abbrev N_inner_blocks : List Str := ["block", "statement"]
theorem sc_inner_blocks : FnScope N_inner_blocks ["block"] (defScope s_inner_blocks) := ⟨rfl, rfl, rfl, by decide +kernel, rfl, by decide +kernel, by decide +kernel⟩
def w_inner_blocks : WS := (wRet (wLc (wiSeq (wVar 0)) (wgN 1) (wTest (wOp rEq (wIx (wVar 1) (wC (.int 0))) (wC (.str "repeat")))) (wIx (wVar 1) (wC (.int 2))) [1]))
theorem d_inner_blocks {P : Program} {w : World} {K : PySem.W.Frag} {mg : Str → Option Value} {base : Heap} {f : Addr} {cdv : Value} {A : Around} {outer : List Env} {s : Shared} {H : Hp} {E : XK} (B : Bl mg) (hr : Room 0 (A.deeper (envOfC "inner_blocks" (defScope s_inner_blocks) s.heap.objs.size f cdv))) :
    DSs (cxOf (L2.CX P w) P w K mg base N_inner_blocks "inner_blocks" (defScope s_inner_blocks) f cdv A outer s H E) (defBody s_inner_blocks) w_inner_blocks := by
  have sc := sc_inner_blocks
  exact (dss_one (ds_ret (de_lc (own := [("statement", 1)]) (wt := (wTest (wOp rEq (wIx (wVar 1) (wC (.int 0))) (wC (.str "repeat"))))) (we := (wIx (wVar 1) (wC (.int 2)))) (gt := (wgN 1)) rfl sc.nd (di_seq (dv 0)) (blkOk_by (N := N_inner_blocks) (sc := defScope s_inner_blocks) (by decide +kernel)) (by decide) (fun _ _ _ _ _ => (dg_name (i := 1) sc.nd rfl (by first | exact Or.inl rfl | exact Or.inr rfl))) (fun _ _ _ _ _ => (dts_one (dt_cmp (od_eq hr.units) (de_ix (dv 1) de_int) de_str))) (fun _ _ _ _ _ => (de_ix (dv 1) de_int)))))
theorem ok_inner_blocks {P : Program} {w : World} {K : PySem.W.Frag} {mg : Str → Option Value} {base : Heap} {f : Addr} {fd : FuncData} (sp : WF) (B : Bl mg) (F : Fun K "inner_blocks" "inner_blocks" s_inner_blocks f fd) (hm : mg "inner_blocks" = some (.ref f))
    (hw : ∀ ds M k x, ds.length = 1 → sp ds M k x → w_inner_blocks (startD N_inner_blocks ds) M (retE k x)) : FnD P w K mg base "inner_blocks" (0 + 1) 1 sp :=
  ⟨_, _, _, rfl, fn_d F sc_inner_blocks (fun cdv A outer s H E hr => d_inner_blocks B hr) hw, hm, F.kp, F.binds fun _ _ _ _ _ _ us hl => match us, hl with | [_], _ => rfl⟩
/-! statements -/
abbrev s_statements : Stmt := top 7
abbrev N_statements : List Str := ["block", "inner"]
theorem sc_statements : FnScope N_statements ["block"] (defScope s_statements) := ⟨rfl, rfl, rfl, by decide +kernel, rfl, by decide +kernel, by decide +kernel⟩
theorem no_statements {P : Program} {w : World} {K : PySem.W.Frag} {mg : Str → Option Value} {base : Heap} {f : Addr} {fd : FuncData} (k : Nat) (F : Fun K "statements" "statements" s_statements f fd) (hm : mg "statements" = some (.ref f)) : FnD P w K mg base "statements" (k + 1) 1 noSp :=
  ⟨_, _, _, rfl, fn_no F sc_statements, hm, F.kp, F.binds fun _ _ _ _ _ _ us hl => match us, hl with | [_], _ => rfl⟩
def w_statements (sr : WF) : WS := (wRet (wOp rAdd (wCB rLn (wCons (wVar 0) wNil)) (wCB rSum (wCons (wLc (wiSeq (wCall sp_inner_blocks 1 (wCons (wVar 0) wNil))) (wgN 1) wYes (wCall sr 1 (wCons (wVar 1) wNil)) [1]) wNil))))
theorem d_statements {P : Program} {w : World} {K : PySem.W.Frag} {mg : Str → Option Value} {base : Heap} {f : Addr} {cdv : Value} {A : Around} {outer : List Env} {s : Shared} {H : Hp} {E : XK} {k : Nat} {sr : WF} (B : Bl mg) (G_inner_blocks : FnD P w K mg base "inner_blocks" 1 1 sp_inner_blocks) (G_statements : FnD P w K mg base "statements" k 1 sr) (hk : 1 ≤ k) (hr : Room k (A.deeper (envOfC "statements" (defScope s_statements) s.heap.objs.size f cdv))) :
    DSs (cxOf (L2.CX P w) P w K mg base N_statements "statements" (defScope s_statements) f cdv A outer s H E) (defBody s_statements) (w_statements sr) := by
  have sc := sc_statements
  exact (dss_one (ds_ret (de_op od_add (de_callB cd_len B.len (by decide +kernel) (da_cons (dv 0) da_nil)) (de_callB (cd_sum rfl) B.sum (by decide +kernel) (da_cons (de_lc (own := [("inner", 1)]) (wt := wYes) (we := (wCall sr 1 (wCons (wVar 1) wNil))) (gt := (wgN 1)) rfl sc.nd (di_seq (de_call G_inner_blocks (hr.mono (by omega)) (da_cons (dv 0) da_nil))) (blkOk_by (N := N_statements) (sc := defScope s_statements) (by decide +kernel)) (by decide) (fun _ _ _ _ _ => (dg_name (i := 1) sc.nd rfl (by first | exact Or.inl rfl | exact Or.inr rfl))) (fun _ _ _ _ _ => dts_nil) (fun _ _ _ _ _ => (de_call G_statements (hr.mono (by omega)) (da_cons (dv 1) da_nil)))) da_nil)))))
theorem ok_statements {P : Program} {w : World} {K : PySem.W.Frag} {mg : Str → Option Value} {base : Heap} {f : Addr} {fd : FuncData} {k : Nat} {sr : WF} (sp : WF) (B : Bl mg) (G_inner_blocks : FnD P w K mg base "inner_blocks" 1 1 sp_inner_blocks) (G_statements : FnD P w K mg base "statements" k 1 sr) (hk : 1 ≤ k) (F : Fun K "statements" "statements" s_statements f fd) (hm : mg "statements" = some (.ref f))
    (hw : ∀ ds M k x, ds.length = 1 → sp ds M k x → (w_statements sr) (startD N_statements ds) M (retE k x)) : FnD P w K mg base "statements" (k + 1) 1 sp :=
  ⟨_, _, _, rfl, fn_d F sc_statements (fun cdv A outer s H E hr => d_statements B G_inner_blocks G_statements hk hr) hw, hm, F.kp, F.binds fun _ _ _ _ _ _ us hl => match us, hl with | [_], _ => rfl⟩
/-! depth -/
abbrev s_depth : Stmt := top 8
abbrev N_depth : List Str := ["block", "inner"]
theorem sc_depth : FnScope N_depth ["block"] (defScope s_depth) := ⟨rfl, rfl, rfl, by decide +kernel, rfl, by decide +kernel, by decide +kernel⟩
theorem no_depth {P : Program} {w : World} {K : PySem.W.Frag} {mg : Str → Option Value} {base : Heap} {f : Addr} {fd : FuncData} (k : Nat) (F : Fun K "depth" "depth" s_depth f fd) (hm : mg "depth" = some (.ref f)) : FnD P w K mg base "depth" (k + 1) 1 noSp :=
  ⟨_, _, _, rfl, fn_no F sc_depth, hm, F.kp, F.binds fun _ _ _ _ _ _ us hl => match us, hl with | [_], _ => rfl⟩
def w_depth (sr : WF) : WS := (wRet (wMaxD (wLc (wiSeq (wCall sp_inner_blocks 1 (wCons (wVar 0) wNil))) (wgN 1) wYes (wOp rAdd (wC (.int 1)) (wCall sr 1 (wCons (wVar 1) wNil))) [1]) (wC (.int 0))))
theorem d_depth {P : Program} {w : World} {K : PySem.W.Frag} {mg : Str → Option Value} {base : Heap} {f : Addr} {cdv : Value} {A : Around} {outer : List Env} {s : Shared} {H : Hp} {E : XK} {k : Nat} {sr : WF} (B : Bl mg) (G_depth : FnD P w K mg base "depth" k 1 sr) (G_inner_blocks : FnD P w K mg base "inner_blocks" 1 1 sp_inner_blocks) (hk : 1 ≤ k) (hr : Room k (A.deeper (envOfC "depth" (defScope s_depth) s.heap.objs.size f cdv))) :
    DSs (cxOf (L2.CX P w) P w K mg base N_depth "depth" (defScope s_depth) f cdv A outer s H E) (defBody s_depth) (w_depth sr) := by
  have sc := sc_depth
  exact (dss_one (ds_ret (de_maxD rfl B.max (de_lc (own := [("inner", 1)]) (wt := wYes) (we := (wOp rAdd (wC (.int 1)) (wCall sr 1 (wCons (wVar 1) wNil)))) (gt := (wgN 1)) rfl sc.nd (di_seq (de_call G_inner_blocks (hr.mono (by omega)) (da_cons (dv 0) da_nil))) (blkOk_by (N := N_depth) (sc := defScope s_depth) (by decide +kernel)) (by decide) (fun _ _ _ _ _ => (dg_name (i := 1) sc.nd rfl (by first | exact Or.inl rfl | exact Or.inr rfl))) (fun _ _ _ _ _ => dts_nil) (fun _ _ _ _ _ => (de_op od_add de_int (de_call G_depth (hr.mono (by omega)) (da_cons (dv 1) da_nil))))) de_int)))
theorem ok_depth {P : Program} {w : World} {K : PySem.W.Frag} {mg : Str → Option Value} {base : Heap} {f : Addr} {fd : FuncData} {k : Nat} {sr : WF} (sp : WF) (B : Bl mg) (G_depth : FnD P w K mg base "depth" k 1 sr) (G_inner_blocks : FnD P w K mg base "inner_blocks" 1 1 sp_inner_blocks) (hk : 1 ≤ k) (F : Fun K "depth" "depth" s_depth f fd) (hm : mg "depth" = some (.ref f))
    (hw : ∀ ds M k x, ds.length = 1 → sp ds M k x → (w_depth sr) (startD N_depth ds) M (retE k x)) : FnD P w K mg base "depth" (k + 1) 1 sp :=
  ⟨_, _, _, rfl, fn_d F sc_depth (fun cdv A outer s H E hr => d_depth B G_depth G_inner_blocks hk hr) hw, hm, F.kp, F.binds fun _ _ _ _ _ _ us hl => match us, hl with | [_], _ => rfl⟩
/-! _law_a_box -/
abbrev s__law_a_box : Stmt := top 10
abbrev N__law_a_box : List Str := ["_law_script", "_law_cells", "_law_mark", "_law_cell"]
theorem sc__law_a_box : FnScope N__law_a_box ["_law_script"] (defScope s__law_a_box) := ⟨rfl, rfl, rfl, by decide +kernel, rfl, by decide +kernel, by decide +kernel⟩
def w__law_a_box : WS := (wSeq (wSet 1 (wCB rList (wCons (wSl (wVar 0) wNoPart (wPart (wC (.int 63)))) wNil)))
  (wSeq (wSet 2 (wOp rAdd (wC (.int 3814)) (wOp rMul (wC (.int 67)) (wCB rLn (wCons (wVar 1) wNil)))))
  (wSeq (wFor (wiSeq (wVar 1)) (wgN 3) (wSet 2 (wOp rMod (wOp rAdd (wOp rMul (wVar 2) (wC (.int 1709))) (wVar 3)) (wC (.int 2147483587)))))
  (wRet (wLstM (wCons (wVar 1) (wCons (wC (.int 0)) (wCons (wC (.int 0)) (wCons (wVar 2) wNil)))))))))
theorem d__law_a_box {P : Program} {w : World} {K : PySem.W.Frag} {mg : Str → Option Value} {base : Heap} {f : Addr} {cdv : Value} {A : Around} {outer : List Env} {s : Shared} {H : Hp} {E : XK} (B : Bl mg) (hr : Room 0 (A.deeper (envOfC "_law_a_box" (defScope s__law_a_box) s.heap.objs.size f cdv))) :
    DSs (cxOf (L2.CX P w) P w K mg base N__law_a_box "_law_a_box" (defScope s__law_a_box) f cdv A outer s H E) (defBody s__law_a_box) w__law_a_box := by
  have sc := sc__law_a_box
  exact (dss_cons (ds_set (i := 1) sc.nd rfl (by first | exact Or.inl rfl | exact Or.inr rfl) (de_callTy cd_list B.list (by decide +kernel) (da_cons (de_sl (dv 0) do_none (do_some de_int)) da_nil)))
  (dss_cons (ds_set (i := 2) sc.nd rfl (by first | exact Or.inl rfl | exact Or.inr rfl) (de_op od_add de_int (de_op od_mul de_int (de_callB cd_len B.len (by decide +kernel) (da_cons (dv 1) da_nil)))))
  (dss_cons (ds_for rfl (di_seq (dv 1)) (dg_name (i := 3) sc.nd rfl (by first | exact Or.inl rfl | exact Or.inr rfl)) (dss_one (ds_set (i := 2) sc.nd rfl (by first | exact Or.inl rfl | exact Or.inr rfl) (de_op od_mod (de_op od_add (de_op od_mul (dv 2) de_int) (dv 3)) de_int))))
  (dss_one (ds_ret (de_lstM (da_cons (dv 1) (da_cons de_int (da_cons de_int (da_cons (dv 2) da_nil))))))))))
theorem ok__law_a_box {P : Program} {w : World} {K : PySem.W.Frag} {mg : Str → Option Value} {base : Heap} {f : Addr} {fd : FuncData} (sp : WF) (B : Bl mg) (F : Fun K "_law_a_box" "_law_a_box" s__law_a_box f fd) (hm : mg "_law_a_box" = some (.ref f))
    (hw : ∀ ds M k x, ds.length = 1 → sp ds M k x → w__law_a_box (startD N__law_a_box ds) M (retE k x)) : FnD P w K mg base "_law_a_box" (0 + 1) 1 sp :=
  ⟨_, _, _, rfl, fn_d F sc__law_a_box (fun cdv A outer s H E hr => d__law_a_box B hr) hw, hm, F.kp, F.binds fun _ _ _ _ _ _ us hl => match us, hl with | [_], _ => rfl⟩
/-! _law_draw -/
abbrev s__law_draw : Stmt := top 11
abbrev N__law_draw : List Str := ["_law_box", "_law_many", "_law_drawn", "_law_seed", "_law_fold", "_law_twist"]
theorem sc__law_draw : FnScope N__law_draw ["_law_box", "_law_many"] (defScope s__law_draw) := ⟨rfl, rfl, rfl, by decide +kernel, rfl, by decide +kernel, by decide +kernel⟩
def w__law_draw : WS := (wSeq (wIfS (wTest (wOp rLt (wIx (wVar 0) (wC (.int 2))) (wC (.int 2)))) (wSeq (wPut (wVar 0) (wC (.int 1)) (wOp rAdd (wIx (wVar 0) (wC (.int 1))) (wC (.int 1))))
  (wSeq (wSet 3 (wOp rAdd (wIx (wVar 0) (wC (.int 3))) (wOp rMul (wIx (wVar 0) (wC (.int 1))) (wC (.int 6151)))))
  (wSeq (wIfS (wTest (wOp rLe (wIx (wVar 0) (wC (.int 1))) (wCB rLn (wCons (wIx (wVar 0) (wC (.int 0))) wNil)))) (wSet 3 (wIx (wIx (wVar 0) (wC (.int 0))) (wOp rSub (wIx (wVar 0) (wC (.int 1))) (wC (.int 1))))) wNext)
  (wSeq (wIfS (wOr (wTest (wOp rGt (wIx (wVar 0) (wC (.int 1))) (wCB rLn (wCons (wIx (wVar 0) (wC (.int 0))) wNil)))) (wTest (wOp rLt (wVar 3) (wOp rPow (wC (.int 10)) (wC (.int 18)))))) (wSeq (wSet 4 (wOp rMod (wOp rAdd (wOp rAdd (wOp rMul (wVar 3) (wC (.int 48271))) (wOp rMul (wIx (wVar 0) (wC (.int 1))) (wC (.int 40692)))) (wIx (wVar 0) (wC (.int 3)))) (wC (.int 2147483647))))
  (wSeq (wSet 5 (wOp rMod (wOp rAdd (wOp rMul (wVar 4) (wVar 4)) (wIx (wVar 0) (wC (.int 1)))) (wC (.int 998244353))))
  (wRet (wOp rMod (wOp rFdiv (wOp rMod (wOp rAdd (wOp rMul (wVar 5) (wC (.int 69621))) (wVar 4)) (wC (.int 2147483629))) (wC (.int 7))) (wVar 1))))) wNext)
  (wPut (wVar 0) (wC (.int 2)) (wVar 3)))))) wNext)
  (wSeq (wSet 2 (wOp rMod (wIx (wVar 0) (wC (.int 2))) (wVar 1)))
  (wSeq (wPut (wVar 0) (wC (.int 2)) (wOp rFdiv (wIx (wVar 0) (wC (.int 2))) (wVar 1)))
  (wRet (wVar 2)))))
theorem d__law_draw {P : Program} {w : World} {K : PySem.W.Frag} {mg : Str → Option Value} {base : Heap} {f : Addr} {cdv : Value} {A : Around} {outer : List Env} {s : Shared} {H : Hp} {E : XK} (B : Bl mg) (hr : Room 0 (A.deeper (envOfC "_law_draw" (defScope s__law_draw) s.heap.objs.size f cdv))) :
    DSs (cxOf (L2.CX P w) P w K mg base N__law_draw "_law_draw" (defScope s__law_draw) f cdv A outer s H E) (defBody s__law_draw) w__law_draw := by
  have sc := sc__law_draw
  exact (dss_cons (ds_if (dt_cmp od_lt (de_ix (dv 0) de_int) de_int) (dss_cons (ds_put (dv 0) de_int (de_op od_add (de_ix (dv 0) de_int) de_int))
  (dss_cons (ds_set (i := 3) sc.nd rfl (by first | exact Or.inl rfl | exact Or.inr rfl) (de_op od_add (de_ix (dv 0) de_int) (de_op od_mul (de_ix (dv 0) de_int) de_int)))
  (dss_cons (ds_if (dt_cmp od_le (de_ix (dv 0) de_int) (de_callB cd_len B.len (by decide +kernel) (da_cons (de_ix (dv 0) de_int) da_nil))) (dss_one (ds_set (i := 3) sc.nd rfl (by first | exact Or.inl rfl | exact Or.inr rfl) (de_ix (de_ix (dv 0) de_int) (de_op od_sub (de_ix (dv 0) de_int) de_int)))) dss_nil)
  (dss_cons (ds_if (DW.dt (dw_or (dt_cmp od_gt (de_ix (dv 0) de_int) (de_callB cd_len B.len (by decide +kernel) (da_cons (de_ix (dv 0) de_int) da_nil))) (dw_or1 (dt_cmp od_lt (dv 3) (de_op od_pow de_int de_int))))) (dss_cons (ds_set (i := 4) sc.nd rfl (by first | exact Or.inl rfl | exact Or.inr rfl) (de_op od_mod (de_op od_add (de_op od_add (de_op od_mul (dv 3) de_int) (de_op od_mul (de_ix (dv 0) de_int) de_int)) (de_ix (dv 0) de_int)) de_int))
  (dss_cons (ds_set (i := 5) sc.nd rfl (by first | exact Or.inl rfl | exact Or.inr rfl) (de_op od_mod (de_op od_add (de_op od_mul (dv 4) (dv 4)) (de_ix (dv 0) de_int)) de_int))
  (dss_one (ds_ret (de_op od_mod (de_op od_fdiv (de_op od_mod (de_op od_add (de_op od_mul (dv 5) de_int) (dv 4)) de_int) de_int) (dv 1)))))) dss_nil)
  (dss_one (ds_put (dv 0) de_int (dv 3))))))) dss_nil)
  (dss_cons (ds_set (i := 2) sc.nd rfl (by first | exact Or.inl rfl | exact Or.inr rfl) (de_op od_mod (de_ix (dv 0) de_int) (dv 1)))
  (dss_cons (ds_put (dv 0) de_int (de_op od_fdiv (de_ix (dv 0) de_int) (dv 1)))
  (dss_one (ds_ret (dv 2))))))
theorem ok__law_draw {P : Program} {w : World} {K : PySem.W.Frag} {mg : Str → Option Value} {base : Heap} {f : Addr} {fd : FuncData} (sp : WF) (B : Bl mg) (F : Fun K "_law_draw" "_law_draw" s__law_draw f fd) (hm : mg "_law_draw" = some (.ref f))
    (hw : ∀ ds M k x, ds.length = 2 → sp ds M k x → w__law_draw (startD N__law_draw ds) M (retE k x)) : FnD P w K mg base "_law_draw" (0 + 1) 2 sp :=
  ⟨_, _, _, rfl, fn_d F sc__law_draw (fun cdv A outer s H E hr => d__law_draw B hr) hw, hm, F.kp, F.binds fun _ _ _ _ _ _ us hl => match us, hl with | [_, _], _ => rfl⟩
/-! _law_any -/
abbrev s__law_any : Stmt := top 12
abbrev N__law_any : List Str := ["_law_box", "_law_row"]
theorem sc__law_any : FnScope N__law_any ["_law_box", "_law_row"] (defScope s__law_any) := ⟨rfl, rfl, rfl, by decide +kernel, rfl, by decide +kernel, by decide +kernel⟩
def w__law_any : WS := (wRet (wIx (wVar 1) (wCall sp__law_draw 2 (wCons (wVar 0) (wCons (wCB rLn (wCons (wVar 1) wNil)) wNil)))))
theorem d__law_any {P : Program} {w : World} {K : PySem.W.Frag} {mg : Str → Option Value} {base : Heap} {f : Addr} {cdv : Value} {A : Around} {outer : List Env} {s : Shared} {H : Hp} {E : XK} (B : Bl mg) (G__law_draw : FnD P w K mg base "_law_draw" 1 2 sp__law_draw) (hr : Room 1 (A.deeper (envOfC "_law_any" (defScope s__law_any) s.heap.objs.size f cdv))) :
    DSs (cxOf (L2.CX P w) P w K mg base N__law_any "_law_any" (defScope s__law_any) f cdv A outer s H E) (defBody s__law_any) w__law_any := by
  have sc := sc__law_any
  exact (dss_one (ds_ret (de_ix (dv 1) (de_call G__law_draw (hr.mono (by decide)) (da_cons (dv 0) (da_cons (de_callB cd_len B.len (by decide +kernel) (da_cons (dv 1) da_nil)) da_nil))))))
theorem ok__law_any {P : Program} {w : World} {K : PySem.W.Frag} {mg : Str → Option Value} {base : Heap} {f : Addr} {fd : FuncData} (sp : WF) (B : Bl mg) (G__law_draw : FnD P w K mg base "_law_draw" 1 2 sp__law_draw) (F : Fun K "_law_any" "_law_any" s__law_any f fd) (hm : mg "_law_any" = some (.ref f))
    (hw : ∀ ds M k x, ds.length = 2 → sp ds M k x → w__law_any (startD N__law_any ds) M (retE k x)) : FnD P w K mg base "_law_any" (1 + 1) 2 sp :=
  ⟨_, _, _, rfl, fn_d F sc__law_any (fun cdv A outer s H E hr => d__law_any B G__law_draw hr) hw, hm, F.kp, F.binds fun _ _ _ _ _ _ us hl => match us, hl with | [_, _], _ => rfl⟩
/-! _law_whole -/
abbrev s__law_whole : Stmt := top 13
abbrev N__law_whole : List Str := ["_law_found"]
theorem sc__law_whole : FnScope N__law_whole ["_law_found"] (defScope s__law_whole) := ⟨rfl, rfl, rfl, by decide +kernel, rfl, by decide +kernel, by decide +kernel⟩
def w__law_whole : WS := (wRet (wAndV (wCB rIsi (wCons (wVar 0) (wCons (wC (.ty .int)) wNil))) (wNotV (wCB rIsi (wCons (wVar 0) (wCons (wC (.ty .bool)) wNil))))))
theorem d__law_whole {P : Program} {w : World} {K : PySem.W.Frag} {mg : Str → Option Value} {base : Heap} {f : Addr} {cdv : Value} {A : Around} {outer : List Env} {s : Shared} {H : Hp} {E : XK} (B : Bl mg) (hr : Room 0 (A.deeper (envOfC "_law_whole" (defScope s__law_whole) s.heap.objs.size f cdv))) :
    DSs (cxOf (L2.CX P w) P w K mg base N__law_whole "_law_whole" (defScope s__law_whole) f cdv A outer s H E) (defBody s__law_whole) w__law_whole := by
  have sc := sc__law_whole
  exact (dss_one (ds_ret (de_and (de_callB cd_isi B.isinstance (by decide +kernel) (da_cons (dv 0) (da_cons (de_ty B.int (by decide +kernel)) da_nil))) (de_one (de_not (de_callB cd_isi B.isinstance (by decide +kernel) (da_cons (dv 0) (da_cons (de_ty B.bool (by decide +kernel)) da_nil))))))))
theorem ok__law_whole {P : Program} {w : World} {K : PySem.W.Frag} {mg : Str → Option Value} {base : Heap} {f : Addr} {fd : FuncData} (sp : WF) (B : Bl mg) (F : Fun K "_law_whole" "_law_whole" s__law_whole f fd) (hm : mg "_law_whole" = some (.ref f))
    (hw : ∀ ds M k x, ds.length = 1 → sp ds M k x → w__law_whole (startD N__law_whole ds) M (retE k x)) : FnD P w K mg base "_law_whole" (0 + 1) 1 sp :=
  ⟨_, _, _, rfl, fn_d F sc__law_whole (fun cdv A outer s H E hr => d__law_whole B hr) hw, hm, F.kp, F.binds fun _ _ _ _ _ _ us hl => match us, hl with | [_], _ => rfl⟩
/-! _law_same -/
abbrev s__law_same : Stmt := top 14
abbrev N__law_same : List Str := ["_law_found", "_law_due", "_law_one", "_law_other"]
theorem sc__law_same : FnScope N__law_same ["_law_found", "_law_due"] (defScope s__law_same) := ⟨rfl, rfl, rfl, by decide +kernel, rfl, by decide +kernel, by decide +kernel⟩
theorem no__law_same {P : Program} {w : World} {K : PySem.W.Frag} {mg : Str → Option Value} {base : Heap} {f : Addr} {fd : FuncData} (k : Nat) (F : Fun K "_law_same" "_law_same" s__law_same f fd) (hm : mg "_law_same" = some (.ref f)) : FnD P w K mg base "_law_same" (k + 1) 2 noSp :=
  ⟨_, _, _, rfl, fn_no F sc__law_same, hm, F.kp, F.binds fun _ _ _ _ _ _ us hl => match us, hl with | [_, _], _ => rfl⟩
def w__law_same (sr : WF) : WS := (wSeq (wIfS (wTest (wOp rIs (wVar 1) (wC .non))) (wRet (wOp rIs (wVar 0) (wC .non))) wNext)
  (wSeq (wIfS (wTest (wCB rIsi (wCons (wVar 1) (wCons (wC (.ty .bool)) wNil)))) (wRet (wAndV (wCB rIsi (wCons (wVar 0) (wCons (wC (.ty .bool)) wNil))) (wOp rEq (wVar 0) (wVar 1)))) wNext)
  (wSeq (wIfS (wTest (wCB rIsi (wCons (wVar 1) (wCons (wC (.ty .int)) wNil)))) (wRet (wAndV (wCall sp__law_whole 1 (wCons (wVar 0) wNil)) (wOp rEq (wVar 0) (wVar 1)))) wNext)
  (wSeq (wIfS (wTest (wCB rIsi (wCons (wVar 1) (wCons (wC (.ty .str)) wNil)))) (wRet (wAndV (wCB rIsi (wCons (wVar 0) (wCons (wC (.ty .str)) wNil))) (wOp rEq (wVar 0) (wVar 1)))) wNext)
  (wSeq (wIfS (wOr (wTest (wOp rNe (wCB rIsi (wCons (wVar 1) (wCons (wC (.ty .list)) wNil))) (wCB rIsi (wCons (wVar 0) (wCons (wC (.ty .list)) wNil))))) (wTest (wOp rNe (wCB rIsi (wCons (wVar 1) (wCons (wC (.ty .tuple)) wNil))) (wCB rIsi (wCons (wVar 0) (wCons (wC (.ty .tuple)) wNil)))))) (wRet (wC (.bl false))) wNext)
  (wSeq (wIfS (wTest (wOp rNe (wCB rLn (wCons (wVar 0) wNil)) (wCB rLn (wCons (wVar 1) wNil)))) (wRet (wC (.bl false))) wNext)
  (wRet (wCB rAll (wCons (wLc (wiZip (wVar 0) (wVar 1)) (wgTup 2 (wgCons (wgN 2) (wgCons (wgN 3) wgNil))) wYes (wCall sr 2 (wCons (wVar 2) (wCons (wVar 3) wNil))) [2, 3]) wNil)))))))))
theorem d__law_same {P : Program} {w : World} {K : PySem.W.Frag} {mg : Str → Option Value} {base : Heap} {f : Addr} {cdv : Value} {A : Around} {outer : List Env} {s : Shared} {H : Hp} {E : XK} {k : Nat} {sr : WF} (B : Bl mg) (G__law_same : FnD P w K mg base "_law_same" k 2 sr) (G__law_whole : FnD P w K mg base "_law_whole" 1 1 sp__law_whole) (hk : 1 ≤ k) (hr : Room k (A.deeper (envOfC "_law_same" (defScope s__law_same) s.heap.objs.size f cdv))) :
    DSs (cxOf (L2.CX P w) P w K mg base N__law_same "_law_same" (defScope s__law_same) f cdv A outer s H E) (defBody s__law_same) (w__law_same sr) := by
  have sc := sc__law_same
  exact (dss_cons (ds_if (dt_cmp od_is (dv 1) de_non) (dss_one (ds_ret (de_cmp od_is (dv 0) de_non))) dss_nil)
  (dss_cons (ds_if (dt_val (de_callB cd_isi B.isinstance (by decide +kernel) (da_cons (dv 1) (da_cons (de_ty B.bool (by decide +kernel)) da_nil)))) (dss_one (ds_ret (de_and (de_callB cd_isi B.isinstance (by decide +kernel) (da_cons (dv 0) (da_cons (de_ty B.bool (by decide +kernel)) da_nil))) (de_one (de_cmp (od_eq hr.units) (dv 0) (dv 1)))))) dss_nil)
  (dss_cons (ds_if (dt_val (de_callB cd_isi B.isinstance (by decide +kernel) (da_cons (dv 1) (da_cons (de_ty B.int (by decide +kernel)) da_nil)))) (dss_one (ds_ret (de_and (de_call G__law_whole (hr.mono (by omega)) (da_cons (dv 0) da_nil)) (de_one (de_cmp (od_eq hr.units) (dv 0) (dv 1)))))) dss_nil)
  (dss_cons (ds_if (dt_val (de_callB cd_isi B.isinstance (by decide +kernel) (da_cons (dv 1) (da_cons (de_ty B.str (by decide +kernel)) da_nil)))) (dss_one (ds_ret (de_and (de_callB cd_isi B.isinstance (by decide +kernel) (da_cons (dv 0) (da_cons (de_ty B.str (by decide +kernel)) da_nil))) (de_one (de_cmp (od_eq hr.units) (dv 0) (dv 1)))))) dss_nil)
  (dss_cons (ds_if (DW.dt (dw_or (dt_cmp (od_ne hr.units) (de_callB cd_isi B.isinstance (by decide +kernel) (da_cons (dv 1) (da_cons (de_ty B.list (by decide +kernel)) da_nil))) (de_callB cd_isi B.isinstance (by decide +kernel) (da_cons (dv 0) (da_cons (de_ty B.list (by decide +kernel)) da_nil)))) (dw_or1 (dt_cmp (od_ne hr.units) (de_callB cd_isi B.isinstance (by decide +kernel) (da_cons (dv 1) (da_cons (de_ty B.tuple (by decide +kernel)) da_nil))) (de_callB cd_isi B.isinstance (by decide +kernel) (da_cons (dv 0) (da_cons (de_ty B.tuple (by decide +kernel)) da_nil))))))) (dss_one (ds_ret de_bl)) dss_nil)
  (dss_cons (ds_if (dt_cmp (od_ne hr.units) (de_callB cd_len B.len (by decide +kernel) (da_cons (dv 0) da_nil)) (de_callB cd_len B.len (by decide +kernel) (da_cons (dv 1) da_nil))) (dss_one (ds_ret de_bl)) dss_nil)
  (dss_one (ds_ret (de_callB (cd_all rfl) B.all (by decide +kernel) (da_cons (de_lc (own := [("_law_one", 2), ("_law_other", 3)]) (wt := wYes) (we := (wCall sr 2 (wCons (wVar 2) (wCons (wVar 3) wNil)))) (gt := (wgTup 2 (wgCons (wgN 2) (wgCons (wgN 3) wgNil)))) rfl sc.nd (di_zip B.zip (dv 0) (dv 1)) (blkOk_by (N := N__law_same) (sc := defScope s__law_same) (by decide +kernel)) (by decide) (fun _ _ _ _ _ => (dg_tup rfl (dgs_cons (dg_name (i := 2) sc.nd rfl (by first | exact Or.inl rfl | exact Or.inr rfl)) (dgs_cons (dg_name (i := 3) sc.nd rfl (by first | exact Or.inl rfl | exact Or.inr rfl)) dgs_nil)))) (fun _ _ _ _ _ => dts_nil) (fun _ _ _ _ _ => (de_call G__law_same (hr.mono (by omega)) (da_cons (dv 2) (da_cons (dv 3) da_nil))))) da_nil))))))))))
theorem ok__law_same {P : Program} {w : World} {K : PySem.W.Frag} {mg : Str → Option Value} {base : Heap} {f : Addr} {fd : FuncData} {k : Nat} {sr : WF} (sp : WF) (B : Bl mg) (G__law_same : FnD P w K mg base "_law_same" k 2 sr) (G__law_whole : FnD P w K mg base "_law_whole" 1 1 sp__law_whole) (hk : 1 ≤ k) (F : Fun K "_law_same" "_law_same" s__law_same f fd) (hm : mg "_law_same" = some (.ref f))
    (hw : ∀ ds M k x, ds.length = 2 → sp ds M k x → (w__law_same sr) (startD N__law_same ds) M (retE k x)) : FnD P w K mg base "_law_same" (k + 1) 2 sp :=
  ⟨_, _, _, rfl, fn_d F sc__law_same (fun cdv A outer s H E hr => d__law_same B G__law_same G__law_whole hk hr) hw, hm, F.kp, F.binds fun _ _ _ _ _ _ us hl => match us, hl with | [_, _], _ => rfl⟩
/-! _law_num -/
abbrev s__law_num : Stmt := top 15
abbrev N__law_num : List Str := ["_law_box", "_law_pick"]
theorem sc__law_num : FnScope N__law_num ["_law_box"] (defScope s__law_num) := ⟨rfl, rfl, rfl, by decide +kernel, rfl, by decide +kernel, by decide +kernel⟩
def w__law_num : WS := (wSeq (wSet 1 (wCall sp__law_draw 2 (wCons (wVar 0) (wCons (wC (.int 8)) wNil))))
  (wSeq (wIfS (wTest (wOp rLt (wVar 1) (wC (.int 4)))) (wRet (wIx (wLst (wCons (wC (.int 0)) (wCons (wC (.int 1)) (wCons (wUn rNeg (wC (.int 1))) (wCons (wC (.int 2)) wNil))))) (wVar 1))) wNext)
  (wSeq (wIfS (wTest (wOp rLt (wVar 1) (wC (.int 6)))) (wRet (wOp rSub (wCall sp__law_draw 2 (wCons (wVar 0) (wCons (wC (.int 19)) wNil))) (wC (.int 9)))) wNext)
  (wRet (wOp rSub (wCall sp__law_draw 2 (wCons (wVar 0) (wCons (wOp rAdd (wOp rMul (wC (.int 2)) (wOp rPow (wC (.int 10)) (wC (.int 12)))) (wC (.int 1))) wNil))) (wOp rPow (wC (.int 10)) (wC (.int 12))))))))
theorem d__law_num {P : Program} {w : World} {K : PySem.W.Frag} {mg : Str → Option Value} {base : Heap} {f : Addr} {cdv : Value} {A : Around} {outer : List Env} {s : Shared} {H : Hp} {E : XK} (B : Bl mg) (G__law_draw : FnD P w K mg base "_law_draw" 1 2 sp__law_draw) (hr : Room 1 (A.deeper (envOfC "_law_num" (defScope s__law_num) s.heap.objs.size f cdv))) :
    DSs (cxOf (L2.CX P w) P w K mg base N__law_num "_law_num" (defScope s__law_num) f cdv A outer s H E) (defBody s__law_num) w__law_num := by
  have sc := sc__law_num
  exact (dss_cons (ds_set (i := 1) sc.nd rfl (by first | exact Or.inl rfl | exact Or.inr rfl) (de_call G__law_draw (hr.mono (by decide)) (da_cons (dv 0) (da_cons de_int da_nil))))
  (dss_cons (ds_if (dt_cmp od_lt (dv 1) de_int) (dss_one (ds_ret (de_ix (de_lst (da_cons de_int (da_cons de_int (da_cons (de_un ud_neg de_int) (da_cons de_int da_nil))))) (dv 1)))) dss_nil)
  (dss_cons (ds_if (dt_cmp od_lt (dv 1) de_int) (dss_one (ds_ret (de_op od_sub (de_call G__law_draw (hr.mono (by decide)) (da_cons (dv 0) (da_cons de_int da_nil))) de_int))) dss_nil)
  (dss_one (ds_ret (de_op od_sub (de_call G__law_draw (hr.mono (by decide)) (da_cons (dv 0) (da_cons (de_op od_add (de_op od_mul de_int (de_op od_pow de_int de_int)) de_int) da_nil))) (de_op od_pow de_int de_int)))))))
theorem ok__law_num {P : Program} {w : World} {K : PySem.W.Frag} {mg : Str → Option Value} {base : Heap} {f : Addr} {fd : FuncData} (sp : WF) (B : Bl mg) (G__law_draw : FnD P w K mg base "_law_draw" 1 2 sp__law_draw) (F : Fun K "_law_num" "_law_num" s__law_num f fd) (hm : mg "_law_num" = some (.ref f))
    (hw : ∀ ds M k x, ds.length = 1 → sp ds M k x → w__law_num (startD N__law_num ds) M (retE k x)) : FnD P w K mg base "_law_num" (1 + 1) 1 sp :=
  ⟨_, _, _, rfl, fn_d F sc__law_num (fun cdv A outer s H E hr => d__law_num B G__law_draw hr) hw, hm, F.kp, F.binds fun _ _ _ _ _ _ us hl => match us, hl with | [_], _ => rfl⟩
/-! _law_arrow -/
abbrev s__law_arrow : Stmt := top 16
abbrev N__law_arrow : List Str := ["_law_box", "_law_ways", "_law_wide", "_law_k"]
theorem sc__law_arrow : FnScope N__law_arrow ["_law_box", "_law_ways"] (defScope s__law_arrow) := ⟨rfl, rfl, rfl, by decide +kernel, rfl, by decide +kernel, by decide +kernel⟩
def w__law_arrow : WS := (wSeq (wSet 2 (wIx (wLst (wCons (wC (.int 3)) (wCons (wC (.int 3)) (wCons (wC (.int 5)) (wCons (wC (.int 9)) wNil))))) (wCall sp__law_draw 2 (wCons (wVar 0) (wCons (wC (.int 4)) wNil)))))
  (wRet (wCB rTuple (wCons (wLc (wiR1 (wVar 1)) (wgN 3) wYes (wOp rSub (wCall sp__law_draw 2 (wCons (wVar 0) (wCons (wVar 2) wNil))) (wOp rFdiv (wVar 2) (wC (.int 2)))) [3]) wNil))))
theorem d__law_arrow {P : Program} {w : World} {K : PySem.W.Frag} {mg : Str → Option Value} {base : Heap} {f : Addr} {cdv : Value} {A : Around} {outer : List Env} {s : Shared} {H : Hp} {E : XK} (B : Bl mg) (G__law_draw : FnD P w K mg base "_law_draw" 1 2 sp__law_draw) (hr : Room 1 (A.deeper (envOfC "_law_arrow" (defScope s__law_arrow) s.heap.objs.size f cdv))) :
    DSs (cxOf (L2.CX P w) P w K mg base N__law_arrow "_law_arrow" (defScope s__law_arrow) f cdv A outer s H E) (defBody s__law_arrow) w__law_arrow := by
  have sc := sc__law_arrow
  exact (dss_cons (ds_set (i := 2) sc.nd rfl (by first | exact Or.inl rfl | exact Or.inr rfl) (de_ix (de_lst (da_cons de_int (da_cons de_int (da_cons de_int (da_cons de_int da_nil))))) (de_call G__law_draw (hr.mono (by decide)) (da_cons (dv 0) (da_cons de_int da_nil)))))
  (dss_one (ds_ret (de_callTy cd_tuple B.tuple (by decide +kernel) (da_cons (de_lc (own := [("_law_k", 3)]) (wt := wYes) (we := (wOp rSub (wCall sp__law_draw 2 (wCons (wVar 0) (wCons (wVar 2) wNil))) (wOp rFdiv (wVar 2) (wC (.int 2))))) (gt := (wgN 3)) rfl sc.nd (di_r1 B.range (dv 1)) (blkOk_by (N := N__law_arrow) (sc := defScope s__law_arrow) (by decide +kernel)) (by decide) (fun _ _ _ _ _ => (dg_name (i := 3) sc.nd rfl (by first | exact Or.inl rfl | exact Or.inr rfl))) (fun _ _ _ _ _ => dts_nil) (fun _ _ _ _ _ => (de_op od_sub (de_call G__law_draw (hr.mono (by decide)) (da_cons (dv 0) (da_cons (dv 2) da_nil))) (de_op od_fdiv (dv 2) de_int)))) da_nil)))))
theorem ok__law_arrow {P : Program} {w : World} {K : PySem.W.Frag} {mg : Str → Option Value} {base : Heap} {f : Addr} {fd : FuncData} (sp : WF) (B : Bl mg) (G__law_draw : FnD P w K mg base "_law_draw" 1 2 sp__law_draw) (F : Fun K "_law_arrow" "_law_arrow" s__law_arrow f fd) (hm : mg "_law_arrow" = some (.ref f))
    (hw : ∀ ds M k x, ds.length = 2 → sp ds M k x → w__law_arrow (startD N__law_arrow ds) M (retE k x)) : FnD P w K mg base "_law_arrow" (1 + 1) 2 sp :=
  ⟨_, _, _, rfl, fn_d F sc__law_arrow (fun cdv A outer s H E hr => d__law_arrow B G__law_draw hr) hw, hm, F.kp, F.binds fun _ _ _ _ _ _ us hl => match us, hl with | [_, _], _ => rfl⟩
/-! _law_label -/
abbrev s__law_label : Stmt := top 17
abbrev N__law_label : List Str := ["_law_box", "_law_k"]
theorem sc__law_label : FnScope N__law_label ["_law_box"] (defScope s__law_label) := ⟨rfl, rfl, rfl, by decide +kernel, rfl, by decide +kernel, by decide +kernel⟩
def w__law_label : WS := (wRet (wJoin (wC (.str "")) (wLc (wiR1 (wOp rAdd (wC (.int 1)) (wCall sp__law_draw 2 (wCons (wVar 0) (wCons (wC (.int 8)) wNil))))) (wgN 1) wYes (wCall sp__law_any 2 (wCons (wVar 0) (wCons (wC (.str "abcdefghijklmnopqrstuvwxyz")) wNil))) [1])))
theorem d__law_label {P : Program} {w : World} {K : PySem.W.Frag} {mg : Str → Option Value} {base : Heap} {f : Addr} {cdv : Value} {A : Around} {outer : List Env} {s : Shared} {H : Hp} {E : XK} (B : Bl mg) (G__law_any : FnD P w K mg base "_law_any" 2 2 sp__law_any) (G__law_draw : FnD P w K mg base "_law_draw" 1 2 sp__law_draw) (hr : Room 2 (A.deeper (envOfC "_law_label" (defScope s__law_label) s.heap.objs.size f cdv))) :
    DSs (cxOf (L2.CX P w) P w K mg base N__law_label "_law_label" (defScope s__law_label) f cdv A outer s H E) (defBody s__law_label) w__law_label := by
  have sc := sc__law_label
  exact (dss_one (ds_ret (de_join de_str (de_lc (own := [("_law_k", 1)]) (wt := wYes) (we := (wCall sp__law_any 2 (wCons (wVar 0) (wCons (wC (.str "abcdefghijklmnopqrstuvwxyz")) wNil)))) (gt := (wgN 1)) rfl sc.nd (di_r1 B.range (de_op od_add de_int (de_call G__law_draw (hr.mono (by decide)) (da_cons (dv 0) (da_cons de_int da_nil))))) (blkOk_by (N := N__law_label) (sc := defScope s__law_label) (by decide +kernel)) (by decide) (fun _ _ _ _ _ => (dg_name (i := 1) sc.nd rfl (by first | exact Or.inl rfl | exact Or.inr rfl))) (fun _ _ _ _ _ => dts_nil) (fun _ _ _ _ _ => (de_call G__law_any (hr.mono (by decide)) (da_cons (dv 0) (da_cons de_str da_nil))))))))
theorem ok__law_label {P : Program} {w : World} {K : PySem.W.Frag} {mg : Str → Option Value} {base : Heap} {f : Addr} {fd : FuncData} (sp : WF) (B : Bl mg) (G__law_any : FnD P w K mg base "_law_any" 2 2 sp__law_any) (G__law_draw : FnD P w K mg base "_law_draw" 1 2 sp__law_draw) (F : Fun K "_law_label" "_law_label" s__law_label f fd) (hm : mg "_law_label" = some (.ref f))
    (hw : ∀ ds M k x, ds.length = 1 → sp ds M k x → w__law_label (startD N__law_label ds) M (retE k x)) : FnD P w K mg base "_law_label" (2 + 1) 1 sp :=
  ⟨_, _, _, rfl, fn_d F sc__law_label (fun cdv A outer s H E hr => d__law_label B G__law_any G__law_draw hr) hw, hm, F.kp, F.binds fun _ _ _ _ _ _ us hl => match us, hl with | [_], _ => rfl⟩
/-! _law_labels -/
abbrev s__law_labels : Stmt := top 18
abbrev N__law_labels : List Str := ["_law_box", "_law_many", "_law_found", "_law_k", "_law_name", "_law_spare"]
theorem sc__law_labels : FnScope N__law_labels ["_law_box", "_law_many"] (defScope s__law_labels) := ⟨rfl, rfl, rfl, by decide +kernel, rfl, by decide +kernel, by decide +kernel⟩
def w__law_labels : WS := (wSeq (wSet 2 (wLstM wNil))
  (wSeq (wFor (wiR1 (wVar 1)) (wgN 3) (wSeq (wSet 4 (wCall sp__law_label 1 (wCons (wVar 0) wNil)))
  (wSeq (wSet 5 (wOp rMul (wIx (wC (.str "abcdefghijkl")) (wVar 3)) (wC (.int 8))))
  (wIfS (wTest (wOp rNotIn (wVar 4) (wVar 2))) (wDrop (wApp (wVar 2) (wVar 4))) (wIfS (wTest (wOp rNotIn (wVar 5) (wVar 2))) (wDrop (wApp (wVar 2) (wVar 5))) wNext)))))
  (wRet (wVar 2))))
theorem d__law_labels {P : Program} {w : World} {K : PySem.W.Frag} {mg : Str → Option Value} {base : Heap} {f : Addr} {cdv : Value} {A : Around} {outer : List Env} {s : Shared} {H : Hp} {E : XK} (B : Bl mg) (G__law_label : FnD P w K mg base "_law_label" 3 1 sp__law_label) (hr : Room 3 (A.deeper (envOfC "_law_labels" (defScope s__law_labels) s.heap.objs.size f cdv))) :
    DSs (cxOf (L2.CX P w) P w K mg base N__law_labels "_law_labels" (defScope s__law_labels) f cdv A outer s H E) (defBody s__law_labels) w__law_labels := by
  have sc := sc__law_labels
  exact (dss_cons (ds_set (i := 2) sc.nd rfl (by first | exact Or.inl rfl | exact Or.inr rfl) (de_lstM da_nil))
  (dss_cons (ds_for rfl (di_r1 B.range (dv 1)) (dg_name (i := 3) sc.nd rfl (by first | exact Or.inl rfl | exact Or.inr rfl)) (dss_cons (ds_set (i := 4) sc.nd rfl (by first | exact Or.inl rfl | exact Or.inr rfl) (de_call G__law_label (hr.mono (by decide)) (da_cons (dv 0) da_nil)))
  (dss_cons (ds_set (i := 5) sc.nd rfl (by first | exact Or.inl rfl | exact Or.inr rfl) (de_op od_mul (de_ix de_str (dv 3)) de_int))
  (dss_one (ds_if (dt_cmp od_notIn (dv 4) (dv 2)) (dss_one (ds_expr (de_app (dv 2) (dv 4)))) (dss_one (ds_if (dt_cmp od_notIn (dv 5) (dv 2)) (dss_one (ds_expr (de_app (dv 2) (dv 5)))) dss_nil)))))))
  (dss_one (ds_ret (dv 2)))))
theorem ok__law_labels {P : Program} {w : World} {K : PySem.W.Frag} {mg : Str → Option Value} {base : Heap} {f : Addr} {fd : FuncData} (sp : WF) (B : Bl mg) (G__law_label : FnD P w K mg base "_law_label" 3 1 sp__law_label) (F : Fun K "_law_labels" "_law_labels" s__law_labels f fd) (hm : mg "_law_labels" = some (.ref f))
    (hw : ∀ ds M k x, ds.length = 2 → sp ds M k x → w__law_labels (startD N__law_labels ds) M (retE k x)) : FnD P w K mg base "_law_labels" (3 + 1) 2 sp :=
  ⟨_, _, _, rfl, fn_d F sc__law_labels (fun cdv A outer s H E hr => d__law_labels B G__law_label hr) hw, hm, F.kp, F.binds fun _ _ _ _ _ _ us hl => match us, hl with | [_, _], _ => rfl⟩
/-! _law_a_statement -/
abbrev s__law_a_statement : Stmt := top 19
abbrev N__law_a_statement : List Str := ["_law_box", "_law_ways", "_law_names", "_law_deep", "_law_most", "_law_pick", "_law_times"]
theorem sc__law_a_statement : FnScope N__law_a_statement ["_law_box", "_law_ways", "_law_names", "_law_deep", "_law_most"] (defScope s__law_a_statement) := ⟨rfl, rfl, rfl, by decide +kernel, rfl, by decide +kernel, by decide +kernel⟩
theorem no__law_a_statement {P : Program} {w : World} {K : PySem.W.Frag} {mg : Str → Option Value} {base : Heap} {f : Addr} {fd : FuncData} (k : Nat) (F : Fun K "_law_a_statement" "_law_a_statement" s__law_a_statement f fd) (hm : mg "_law_a_statement" = some (.ref f)) : FnD P w K mg base "_law_a_statement" (k + 1) 5 noSp :=
  ⟨_, _, _, rfl, fn_no F sc__law_a_statement, hm, F.kp, F.binds fun _ _ _ _ _ _ us hl => match us, hl with | [_, _, _, _, _], _ => rfl⟩
def w__law_a_statement (sr__law_code : WF) : WS := (wSeq (wSet 5 (wCall sp__law_draw 2 (wCons (wVar 0) (wCons (wC (.int 10)) wNil))))
  (wSeq (wIfS (wAnd (wTest (wOp rLt (wVar 5) (wC (.int 2)))) (wTest (wOp rGt (wVar 3) (wC (.int 0))))) (wSeq (wSet 6 (wIx (wLst (wCons (wC (.int 0)) (wCons (wC (.int 1)) (wCons (wC (.int 2)) (wCons (wC (.int 3)) (wCons (wUn rNeg (wC (.int 1))) (wCons (wUn rNeg (wC (.int 2))) (wCons (wUn rNeg (wC (.int 3))) (wCons (wC (.int 4)) wNil))))))))) (wCall sp__law_draw 2 (wCons (wVar 0) (wCons (wC (.int 8)) wNil)))))
  (wRet (wTup (wCons (wC (.str "repeat")) (wCons (wVar 6) (wCons (wCall sr__law_code 5 (wCons (wVar 0) (wCons (wVar 1) (wCons (wVar 2) (wCons (wOp rSub (wVar 3) (wC (.int 1))) (wCons (wVar 4) wNil)))))) wNil)))))) wNext)
  (wSeq (wIfS (wAnd (wTest (wOp rLt (wVar 5) (wC (.int 4)))) (wTest (wOp rNe (wVar 2) (wLst wNil)))) (wRet (wTup (wCons (wIx (wLst (wCons (wC (.str "do")) (wCons (wC (.str "undo")) wNil))) (wOp rSub (wVar 5) (wC (.int 2)))) (wCons (wCall sp__law_any 2 (wCons (wVar 0) (wCons (wVar 2) wNil))) wNil)))) wNext)
  (wSeq (wIfS (wTest (wOp rLt (wVar 5) (wC (.int 7)))) (wRet (wTup (wCons (wC (.str "go")) (wCons (wCall sp__law_arrow 2 (wCons (wVar 0) (wCons (wVar 1) wNil))) wNil)))) wNext)
  (wRet (wTup (wCons (wC (.str "put")) (wCons (wCall sp__law_num 1 (wCons (wVar 0) wNil)) wNil))))))))
theorem d__law_a_statement {P : Program} {w : World} {K : PySem.W.Frag} {mg : Str → Option Value} {base : Heap} {f : Addr} {cdv : Value} {A : Around} {outer : List Env} {s : Shared} {H : Hp} {E : XK} {k : Nat} {sr__law_code : WF} (B : Bl mg) (G__law_any : FnD P w K mg base "_law_any" 2 2 sp__law_any) (G__law_arrow : FnD P w K mg base "_law_arrow" 2 2 sp__law_arrow) (G__law_code : FnD P w K mg base "_law_code" k 5 sr__law_code) (G__law_draw : FnD P w K mg base "_law_draw" 1 2 sp__law_draw) (G__law_num : FnD P w K mg base "_law_num" 2 1 sp__law_num) (hk : 2 ≤ k) (hr : Room k (A.deeper (envOfC "_law_a_statement" (defScope s__law_a_statement) s.heap.objs.size f cdv))) :
    DSs (cxOf (L2.CX P w) P w K mg base N__law_a_statement "_law_a_statement" (defScope s__law_a_statement) f cdv A outer s H E) (defBody s__law_a_statement) (w__law_a_statement sr__law_code) := by
  have sc := sc__law_a_statement
  exact (dss_cons (ds_set (i := 5) sc.nd rfl (by first | exact Or.inl rfl | exact Or.inr rfl) (de_call G__law_draw (hr.mono (by omega)) (da_cons (dv 0) (da_cons de_int da_nil))))
  (dss_cons (ds_if (DW.dt (dw_and (dt_cmp od_lt (dv 5) de_int) (dw_and1 (dt_cmp od_gt (dv 3) de_int)))) (dss_cons (ds_set (i := 6) sc.nd rfl (by first | exact Or.inl rfl | exact Or.inr rfl) (de_ix (de_lst (da_cons de_int (da_cons de_int (da_cons de_int (da_cons de_int (da_cons (de_un ud_neg de_int) (da_cons (de_un ud_neg de_int) (da_cons (de_un ud_neg de_int) (da_cons de_int da_nil))))))))) (de_call G__law_draw (hr.mono (by omega)) (da_cons (dv 0) (da_cons de_int da_nil)))))
  (dss_one (ds_ret (de_tup (da_cons de_str (da_cons (dv 6) (da_cons (de_call G__law_code (hr.mono (by omega)) (da_cons (dv 0) (da_cons (dv 1) (da_cons (dv 2) (da_cons (de_op od_sub (dv 3) de_int) (da_cons (dv 4) da_nil)))))) da_nil))))))) dss_nil)
  (dss_cons (ds_if (DW.dt (dw_and (dt_cmp od_lt (dv 5) de_int) (dw_and1 (dt_cmp (od_ne hr.units) (dv 2) (de_lst da_nil))))) (dss_one (ds_ret (de_tup (da_cons (de_ix (de_lst (da_cons de_str (da_cons de_str da_nil))) (de_op od_sub (dv 5) de_int)) (da_cons (de_call G__law_any (hr.mono (by omega)) (da_cons (dv 0) (da_cons (dv 2) da_nil))) da_nil))))) dss_nil)
  (dss_cons (ds_if (dt_cmp od_lt (dv 5) de_int) (dss_one (ds_ret (de_tup (da_cons de_str (da_cons (de_call G__law_arrow (hr.mono (by omega)) (da_cons (dv 0) (da_cons (dv 1) da_nil))) da_nil))))) dss_nil)
  (dss_one (ds_ret (de_tup (da_cons de_str (da_cons (de_call G__law_num (hr.mono (by omega)) (da_cons (dv 0) da_nil)) da_nil)))))))))
theorem ok__law_a_statement {P : Program} {w : World} {K : PySem.W.Frag} {mg : Str → Option Value} {base : Heap} {f : Addr} {fd : FuncData} {k : Nat} {sr__law_code : WF} (sp : WF) (B : Bl mg) (G__law_any : FnD P w K mg base "_law_any" 2 2 sp__law_any) (G__law_arrow : FnD P w K mg base "_law_arrow" 2 2 sp__law_arrow) (G__law_code : FnD P w K mg base "_law_code" k 5 sr__law_code) (G__law_draw : FnD P w K mg base "_law_draw" 1 2 sp__law_draw) (G__law_num : FnD P w K mg base "_law_num" 2 1 sp__law_num) (hk : 2 ≤ k) (F : Fun K "_law_a_statement" "_law_a_statement" s__law_a_statement f fd) (hm : mg "_law_a_statement" = some (.ref f))
    (hw : ∀ ds M k x, ds.length = 5 → sp ds M k x → (w__law_a_statement sr__law_code) (startD N__law_a_statement ds) M (retE k x)) : FnD P w K mg base "_law_a_statement" (k + 1) 5 sp :=
  ⟨_, _, _, rfl, fn_d F sc__law_a_statement (fun cdv A outer s H E hr => d__law_a_statement B G__law_any G__law_arrow G__law_code G__law_draw G__law_num hk hr) hw, hm, F.kp, F.binds fun _ _ _ _ _ _ us hl => match us, hl with | [_, _, _, _, _], _ => rfl⟩
/-! _law_code -/
abbrev s__law_code : Stmt := top 20
abbrev N__law_code : List Str := ["_law_box", "_law_ways", "_law_names", "_law_deep", "_law_most", "_law_k"]
theorem sc__law_code : FnScope N__law_code ["_law_box", "_law_ways", "_law_names", "_law_deep", "_law_most"] (defScope s__law_code) := ⟨rfl, rfl, rfl, by decide +kernel, rfl, by decide +kernel, by decide +kernel⟩
theorem no__law_code {P : Program} {w : World} {K : PySem.W.Frag} {mg : Str → Option Value} {base : Heap} {f : Addr} {fd : FuncData} (k : Nat) (F : Fun K "_law_code" "_law_code" s__law_code f fd) (hm : mg "_law_code" = some (.ref f)) : FnD P w K mg base "_law_code" (k + 1) 5 noSp :=
  ⟨_, _, _, rfl, fn_no F sc__law_code, hm, F.kp, F.binds fun _ _ _ _ _ _ us hl => match us, hl with | [_, _, _, _, _], _ => rfl⟩
def w__law_code (sr__law_a_statement : WF) : WS := (wRet (wCB rTuple (wCons (wLc (wiR1 (wCall sp__law_draw 2 (wCons (wVar 0) (wCons (wOp rAdd (wVar 4) (wC (.int 1))) wNil)))) (wgN 5) wYes (wCall sr__law_a_statement 5 (wCons (wVar 0) (wCons (wVar 1) (wCons (wVar 2) (wCons (wVar 3) (wCons (wVar 4) wNil)))))) [5]) wNil)))
theorem d__law_code {P : Program} {w : World} {K : PySem.W.Frag} {mg : Str → Option Value} {base : Heap} {f : Addr} {cdv : Value} {A : Around} {outer : List Env} {s : Shared} {H : Hp} {E : XK} {k : Nat} {sr__law_a_statement : WF} (B : Bl mg) (G__law_a_statement : FnD P w K mg base "_law_a_statement" k 5 sr__law_a_statement) (G__law_draw : FnD P w K mg base "_law_draw" 1 2 sp__law_draw) (hk : 1 ≤ k) (hr : Room k (A.deeper (envOfC "_law_code" (defScope s__law_code) s.heap.objs.size f cdv))) :
    DSs (cxOf (L2.CX P w) P w K mg base N__law_code "_law_code" (defScope s__law_code) f cdv A outer s H E) (defBody s__law_code) (w__law_code sr__law_a_statement) := by
  have sc := sc__law_code
  exact (dss_one (ds_ret (de_callTy cd_tuple B.tuple (by decide +kernel) (da_cons (de_lc (own := [("_law_k", 5)]) (wt := wYes) (we := (wCall sr__law_a_statement 5 (wCons (wVar 0) (wCons (wVar 1) (wCons (wVar 2) (wCons (wVar 3) (wCons (wVar 4) wNil))))))) (gt := (wgN 5)) rfl sc.nd (di_r1 B.range (de_call G__law_draw (hr.mono (by omega)) (da_cons (dv 0) (da_cons (de_op od_add (dv 4) de_int) da_nil)))) (blkOk_by (N := N__law_code) (sc := defScope s__law_code) (by decide +kernel)) (by decide) (fun _ _ _ _ _ => (dg_name (i := 5) sc.nd rfl (by first | exact Or.inl rfl | exact Or.inr rfl))) (fun _ _ _ _ _ => dts_nil) (fun _ _ _ _ _ => (de_call G__law_a_statement (hr.mono (by omega)) (da_cons (dv 0) (da_cons (dv 1) (da_cons (dv 2) (da_cons (dv 3) (da_cons (dv 4) da_nil)))))))) da_nil))))
theorem ok__law_code {P : Program} {w : World} {K : PySem.W.Frag} {mg : Str → Option Value} {base : Heap} {f : Addr} {fd : FuncData} {k : Nat} {sr__law_a_statement : WF} (sp : WF) (B : Bl mg) (G__law_a_statement : FnD P w K mg base "_law_a_statement" k 5 sr__law_a_statement) (G__law_draw : FnD P w K mg base "_law_draw" 1 2 sp__law_draw) (hk : 1 ≤ k) (F : Fun K "_law_code" "_law_code" s__law_code f fd) (hm : mg "_law_code" = some (.ref f))
    (hw : ∀ ds M k x, ds.length = 5 → sp ds M k x → (w__law_code sr__law_a_statement) (startD N__law_code ds) M (retE k x)) : FnD P w K mg base "_law_code" (k + 1) 5 sp :=
  ⟨_, _, _, rfl, fn_d F sc__law_code (fun cdv A outer s H E hr => d__law_code B G__law_a_statement G__law_draw hk hr) hw, hm, F.kp, F.binds fun _ _ _ _ _ _ us hl => match us, hl with | [_, _, _, _, _], _ => rfl⟩
/-! _law_reverse -/
abbrev s__law_reverse : Stmt := top 21
abbrev N__law_reverse : List Str := ["_law_block", "_law_found", "_law_statement", "_law_a"]
theorem sc__law_reverse : FnScope N__law_reverse ["_law_block"] (defScope s__law_reverse) := ⟨rfl, rfl, rfl, by decide +kernel, rfl, by decide +kernel, by decide +kernel⟩
theorem no__law_reverse {P : Program} {w : World} {K : PySem.W.Frag} {mg : Str → Option Value} {base : Heap} {f : Addr} {fd : FuncData} (k : Nat) (F : Fun K "_law_reverse" "_law_reverse" s__law_reverse f fd) (hm : mg "_law_reverse" = some (.ref f)) : FnD P w K mg base "_law_reverse" (k + 1) 1 noSp :=
  ⟨_, _, _, rfl, fn_no F sc__law_reverse, hm, F.kp, F.binds fun _ _ _ _ _ _ us hl => match us, hl with | [_], _ => rfl⟩
def w__law_reverse (sr : WF) : WS := (wSeq (wSet 1 (wLstM wNil))
  (wSeq (wFor (wiSeq (wRevT (wVar 0))) (wgN 2) (wIfS (wTest (wOp rEq (wIx (wVar 2) (wC (.int 0))) (wC (.str "repeat")))) (wDrop (wApp (wVar 1) (wTup (wCons (wC (.str "repeat")) (wCons (wIx (wVar 2) (wC (.int 1))) (wCons (wCall sr 1 (wCons (wIx (wVar 2) (wC (.int 2))) wNil)) wNil)))))) (wIfS (wTest (wOp rEq (wIx (wVar 2) (wC (.int 0))) (wC (.str "go")))) (wDrop (wApp (wVar 1) (wTup (wCons (wC (.str "go")) (wCons (wCB rTuple (wCons (wLc (wiSeq (wIx (wVar 2) (wC (.int 1)))) (wgN 3) wYes (wUn rNeg (wVar 3)) [3]) wNil)) wNil))))) (wIfS (wTest (wOp rEq (wIx (wVar 2) (wC (.int 0))) (wC (.str "put")))) (wDrop (wApp (wVar 1) (wTup (wCons (wC (.str "put")) (wCons (wUn rNeg (wIx (wVar 2) (wC (.int 1)))) wNil))))) (wDrop (wApp (wVar 1) (wTup (wCons (wPick2 "do" "undo" "undo" "do" (wIx (wVar 2) (wC (.int 0)))) (wCons (wIx (wVar 2) (wC (.int 1))) wNil)))))))))
  (wFrz 1 (wRet (wCB rTuple (wCons (wVar 1) wNil))))))
theorem d__law_reverse {P : Program} {w : World} {K : PySem.W.Frag} {mg : Str → Option Value} {base : Heap} {f : Addr} {cdv : Value} {A : Around} {outer : List Env} {s : Shared} {H : Hp} {E : XK} {k : Nat} {sr : WF} (B : Bl mg) (G__law_reverse : FnD P w K mg base "_law_reverse" k 1 sr) (hk : 0 ≤ k) (hr : Room k (A.deeper (envOfC "_law_reverse" (defScope s__law_reverse) s.heap.objs.size f cdv))) :
    DSs (cxOf (L2.CX P w) P w K mg base N__law_reverse "_law_reverse" (defScope s__law_reverse) f cdv A outer s H E) (defBody s__law_reverse) (w__law_reverse sr) := by
  have sc := sc__law_reverse
  exact (dss_cons (ds_set (i := 1) sc.nd rfl (by first | exact Or.inl rfl | exact Or.inr rfl) (de_lstM da_nil))
  (dss_cons (ds_for rfl (di_seq (de_revT (dv 0))) (dg_name (i := 2) sc.nd rfl (by first | exact Or.inl rfl | exact Or.inr rfl)) (dss_one (ds_if (dt_cmp (od_eq hr.units) (de_ix (dv 2) de_int) de_str) (dss_one (ds_expr (de_app (dv 1) (de_tup (da_cons de_str (da_cons (de_ix (dv 2) de_int) (da_cons (de_call G__law_reverse (hr.mono (by omega)) (da_cons (de_ix (dv 2) de_int) da_nil)) da_nil))))))) (dss_one (ds_if (dt_cmp (od_eq hr.units) (de_ix (dv 2) de_int) de_str) (dss_one (ds_expr (de_app (dv 1) (de_tup (da_cons de_str (da_cons (de_callTy cd_tuple B.tuple (by decide +kernel) (da_cons (de_lc (own := [("_law_a", 3)]) (wt := wYes) (we := (wUn rNeg (wVar 3))) (gt := (wgN 3)) rfl sc.nd (di_seq (de_ix (dv 2) de_int)) (blkOk_by (N := N__law_reverse) (sc := defScope s__law_reverse) (by decide +kernel)) (by decide) (fun _ _ _ _ _ => (dg_name (i := 3) sc.nd rfl (by first | exact Or.inl rfl | exact Or.inr rfl))) (fun _ _ _ _ _ => dts_nil) (fun _ _ _ _ _ => (de_un ud_neg (dv 3)))) da_nil)) da_nil)))))) (dss_one (ds_if (dt_cmp (od_eq hr.units) (de_ix (dv 2) de_int) de_str) (dss_one (ds_expr (de_app (dv 1) (de_tup (da_cons de_str (da_cons (de_un ud_neg (de_ix (dv 2) de_int)) da_nil)))))) (dss_one (ds_expr (de_app (dv 1) (de_tup (da_cons (de_pick2 hr.units (de_ix (dv 2) de_int) (fun _ _ => rfl)) (da_cons (de_ix (dv 2) de_int) da_nil)))))))))))))
  (dss_frz 1 (dss_one (ds_ret (de_callTy cd_tuple B.tuple (by decide +kernel) (da_cons (dv 1) da_nil)))))))
theorem ok__law_reverse {P : Program} {w : World} {K : PySem.W.Frag} {mg : Str → Option Value} {base : Heap} {f : Addr} {fd : FuncData} {k : Nat} {sr : WF} (sp : WF) (B : Bl mg) (G__law_reverse : FnD P w K mg base "_law_reverse" k 1 sr) (hk : 0 ≤ k) (F : Fun K "_law_reverse" "_law_reverse" s__law_reverse f fd) (hm : mg "_law_reverse" = some (.ref f))
    (hw : ∀ ds M k x, ds.length = 1 → sp ds M k x → (w__law_reverse sr) (startD N__law_reverse ds) M (retE k x)) : FnD P w K mg base "_law_reverse" (k + 1) 1 sp :=
  ⟨_, _, _, rfl, fn_d F sc__law_reverse (fun cdv A outer s H E hr => d__law_reverse B G__law_reverse hk hr) hw, hm, F.kp, F.binds fun _ _ _ _ _ _ us hl => match us, hl with | [_], _ => rfl⟩
/-! _law_count -/
abbrev s__law_count : Stmt := top 22
abbrev N__law_count : List Str := ["_law_block", "_law_one"]
theorem sc__law_count : FnScope N__law_count ["_law_block"] (defScope s__law_count) := ⟨rfl, rfl, rfl, by decide +kernel, rfl, by decide +kernel, by decide +kernel⟩
theorem no__law_count {P : Program} {w : World} {K : PySem.W.Frag} {mg : Str → Option Value} {base : Heap} {f : Addr} {fd : FuncData} (k : Nat) (F : Fun K "_law_count" "_law_count" s__law_count f fd) (hm : mg "_law_count" = some (.ref f)) : FnD P w K mg base "_law_count" (k + 1) 1 noSp :=
  ⟨_, _, _, rfl, fn_no F sc__law_count, hm, F.kp, F.binds fun _ _ _ _ _ _ us hl => match us, hl with | [_], _ => rfl⟩
def w__law_count (sr : WF) : WS := (wRet (wOp rAdd (wCB rLn (wCons (wVar 0) wNil)) (wCB rSum (wCons (wLc (wiSeq (wVar 0)) (wgN 1) (wTest (wOp rEq (wIx (wVar 1) (wC (.int 0))) (wC (.str "repeat")))) (wCall sr 1 (wCons (wIx (wVar 1) (wC (.int 2))) wNil)) [1]) wNil))))
theorem d__law_count {P : Program} {w : World} {K : PySem.W.Frag} {mg : Str → Option Value} {base : Heap} {f : Addr} {cdv : Value} {A : Around} {outer : List Env} {s : Shared} {H : Hp} {E : XK} {k : Nat} {sr : WF} (B : Bl mg) (G__law_count : FnD P w K mg base "_law_count" k 1 sr) (hk : 0 ≤ k) (hr : Room k (A.deeper (envOfC "_law_count" (defScope s__law_count) s.heap.objs.size f cdv))) :
    DSs (cxOf (L2.CX P w) P w K mg base N__law_count "_law_count" (defScope s__law_count) f cdv A outer s H E) (defBody s__law_count) (w__law_count sr) := by
  have sc := sc__law_count
  exact (dss_one (ds_ret (de_op od_add (de_callB cd_len B.len (by decide +kernel) (da_cons (dv 0) da_nil)) (de_callB (cd_sum rfl) B.sum (by decide +kernel) (da_cons (de_lc (own := [("_law_one", 1)]) (wt := (wTest (wOp rEq (wIx (wVar 1) (wC (.int 0))) (wC (.str "repeat"))))) (we := (wCall sr 1 (wCons (wIx (wVar 1) (wC (.int 2))) wNil))) (gt := (wgN 1)) rfl sc.nd (di_seq (dv 0)) (blkOk_by (N := N__law_count) (sc := defScope s__law_count) (by decide +kernel)) (by decide) (fun _ _ _ _ _ => (dg_name (i := 1) sc.nd rfl (by first | exact Or.inl rfl | exact Or.inr rfl))) (fun _ _ _ _ _ => (dts_one (dt_cmp (od_eq hr.units) (de_ix (dv 1) de_int) de_str))) (fun _ _ _ _ _ => (de_call G__law_count (hr.mono (by omega)) (da_cons (de_ix (dv 1) de_int) da_nil)))) da_nil)))))
theorem ok__law_count {P : Program} {w : World} {K : PySem.W.Frag} {mg : Str → Option Value} {base : Heap} {f : Addr} {fd : FuncData} {k : Nat} {sr : WF} (sp : WF) (B : Bl mg) (G__law_count : FnD P w K mg base "_law_count" k 1 sr) (hk : 0 ≤ k) (F : Fun K "_law_count" "_law_count" s__law_count f fd) (hm : mg "_law_count" = some (.ref f))
    (hw : ∀ ds M k x, ds.length = 1 → sp ds M k x → (w__law_count sr) (startD N__law_count ds) M (retE k x)) : FnD P w K mg base "_law_count" (k + 1) 1 sp :=
  ⟨_, _, _, rfl, fn_d F sc__law_count (fun cdv A outer s H E hr => d__law_count B G__law_count hk hr) hw, hm, F.kp, F.binds fun _ _ _ _ _ _ us hl => match us, hl with | [_], _ => rfl⟩
/-! _law_a_deep -/
abbrev s__law_a_deep : Stmt := top 23
abbrev N__law_a_deep : List Str := ["_law_block", "_law_found", "_law_one"]
theorem sc__law_a_deep : FnScope N__law_a_deep ["_law_block"] (defScope s__law_a_deep) := ⟨rfl, rfl, rfl, by decide +kernel, rfl, by decide +kernel, by decide +kernel⟩
theorem no__law_a_deep {P : Program} {w : World} {K : PySem.W.Frag} {mg : Str → Option Value} {base : Heap} {f : Addr} {fd : FuncData} (k : Nat) (F : Fun K "_law_a_deep" "_law_a_deep" s__law_a_deep f fd) (hm : mg "_law_a_deep" = some (.ref f)) : FnD P w K mg base "_law_a_deep" (k + 1) 1 noSp :=
  ⟨_, _, _, rfl, fn_no F sc__law_a_deep, hm, F.kp, F.binds fun _ _ _ _ _ _ us hl => match us, hl with | [_], _ => rfl⟩
def w__law_a_deep (sr : WF) : WS := (wSeq (wSet 1 (wC (.int 0)))
  (wSeq (wFor (wiSeq (wVar 0)) (wgN 2) (wIfS (wTest (wOp rEq (wIx (wVar 2) (wC (.int 0))) (wC (.str "repeat")))) (wSet 1 (wCB rMax2 (wCons (wVar 1) (wCons (wOp rAdd (wC (.int 1)) (wCall sr 1 (wCons (wIx (wVar 2) (wC (.int 2))) wNil))) wNil)))) wNext))
  (wRet (wVar 1))))
theorem d__law_a_deep {P : Program} {w : World} {K : PySem.W.Frag} {mg : Str → Option Value} {base : Heap} {f : Addr} {cdv : Value} {A : Around} {outer : List Env} {s : Shared} {H : Hp} {E : XK} {k : Nat} {sr : WF} (B : Bl mg) (G__law_a_deep : FnD P w K mg base "_law_a_deep" k 1 sr) (hk : 0 ≤ k) (hr : Room k (A.deeper (envOfC "_law_a_deep" (defScope s__law_a_deep) s.heap.objs.size f cdv))) :
    DSs (cxOf (L2.CX P w) P w K mg base N__law_a_deep "_law_a_deep" (defScope s__law_a_deep) f cdv A outer s H E) (defBody s__law_a_deep) (w__law_a_deep sr) := by
  have sc := sc__law_a_deep
  exact (dss_cons (ds_set (i := 1) sc.nd rfl (by first | exact Or.inl rfl | exact Or.inr rfl) de_int)
  (dss_cons (ds_for rfl (di_seq (dv 0)) (dg_name (i := 2) sc.nd rfl (by first | exact Or.inl rfl | exact Or.inr rfl)) (dss_one (ds_if (dt_cmp (od_eq hr.units) (de_ix (dv 2) de_int) de_str) (dss_one (ds_set (i := 1) sc.nd rfl (by first | exact Or.inl rfl | exact Or.inr rfl) (de_callB (cd_max2 rfl) B.max (by decide +kernel) (da_cons (dv 1) (da_cons (de_op od_add de_int (de_call G__law_a_deep (hr.mono (by omega)) (da_cons (de_ix (dv 2) de_int) da_nil))) da_nil))))) dss_nil)))
  (dss_one (ds_ret (dv 1)))))
theorem ok__law_a_deep {P : Program} {w : World} {K : PySem.W.Frag} {mg : Str → Option Value} {base : Heap} {f : Addr} {fd : FuncData} {k : Nat} {sr : WF} (sp : WF) (B : Bl mg) (G__law_a_deep : FnD P w K mg base "_law_a_deep" k 1 sr) (hk : 0 ≤ k) (F : Fun K "_law_a_deep" "_law_a_deep" s__law_a_deep f fd) (hm : mg "_law_a_deep" = some (.ref f))
    (hw : ∀ ds M k x, ds.length = 1 → sp ds M k x → (w__law_a_deep sr) (startD N__law_a_deep ds) M (retE k x)) : FnD P w K mg base "_law_a_deep" (k + 1) 1 sp :=
  ⟨_, _, _, rfl, fn_d F sc__law_a_deep (fun cdv A outer s H E hr => d__law_a_deep B G__law_a_deep hk hr) hw, hm, F.kp, F.binds fun _ _ _ _ _ _ us hl => match us, hl with | [_], _ => rfl⟩
/-! law -/
abbrev s_law : Stmt := top 24
abbrev N_law : List Str := ["_law_script", "_law_box", "_law_turn", "_law_ways", "_law_block", "_law_found", "_law_nested", "_law_k"]
theorem sc_law : FnScope N_law ["_law_script"] (defScope s_law) := ⟨rfl, rfl, rfl, by decide +kernel, rfl, by decide +kernel, by decide +kernel⟩
def w_law : WS := (wSeq (wSet 1 (wCall sp__law_a_box 1 (wCons (wVar 0) wNil)))
  (wSeq (wFor (wiR1 (wC (.int 5))) (wgN 2) (wSeq (wSet 3 (wOp rAdd (wC (.int 1)) (wCall sp__law_draw 2 (wCons (wVar 1) (wCons (wC (.int 3)) wNil)))))
  (wSeq (wSet 4 (wCall (sp__law_code 3) 5 (wCons (wVar 1) (wCons (wVar 3) (wCons (wCall sp__law_labels 2 (wCons (wVar 1) (wCons (wC (.int 3)) wNil))) (wCons (wC (.int 3)) (wCons (wC (.int 5)) wNil)))))))
  (wSeq (wSet 5 (wCall (sp_reverse 4) 1 (wCons (wVar 4) wNil)))
  (wSeq (wIfS (wOr (wNot (wTest (wCall (sp__law_same 12) 2 (wCons (wVar 5) (wCons (wCall (sp__law_reverse 4) 1 (wCons (wVar 4) wNil)) wNil))))) (wNot (wTest (wCall (sp__law_same 12) 2 (wCons (wCall (sp_reverse 4) 1 (wCons (wVar 5) wNil)) (wCons (wVar 4) wNil)))))) (wRet (wC (.bl false))) wNext)
  (wSeq (wIfS (wNot (wTest (wCall (sp__law_same 12) 2 (wCons (wLst (wCons (wCall (sp_statements 13) 1 (wCons (wVar 4) wNil)) (wCons (wCall (sp_depth 13) 1 (wCons (wVar 4) wNil)) wNil))) (wCons (wLst (wCons (wCall (sp__law_count 13) 1 (wCons (wVar 4) wNil)) (wCons (wCall (sp__law_a_deep 13) 1 (wCons (wVar 4) wNil)) wNil))) wNil))))) (wRet (wC (.bl false))) wNext)
  (wSeq (wSet 6 (wVar 4))
  (wSeq (wFor (wiR1 (wCall sp__law_draw 2 (wCons (wVar 1) (wCons (wC (.int 9)) wNil)))) (wgN 7) (wSet 6 (wTup (wCons (wTup (wCons (wC (.str "repeat")) (wCons (wVar 7) (wCons (wVar 6) wNil)))) wNil))))
  (wIfS (wNot (wTest (wCall (sp__law_same 12) 2 (wCons (wLst (wCons (wCall (sp_statements 13) 1 (wCons (wVar 6) wNil)) (wCons (wCall (sp_depth 13) 1 (wCons (wVar 6) wNil)) wNil))) (wCons (wLst (wCons (wCall (sp__law_count 13) 1 (wCons (wVar 6) wNil)) (wCons (wCall (sp__law_a_deep 13) 1 (wCons (wVar 6) wNil)) wNil))) wNil))))) (wRet (wC (.bl false))) wNext)))))))))
  (wRet (wC (.bl true)))))
theorem d_law {P : Program} {w : World} {K : PySem.W.Frag} {mg : Str → Option Value} {base : Heap} {f : Addr} {cdv : Value} {A : Around} {outer : List Env} {s : Shared} {H : Hp} {E : XK} (B : Bl mg) (G__law_a_box : FnD P w K mg base "_law_a_box" 1 1 sp__law_a_box) (G__law_a_deep : FnD P w K mg base "_law_a_deep" 15 1 (sp__law_a_deep 13)) (G__law_code : FnD P w K mg base "_law_code" 10 5 (sp__law_code 3)) (G__law_count : FnD P w K mg base "_law_count" 15 1 (sp__law_count 13)) (G__law_draw : FnD P w K mg base "_law_draw" 1 2 sp__law_draw) (G__law_labels : FnD P w K mg base "_law_labels" 4 2 sp__law_labels) (G__law_reverse : FnD P w K mg base "_law_reverse" 6 1 (sp__law_reverse 4)) (G__law_same : FnD P w K mg base "_law_same" 14 2 (sp__law_same 12)) (G_depth : FnD P w K mg base "depth" 15 1 (sp_depth 13)) (G_reverse : FnD P w K mg base "reverse" 12 1 (sp_reverse 4)) (G_statements : FnD P w K mg base "statements" 15 1 (sp_statements 13)) (hr : Room 15 (A.deeper (envOfC "law" (defScope s_law) s.heap.objs.size f cdv))) :
    DSs (cxOf (L2.CX P w) P w K mg base N_law "law" (defScope s_law) f cdv A outer s H E) (defBody s_law) w_law := by
  have sc := sc_law
  exact (dss_cons (ds_set (i := 1) sc.nd rfl (by first | exact Or.inl rfl | exact Or.inr rfl) (de_call G__law_a_box (hr.mono (by decide)) (da_cons (dv 0) da_nil)))
  (dss_cons (ds_for rfl (di_r1 B.range de_int) (dg_name (i := 2) sc.nd rfl (by first | exact Or.inl rfl | exact Or.inr rfl)) (dss_cons (ds_set (i := 3) sc.nd rfl (by first | exact Or.inl rfl | exact Or.inr rfl) (de_op od_add de_int (de_call G__law_draw (hr.mono (by decide)) (da_cons (dv 1) (da_cons de_int da_nil)))))
  (dss_cons (ds_set (i := 4) sc.nd rfl (by first | exact Or.inl rfl | exact Or.inr rfl) (de_call G__law_code (hr.mono (by decide)) (da_cons (dv 1) (da_cons (dv 3) (da_cons (de_call G__law_labels (hr.mono (by decide)) (da_cons (dv 1) (da_cons de_int da_nil))) (da_cons de_int (da_cons de_int da_nil)))))))
  (dss_cons (ds_set (i := 5) sc.nd rfl (by first | exact Or.inl rfl | exact Or.inr rfl) (de_call G_reverse (hr.mono (by decide)) (da_cons (dv 4) da_nil)))
  (dss_cons (ds_if (DW.dt (dw_or (dt_not (dt_val (de_call G__law_same (hr.mono (by decide)) (da_cons (dv 5) (da_cons (de_call G__law_reverse (hr.mono (by decide)) (da_cons (dv 4) da_nil)) da_nil))))) (dw_or1 (dt_not (dt_val (de_call G__law_same (hr.mono (by decide)) (da_cons (de_call G_reverse (hr.mono (by decide)) (da_cons (dv 5) da_nil)) (da_cons (dv 4) da_nil)))))))) (dss_one (ds_ret de_bl)) dss_nil)
  (dss_cons (ds_if (dt_not (dt_val (de_call G__law_same (hr.mono (by decide)) (da_cons (de_lst (da_cons (de_call G_statements (hr.mono (by decide)) (da_cons (dv 4) da_nil)) (da_cons (de_call G_depth (hr.mono (by decide)) (da_cons (dv 4) da_nil)) da_nil))) (da_cons (de_lst (da_cons (de_call G__law_count (hr.mono (by decide)) (da_cons (dv 4) da_nil)) (da_cons (de_call G__law_a_deep (hr.mono (by decide)) (da_cons (dv 4) da_nil)) da_nil))) da_nil))))) (dss_one (ds_ret de_bl)) dss_nil)
  (dss_cons (ds_set (i := 6) sc.nd rfl (by first | exact Or.inl rfl | exact Or.inr rfl) (dv 4))
  (dss_cons (ds_for rfl (di_r1 B.range (de_call G__law_draw (hr.mono (by decide)) (da_cons (dv 1) (da_cons de_int da_nil)))) (dg_name (i := 7) sc.nd rfl (by first | exact Or.inl rfl | exact Or.inr rfl)) (dss_one (ds_set (i := 6) sc.nd rfl (by first | exact Or.inl rfl | exact Or.inr rfl) (de_tup (da_cons (de_tup (da_cons de_str (da_cons (dv 7) (da_cons (dv 6) da_nil)))) da_nil)))))
  (dss_one (ds_if (dt_not (dt_val (de_call G__law_same (hr.mono (by decide)) (da_cons (de_lst (da_cons (de_call G_statements (hr.mono (by decide)) (da_cons (dv 6) da_nil)) (da_cons (de_call G_depth (hr.mono (by decide)) (da_cons (dv 6) da_nil)) da_nil))) (da_cons (de_lst (da_cons (de_call G__law_count (hr.mono (by decide)) (da_cons (dv 6) da_nil)) (da_cons (de_call G__law_a_deep (hr.mono (by decide)) (da_cons (dv 6) da_nil)) da_nil))) da_nil))))) (dss_one (ds_ret de_bl)) dss_nil))))))))))
  (dss_one (ds_ret de_bl))))
theorem okl_law {P : Program} {w : World} {K : PySem.W.Frag} {mg : Str → Option Value} {base : Heap} {f : Addr} {fd : FuncData} (sp : WF) (B : Bl mg) (G__law_a_box : FnD P w K mg base "_law_a_box" 1 1 sp__law_a_box) (G__law_a_deep : FnD P w K mg base "_law_a_deep" 15 1 (sp__law_a_deep 13)) (G__law_code : FnD P w K mg base "_law_code" 10 5 (sp__law_code 3)) (G__law_count : FnD P w K mg base "_law_count" 15 1 (sp__law_count 13)) (G__law_draw : FnD P w K mg base "_law_draw" 1 2 sp__law_draw) (G__law_labels : FnD P w K mg base "_law_labels" 4 2 sp__law_labels) (G__law_reverse : FnD P w K mg base "_law_reverse" 6 1 (sp__law_reverse 4)) (G__law_same : FnD P w K mg base "_law_same" 14 2 (sp__law_same 12)) (G_depth : FnD P w K mg base "depth" 15 1 (sp_depth 13)) (G_reverse : FnD P w K mg base "reverse" 12 1 (sp_reverse 4)) (G_statements : FnD P w K mg base "statements" 15 1 (sp_statements 13)) (F : Fun K "law" "law" s_law f fd)
    (hw : ∀ ds M k x, ds.length = 1 → sp ds M k x → w_law (startD N_law ds) M (retE k x)) : FnOk P w K mg base (L2.CX P w) (15 + 1) f fd ["_law_script"] (spD K 1 sp) :=
  fn_d F sc_law (fun cdv A outer s H E hr => d_law B G__law_a_box G__law_a_deep G__law_code G__law_count G__law_draw G__law_labels G__law_reverse G__law_same G_depth G_reverse G_statements hr) hw
theorem rec2_reverse {P : Program} {w : World} {K : PySem.W.Frag} {mg : Str → Option Value} {base : Heap} (B : Bl mg) (G_opposite : FnD P w K mg base "opposite" 2 1 sp_opposite) {f_reversed_statement : Addr} {fd_reversed_statement : FuncData} (F_reversed_statement : Fun K "reversed_statement" "reversed_statement" s_reversed_statement f_reversed_statement fd_reversed_statement) (m_reversed_statement : mg "reversed_statement" = some (.ref f_reversed_statement)) {f_reverse : Addr} {fd_reverse : FuncData} (F_reverse : Fun K "reverse" "reverse" s_reverse f_reverse fd_reverse) (m_reverse : mg "reverse" = some (.ref f_reverse)) : ∀ n : Nat, FnD P w K mg base "reversed_statement" (2 + 2 * n + 1) 1 (sp_reversed_statement n) ∧ FnD P w K mg base "reverse" (2 + 2 * n + 2) 1 (sp_reverse n)
  | 0 =>
    have s := ok_reversed_statement (sp_reversed_statement 0) B G_opposite (no_reverse 1 F_reverse m_reverse) (by omega) F_reversed_statement m_reversed_statement hw_rstat0
    ⟨s, ok_reverse (sp_reverse 0) B (s) (by omega) F_reverse m_reverse (hw_rev1 0)⟩
  | n + 1 =>
    have q := (rec2_reverse B G_opposite F_reversed_statement m_reversed_statement F_reverse m_reverse n).2
    have s := ok_reversed_statement (sp_reversed_statement (n + 1)) B G_opposite (q) (by omega) F_reversed_statement m_reversed_statement (hw_rstat1 n)
    ⟨s, ok_reverse (sp_reverse (n + 1)) B (s) (by omega) F_reverse m_reverse (hw_rev1 (n + 1))⟩
theorem rec_reversed_statement {P : Program} {w : World} {K : PySem.W.Frag} {mg : Str → Option Value} {base : Heap} (B : Bl mg) (G_opposite : FnD P w K mg base "opposite" 2 1 sp_opposite) {f_reversed_statement : Addr} {fd_reversed_statement : FuncData} (F_reversed_statement : Fun K "reversed_statement" "reversed_statement" s_reversed_statement f_reversed_statement fd_reversed_statement) (m_reversed_statement : mg "reversed_statement" = some (.ref f_reversed_statement)) {f_reverse : Addr} {fd_reverse : FuncData} (F_reverse : Fun K "reverse" "reverse" s_reverse f_reverse fd_reverse) (m_reverse : mg "reverse" = some (.ref f_reverse)) (n : Nat) : FnD P w K mg base "reversed_statement" (2 + 2 * n + 1) 1 (sp_reversed_statement n) := (rec2_reverse B G_opposite F_reversed_statement m_reversed_statement F_reverse m_reverse n).1
theorem rec_reverse {P : Program} {w : World} {K : PySem.W.Frag} {mg : Str → Option Value} {base : Heap} (B : Bl mg) (G_opposite : FnD P w K mg base "opposite" 2 1 sp_opposite) {f_reversed_statement : Addr} {fd_reversed_statement : FuncData} (F_reversed_statement : Fun K "reversed_statement" "reversed_statement" s_reversed_statement f_reversed_statement fd_reversed_statement) (m_reversed_statement : mg "reversed_statement" = some (.ref f_reversed_statement)) {f_reverse : Addr} {fd_reverse : FuncData} (F_reverse : Fun K "reverse" "reverse" s_reverse f_reverse fd_reverse) (m_reverse : mg "reverse" = some (.ref f_reverse)) (n : Nat) : FnD P w K mg base "reverse" (2 + 2 * n + 2) 1 (sp_reverse n) := (rec2_reverse B G_opposite F_reversed_statement m_reversed_statement F_reverse m_reverse n).2
theorem rec_statements {P : Program} {w : World} {K : PySem.W.Frag} {mg : Str → Option Value} {base : Heap} (B : Bl mg) (G_inner_blocks : FnD P w K mg base "inner_blocks" 1 1 sp_inner_blocks) {f_statements : Addr} {fd_statements : FuncData} (F_statements : Fun K "statements" "statements" s_statements f_statements fd_statements) (m_statements : mg "statements" = some (.ref f_statements)) : ∀ n : Nat, FnD P w K mg base "statements" (1 + n + 1) 1 (sp_statements n)
  | 0 => ok_statements (sp_statements 0) B G_inner_blocks (no_statements 0 F_statements m_statements) (by omega) F_statements m_statements DL.hw0_statements
  | n + 1 => ok_statements (sp_statements (n + 1)) B G_inner_blocks (rec_statements B G_inner_blocks F_statements m_statements n) (by omega) F_statements m_statements (DL.hw1_statements n)
theorem rec_depth {P : Program} {w : World} {K : PySem.W.Frag} {mg : Str → Option Value} {base : Heap} (B : Bl mg) (G_inner_blocks : FnD P w K mg base "inner_blocks" 1 1 sp_inner_blocks) {f_depth : Addr} {fd_depth : FuncData} (F_depth : Fun K "depth" "depth" s_depth f_depth fd_depth) (m_depth : mg "depth" = some (.ref f_depth)) : ∀ n : Nat, FnD P w K mg base "depth" (1 + n + 1) 1 (sp_depth n)
  | 0 => ok_depth (sp_depth 0) B (no_depth 0 F_depth m_depth) G_inner_blocks (by omega) F_depth m_depth DL.hw0_depth
  | n + 1 => ok_depth (sp_depth (n + 1)) B (rec_depth B G_inner_blocks F_depth m_depth n) G_inner_blocks (by omega) F_depth m_depth (DL.hw1_depth n)
theorem rec__law_same {P : Program} {w : World} {K : PySem.W.Frag} {mg : Str → Option Value} {base : Heap} (B : Bl mg) (G__law_whole : FnD P w K mg base "_law_whole" 1 1 sp__law_whole) {f__law_same : Addr} {fd__law_same : FuncData} (F__law_same : Fun K "_law_same" "_law_same" s__law_same f__law_same fd__law_same) (m__law_same : mg "_law_same" = some (.ref f__law_same)) : ∀ n : Nat, FnD P w K mg base "_law_same" (1 + n + 1) 2 (sp__law_same n)
  | 0 => ok__law_same (sp__law_same 0) B (no__law_same 0 F__law_same m__law_same) G__law_whole (by omega) F__law_same m__law_same hw_same0
  | n + 1 => ok__law_same (sp__law_same (n + 1)) B (rec__law_same B G__law_whole F__law_same m__law_same n) G__law_whole (by omega) F__law_same m__law_same (hw_same1 n)
theorem rec2__law_code {P : Program} {w : World} {K : PySem.W.Frag} {mg : Str → Option Value} {base : Heap} (B : Bl mg) (G__law_any : FnD P w K mg base "_law_any" 2 2 sp__law_any) (G__law_arrow : FnD P w K mg base "_law_arrow" 2 2 sp__law_arrow) (G__law_draw : FnD P w K mg base "_law_draw" 1 2 sp__law_draw) (G__law_num : FnD P w K mg base "_law_num" 2 1 sp__law_num) {f__law_a_statement : Addr} {fd__law_a_statement : FuncData} (F__law_a_statement : Fun K "_law_a_statement" "_law_a_statement" s__law_a_statement f__law_a_statement fd__law_a_statement) (m__law_a_statement : mg "_law_a_statement" = some (.ref f__law_a_statement)) {f__law_code : Addr} {fd__law_code : FuncData} (F__law_code : Fun K "_law_code" "_law_code" s__law_code f__law_code fd__law_code) (m__law_code : mg "_law_code" = some (.ref f__law_code)) : ∀ n : Nat, FnD P w K mg base "_law_a_statement" (2 + 2 * n + 1) 5 (sp__law_statement n) ∧ FnD P w K mg base "_law_code" (2 + 2 * n + 2) 5 (sp__law_code n)
  | 0 =>
    have s := ok__law_a_statement (sp__law_statement 0) B G__law_any G__law_arrow (no__law_code 1 F__law_code m__law_code) G__law_draw G__law_num (by omega) F__law_a_statement m__law_a_statement hw_statement0
    ⟨s, ok__law_code (sp__law_code 0) B (s) G__law_draw (by omega) F__law_code m__law_code (hw_code1 0)⟩
  | n + 1 =>
    have q := (rec2__law_code B G__law_any G__law_arrow G__law_draw G__law_num F__law_a_statement m__law_a_statement F__law_code m__law_code n).2
    have s := ok__law_a_statement (sp__law_statement (n + 1)) B G__law_any G__law_arrow (q) G__law_draw G__law_num (by omega) F__law_a_statement m__law_a_statement (hw_statement1 n)
    ⟨s, ok__law_code (sp__law_code (n + 1)) B (s) G__law_draw (by omega) F__law_code m__law_code (hw_code1 (n + 1))⟩
theorem rec__law_a_statement {P : Program} {w : World} {K : PySem.W.Frag} {mg : Str → Option Value} {base : Heap} (B : Bl mg) (G__law_any : FnD P w K mg base "_law_any" 2 2 sp__law_any) (G__law_arrow : FnD P w K mg base "_law_arrow" 2 2 sp__law_arrow) (G__law_draw : FnD P w K mg base "_law_draw" 1 2 sp__law_draw) (G__law_num : FnD P w K mg base "_law_num" 2 1 sp__law_num) {f__law_a_statement : Addr} {fd__law_a_statement : FuncData} (F__law_a_statement : Fun K "_law_a_statement" "_law_a_statement" s__law_a_statement f__law_a_statement fd__law_a_statement) (m__law_a_statement : mg "_law_a_statement" = some (.ref f__law_a_statement)) {f__law_code : Addr} {fd__law_code : FuncData} (F__law_code : Fun K "_law_code" "_law_code" s__law_code f__law_code fd__law_code) (m__law_code : mg "_law_code" = some (.ref f__law_code)) (n : Nat) : FnD P w K mg base "_law_a_statement" (2 + 2 * n + 1) 5 (sp__law_statement n) := (rec2__law_code B G__law_any G__law_arrow G__law_draw G__law_num F__law_a_statement m__law_a_statement F__law_code m__law_code n).1
theorem rec__law_code {P : Program} {w : World} {K : PySem.W.Frag} {mg : Str → Option Value} {base : Heap} (B : Bl mg) (G__law_any : FnD P w K mg base "_law_any" 2 2 sp__law_any) (G__law_arrow : FnD P w K mg base "_law_arrow" 2 2 sp__law_arrow) (G__law_draw : FnD P w K mg base "_law_draw" 1 2 sp__law_draw) (G__law_num : FnD P w K mg base "_law_num" 2 1 sp__law_num) {f__law_a_statement : Addr} {fd__law_a_statement : FuncData} (F__law_a_statement : Fun K "_law_a_statement" "_law_a_statement" s__law_a_statement f__law_a_statement fd__law_a_statement) (m__law_a_statement : mg "_law_a_statement" = some (.ref f__law_a_statement)) {f__law_code : Addr} {fd__law_code : FuncData} (F__law_code : Fun K "_law_code" "_law_code" s__law_code f__law_code fd__law_code) (m__law_code : mg "_law_code" = some (.ref f__law_code)) (n : Nat) : FnD P w K mg base "_law_code" (2 + 2 * n + 2) 5 (sp__law_code n) := (rec2__law_code B G__law_any G__law_arrow G__law_draw G__law_num F__law_a_statement m__law_a_statement F__law_code m__law_code n).2
theorem rec__law_reverse {P : Program} {w : World} {K : PySem.W.Frag} {mg : Str → Option Value} {base : Heap} (B : Bl mg) {f__law_reverse : Addr} {fd__law_reverse : FuncData} (F__law_reverse : Fun K "_law_reverse" "_law_reverse" s__law_reverse f__law_reverse fd__law_reverse) (m__law_reverse : mg "_law_reverse" = some (.ref f__law_reverse)) : ∀ n : Nat, FnD P w K mg base "_law_reverse" (1 + n + 1) 1 (sp__law_reverse n)
  | 0 => ok__law_reverse (sp__law_reverse 0) B (no__law_reverse 0 F__law_reverse m__law_reverse) (by omega) F__law_reverse m__law_reverse DL.hw0__law_reverse
  | n + 1 => ok__law_reverse (sp__law_reverse (n + 1)) B (rec__law_reverse B F__law_reverse m__law_reverse n) (by omega) F__law_reverse m__law_reverse (DL.hw1__law_reverse n)
theorem rec__law_count {P : Program} {w : World} {K : PySem.W.Frag} {mg : Str → Option Value} {base : Heap} (B : Bl mg) {f__law_count : Addr} {fd__law_count : FuncData} (F__law_count : Fun K "_law_count" "_law_count" s__law_count f__law_count fd__law_count) (m__law_count : mg "_law_count" = some (.ref f__law_count)) : ∀ n : Nat, FnD P w K mg base "_law_count" (1 + n + 1) 1 (sp__law_count n)
  | 0 => ok__law_count (sp__law_count 0) B (no__law_count 0 F__law_count m__law_count) (by omega) F__law_count m__law_count DL.hw0__law_count
  | n + 1 => ok__law_count (sp__law_count (n + 1)) B (rec__law_count B F__law_count m__law_count n) (by omega) F__law_count m__law_count (DL.hw1__law_count n)
theorem rec__law_a_deep {P : Program} {w : World} {K : PySem.W.Frag} {mg : Str → Option Value} {base : Heap} (B : Bl mg) {f__law_a_deep : Addr} {fd__law_a_deep : FuncData} (F__law_a_deep : Fun K "_law_a_deep" "_law_a_deep" s__law_a_deep f__law_a_deep fd__law_a_deep) (m__law_a_deep : mg "_law_a_deep" = some (.ref f__law_a_deep)) : ∀ n : Nat, FnD P w K mg base "_law_a_deep" (1 + n + 1) 1 (sp__law_a_deep n)
  | 0 => ok__law_a_deep (sp__law_a_deep 0) B (no__law_a_deep 0 F__law_a_deep m__law_a_deep) (by omega) F__law_a_deep m__law_a_deep DL.hw0__law_a_deep
  | n + 1 => ok__law_a_deep (sp__law_a_deep (n + 1)) B (rec__law_a_deep B F__law_a_deep m__law_a_deep n) (by omega) F__law_a_deep m__law_a_deep (DL.hw1__law_a_deep n)
theorem hw__law_a_box (ds : List D) (M : MH) (k : KD) (x : KE) (hl : ds.length = 1) (h : sp__law_a_box ds M k x) : w__law_a_box (startD N__law_a_box ds) M (retE k x) := DL.hw__law_a_box ds M k x hl h
theorem hw__law_draw (ds : List D) (M : MH) (k : KD) (x : KE) (hl : ds.length = 2) (h : sp__law_draw ds M k x) : w__law_draw (startD N__law_draw ds) M (retE k x) := DL.hw__law_draw ds M k x hl h
theorem hw__law_any (ds : List D) (M : MH) (k : KD) (x : KE) (hl : ds.length = 2) (h : sp__law_any ds M k x) : w__law_any (startD N__law_any ds) M (retE k x) := DL.hw__law_any ds M k x hl h
theorem hw__law_whole (ds : List D) (M : MH) (k : KD) (x : KE) (hl : ds.length = 1) (h : sp__law_whole ds M k x) : w__law_whole (startD N__law_whole ds) M (retE k x) := DL.hw__law_whole ds M k x hl h
theorem hw_scale (ds : List D) (M : MH) (k : KD) (x : KE) (hl : ds.length = 2) (h : sp_scale ds M k x) : w_scale (startD N_scale ds) M (retE k x) := DL.hw_scale ds M k x hl h
theorem hw_opposite (ds : List D) (M : MH) (k : KD) (x : KE) (hl : ds.length = 1) (h : sp_opposite ds M k x) : w_opposite (startD N_opposite ds) M (retE k x) := DL.hw_opposite ds M k x hl h
theorem hw__law_num (ds : List D) (M : MH) (k : KD) (x : KE) (hl : ds.length = 1) (h : sp__law_num ds M k x) : w__law_num (startD N__law_num ds) M (retE k x) := DL.hw__law_num ds M k x hl h
theorem hw__law_arrow (ds : List D) (M : MH) (k : KD) (x : KE) (hl : ds.length = 2) (h : sp__law_arrow ds M k x) : w__law_arrow (startD N__law_arrow ds) M (retE k x) := DL.hw__law_arrow ds M k x hl h
theorem hw__law_label (ds : List D) (M : MH) (k : KD) (x : KE) (hl : ds.length = 1) (h : sp__law_label ds M k x) : w__law_label (startD N__law_label ds) M (retE k x) := DL.hw__law_label ds M k x hl h
theorem hw__law_labels (ds : List D) (M : MH) (k : KD) (x : KE) (hl : ds.length = 2) (h : sp__law_labels ds M k x) : w__law_labels (startD N__law_labels ds) M (retE k x) := DL.hw__law_labels ds M k x hl h
theorem hw_inner_blocks (ds : List D) (M : MH) (k : KD) (x : KE) (hl : ds.length = 1) (h : sp_inner_blocks ds M k x) : w_inner_blocks (startD N_inner_blocks ds) M (retE k x) := DL.hw_inner_blocks ds M k x hl h
end K4

namespace K4
open PySem PySem.Spec PyProof.Rows L2 DL
local macro_rules | `(tactic| walk_at "w") => `(tactic| try conv => whnf)
theorem hw_law (ds : List D) (M : MH) (k : KD) (x : KE) (hl : ds.length = 1) (h : sp_law ds M k x) : w_law (startD N_law ds) M (retE k x) := by
  obtain ⟨cells, rfl, hl, hk⟩ := h
  walk_at "w"
  refine ⟨_, rfl, hl, fun a M1 ha hB hO => ?_⟩
  walk_at "w"
  refine ⟨by decide, by decide, ?_⟩
  refine forD_inv (fun ds ρ M' => BoxAt M' a ∧ ∃ o2 o3 o4 o5 o6 o7, ρ = [some (.scr cells), some (.ref a), o2, o3, o4, o5, o6, o7]) (fun _ _ _ _ => trivial) (fun ρ M' hI => ?_) (fun d r ρ M' nx hI hn => ?_) _ _ _ ⟨hB, _, _, _, _, _, _, rfl⟩
  · obtain ⟨hB1, o2, o3, o4, o5, o6, o7, rfl⟩ := hI
    walk_at "w"
    exact Lt.now (hk M')
  obtain ⟨hB1, o2, o3, o4, o5, o6, o7, rfl⟩ := hI
  walk_at "w"
  refine ⟨_, _, rfl, by decide, by decide, hB1, fun v M2 v0 v1 hB2 _ => ?_⟩
  walk_at "w"
  refine ⟨a, 3, rfl, by decide, by decide, hB2, fun xs M3 hxl hxne hnd hlab hB3 _ => ?_⟩
  walk_at "w"
  have hW : (1 : Int) + v = ((1 + v.toNat : Nat) : Int) := by omega
  rw [hW]
  refine ⟨a, 1 + v.toNat, xs, 3, 5, rfl, by omega, by omega, fun z hz => (hlab z hz).ok, by decide, by decide, hB3, fun cs M4 hcl hc hB4 _ => ?_⟩
  have hdep : dCs cs ≤ 3 := dCs_le fun c hcm => (hc c hcm).dep
  have hsz : szs cs ≤ 780 := by
    have h1 : szs cs ≤ cs.length * sBd 5 3 := szs_le fun c hcm => (hc c hcm).size
    have h2 : sBd 5 3 = 156 := rfl
    rw [h2] at h1
    omega
  walk_at "w"
  refine ⟨cs, rfl, by omega, ?_⟩
  walk_at "w"
  refine ⟨cs, rfl, by omega, by omega, by omega, ?_⟩
  walk_at "w"
  refine same_ex rfl (gd_tB (by rw [dCs_rvs]; omega) : Gd 12 _) ?_
  walk_at "w"
  refine ⟨rvs cs, rfl, by rw [dCs_rvs]; omega, ?_⟩
  walk_at "w"
  rw [rvs_rvs]
  refine same_ex rfl (gd_tB (by omega) : Gd 12 _) ?_
  walk_at "w"
  refine ⟨cs, rfl, by omega, ?_⟩
  walk_at "w"
  refine ⟨cs, rfl, by omega, ?_⟩
  walk_at "w"
  refine ⟨cs, rfl, by omega, ?_⟩
  walk_at "w"
  refine ⟨cs, rfl, by omega, ?_⟩
  walk_at "w"
  refine same_ex rfl (.lst (.cons .int (.cons .int .nil)) : Gd 12 _) ?_
  walk_at "w"
  refine ⟨_, _, rfl, by decide, by decide, hB4, fun u M5 u0 u1 hB5 _ => ?_⟩
  refine ⟨by omega, by omega, ?_⟩
  refine forD_inv (fun ds ρ M' => M' = M5 ∧ ∃ (cs1 : List Cd) (j : Nat) (p7 : Option D), ds = intsFrom (j : Int) (u.toNat - j) ∧ j ≤ u.toNat ∧ dCs cs1 ≤ 3 + j ∧ ρ = [some (.scr cells), some (.ref a), some d, some (.int ((1 + v.toNat : Nat) : Int)), some (tB cs), some (tB (rvs cs)), some (tB cs1), p7]) (fun _ _ _ _ => trivial) (fun ρ M' hI => ?_) (fun d1 r1 ρ M' nx1 hI hn1 => ?_) _ _ _
    ⟨rfl, cs, 0, _, rfl, Nat.zero_le _, by omega, rfl⟩
  · obtain ⟨rfl, cs1, j, p7, hd, hj, hd1, rfl⟩ := hI
    walk_at "w"
    refine ⟨cs1, rfl, by omega, ?_⟩
    walk_at "w"
    refine ⟨cs1, rfl, by omega, ?_⟩
    walk_at "w"
    refine ⟨cs1, rfl, by omega, ?_⟩
    walk_at "w"
    refine ⟨cs1, rfl, by omega, ?_⟩
    walk_at "w"
    refine same_ex rfl (.lst (.cons .int (.cons .int .nil)) : Gd 12 _) ?_
    exact hn _ _ ⟨hB5, _, _, _, _, _, _, rfl⟩
  · obtain ⟨rfl, cs1, j, p7, hd, hj, hd1, rfl⟩ := hI
    obtain ⟨m, hm, rfl, rfl⟩ := intsFrom_nil hd
    have hr : intsFrom ((j : Int) + 1) m = intsFrom ((j + 1 : Nat) : Int) (u.toNat - (j + 1)) := by
      rw [show u.toNat - (j + 1) = m by omega]
      rfl
    walk_at "w"
    refine hn1 _ _ ⟨rfl, [.rep j cs1], j + 1, _, hr, by omega, ?_, rfl⟩
    show max (dCs cs1 + 1) 0 ≤ _
    omega
end K4

namespace K4
open PySem PySem.Spec PyProof.Rows L2 DL
def dd_scale : He.DefD := ⟨("scale", none), "scale", "scale", defArgs s_scale, defBody s_scale, defScope s_scale, [], []⟩
def dd_opposite : He.DefD := ⟨("opposite", none), "opposite", "opposite", defArgs s_opposite, defBody s_opposite, defScope s_opposite, [], []⟩
def dd_reversed_statement : He.DefD := ⟨("reversed_statement", none), "reversed_statement", "reversed_statement", defArgs s_reversed_statement, defBody s_reversed_statement, defScope s_reversed_statement, [], []⟩
def dd_reverse : He.DefD := ⟨("reverse", none), "reverse", "reverse", defArgs s_reverse, defBody s_reverse, defScope s_reverse, [], []⟩
def dd_inner_blocks : He.DefD := ⟨("inner_blocks", none), "inner_blocks", "inner_blocks", defArgs s_inner_blocks, defBody s_inner_blocks, defScope s_inner_blocks, [], []⟩
def dd_statements : He.DefD := ⟨("statements", none), "statements", "statements", defArgs s_statements, defBody s_statements, defScope s_statements, [], []⟩
def dd_depth : He.DefD := ⟨("depth", none), "depth", "depth", defArgs s_depth, defBody s_depth, defScope s_depth, [], []⟩
def dd__law_a_box : He.DefD := ⟨("_law_a_box", none), "_law_a_box", "_law_a_box", defArgs s__law_a_box, defBody s__law_a_box, defScope s__law_a_box, [], []⟩
def dd__law_draw : He.DefD := ⟨("_law_draw", none), "_law_draw", "_law_draw", defArgs s__law_draw, defBody s__law_draw, defScope s__law_draw, [], []⟩
def dd__law_any : He.DefD := ⟨("_law_any", none), "_law_any", "_law_any", defArgs s__law_any, defBody s__law_any, defScope s__law_any, [], []⟩
def dd__law_whole : He.DefD := ⟨("_law_whole", none), "_law_whole", "_law_whole", defArgs s__law_whole, defBody s__law_whole, defScope s__law_whole, [], []⟩
def dd__law_same : He.DefD := ⟨("_law_same", none), "_law_same", "_law_same", defArgs s__law_same, defBody s__law_same, defScope s__law_same, [], []⟩
def dd__law_num : He.DefD := ⟨("_law_num", none), "_law_num", "_law_num", defArgs s__law_num, defBody s__law_num, defScope s__law_num, [], []⟩
def dd__law_arrow : He.DefD := ⟨("_law_arrow", none), "_law_arrow", "_law_arrow", defArgs s__law_arrow, defBody s__law_arrow, defScope s__law_arrow, [], []⟩
def dd__law_label : He.DefD := ⟨("_law_label", none), "_law_label", "_law_label", defArgs s__law_label, defBody s__law_label, defScope s__law_label, [], []⟩
def dd__law_labels : He.DefD := ⟨("_law_labels", none), "_law_labels", "_law_labels", defArgs s__law_labels, defBody s__law_labels, defScope s__law_labels, [], []⟩
def dd__law_a_statement : He.DefD := ⟨("_law_a_statement", none), "_law_a_statement", "_law_a_statement", defArgs s__law_a_statement, defBody s__law_a_statement, defScope s__law_a_statement, [], []⟩
def dd__law_code : He.DefD := ⟨("_law_code", none), "_law_code", "_law_code", defArgs s__law_code, defBody s__law_code, defScope s__law_code, [], []⟩
def dd__law_reverse : He.DefD := ⟨("_law_reverse", none), "_law_reverse", "_law_reverse", defArgs s__law_reverse, defBody s__law_reverse, defScope s__law_reverse, [], []⟩
def dd__law_count : He.DefD := ⟨("_law_count", none), "_law_count", "_law_count", defArgs s__law_count, defBody s__law_count, defScope s__law_count, [], []⟩
def dd__law_a_deep : He.DefD := ⟨("_law_a_deep", none), "_law_a_deep", "_law_a_deep", defArgs s__law_a_deep, defBody s__law_a_deep, defScope s__law_a_deep, [], []⟩
def dd_law : He.DefD := ⟨("law", none), "law", "law", defArgs s_law, defBody s_law, defScope s_law, [], []⟩
def hfnL : List He.DefD := [dd_scale, dd_opposite, dd_reversed_statement, dd_reverse, dd_inner_blocks, dd_statements, dd_depth, dd__law_a_box, dd__law_draw, dd__law_any, dd__law_whole, dd__law_same, dd__law_num, dd__law_arrow, dd__law_label, dd__law_labels, dd__law_a_statement, dd__law_code, dd__law_reverse, dd__law_count, dd__law_a_deep, dd_law]
def hfaL : List He.Fa := [.glo "scale", .glo "opposite", .glo "reversed_statement", .glo "reverse", .glo "inner_blocks", .glo "statements", .glo "depth", .glo "_law_a_box", .glo "_law_draw", .glo "_law_any", .glo "_law_whole", .glo "_law_same", .glo "_law_num", .glo "_law_arrow", .glo "_law_label", .glo "_law_labels", .glo "_law_a_statement", .glo "_law_code", .glo "_law_reverse", .glo "_law_count", .glo "_law_a_deep", .glo "law", .free "all", .free "bool", .free "int", .free "isinstance", .free "len", .free "list", .free "max", .free "range", .free "str", .free "sum", .free "tuple", .free "zip"]
abbrev RR : PySem.W.OpenRow := PySem.W.OpenLaw.row PySem.Challenge.rw_strewfar_k04_blocks_reversed
abbrev hk : PySem.W.Hook := He.hookD 4 hfaL hfnL
def ob (s : PySem.W.SharedT) : He.AlD := He.obsDG 4 hfaL hfnL (HandSHeadRun.getT s)
theorem ob_eq (s : PySem.W.SharedT) : ob s = hk.obs s.abs := He.obsDG_eq (HandSHeadRun.getT_eq s)
def loose0 : List PySem.Str := ["scale", "opposite", "reversed_statement", "reverse", "inner_blocks", "statements", "depth", "_law_a_box", "_law_draw", "_law_any", "_law_whole", "_law_same", "_law_num", "_law_arrow", "_law_label", "_law_labels", "_law_a_statement", "_law_code", "_law_reverse", "_law_count", "_law_a_deep"]
def loose : List PySem.Str := loose0
theorem run (w : World) : HandSHeadRun.RunEq RR (PySem.W.view RR.prog [24]) hk ob 2000 loose w := by
  intro os
  kernel_rfl
theorem facts {P : Program} {w : World} {K : PySem.W.Frag} {h : Heap} {mg : Str → Option Value} {f : Addr} (X : K.In h) (G : h.Ns mainGlobals mg) (hfa : mg ("law" : Str) = some (.ref f)) (c : He.SaysD hfaL hfnL K) :
    ∃ fd : FuncData, (∀ (s : Shared) (v : Value), BindsTo s fd ⟨[v], []⟩ [("_law_script", v)]) ∧ ∀ base : Heap, K.In base → base.Ns mainGlobals mg → FnOk P w K mg base (L2.CX P w) 16 f fd ["_law_script"] (spD K 1 sp_law) := by
  obtain ⟨fd_scale, E_scale⟩ := c.def_ 0 (d := dd_scale) rfl
  obtain ⟨fd_opposite, E_opposite⟩ := c.def_ 1 (d := dd_opposite) rfl
  obtain ⟨fd_reversed_statement, E_reversed_statement⟩ := c.def_ 2 (d := dd_reversed_statement) rfl
  obtain ⟨fd_reverse, E_reverse⟩ := c.def_ 3 (d := dd_reverse) rfl
  obtain ⟨fd_inner_blocks, E_inner_blocks⟩ := c.def_ 4 (d := dd_inner_blocks) rfl
  obtain ⟨fd_statements, E_statements⟩ := c.def_ 5 (d := dd_statements) rfl
  obtain ⟨fd_depth, E_depth⟩ := c.def_ 6 (d := dd_depth) rfl
  obtain ⟨fd__law_a_box, E__law_a_box⟩ := c.def_ 7 (d := dd__law_a_box) rfl
  obtain ⟨fd__law_draw, E__law_draw⟩ := c.def_ 8 (d := dd__law_draw) rfl
  obtain ⟨fd__law_any, E__law_any⟩ := c.def_ 9 (d := dd__law_any) rfl
  obtain ⟨fd__law_whole, E__law_whole⟩ := c.def_ 10 (d := dd__law_whole) rfl
  obtain ⟨fd__law_same, E__law_same⟩ := c.def_ 11 (d := dd__law_same) rfl
  obtain ⟨fd__law_num, E__law_num⟩ := c.def_ 12 (d := dd__law_num) rfl
  obtain ⟨fd__law_arrow, E__law_arrow⟩ := c.def_ 13 (d := dd__law_arrow) rfl
  obtain ⟨fd__law_label, E__law_label⟩ := c.def_ 14 (d := dd__law_label) rfl
  obtain ⟨fd__law_labels, E__law_labels⟩ := c.def_ 15 (d := dd__law_labels) rfl
  obtain ⟨fd__law_a_statement, E__law_a_statement⟩ := c.def_ 16 (d := dd__law_a_statement) rfl
  obtain ⟨fd__law_code, E__law_code⟩ := c.def_ 17 (d := dd__law_code) rfl
  obtain ⟨fd__law_reverse, E__law_reverse⟩ := c.def_ 18 (d := dd__law_reverse) rfl
  obtain ⟨fd__law_count, E__law_count⟩ := c.def_ 19 (d := dd__law_count) rfl
  obtain ⟨fd__law_a_deep, E__law_a_deep⟩ := c.def_ 20 (d := dd__law_a_deep) rfl
  obtain ⟨fd_law, E_law⟩ := c.def_ 21 (d := dd_law) rfl
  have e := hfa.symm.trans (He.glo_ok X G (c.fact 21 (f := .glo "law") rfl))
  cases e
  have B : Bl mg := ⟨He.free_ok X G (c.fact 22 (f := .free "all") rfl), He.free_ok X G (c.fact 23 (f := .free "bool") rfl), He.free_ok X G (c.fact 24 (f := .free "int") rfl), He.free_ok X G (c.fact 25 (f := .free "isinstance") rfl), He.free_ok X G (c.fact 26 (f := .free "len") rfl), He.free_ok X G (c.fact 27 (f := .free "list") rfl), He.free_ok X G (c.fact 28 (f := .free "max") rfl), He.free_ok X G (c.fact 29 (f := .free "range") rfl), He.free_ok X G (c.fact 30 (f := .free "str") rfl), He.free_ok X G (c.fact 31 (f := .free "sum") rfl), He.free_ok X G (c.fact 32 (f := .free "tuple") rfl), He.free_ok X G (c.fact 33 (f := .free "zip") rfl)⟩
  refine ⟨fd_law, fun s v => FunD.bindsA (ps := ["_law_script"]) E_law (fun _ _ _ _ _ _ us hl => match us, hl with | [_], _ => rfl) s [v] rfl, fun base _ _ => ?_⟩
  have F_scale : Fun K "scale" "scale" s_scale (He.ga K "scale") fd_scale := He5.fun_of (st := s_scale) (kws := []) E_scale
  have m_scale := He.glo_ok X G (c.fact 0 (f := .glo "scale") rfl)
  have G_scale : FnD P w K mg base "scale" 1 2 sp_scale := ok_scale sp_scale B F_scale m_scale hw_scale
  have F_opposite : Fun K "opposite" "opposite" s_opposite (He.ga K "opposite") fd_opposite := He5.fun_of (st := s_opposite) (kws := []) E_opposite
  have m_opposite := He.glo_ok X G (c.fact 1 (f := .glo "opposite") rfl)
  have G_opposite : FnD P w K mg base "opposite" 2 1 sp_opposite := ok_opposite sp_opposite B G_scale F_opposite m_opposite hw_opposite
  have F_reversed_statement : Fun K "reversed_statement" "reversed_statement" s_reversed_statement (He.ga K "reversed_statement") fd_reversed_statement := He5.fun_of (st := s_reversed_statement) (kws := []) E_reversed_statement
  have m_reversed_statement := He.glo_ok X G (c.fact 2 (f := .glo "reversed_statement") rfl)
  have F_reverse : Fun K "reverse" "reverse" s_reverse (He.ga K "reverse") fd_reverse := He5.fun_of (st := s_reverse) (kws := []) E_reverse
  have m_reverse := He.glo_ok X G (c.fact 3 (f := .glo "reverse") rfl)
  have G_reversed_statement : FnD P w K mg base "reversed_statement" 11 1 (sp_reversed_statement 4) := rec_reversed_statement B G_opposite F_reversed_statement m_reversed_statement F_reverse m_reverse 4
  have G_reverse : FnD P w K mg base "reverse" 12 1 (sp_reverse 4) := rec_reverse B G_opposite F_reversed_statement m_reversed_statement F_reverse m_reverse 4
  have F_inner_blocks : Fun K "inner_blocks" "inner_blocks" s_inner_blocks (He.ga K "inner_blocks") fd_inner_blocks := He5.fun_of (st := s_inner_blocks) (kws := []) E_inner_blocks
  have m_inner_blocks := He.glo_ok X G (c.fact 4 (f := .glo "inner_blocks") rfl)
  have G_inner_blocks : FnD P w K mg base "inner_blocks" 1 1 sp_inner_blocks := ok_inner_blocks sp_inner_blocks B F_inner_blocks m_inner_blocks hw_inner_blocks
  have F_statements : Fun K "statements" "statements" s_statements (He.ga K "statements") fd_statements := He5.fun_of (st := s_statements) (kws := []) E_statements
  have m_statements := He.glo_ok X G (c.fact 5 (f := .glo "statements") rfl)
  have G_statements : FnD P w K mg base "statements" 15 1 (sp_statements 13) := rec_statements B G_inner_blocks F_statements m_statements 13
  have F_depth : Fun K "depth" "depth" s_depth (He.ga K "depth") fd_depth := He5.fun_of (st := s_depth) (kws := []) E_depth
  have m_depth := He.glo_ok X G (c.fact 6 (f := .glo "depth") rfl)
  have G_depth : FnD P w K mg base "depth" 15 1 (sp_depth 13) := rec_depth B G_inner_blocks F_depth m_depth 13
  have F__law_a_box : Fun K "_law_a_box" "_law_a_box" s__law_a_box (He.ga K "_law_a_box") fd__law_a_box := He5.fun_of (st := s__law_a_box) (kws := []) E__law_a_box
  have m__law_a_box := He.glo_ok X G (c.fact 7 (f := .glo "_law_a_box") rfl)
  have G__law_a_box : FnD P w K mg base "_law_a_box" 1 1 sp__law_a_box := ok__law_a_box sp__law_a_box B F__law_a_box m__law_a_box hw__law_a_box
  have F__law_draw : Fun K "_law_draw" "_law_draw" s__law_draw (He.ga K "_law_draw") fd__law_draw := He5.fun_of (st := s__law_draw) (kws := []) E__law_draw
  have m__law_draw := He.glo_ok X G (c.fact 8 (f := .glo "_law_draw") rfl)
  have G__law_draw : FnD P w K mg base "_law_draw" 1 2 sp__law_draw := ok__law_draw sp__law_draw B F__law_draw m__law_draw hw__law_draw
  have F__law_any : Fun K "_law_any" "_law_any" s__law_any (He.ga K "_law_any") fd__law_any := He5.fun_of (st := s__law_any) (kws := []) E__law_any
  have m__law_any := He.glo_ok X G (c.fact 9 (f := .glo "_law_any") rfl)
  have G__law_any : FnD P w K mg base "_law_any" 2 2 sp__law_any := ok__law_any sp__law_any B G__law_draw F__law_any m__law_any hw__law_any
  have F__law_whole : Fun K "_law_whole" "_law_whole" s__law_whole (He.ga K "_law_whole") fd__law_whole := He5.fun_of (st := s__law_whole) (kws := []) E__law_whole
  have m__law_whole := He.glo_ok X G (c.fact 10 (f := .glo "_law_whole") rfl)
  have G__law_whole : FnD P w K mg base "_law_whole" 1 1 sp__law_whole := ok__law_whole sp__law_whole B F__law_whole m__law_whole hw__law_whole
  have F__law_same : Fun K "_law_same" "_law_same" s__law_same (He.ga K "_law_same") fd__law_same := He5.fun_of (st := s__law_same) (kws := []) E__law_same
  have m__law_same := He.glo_ok X G (c.fact 11 (f := .glo "_law_same") rfl)
  have G__law_same : FnD P w K mg base "_law_same" 14 2 (sp__law_same 12) := rec__law_same B G__law_whole F__law_same m__law_same 12
  have F__law_num : Fun K "_law_num" "_law_num" s__law_num (He.ga K "_law_num") fd__law_num := He5.fun_of (st := s__law_num) (kws := []) E__law_num
  have m__law_num := He.glo_ok X G (c.fact 12 (f := .glo "_law_num") rfl)
  have G__law_num : FnD P w K mg base "_law_num" 2 1 sp__law_num := ok__law_num sp__law_num B G__law_draw F__law_num m__law_num hw__law_num
  have F__law_arrow : Fun K "_law_arrow" "_law_arrow" s__law_arrow (He.ga K "_law_arrow") fd__law_arrow := He5.fun_of (st := s__law_arrow) (kws := []) E__law_arrow
  have m__law_arrow := He.glo_ok X G (c.fact 13 (f := .glo "_law_arrow") rfl)
  have G__law_arrow : FnD P w K mg base "_law_arrow" 2 2 sp__law_arrow := ok__law_arrow sp__law_arrow B G__law_draw F__law_arrow m__law_arrow hw__law_arrow
  have F__law_label : Fun K "_law_label" "_law_label" s__law_label (He.ga K "_law_label") fd__law_label := He5.fun_of (st := s__law_label) (kws := []) E__law_label
  have m__law_label := He.glo_ok X G (c.fact 14 (f := .glo "_law_label") rfl)
  have G__law_label : FnD P w K mg base "_law_label" 3 1 sp__law_label := ok__law_label sp__law_label B G__law_any G__law_draw F__law_label m__law_label hw__law_label
  have F__law_labels : Fun K "_law_labels" "_law_labels" s__law_labels (He.ga K "_law_labels") fd__law_labels := He5.fun_of (st := s__law_labels) (kws := []) E__law_labels
  have m__law_labels := He.glo_ok X G (c.fact 15 (f := .glo "_law_labels") rfl)
  have G__law_labels : FnD P w K mg base "_law_labels" 4 2 sp__law_labels := ok__law_labels sp__law_labels B G__law_label F__law_labels m__law_labels hw__law_labels
  have F__law_a_statement : Fun K "_law_a_statement" "_law_a_statement" s__law_a_statement (He.ga K "_law_a_statement") fd__law_a_statement := He5.fun_of (st := s__law_a_statement) (kws := []) E__law_a_statement
  have m__law_a_statement := He.glo_ok X G (c.fact 16 (f := .glo "_law_a_statement") rfl)
  have F__law_code : Fun K "_law_code" "_law_code" s__law_code (He.ga K "_law_code") fd__law_code := He5.fun_of (st := s__law_code) (kws := []) E__law_code
  have m__law_code := He.glo_ok X G (c.fact 17 (f := .glo "_law_code") rfl)
  have G__law_a_statement : FnD P w K mg base "_law_a_statement" 9 5 (sp__law_statement 3) := rec__law_a_statement B G__law_any G__law_arrow G__law_draw G__law_num F__law_a_statement m__law_a_statement F__law_code m__law_code 3
  have G__law_code : FnD P w K mg base "_law_code" 10 5 (sp__law_code 3) := rec__law_code B G__law_any G__law_arrow G__law_draw G__law_num F__law_a_statement m__law_a_statement F__law_code m__law_code 3
  have F__law_reverse : Fun K "_law_reverse" "_law_reverse" s__law_reverse (He.ga K "_law_reverse") fd__law_reverse := He5.fun_of (st := s__law_reverse) (kws := []) E__law_reverse
  have m__law_reverse := He.glo_ok X G (c.fact 18 (f := .glo "_law_reverse") rfl)
  have G__law_reverse : FnD P w K mg base "_law_reverse" 6 1 (sp__law_reverse 4) := rec__law_reverse B F__law_reverse m__law_reverse 4
  have F__law_count : Fun K "_law_count" "_law_count" s__law_count (He.ga K "_law_count") fd__law_count := He5.fun_of (st := s__law_count) (kws := []) E__law_count
  have m__law_count := He.glo_ok X G (c.fact 19 (f := .glo "_law_count") rfl)
  have G__law_count : FnD P w K mg base "_law_count" 15 1 (sp__law_count 13) := rec__law_count B F__law_count m__law_count 13
  have F__law_a_deep : Fun K "_law_a_deep" "_law_a_deep" s__law_a_deep (He.ga K "_law_a_deep") fd__law_a_deep := He5.fun_of (st := s__law_a_deep) (kws := []) E__law_a_deep
  have m__law_a_deep := He.glo_ok X G (c.fact 20 (f := .glo "_law_a_deep") rfl)
  have G__law_a_deep : FnD P w K mg base "_law_a_deep" 15 1 (sp__law_a_deep 13) := rec__law_a_deep B F__law_a_deep m__law_a_deep 13
  have F_law : Fun K "law" "law" s_law (He.ga K "law") fd_law := He5.fun_of (st := s_law) (kws := []) E_law
  have m_law := He.glo_ok X G (c.fact 21 (f := .glo "law") rfl)
  exact okl_law sp_law B G__law_a_box G__law_a_deep G__law_code G__law_count G__law_draw G__law_labels G__law_reverse G__law_same G_depth G_reverse G_statements F_law hw_law
end K4
open PySem PySem.W PySem.Calls PyProof.Rows
theorem PySem.Challenge.cw_strewfar_k04_blocks_reversed_holds : PySem.Challenge.rw_strewfar_k04_blocks_reversed.Holds := by
  w_on; o_law
  refine HandSHeadRun.head_any (r := OpenLaw.row PySem.Challenge.rw_strewfar_k04_blocks_reversed) (q := view (OpenLaw.row PySem.Challenge.rw_strewfar_k04_blocks_reversed).prog [24]) (H := K4.hk) (ob := K4.ob) (M := 2000) (loose := K4.loose) (d := HandSHeadRun.topDef (OpenLaw.row PySem.Challenge.rw_strewfar_k04_blocks_reversed).prog 24) (kwd := []) K4.ob_eq
    (by kernel_rfl) (fun s => by kernel_rfl) K4.run (by kernel_rfl) (by kernel_rfl) (by kernel_rfl) (by rfl) (by first | assumption | decide +kernel) (by decide +kernel) ⟨rfl, rfl, rfl, rfl, rfl, by decide +kernel⟩ ?hw ?hc
  case hw => w_witness2
  case hc =>
    refine DL.walk_ofEW (l := PySem.Challenge.rw_strewfar_k04_blocks_reversed) (n := 63) (k := 16) (x := "_law_script") rfl (by decide) (by kernel_rfl) ⟨rfl, by decide, by decide⟩ ?F
    intro w mg fa h Y G hmg0
    obtain ⟨K, KX, c⟩ := Y
    have hmg : mg ("law" : PySem.Str) = some (.ref fa) := by
      have e : (HandSHeadRun.topDef (OpenLaw.row PySem.Challenge.rw_strewfar_k04_blocks_reversed).prog 24).name = ("law" : PySem.Str) := by kernel_rfl
      rw [← e]
      exact hmg0
    obtain ⟨fd, hb, hF⟩ := K4.facts (P := (PySem.Challenge.rw_strewfar_k04_blocks_reversed).prog) (w := w) KX G hmg c
    exact ⟨K, fd, DL.spD K 1 DL.sp_law, KX, hb, fun H a ns hl _ hS => DL.sp_law_in hl hS, hF⟩


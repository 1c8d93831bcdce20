import PyProof.Rows.All
import Wide.All
import OpenK.AllK
import Wide.FinOn
import HandS.ForMost
import HandS.Strs
import HandS.Sort
import HandS.Wide
import HandS.IsInst
import HandS.DictComp
import HandS.Conv
import HandS.SetFor
import HandS.SetBool
import KE.KDictList
import PyProof.ReprRoads
import PyProof.LongRange
import PyProof.AutoRange
import HandS.ForExc
import HandS.Lambda
import HandS.Style
import HandS.Star
import HandS.HeadEnd
import HandS.HeadHook2
import HandS.Dict
import PyProof.CallFns
import HandS.Exc
import KE.KExcSuper
import KE.RegKSuper
import HandS.ExcInit
import HandS.ExcOwn
import HandS.Head0
import HandS.Head1
import HandS.Head2
import HandS.HeadWalk
import HandS.HeadHook4
import HandS.ExcField
import HandS.DictEq
import PyProof.NeKinds
import KE.KEqDict
import HandS.Zip
import HandS.Flt
import HandS.SortKw
import KE.SortKeyHeap
import KE.FramesApart
import KE.DataMinMax
import HandS.TryOnly
import PyProof.ListRange
import KE.GoesEnum
import KE.GoesMore
import KE.KDictZip
import KE.KItemsList
import KE.GoesZip
import HandS.OwnEq
import PyProof.InstNe
import HandS.TupLen
import HandS.DictTup
import HandS.Iter
import HandS.Small
import HandS.SortRule
import HandS.TupAny
import KE.KDictCopyH
import PyProof.Rows.SortShellAny
import HandS.More
import HandS.TupMul
import PySem.Challenge.RW_oddcrowds_k78_whole_places_by_voices
set_option Elab.async false
set_option linter.all false
set_option autoImplicit false
set_option maxRecDepth 100000
set_option maxHeartbeats 1000000
namespace L2.DL
open PySem PySem.Spec PyProof.Rows
theorem meets_range_contains (r : Addr) (a b i : Int) (t u v ti : Tok) :
    Meets (Builtin.«range.__contains__» ⟨[.ref r, .int i ti], []⟩) (fun _ R s => s.heap.get? r = some { cls := .type "range", dict := none, data := .fields #[.int a t, .int b u, .int 1 v], slots := #[] } ∧ R (.ok (.ret (.bool (Builtin.Range.rangePlace? a b 1 i).isSome))) s) :=
  .of_wp fun prog w A R s h => by obtain ⟨hp, g, d, tk, os⟩ := s; obtain ⟨hl, h⟩ := h; wp_walk; exact ⟨_, rfl, h⟩
theorem rngPlace (a b i : Int) : (Builtin.Range.rangePlace? a b 1 i).isSome = decide (a ≤ i ∧ i < b) := by
  unfold Builtin.Range.rangePlace?
  simp only [show (1 : Int) > 0 from by decide, if_true, Int.emod_one]
  by_cases h1 : a ≤ i <;> by_cases h2 : i < b <;> simp [h1, h2]
theorem contains_rng {prog : Program} {w : World} {A : Around} {E : Value → Shared → Prop} {s : Shared} {r : Addr} {a b i : Int} {t u v ti : Tok} {Q : Bool → Shared → Prop} (hr : s.heap.get? r = some { cls := .type "range", data := .fields #[.int a t, .int b u, .int 1 v] })
    (h : Q (decide (a ≤ i ∧ i < b)) s) : wpAny (model prog w) A (contains (.ref r) (.int i ti)) Q E s := by
  have hT : s.TypeIs (.ref r) "range" := ⟨_, hr, rfl⟩
  unfold contains
  try with_reducible refine wpAny_holding ?_
  refine wpAny_bind (wpAny_specialOf hT F.slot_range_contains.lookup ?_)
  show wpAny _ _ (if (some (Value.builtin "range.__contains__") == some Value.none) = true then _ else _) _ E s
  rw [if_neg (by rw [beq_builtin_none]; exact Bool.false_ne_true)]
  refine wpAny_bind (wpAny_callSpecialUnlessNone?_slot (name := Str.ofString "__contains__") hT F.slot_range_contains
    (call_meets F.slot_range_contains hT F.entry_range_contains (F.args_range_contains_2 _ _) (meets_range_contains r a b i t u v ti) ⟨hr, ?_⟩))
  rw [rngPlace]
  exact wpAny_truthy_bool h
section
variable {X : Cx}
def rInRng (neg : Bool) : R2 := fun x y H Q => ∃ i p lo hi, x = .int i ∧ y = .ref p ∧ H p = some (.rng lo hi) ∧ Q (.bl (if neg then !decide (lo ≤ i ∧ i < hi) else decide (lo ≤ i ∧ i < hi))) H
theorem op_notInRng : OpR X (compareOp .NotIn) (rInRng true) := by
  intro pins s σ H x y v u Q I rx ry h
  obtain ⟨i, p, lo, hi, rfl, rfl, hp, q⟩ := h
  obtain ⟨tk, rfl⟩ := rx
  cases ry
  obtain ⟨t1, t2, t3, e⟩ := (show ObjOk X.prog X.w H s.heap p (.rng lo hi) from I.hok p _ hp)
  show wpAny _ _ (do return Value.bool (!(← contains (.ref p) (.int i tk)))) _ _ s
  exact wpAny_bind (contains_rng e (wpAny_pure ⟨.bl _, H, I, rfl, q⟩))
end
end L2.DL
set_option Elab.async false
set_option linter.all false
set_option autoImplicit false
set_option maxRecDepth 100000
set_option maxHeartbeats 1000000
namespace L2.DL
open PySem PySem.Spec PyProof.Rows
end L2.DL
set_option Elab.async false
set_option linter.all false
set_option autoImplicit false
set_option maxRecDepth 100000
set_option maxHeartbeats 1000000
namespace L2.DL
open PySem PySem.Spec PyProof.Rows
/-- pure data -/
inductive D where
  | non | bl (b : Bool) | int (i : Int) | str (x : Str)
  | lst (xs : List D) | tup (xs : List D)
  | dct (kvs : List (Key × D))
  /-- a dict with tuple keys; one that is locked for good -/
  | dcT (kvs : List (List Key × D)) | dcL (kvs : List (List Key × D))
  /-- a dict with int and text keys that is locked for good -/
  | dcI (kvs : List (Key × D))
  | ins (C : Addr) (fs : List (Str × D))
  | iset (xs : List Int)
  | src
  | ty (n : String)
  | me (p : Addr) (x : D)
/-- what is known of a heap: tables of code objects may grow -/
def kn (H : Hp) : Hp := fun p => match H p with
  | some (.tbl _) => none
  | o => o
theorem kn_none {H : Hp} {p : Addr} (h : H p = none) : kn H p = none := by unfold kn; rw [h]
theorem kn_nt {H : Hp} {p : Addr} {o : HO} (h : kn H p = some o) : ∀ ps, o ≠ .tbl ps := by
  unfold kn at h
  split at h
  · cases h
  · rename_i q
    intro ps e
    subst e
    exact q ps h
theorem kn_some {H : Hp} {p : Addr} {o : HO} (h : kn H p = some o) : H p = some o := by
  unfold kn at h
  split at h
  · cases h
  · exact h
theorem kn_of {H : Hp} {p : Addr} {o : HO} (h : H p = some o) (n : ∀ ps, o ≠ .tbl ps := by intro _ z; cases z) : kn H p = some o := by
  unfold kn
  rw [h]
  cases o <;> first | rfl | exact absurd rfl (n _)
theorem kn_same {H H' : Hp} {p : Addr} (h : H' p = H p) : kn H' p = kn H p := by unfold kn; rw [h]
/-- the source's dict and its list of cells; the table of a def that makes lambdas, and their name -/
abbrev Src := Option (Addr × Addr) × List (Addr × Str)
def inS (S : Src) (p : Addr) : Prop := (∃ a c, S.1 = some (a, c) ∧ (p = a ∨ p = c)) ∨ ∃ q, (p, q) ∈ S.2
/-- unknown, or a tuple (which never changes) -/
def TF (H : Hp) (p : Addr) : Prop := kn H p = none ∨ ∃ vs, H p = some (.tup vs)
theorem TF.no {H : Hp} {p : Addr} {o : HO} (h : TF H p) (e : H p = some o) (n : ∀ ps, o ≠ .tbl ps) (n' : ∀ vs, o ≠ .tup vs) : False := by
  rcases h with h | ⟨vs, h⟩
  · rw [kn_of e n] at h; cases h
  · rw [e] at h; cases h; exact n' _ rfl
/-- a list: in the heap, or in the text -/
def LstAt (K : PySem.W.Frag) (F : Hp) (a : Addr) (vs : List V) : Prop :=
  F a = some (.lst vs) ∨ ∃ (o : Obj) (its : Array Value) (n : Nat), K.lookup a = some o ∧ o.cls = .type "list" ∧ o.dict = none ∧ o.data = .seq its n ∧ its.size ≤ sizeLine ∧ Vals vs its.toList
mutual
inductive Rep (K : PySem.W.Frag) (S : Src) (F : Hp) : V → D → Prop where
  | non : Rep K S F .non .non
  | bl (b : Bool) : Rep K S F (.bl b) (.bl b)
  | int (i : Int) : Rep K S F (.int i) (.int i)
  | str (x : Str) : Rep K S F (.str x) (.str x)
  | ty (n : String) : Rep K S F (.ty n) (.ty n)
  | lst {a : Addr} {vs : List V} {ds : List D} : LstAt K F a vs → Reps K S F vs ds → Rep K S F (.ref a) (.lst ds)
  | tup {a : Addr} {vs : List V} {ds : List D} : F a = some (.tup vs) → Reps K S F vs ds → Rep K S F (.ref a) (.tup ds)
  | dct {a : Addr} {kvs : List (Key × V)} {kds : List (Key × D)} : F a = some (.dK kvs) → kvs.map (·.1) = kds.map (·.1) → Reps K S F (kvs.map (·.2)) (kds.map (·.2)) → Rep K S F (.ref a) (.dct kds)
  | dcT {a : Addr} {kvs : List (List Key × V)} {kds : List (List Key × D)} : F a = some (.dT kvs) → kvs.map (·.1) = kds.map (·.1) → Reps K S F (kvs.map (·.2)) (kds.map (·.2)) → Rep K S F (.ref a) (.dcT kds)
  | dcL {a : Addr} {o : Obj} {kvs : List (List Key × V)} {kds : List (List Key × D)} : F a = some (.frz o (.dT kvs)) → kvs.map (·.1) = kds.map (·.1) → Reps K S F (kvs.map (·.2)) (kds.map (·.2)) → Rep K S F (.ref a) (.dcL kds)
  | dcI {a : Addr} {o : Obj} {kvs : List (Key × V)} {kds : List (Key × D)} : F a = some (.frz o (.dK kvs)) → kvs.map (·.1) = kds.map (·.1) → Reps K S F (kvs.map (·.2)) (kds.map (·.2)) → Rep K S F (.ref a) (.dcI kds)
  | ins {a C dx : Addr} {fs : List (Str × V)} {fds : List (Str × D)} : F a = some (.ins C dx fs) → fs.map (·.1) = fds.map (·.1) → Reps K S F (fs.map (·.2)) (fds.map (·.2)) → Rep K S F (.ref a) (.ins C fds)
  | iset {a : Addr} {T : Int → Bool} {n : Nat} {xs : List Int} : F a = some (.set T n) → (∀ i, T i = true ↔ i ∈ xs) → xs.Nodup → n = xs.length → Rep K S F (.ref a) (.iset xs)
  | src {a c : Addr} : S.1 = some (a, c) → Rep K S F (.ref a) .src
inductive Reps (K : PySem.W.Frag) (S : Src) (F : Hp) : List V → List D → Prop where
  | nil : Reps K S F [] []
  | cons {v : V} {vs : List V} {d : D} {ds : List D} : Rep K S F v d → Reps K S F vs ds → Reps K S F (v :: vs) (d :: ds)
end
def Le (F F' : Hp) : Prop := ∀ p o, F p = some o → F' p = some o
theorem Le.refl (F : Hp) : Le F F := fun _ _ h => h
theorem Le.trans {F G H : Hp} (a : Le F G) (b : Le G H) : Le F H := fun p o h => b p o (a p o h)
section
variable {K : PySem.W.Frag} {S : Src} {F F' : Hp}
theorem Le.lst {a : Addr} {xs : List V} (e : Le F F') (h : LstAt K F a xs) : LstAt K F' a xs := h.imp (fun h => e _ _ h) id
theorem LstAt.sq {a : Addr} {xs : List V} (e : Le F F') (h : LstAt K F a xs) : SqL K F' a xs := h.imp (fun h => .inl (e _ _ h)) id
theorem LstAt.here {a : Addr} {xs : List V} (h : LstAt K F a xs) : SqL K F a xs := h.imp .inl id
theorem Le.seqT {a : Addr} {xs : List V} (e : Le F F') (h : SqT K F a xs) : SqT K F' a xs := by
  rcases h with (h | ⟨o, h⟩) | h
  · exact .inl (.inl (e _ _ h))
  · exact .inl (.inr ⟨o, e _ _ h⟩)
  · exact .inr h
mutual
theorem Rep.mono (e : Le F F') : ∀ {v : V} {d : D}, Rep K S F v d → Rep K S F' v d
  | _, _, .non => .non
  | _, _, .bl b => .bl b
  | _, _, .int i => .int i
  | _, _, .str x => .str x
  | _, _, .ty x => .ty x
  | _, _, .lst h r => .lst (e.lst h) (Reps.mono e r)
  | _, _, .tup h r => .tup (e _ _ h) (Reps.mono e r)
  | _, _, .dct h k r => .dct (e _ _ h) k (Reps.mono e r)
  | _, _, .dcT h k r => .dcT (e _ _ h) k (Reps.mono e r)
  | _, _, .dcL h k r => .dcL (e _ _ h) k (Reps.mono e r)
  | _, _, .dcI h k r => .dcI (e _ _ h) k (Reps.mono e r)
  | _, _, .ins h k r => .ins (e _ _ h) k (Reps.mono e r)
  | _, _, .iset h a b c => .iset (e _ _ h) a b c
  | _, _, .src h => .src h
theorem Reps.mono (e : Le F F') : ∀ {vs : List V} {ds : List D}, Reps K S F vs ds → Reps K S F' vs ds
  | _, _, .nil => .nil
  | _, _, .cons a b => .cons (Rep.mono e a) (Reps.mono e b)
end
theorem Reps.length : ∀ {vs : List V} {ds : List D}, Reps K S F vs ds → vs.length = ds.length
  | _, _, .nil => rfl
  | _, _, .cons _ b => by rw [List.length_cons, List.length_cons, Reps.length b]
theorem Reps.get : ∀ {vs : List V} {ds : List D} {i : Nat} {d : D}, Reps K S F vs ds → ds[i]? = some d → ∃ v, vs[i]? = some v ∧ Rep K S F v d
  | _, _, i, d, .nil, h => by simp at h
  | _, _, 0, d, .cons a b, h => by simp at h; subst h; exact ⟨_, rfl, a⟩
  | _, _, i + 1, d, .cons a b, h => by
    obtain ⟨v, h1, h2⟩ := Reps.get (i := i) (d := d) b (by simpa using h)
    exact ⟨v, by simpa using h1, h2⟩
theorem Reps.append : ∀ {vs ws : List V} {ds es : List D}, Reps K S F vs ds → Reps K S F ws es → Reps K S F (vs ++ ws) (ds ++ es)
  | _, _, _, _, .nil, s => s
  | _, _, _, _, .cons r t, s => .cons r (Reps.append t s)
theorem Reps.take (n : Nat) : ∀ {vs : List V} {ds : List D}, Reps K S F vs ds → Reps K S F (vs.take n) (ds.take n) := by
  induction n with
  | zero => intro vs ds _; exact .nil
  | succ n ih =>
    intro vs ds h
    cases h with
    | nil => exact .nil
    | cons a b => exact .cons a (ih b)
theorem Reps.drop (n : Nat) : ∀ {vs : List V} {ds : List D}, Reps K S F vs ds → Reps K S F (vs.drop n) (ds.drop n) := by
  induction n with
  | zero => intro vs ds h; exact h
  | succ n ih =>
    intro vs ds h
    cases h with
    | nil => exact .nil
    | cons a b => exact ih b
theorem Reps.snoc {vs : List V} {ds : List D} {v : V} {d : D} (r : Reps K S F vs ds) (h : Rep K S F v d) : Reps K S F (vs ++ [v]) (ds ++ [d]) := r.append (.cons h .nil)
theorem Reps.rev : ∀ {vs : List V} {ds : List D}, Reps K S F vs ds → Reps K S F vs.reverse ds.reverse
  | _, _, .nil => .nil
  | _, _, .cons a b => by rw [List.reverse_cons, List.reverse_cons]; exact (Reps.rev b).snoc a
theorem Reps.ints : ∀ {ns : List Int}, Reps K S F (ns.map V.int) (ns.map D.int)
  | [] => .nil
  | _ :: r => .cons (.int _) (Reps.ints (ns := r))
theorem Reps.of_ints : ∀ {vs : List V} {ns : List Int}, Reps K S F vs (ns.map D.int) → vs = ns.map V.int
  | _, [], .nil => rfl
  | _, n :: ns, .cons a b => by cases a; rw [List.map_cons, Reps.of_ints b]
end
/-- an object of the heap at p, as data -/
inductive HRep (K : PySem.W.Frag) (S : Src) (F : Hp) : Addr → HO → D → Prop where
  | lst {p : Addr} {vs : List V} {ds : List D} : Reps K S F vs ds → HRep K S F p (.lst vs) (.lst ds)
  | dct {p : Addr} {kvs : List (Key × V)} {kds : List (Key × D)} : kvs.map (·.1) = kds.map (·.1) → Reps K S F (kvs.map (·.2)) (kds.map (·.2)) → HRep K S F p (.dK kvs) (.dct kds)
  | dcT {p : Addr} {kvs : List (List Key × V)} {kds : List (List Key × D)} : kvs.map (·.1) = kds.map (·.1) → Reps K S F (kvs.map (·.2)) (kds.map (·.2)) → HRep K S F p (.dT kvs) (.dcT kds)
  | ins {p C dx : Addr} {fs : List (Str × V)} {fds : List (Str × D)} : fs.map (·.1) = fds.map (·.1) → Reps K S F (fs.map (·.2)) (fds.map (·.2)) → HRep K S F p (.ins C dx fs) (.ins C fds)
  | me {p C dx : Addr} {fs : List (Str × V)} {fds : List (Str × D)} : fs.map (·.1) = fds.map (·.1) → Reps K S F (fs.map (·.2)) (fds.map (·.2)) → HRep K S F p (.ins C dx fs) (.me p (.ins C fds))
/-- known by its place no more -/
def unAt : D → D
  | .me _ x => x
  | x => x
theorem HRep.mono {K : PySem.W.Frag} {S : Src} {F F' : Hp} {o : HO} {p : Addr} {d : D} (e : Le F F') (h : HRep K S F p o d) : HRep K S F' p o d := by
  cases h with
  | lst r => exact .lst (Reps.mono e r)
  | dct k r => exact .dct k (Reps.mono e r)
  | dcT k r => exact .dcT k (Reps.mono e r)
  | ins k r => exact .ins k (Reps.mono e r)
  | me k r => exact .me k (Reps.mono e r)
theorem HRep.rep {K : PySem.W.Frag} {S : Src} {F : Hp} {o : HO} {d : D} {p : Addr} (h : HRep K S F p o d) (e : F p = some o) : Rep K S F (.ref p) (unAt d) := by
  cases h with
  | lst r => exact .lst (.inl e) r
  | dct k r => exact .dct e k r
  | dcT k r => exact .dcT e k r
  | ins k r => exact .ins e k r
  | me k r => exact .ins e k r
/-- a result: data, or a new list that nobody else has -/
inductive Res where
  | v (d : D)
  | ow (x : D)
/-- a new list -/
abbrev Res.own (xs : List D) : Res := .ow (.lst xs)
def fz : Res → D
  | .v d => d
  | .ow x => unAt x
/-- a slot -/
inductive Sl where
  | un
  | d (x : D)
  | o (x : D)
def toSl : Res → Sl
  | .v d => .d d
  | .ow x => .o x
abbrev Rho := List Sl
/-- the entry -/
structure C where
  K : PySem.W.Frag
  S : Src
  F0 : Hp
  H0 : Hp
def kc : Key := .inr "cells"
def kl : Key := .inr "left"
def km : Key := .inr "mixed"
def kt : Key := .inr "turn"
structure SrcOk (S : Src) (H : Hp) : Prop where
  ok : ∀ a c, S.1 = some (a, c) → ∃ (l m t : Int) (cs : List Int),
    H a = some (.dK [(kc, .ref c), (kl, .int l), (km, .int m), (kt, .int t)]) ∧ H c = some (.lst (cs.map V.int)) ∧ (∀ x, x ∈ cs → 0 ≤ x) ∧ 0 ≤ l ∧ 0 ≤ m ∧ m < 4294967296 ∧ 0 ≤ t
  tab : ∀ P q, (P, q) ∈ S.2 → LamX.TabS H P q
/-- a known object that is no code object changes -/
theorem tab_upd {H : Hp} {P p : Addr} {q : Str} {o : HO} (h : LamX.TabS H P q) (hp : P ≠ p) (hc : ∀ c, H p ≠ some (LamX.CodeO c q)) : LamX.TabS (upd H p o) P q := by
  obtain ⟨ps, h1, h2, h3⟩ := h
  refine ⟨ps, by rw [upd_ne hp]; exact h1, h2, fun pos cv z => ?_⟩
  obtain ⟨c, e, hc2⟩ := h3 pos cv z
  refine ⟨c, e, ?_⟩
  have : c ≠ p := fun y => hc c (by rw [← y]; exact hc2)
  rw [upd_ne this]
  exact hc2
/-- no source, no table, no code: it may change -/
def Plain (o : HO) : Prop := (∀ ps, o ≠ .tbl ps) ∧ ∀ c q, o ≠ LamX.CodeO c q
theorem tab_put {H : Hp} {P p : Addr} {q : Str} {o u : HO} (h : LamX.TabS H P q) (hp : H p = some u) (hu : Plain u := by exact ⟨fun _ z => (by cases z), fun _ _ z => (by unfold LamX.CodeO at z; cases z)⟩) : LamX.TabS (upd H p o) P q :=
  tab_upd h (fun z => by
    obtain ⟨ps, h1, _⟩ := h
    rw [z, hp] at h1
    cases h1
    exact hu.1 _ rfl) fun c z => by
    rw [hp] at z
    cases z
    exact hu.2 _ _ rfl
theorem SrcOk.upd {S : Src} {H : Hp} {p : Addr} {o u : HO} (h : SrcOk S H) (hs : ¬ inS S p) (hp : H p = some u) (hu : Plain u := by exact ⟨fun _ z => (by cases z), fun _ _ z => (by unfold LamX.CodeO at z; cases z)⟩) : SrcOk S (L2.upd H p o) where
  ok := fun a c e => by
    obtain ⟨l, m, t, cs, h1, h2, h3⟩ := h.ok a c e
    refine ⟨l, m, t, cs, ?_, ?_, h3⟩
    · have : a ≠ p := fun z => hs (.inl ⟨a, c, e, .inl z.symm⟩)
      rw [upd_ne this]; exact h1
    · have : c ≠ p := fun z => hs (.inl ⟨a, c, e, .inr z.symm⟩)
      rw [upd_ne this]; exact h2
  tab := fun P q e => tab_upd (h.tab P q e) (fun z => hs (.inr ⟨q, by rw [← z]; exact e⟩)) fun c z => hu.2 c q (by rw [hp] at z; exact Option.some.inj z)
theorem SrcOk.ext {S : Src} {H H' : Hp} (h : SrcOk S H) (e : ∀ b o, H b = some o → H' b = some o) : SrcOk S H' where
  ok := fun a c z => by
    obtain ⟨l, m, t, cs, h1, h2, h3⟩ := h.ok a c z
    exact ⟨l, m, t, cs, e _ _ h1, e _ _ h2, h3⟩
  tab := fun P q z => (h.tab P q z).ext e
theorem SrcOk.there {S : Src} {H : Hp} (h : SrcOk S H) {p : Addr} (hs : inS S p) : H p ≠ none := by
  rcases hs with ⟨a, q, e, hp⟩ | ⟨q, e⟩
  · obtain ⟨l, m, t, cs, h1, h2, _⟩ := h.ok a q e
    rcases hp with hp | hp
    · rw [hp, h1]; simp
    · rw [hp, h2]; simp
  · obtain ⟨ps, h1, _⟩ := h.tab p q e
    rw [h1]; simp
theorem SrcOk.notT {S : Src} {H : Hp} (h : SrcOk S H) {p : Addr} (hs : inS S p) {vs : List V} (e : H p = some (.tup vs)) : False := by
  rcases hs with ⟨a, q, e1, hp⟩ | ⟨q, e1⟩
  · obtain ⟨l, m, t, cs, h1, h2, _⟩ := h.ok a q e1
    rcases hp with hp | hp
    · rw [hp, h1] at e; cases e
    · rw [hp, h2] at e; cases e
  · obtain ⟨ps, h1, _⟩ := h.tab p q e1
    rw [h1] at e; cases e
/-- what is known of the source's and the table's places stays known -/
theorem SrcOk.kn_there {S : Src} {H H' : Hp} (k : SrcOk S H') (h : SrcOk S H) {p : Addr} (hs : inS S p) (n : kn H p ≠ none) : kn H' p ≠ none := by
  rcases hs with ⟨a, q, e, hp⟩ | ⟨q, e⟩
  · obtain ⟨l, m, t, cs, h1, h2, _⟩ := k.ok a q e
    rcases hp with hp | hp
    · rw [hp, kn_of h1]; simp
    · rw [hp, kn_of h2]; simp
  · obtain ⟨ps, h1, _⟩ := h.tab p q e
    exact absurd (by unfold kn; rw [h1]) n
def Own (σ : St) (ρ : Rho) (p : Addr) : Prop := ∃ (i : Nat) (xs : D), ρ[i]? = some (Sl.o xs) ∧ σ[i]? = some (some (V.ref p))
theorem HRep.notup {K : PySem.W.Frag} {S : Src} {F : Hp} {o : HO} {p : Addr} {d : D} (h : HRep K S F p o d) : ∀ vs, o ≠ .tup vs := by
  cases h <;> exact fun _ z => (by cases z)
structure SR (c : C) (F H : Hp) (σ : St) (ρ : Rho) : Prop where
  sub' : Le F (kn H)
  f0 : Le c.F0 F
  h0 : ∀ p o, kn c.H0 p = some o → ¬ inS c.S p → H p = some o
  n0 : ∀ p, F p ≠ none → c.F0 p ≠ none ∨ TF c.H0 p
  src : SrcOk c.S H
  srcF : ∀ p, inS c.S p → F p = none
  len : ρ.length = σ.length
  sl : ∀ (i : Nat) (d : D), ρ[i]? = some (Sl.d d) → ∃ v, σ[i]? = some (some v) ∧ Rep c.K c.S F v d
  ow : ∀ (i : Nat) (xs : D), ρ[i]? = some (Sl.o xs) → ∃ p vs, σ[i]? = some (some (V.ref p)) ∧ H p = some vs ∧ F p = none ∧ HRep c.K c.S F p vs xs ∧ kn c.H0 p = none ∧ ¬ inS c.S p
  dis : ∀ (i j : Nat) (xs ys : D), ρ[i]? = some (Sl.o xs) → ρ[j]? = some (Sl.o ys) → σ[i]? = σ[j]? → i = j
theorem SR.sub {c : C} {F H : Hp} {σ : St} {ρ : Rho} (s : SR c F H σ ρ) : Le F H := fun p o z => kn_some (s.sub' p o z)
theorem HRep.plain {K : PySem.W.Frag} {S : Src} {F : Hp} {o : HO} {p : Addr} {d : D} (h : HRep K S F p o d) : Plain o := by
  cases h <;> exact ⟨fun _ z => (by cases z), fun _ _ z => (by unfold LamX.CodeO at z; cases z)⟩
structure Stp (c : C) (σ : St) (F H : Hp) (ρ : Rho) (F' H' : Hp) (ρ' : Rho) : Prop where
  ff : Le F F'
  hh : ∀ p o, kn H p = some o → ¬ inS c.S p → ¬ Own σ ρ p → H' p = some o
  nn : ∀ p, F' p ≠ none → F p ≠ none ∨ TF H p ∨ Own σ ρ p ∨ inS c.S p
  oo : ∀ p, Own σ ρ' p → Own σ ρ p
  tr : ∀ p, kn H p ≠ none → kn H' p ≠ none
def RR (c : C) (σ : St) (F H : Hp) (ρ : Rho) (v : V) : Res → Prop
  | .v d => Rep c.K c.S F v d
  | .ow xs => ∃ p vs, v = .ref p ∧ H p = some vs ∧ F p = none ∧ HRep c.K c.S F p vs xs ∧ ¬ inS c.S p ∧ ¬ Own σ ρ p ∧ kn c.H0 p = none
def New (σ : St) (H : Hp) (ρ : Rho) (v : V) : Res → Prop
  | .v _ => True
  | .ow _ => ∃ p, v = .ref p ∧ kn H p = none
section
variable {c : C} {σ : St} {F H F' H' F'' H'' : Hp} {ρ ρ' ρ'' : Rho}
theorem Stp.refl : Stp c σ F H ρ F H ρ := ⟨Le.refl _, fun _ _ h _ _ => kn_some h, fun _ h => .inl h, fun _ h => h, fun _ h => h⟩
theorem Stp.trans (a : Stp c σ F H ρ F' H' ρ') (b : Stp c σ F' H' ρ' F'' H'' ρ'') : Stp c σ F H ρ F'' H'' ρ'' where
  ff := a.ff.trans b.ff
  hh := fun p o h1 h2 h3 => b.hh p o (kn_of (a.hh p o h1 h2 h3) (kn_nt h1)) h2 fun z => h3 (a.oo p z)
  nn := fun p h => by
    rcases b.nn p h with z | z | z | z
    · exact a.nn p z
    · by_cases hs : inS c.S p
      · exact .inr (.inr (.inr hs))
      · by_cases ho : Own σ ρ p
        · exact .inr (.inr (.inl ho))
        · cases e : kn H p with
          | none => exact .inr (.inl (.inl e))
          | some o =>
            rcases z with z | ⟨vs, z⟩
            · rw [kn_of (a.hh p o e hs ho) (kn_nt e)] at z; cases z
            · rw [a.hh p o e hs ho] at z
              cases z
              exact .inr (.inl (.inr ⟨vs, kn_some e⟩))
    · exact .inr (.inr (.inl (a.oo p z)))
    · exact .inr (.inr (.inr z))
  oo := fun p h => a.oo p (b.oo p h)
  tr := fun p h => b.tr p (a.tr p h)
theorem SR.srcH (s : SR c F H σ ρ) {p : Addr} (h : inS c.S p) : H p ≠ none := by
  exact s.src.there h
/-- an own result stays while other things are done -/
theorem RR.keep {v : V} {r : Res} (h : RR c σ F H ρ v r) (st : Stp c σ F H ρ F' H' ρ') (s' : SR c F' H' σ ρ') : RR c σ F' H' ρ' v r := by
  cases r with
  | v d => exact Rep.mono st.ff h
  | ow xs =>
    obtain ⟨p, vs, e, h1, h2, h3, h4, h5, h6⟩ := h
    refine ⟨p, vs, e, st.hh p _ (kn_of h1 h3.plain.1) h4 h5, ?_, HRep.mono st.ff h3, h4, fun z => h5 (st.oo p z), h6⟩
    cases q : F' p with
    | none => rfl
    | some o =>
      rcases st.nn p (by rw [q]; simp) with z | z | z | z
      · exact absurd h2 z
      · exact (z.no h1 h3.plain.1 h3.notup).elim
      · exact absurd z h5
      · exact absurd z h4
/-- a result is frozen -/
theorem frozen {v : V} {r : Res} {Hb Fb : Hp} {ρb : Rho} (s : SR c F H σ ρ) (st : Stp c σ Fb Hb ρb F H ρ) (h : RR c σ F H ρ v r) (nw : New σ Hb ρb v r) :
    ∃ F1, SR c F1 H σ ρ ∧ Stp c σ Fb Hb ρb F1 H ρ ∧ Le F F1 ∧ Rep c.K c.S F1 v (fz r) := by
  cases r with
  | v d => exact ⟨F, s, st, Le.refl _, h⟩
  | ow xs =>
    obtain ⟨p, vs, e, h1, h2, h3, h4, h5, h6⟩ := h
    subst e
    obtain ⟨p', e', nw⟩ := nw
    cases e'
    have le : Le F (upd F p vs) := fun q o z => by rw [upd_ne (ne_of_none z h2)]; exact z
    have own_ne : ∀ (i : Nat) (ys : D) (q : Addr), ρ[i]? = some (Sl.o ys) → σ[i]? = some (some (V.ref q)) → q ≠ p := fun i ys q a b z => h5 ⟨i, ys, a, by rw [b, z]⟩
    refine ⟨upd F p vs, ⟨fun q o z => ?_, s.f0.trans le, s.h0, fun q z => ?_, s.src, fun q z => ?_, s.len, fun i d z => ?_, fun i ys z => ?_, s.dis⟩, ⟨st.ff.trans le, st.hh, fun q z => ?_, st.oo, st.tr⟩, le, (HRep.mono le h3).rep upd_same⟩
    · by_cases hq : q = p
      · subst hq; rw [upd_same] at z; cases z; exact kn_of h1 h3.plain.1
      · rw [upd_ne hq] at z; exact s.sub' q o z
    · by_cases hq : q = p
      · subst hq; exact .inr (.inl h6)
      · rw [upd_ne hq] at z; exact s.n0 q z
    · by_cases hq : q = p
      · subst hq; exact absurd z h4
      · rw [upd_ne hq]; exact s.srcF q z
    · obtain ⟨w, a, b⟩ := s.sl i d z
      exact ⟨w, a, b.mono le⟩
    · obtain ⟨q, ws, a, b, d, e, f, g⟩ := s.ow i ys z
      exact ⟨q, ws, a, b, by rw [upd_ne (own_ne i ys q z a)]; exact d, HRep.mono le e, f, g⟩
    · by_cases hq : q = p
      · subst hq
        exact .inr (.inl (.inl nw))
      · rw [upd_ne hq] at z; exact st.nn q z
end
abbrev DQ := Res → Rho → Prop
abbrev DTE := Rho → DQ → Prop
abbrev DTV := Rho → (D → Rho → Prop) → Prop
abbrev DTT := Rho → (Bool → Rho → Prop) → Prop
abbrev DTA := Rho → (List D → Rho → Prop) → Prop
structure DEnds where
  nx : Rho → Prop
  rt : Res → Prop
  bk : Rho → Prop := fun _ => False
  ct : Rho → Prop := fun _ => False
abbrev DTS := DEnds → Rho → Prop
def frz (t : DTE) : DTV := fun ρ Q => t ρ fun r ρ' => Q (fz r) ρ'
section
variable (c : C)
def liftE (t : DTE) : TE := fun σ H Q => ∃ F ρ QD, SR c F H σ ρ ∧ t ρ QD ∧ ∀ v H' F' ρ' r, SR c F' H' σ ρ' → Stp c σ F H ρ F' H' ρ' → RR c σ F' H' ρ' v r → New σ H ρ v r → QD r ρ' → Q v H'
def liftV (t : DTV) : TE := fun σ H Q => ∃ F ρ QD, SR c F H σ ρ ∧ t ρ QD ∧ ∀ v H' F' ρ' d, SR c F' H' σ ρ' → Stp c σ F H ρ F' H' ρ' → Rep c.K c.S F' v d → QD d ρ' → Q v H'
def liftT (t : DTT) : TT := fun σ H Q => ∃ F ρ QD, SR c F H σ ρ ∧ t ρ QD ∧ ∀ b H' F' ρ', SR c F' H' σ ρ' → Stp c σ F H ρ F' H' ρ' → QD b ρ' → Q b H'
def liftA (t : DTA) : TA := fun σ H Q => ∃ F ρ QD, SR c F H σ ρ ∧ t ρ QD ∧ ∀ vs H' F' ρ' ds, SR c F' H' σ ρ' → Stp c σ F H ρ F' H' ρ' → Reps c.K c.S F' vs ds → QD ds ρ' → Q vs H'
/-- what is wanted behind a return -/
def RtOk (Fb : Hp) (D : Ends) (DD : DEnds) : Prop := ∀ σ v H F ρ r, Le Fb F → SR c F H σ ρ → RR c σ F H ρ v r → DD.rt r → D.rt v H
structure EndsOk (Fb : Hp) (D : Ends) (DD : DEnds) : Prop where
  nx : ∀ σ H F ρ, Le Fb F → SR c F H σ ρ → DD.nx ρ → D.nx σ H
  rt : RtOk c Fb D DD
  bk : ∀ σ H F ρ, Le Fb F → SR c F H σ ρ → DD.bk ρ → D.bk σ H
  ct : ∀ σ H F ρ, Le Fb F → SR c F H σ ρ → DD.ct ρ → D.ct σ H
def liftS (t : DTS) : TS := fun D σ H => ∃ F ρ DD, SR c F H σ ρ ∧ t DD ρ ∧ EndsOk c F D DD
end
theorem PE_imp {X : Cx} {e : Expr} {t t' : TE} (h : PE X e t) (i : ∀ σ H Q, t' σ H Q → t σ H Q) : PE X e t' := ⟨fun pins s σ H Q I q => h.run pins s σ H Q I (i σ H Q q)⟩
theorem PT_imp {X : Cx} {e : Expr} {t t' : TT} (h : PT X e t) (i : ∀ σ H Q, t' σ H Q → t σ H Q) : PT X e t' := ⟨fun pins s σ H Q I q => h.run pins s σ H Q I (i σ H Q q)⟩
theorem PW_imp {X : Cx} {e : Expr} {t t' : TT} (h : PW X e t) (i : ∀ σ H Q, t' σ H Q → t σ H Q) : PW X e t' := ⟨fun wh pins s σ H Q I q => h.run wh pins s σ H Q I (i σ H Q q)⟩
theorem PA_imp {X : Cx} {es : List Expr} {t t' : TA} (h : PA X es t) (i : ∀ σ H Q, t' σ H Q → t σ H Q) : PA X es t' := ⟨fun pos pins s σ H Q I q => h.run pos pins s σ H Q I (i σ H Q q)⟩
theorem PS_imp {X : Cx} {st : Stmt} {t t' : TS} (h : PS X st t) (i : ∀ D σ H, t' D σ H → t D σ H) : PS X st t' := ⟨fun pins s σ H D I q => h.run pins s σ H D I (i D σ H q)⟩
theorem PSs_imp {X : Cx} {st : List Stmt} {t t' : TS} (h : PSs X st t) (i : ∀ D σ H, t' D σ H → t D σ H) : PSs X st t' := ⟨fun pins s σ H D I q => h.run pins s σ H D I (i D σ H q)⟩
theorem PTs_imp {X : Cx} {ifs : List Expr} {t t' : TT} (h : PTs X ifs t) (i : ∀ σ H Q, t' σ H Q → t σ H Q) : PTs X ifs t' := ⟨fun pins s σ H Q I q => h.run pins s σ H Q I (i σ H Q q)⟩
theorem PG_imp {X : Cx} {e : Expr} {t t' : TG} (h : PG X e t) (i : ∀ v σ H Q, t' v σ H Q → t v σ H Q) : PG X e t' := ⟨fun pins s σ H v u Q I r q => h.run pins s σ H v u Q I r (i v σ H Q q)⟩
theorem PGs_imp {X : Cx} {e : List Expr} {t t' : TGs} (h : PGs X e t) (i : ∀ v σ H Q, t' v σ H Q → t v σ H Q) : PGs X e t' := ⟨fun pins s σ H v u Q I r q => h.run pins s σ H v u Q I r (i v σ H Q q)⟩
theorem PI_imp {X : Cx} {tg e : Expr} {t t' : TI} (h : PI X tg e t) (i : ∀ σ H Q, t' σ H Q → t σ H Q) : PI X tg e t' := ⟨fun pins s σ H Q I q => h.run pins s σ H Q I (i σ H Q q)⟩
section
variable {c : C} {X : Cx} {e : Expr} {t : DTE}
/-- a subexpression's value is frozen -/
theorem froze (h : PE X e (liftE c t)) : PE X e (liftV c (frz t)) := PE_imp h fun σ H Q ⟨F, ρ, QD, s, ht, k⟩ =>
  ⟨F, ρ, fun r ρ' => QD (fz r) ρ', s, ht, fun v H' F' ρ' r s' st rr nw q => by
    obtain ⟨F1, s1, st1, _, rp⟩ := frozen s' st rr nw
    exact k v H' F1 ρ' (fz r) s1 st1 rp q⟩
end
end L2.DL
set_option Elab.async false
set_option linter.all false
set_option autoImplicit false
set_option maxRecDepth 100000
set_option maxHeartbeats 1000000
namespace L2.DL
open PySem PySem.Spec PyProof.Rows
structure PExt (F H F' H' : Hp) : Prop where
  sub : Le F' H'
  ff : Le F F'
  hh : Le H H'
  nn : ∀ p, F' p ≠ none → F p ≠ none ∨ H p = none ∨ ∃ vs, H p = some (.tup vs)
  kb : Le F (kn H) → Le F' (kn H')
def RR0 (K : PySem.W.Frag) (S : Src) (F' H H' : Hp) (v : V) : Res → Prop
  | .v d => Rep K S F' v d
  | .ow xs => ∃ p vs, v = .ref p ∧ H p = none ∧ H' p = some vs ∧ F' p = none ∧ HRep K S F' p vs xs
theorem PExt.refl {F H : Hp} (s : Le F H) : PExt F H F H := ⟨s, Le.refl _, Le.refl _, fun _ h => .inl h, id⟩
theorem PExt.trans {F H F' H' F'' H'' : Hp} (a : PExt F H F' H') (b : PExt F' H' F'' H'') : PExt F H F'' H'' :=
  ⟨b.sub, a.ff.trans b.ff, a.hh.trans b.hh, fun p h => by
    rcases b.nn p h with z | z | ⟨vs, z⟩
    · exact a.nn p z
    · cases e : H p with
      | none => exact .inr (.inl rfl)
      | some o => (rw [a.hh p o e] at z; cases z)
    · cases e : H p with
      | none => exact .inr (.inl rfl)
      | some o => (rw [a.hh p o e] at z; cases z; exact .inr (.inr ⟨vs, rfl⟩)), fun k => b.kb (a.kb k)⟩
theorem kn_new {H : Hp} {p q : Addr} {o u : HO} (h : H p = none) (z : kn H q = some u) : kn (upd H p o) q = some u :=
  kn_of (by rw [upd_ne (ne_of_none (kn_some z) h)]; exact kn_some z) (kn_nt z)
/-- a new object, frozen at once -/
theorem PExt.new {F H : Hp} {p : Addr} {o : HO} (s : Le F H) (h : H p = none) (n : ∀ ps, o ≠ .tbl ps := by intro _ z; cases z) : PExt F H (upd F p o) (upd H p o) :=
  ⟨fun q u z => by
    by_cases hq : q = p
    · subst hq; rw [upd_same] at z ⊢; exact z
    · rw [upd_ne hq] at z ⊢; exact s q u z,
   fun q u z => by rw [upd_ne (ne_of_none (s q u z) h)]; exact z,
   fun q u z => by rw [upd_ne (ne_of_none z h)]; exact z,
   fun q z => by
    by_cases hq : q = p
    · subst hq; exact .inr (.inl h)
    · rw [upd_ne hq] at z; exact .inl z,
   fun k q u z => by
    by_cases hq : q = p
    · subst hq; rw [upd_same] at z; cases z; exact kn_of upd_same n
    · rw [upd_ne hq] at z; exact kn_new h (k q u z)⟩
/-- a new object, not frozen -/
theorem PExt.own {F H : Hp} {p : Addr} {o : HO} (s : Le F H) (h : H p = none) : PExt F H F (upd H p o) :=
  ⟨fun q u z => by rw [upd_ne (ne_of_none (s q u z) h)]; exact s q u z, Le.refl _, fun q u z => by rw [upd_ne (ne_of_none z h)]; exact z, fun q z => .inl z, fun k q u z => kn_new h (k q u z)⟩
theorem free_of {F H : Hp} {p : Addr} (s : Le F H) (h : H p = none) : F p = none := by
  cases e : F p with
  | none => rfl
  | some o => rw [s p o e] at h; cases h
section
variable {c : C} {σ : St} {F H F' H' : Hp} {ρ : Rho}
theorem SR.newH (s : SR c F H σ ρ) {p : Addr} (h : H p = none) : kn c.H0 p = none := by
  cases e : kn c.H0 p with
  | none => rfl
  | some o =>
    by_cases hs : inS c.S p
    · exact absurd h (s.srcH hs)
    · rw [s.h0 p o e hs] at h; cases h
theorem SR.newK (s : SR c F H σ ρ) {p : Addr} (h : kn H p = none) (hs : ¬ inS c.S p) : kn c.H0 p = none := by
  cases e : kn c.H0 p with
  | none => rfl
  | some o => rw [kn_of (s.h0 p o e hs) (kn_nt e)] at h; cases h
theorem SR.newT (s : SR c F H σ ρ) {p : Addr} {vs : List V} (h : H p = some (.tup vs)) : TF c.H0 p := by
  cases e : kn c.H0 p with
  | none => exact .inl e
  | some o =>
    by_cases hs : inS c.S p
    · exact (s.src.notT hs h).elim
    · have := s.h0 p o e hs
      rw [h] at this; cases this; exact .inr ⟨vs, kn_some e⟩
theorem SR.newTF (s : SR c F H σ ρ) {p : Addr} (h : TF H p) (hs : ¬ inS c.S p) : TF c.H0 p := h.elim (fun z => .inl (s.newK z hs)) fun ⟨_, z⟩ => s.newT z
theorem SR.newS (s : SR c F H σ ρ) {p : Addr} (h : H p = none) : ¬ inS c.S p := fun hs => s.srcH hs h
theorem SR.newO (s : SR c F H σ ρ) {p : Addr} (h : H p = none) : ¬ Own σ ρ p := fun ⟨i, xs, a, b⟩ => by
  obtain ⟨q, vs, e, f, _⟩ := s.ow i xs a
  rw [b] at e
  cases e
  rw [f] at h; cases h
theorem PExt.sr (e : PExt F H F' H') (s : SR c F H σ ρ) : SR c F' H' σ ρ where
  sub' := e.kb s.sub'
  f0 := s.f0.trans e.ff
  h0 := fun p o h1 h2 => e.hh p o (s.h0 p o h1 h2)
  n0 := fun p h => by
    rcases e.nn p h with z | z | ⟨vs, z⟩
    · exact s.n0 p z
    · exact .inr (.inl (s.newH z))
    · exact .inr (s.newT z)
  src := s.src.ext e.hh
  srcF := fun p h => by
    cases q : F' p with
    | none => rfl
    | some o =>
      rcases e.nn p (by rw [q]; simp) with z | z | ⟨vs, z⟩
      · exact absurd (s.srcF p h) z
      · exact absurd z (s.srcH h)
      · exact (s.src.notT h z).elim
  len := s.len
  sl := fun i d h => let ⟨v, a, b⟩ := s.sl i d h; ⟨v, a, b.mono e.ff⟩
  ow := fun i xs h => by
    obtain ⟨p, vs, a, b, d, f, g, k⟩ := s.ow i xs h
    refine ⟨p, vs, a, e.hh _ _ b, ?_, HRep.mono e.ff f, g, k⟩
    cases q : F' p with
    | none => rfl
    | some o =>
      rcases e.nn p (by rw [q]; simp) with z | z | ⟨vs, z⟩
      · exact absurd d z
      · rw [b] at z; cases z
      · rw [b] at z; cases z; exact (f.notup _ rfl).elim
  dis := s.dis
theorem PExt.stp (e : PExt F H F' H') : Stp c σ F H ρ F' H' ρ := ⟨e.ff, fun p o h _ _ => e.hh p o (kn_some h), fun p h => (e.nn p h).elim .inl fun z => z.elim (fun z => .inr (.inl (.inl (kn_none z)))) fun z => .inr (.inl (.inr z)), fun _ h => h, fun p h => by
  cases q : kn H p with
  | none => exact absurd q h
  | some o => rw [kn_of (e.hh p o (kn_some q)) (kn_nt q)]; simp⟩
theorem RR0.rr {v : V} {r : Res} (h : RR0 c.K c.S F' H H' v r) (s : SR c F H σ ρ) : RR c σ F' H' ρ v r ∧ New σ H ρ v r := by
  cases r with
  | v d => exact ⟨h, trivial⟩
  | ow xs =>
    obtain ⟨p, vs, e, a, b, d, f⟩ := h
    exact ⟨⟨p, vs, e, b, d, f, s.newS a, s.newO a, s.newH a⟩, ⟨p, e, kn_none a⟩⟩
end
def OpD (K : PySem.W.Frag) (r : R2) (dr : D → D → (Res → Prop) → Prop) : Prop :=
  ∀ (S : Src) (F H : Hp) (x y : V) (d e : D) (QD : Res → Prop) (Q : VK), Le F H → Rep K S F x d → Rep K S F y e → dr d e QD →
    (∀ v H' F' r', PExt F H F' H' → RR0 K S F' H H' v r' → QD r' → Q v H') → r x y H Q
def UnD (K : PySem.W.Frag) (r : V → Hp → VK → Prop) (dr : D → (Res → Prop) → Prop) : Prop :=
  ∀ (S : Src) (F H : Hp) (x : V) (d : D) (QD : Res → Prop) (Q : VK), Le F H → Rep K S F x d → dr d QD →
    (∀ v H' F' r', PExt F H F' H' → RR0 K S F' H H' v r' → QD r' → Q v H') → r x H Q
def CallD (K : PySem.W.Frag) (r : List V → Hp → VK → Prop) (dr : List D → (Res → Prop) → Prop) : Prop :=
  ∀ (S : Src) (F H : Hp) (xs : List V) (ds : List D) (QD : Res → Prop) (Q : VK), Le F H → Reps K S F xs ds → dr ds QD →
    (∀ v H' F' r', PExt F H F' H' → RR0 K S F' H H' v r' → QD r' → Q v H') → r xs H Q
theorem OpD.or {K : PySem.W.Frag} {r r' : R2} {dr dr' : D → D → (Res → Prop) → Prop} (h : OpD K r dr) (h' : OpD K r' dr') : OpD K (fun x y H Q => r x y H Q ∨ r' x y H Q) (fun d e Q => dr d e Q ∨ dr' d e Q) :=
  fun S F H x y d e QD Q s a b q k => q.elim (fun q => .inl (h S F H x y d e QD Q s a b q k)) fun q => .inr (h' S F H x y d e QD Q s a b q k)
theorem CallD.or {K : PySem.W.Frag} {r r' : List V → Hp → VK → Prop} {dr dr' : List D → (Res → Prop) → Prop} (h : CallD K r dr) (h' : CallD K r' dr') : CallD K (fun x H Q => r x H Q ∨ r' x H Q) (fun d Q => dr d Q ∨ dr' d Q) :=
  fun S F H x d QD Q s a q k => q.elim (fun q => .inl (h S F H x d QD Q s a q k)) fun q => .inr (h' S F H x d QD Q s a q k)
theorem OpD.imp {K : PySem.W.Frag} {r r' : R2} {dr : D → D → (Res → Prop) → Prop} (h : OpD K r dr) (i : ∀ x y H Q, r x y H Q → r' x y H Q) : OpD K r' dr :=
  fun S F H x y d e QD Q s a b q k => i x y H Q (h S F H x y d e QD Q s a b q k)
def dOp (dr : D → D → (Res → Prop) → Prop) (ta tb : DTE) : DTE := fun ρ Q => ta ρ fun r1 ρ1 => tb ρ1 fun r2 ρ2 => dr (fz r1) (fz r2) fun r => Q r ρ2
def dUn (dr : D → (Res → Prop) → Prop) (ta : DTE) : DTE := fun ρ Q => ta ρ fun r1 ρ1 => dr (fz r1) fun r => Q r ρ1
def dC (d : D) : DTE := fun ρ Q => Q (.v d) ρ
def dVar (i : Nat) : DTE := fun ρ Q => match ρ[i]? with
  | some (.d x) => Q (.v x) ρ
  | some (.o xs) => Q (.v (unAt xs)) (ρ.set i (.d (unAt xs)))
  | _ => False
def dNil : DTA := fun ρ Q => Q [] ρ
def dCons (te : DTE) (t : DTA) : DTA := fun ρ Q => te ρ fun r ρ1 => t ρ1 fun ds ρ2 => Q (fz r :: ds) ρ2
def dCB (dr : List D → (Res → Prop) → Prop) (t : DTA) : DTE := fun ρ Q => t ρ fun ds ρ1 => dr ds fun r => Q r ρ1
section
variable {c : C} {X : Cx} {a b e : Expr} {es : List Expr} {ta tb te : DTE} {t : DTA} {pos : Pos}
/-- what is new behind steps is new ahead of them -/
theorem New.back {σ : St} {F H F1 H1 : Hp} {ρ ρ1 : Rho} {v : V} {r : Res} (st : Stp c σ F H ρ F1 H1 ρ1) (s1 : SR c F1 H1 σ ρ1) (n : New σ H1 ρ1 v r) : New σ H ρ v r := by
  cases r with
  | v d => trivial
  | ow xs =>
    obtain ⟨p, e1, n1⟩ := n
    refine ⟨p, e1, ?_⟩
    cases eh : kn H p with
    | none => rfl
    | some o => exact absurd n1 (st.tr p (by rw [eh]; simp))
theorem bin_lift {r : R2} {dr : D → D → (Res → Prop) → Prop} (hd : OpD c.K r dr) {σ : St} {H : Hp} {Q : VK} (h : liftE c (dOp dr ta tb) σ H Q) :
    liftV c (frz ta) σ H fun x H1 => liftV c (frz tb) σ H1 fun y H2 => r x y H2 Q := by
  obtain ⟨F, ρ, QD, s, ht, k⟩ := h
  refine ⟨F, ρ, (fun d ρ1 => tb ρ1 fun r2 ρ2 => dr d (fz r2) fun r => QD r ρ2), s, ht, fun x H1 F1 ρ1 d s1 st1 rx q1 => ?_⟩
  refine ⟨F1, ρ1, (fun e ρ2 => dr d e fun r => QD r ρ2), s1, q1, fun y H2 F2 ρ2 e s2 st2 ry q2 => ?_⟩
  refine hd c.S F2 H2 x y d e _ _ s2.sub (rx.mono st2.ff) ry q2 fun v H' F' r' pe rr q => ?_
  obtain ⟨r1, n1⟩ := rr.rr s2
  exact k v H' F' ρ2 r' (pe.sr s2) ((st1.trans st2).trans pe.stp) r1 (New.back (st1.trans st2) s2 n1) q
theorem de_op {op : Operator} {r : R2} {dr : D → D → (Res → Prop) → Prop} (hd : OpD c.K r dr) (ho : OpR X (binaryOp op) r) (ha : PE X a (liftE c ta)) (hb : PE X b (liftE c tb)) : PE X (.BinOp a op b pos) (liftE c (dOp dr ta tb)) :=
  PE_imp (pe_op ho (froze ha) (froze hb)) fun _ _ _ h => bin_lift hd h
theorem de_cmp {op : CmpOp} {r : R2} {dr : D → D → (Res → Prop) → Prop} (hd : OpD c.K r dr) (ho : OpR X (compareOp op) r) (ha : PE X a (liftE c ta)) (hb : PE X b (liftE c tb)) (hm : behindInMarks op b = false) : PE X (.Compare a [op] [b] pos) (liftE c (dOp dr ta tb)) :=
  PE_imp (pe_cmpR ho (froze ha) (froze hb) hm) fun _ _ _ h => bin_lift hd h
theorem de_ix {r : R2} {dr : D → D → (Res → Prop) → Prop} (hd : OpD c.K r dr) (ho : IxR X r) (ha : PE X a (liftE c ta)) (hb : PE X b (liftE c tb)) (hs : PlainIx b) : PE X (.Subscript a b pos) (liftE c (dOp dr ta tb)) :=
  PE_imp (pe_ix ho (froze ha) (froze hb) hs) fun _ _ _ h => bin_lift hd h
theorem un_lift {r : V → Hp → VK → Prop} {dr : D → (Res → Prop) → Prop} (hd : UnD c.K r dr) {σ : St} {H : Hp} {Q : VK} (h : liftE c (dUn dr ta) σ H Q) :
    liftV c (frz ta) σ H fun x H1 => r x H1 Q := by
  obtain ⟨F, ρ, QD, s, ht, k⟩ := h
  refine ⟨F, ρ, (fun d ρ1 => dr d fun r => QD r ρ1), s, ht, fun x H1 F1 ρ1 d s1 st1 rx q1 => ?_⟩
  refine hd c.S F1 H1 x d _ _ s1.sub rx q1 fun v H' F' r' pe rr q => ?_
  obtain ⟨r1, n1⟩ := rr.rr s1
  exact k v H' F' ρ1 r' (pe.sr s1) (st1.trans pe.stp) r1 (New.back st1 s1 n1) q
theorem de_un {op : UnaryOp} {r : V → Hp → VK → Prop} {dr : D → (Res → Prop) → Prop} (hd : UnD c.K r dr) (ho : UnR X (unaryOp op) r) (ha : PE X a (liftE c ta)) : PE X (.UnaryOp op a pos) (liftE c (dUn dr ta)) :=
  PE_imp (pe_un ho (froze ha)) fun _ _ _ h => un_lift hd h
theorem de_c {te : TE} {v : V} {d : D} (h : PE X e (tC v)) (r : ∀ F, Rep c.K c.S F v d) : PE X e (liftE c (dC d)) :=
  PE_imp h fun σ H Q ⟨F, ρ, QD, s, ht, k⟩ => k v H F ρ (.v d) s Stp.refl (r F) trivial ht
theorem de_int {i j pos} : PE X (.Constant (.int i) j pos) (liftE c (dC (.int i))) := de_c (te := tC (.int i)) pe_int fun _ => .int i
theorem de_bl {i j pos} : PE X (.Constant (.bool i) j pos) (liftE c (dC (.bl i))) := de_c (te := tC (.bl i)) pe_bl fun _ => .bl i
theorem de_non {j pos} : PE X (.Constant .none j pos) (liftE c (dC .non)) := de_c (te := tC .non) pe_non fun _ => .non
theorem de_str {i j pos} : PE X (.Constant (.str i) j pos) (liftE c (dC (.str i))) := de_c (te := tC (.str i)) pe_str fun _ => .str i
/-- an owned slot is frozen -/
theorem slot_freeze {σ : St} {F H : Hp} {ρ : Rho} {i : Nat} {xs : D} (s : SR c F H σ ρ) (hi : ρ[i]? = some (Sl.o xs)) :
    ∃ p vs, σ[i]? = some (some (V.ref p)) ∧ H p = some vs ∧ SR c (upd F p vs) H σ (ρ.set i (.d (unAt xs))) ∧ Stp c σ F H ρ (upd F p vs) H (ρ.set i (.d (unAt xs))) ∧ Rep c.K c.S (upd F p vs) (.ref p) (unAt xs) := by
  obtain ⟨p, vs, e1, e2, e3, e4, e5, e6⟩ := s.ow i xs hi
  have le : Le F (upd F p vs) := fun q o z => by rw [upd_ne (ne_of_none z e3)]; exact z
  have rp : Rep c.K c.S (upd F p vs) (.ref p) (unAt xs) := (HRep.mono le e4).rep upd_same
  have ho : Own σ ρ p := ⟨i, xs, hi, e1⟩
  have set_d : ∀ (j : Nat) (d : D), (ρ.set i (.d (unAt xs)))[j]? = some (Sl.d d) → (j = i ∧ d = unAt xs) ∨ ρ[j]? = some (Sl.d d) := fun j d z => by
    by_cases hj : i = j
    · subst hj
      have hl : i < ρ.length := (List.getElem?_eq_some_iff.mp hi).1
      rw [List.getElem?_set_self hl] at z
      cases z
      exact .inl ⟨rfl, rfl⟩
    · rw [List.getElem?_set_ne hj] at z
      exact .inr z
  have set_o : ∀ (j : Nat) (ys : D), (ρ.set i (.d (unAt xs)))[j]? = some (Sl.o ys) → j ≠ i ∧ ρ[j]? = some (Sl.o ys) := fun j ys z => by
    by_cases hj : i = j
    · subst hj
      have hl : i < ρ.length := (List.getElem?_eq_some_iff.mp hi).1
      rw [List.getElem?_set_self hl] at z
      cases z
    · rw [List.getElem?_set_ne hj] at z
      exact ⟨fun e => hj e.symm, z⟩
  refine ⟨p, vs, e1, e2, ⟨fun q o z => ?_, s.f0.trans le, s.h0, fun q z => ?_, s.src, fun q z => ?_, by rw [List.length_set]; exact s.len, fun j d z => ?_, fun j ys z => ?_, fun j k ys zs z1 z2 z3 => ?_⟩, ⟨le, fun _ _ h _ _ => kn_some h, fun q z => ?_, fun q ⟨j, ys, z1, z2⟩ => ?_, fun _ h => h⟩, rp⟩
  · by_cases hq : q = p
    · subst hq; rw [upd_same] at z; cases z; exact kn_of e2 e4.plain.1
    · rw [upd_ne hq] at z; exact s.sub' q o z
  · by_cases hq : q = p
    · subst hq; exact .inr (.inl e5)
    · rw [upd_ne hq] at z; exact s.n0 q z
  · by_cases hq : q = p
    · subst hq; exact absurd z e6
    · rw [upd_ne hq]; exact s.srcF q z
  · rcases set_d j d z with ⟨z1, z2⟩ | z
    · subst z1; subst z2; exact ⟨_, e1, rp⟩
    · obtain ⟨v, a, b⟩ := s.sl j d z
      exact ⟨v, a, b.mono le⟩
  · obtain ⟨nj, z⟩ := set_o j ys z
    obtain ⟨q, ws, a, b, d, f, g, h⟩ := s.ow j ys z
    have hq : q ≠ p := fun e => nj (s.dis j i ys xs z hi (by rw [a, e1, e]))
    exact ⟨q, ws, a, b, by rw [upd_ne hq]; exact d, HRep.mono le f, g, h⟩
  · exact s.dis j k ys zs (set_o j ys z1).2 (set_o k zs z2).2 z3
  · by_cases hq : q = p
    · subst hq; exact .inr (.inr (.inl ho))
    · rw [upd_ne hq] at z; exact .inl z
  · exact ⟨j, ys, (set_o j ys z1).2, z2⟩
theorem de_var {i : Nat} {x : Str} (hN : X.N[i]? = some x) (hv : Vis X.env.scope x) (hd : (x == ("__debug__" : Str)) = false := by decide) (hcd : (x == ("__classdict__" : Str)) = false := by decide) : PE X (.Name x pos) (liftE c (dVar i)) :=
  PE_imp (pe_var hN hv hd hcd) fun σ H Q ⟨F, ρ, QD, s, ht, k⟩ => by
    unfold dVar at ht
    split at ht
    · rename_i d hi
      obtain ⟨v, a, b⟩ := s.sl i d hi
      exact ⟨v, a, k v H F ρ (.v d) s Stp.refl b trivial ht⟩
    · rename_i xs hi
      obtain ⟨p, vs, e1, e2, s1, st1, rp⟩ := slot_freeze s hi
      exact ⟨.ref p, e1, k _ H _ _ (.v (unAt xs)) s1 st1 rp trivial ht⟩
    · exact ht.elim
theorem dv (i : Nat) {x : Str} (hN : X.N[i]? = some x := by rfl) (hv : Vis X.env.scope x := by first | exact Or.inl rfl | exact Or.inr (Or.inl rfl) | exact Or.inr (Or.inr rfl)) (hd : (x == ("__debug__" : Str)) = false := by decide)
    (hcd : (x == ("__classdict__" : Str)) = false := by decide) : PE X (.Name x pos) (liftE c (dVar i)) := de_var hN hv hd hcd
/-- a module's constant -/
theorem de_glob {x : Str} {v : V} {u : Value} {d : D} (hg : Gl X x) (hm : X.mg x = some u) (r : RelV v u) (rd : ∀ F, Rep c.K c.S F v d) (hd : (x == ("__debug__" : Str)) = false := by decide) : PE X (.Name x pos) (liftE c (dC d)) := de_c (te := tC v) (pe_glob hg hm r hd) rd
theorem da_nil : PA X [] (liftA c dNil) := PA_imp pa_nil fun σ H Q ⟨F, ρ, QD, s, ht, k⟩ => k [] H F ρ [] s Stp.refl .nil ht
theorem da_cons (ha : PE X e (liftE c te)) (hr : PA X es (liftA c t)) (hs : starEach (e :: es) X.env = (false, eval e X.env) :: starEach es X.env := by rfl) : PA X (e :: es) (liftA c (dCons te t)) :=
  PA_imp (pa_cons (froze ha) hr hs) fun σ H Q ⟨F, ρ, QD, s, ht, k⟩ =>
    ⟨F, ρ, (fun d ρ1 => t ρ1 fun ds ρ2 => QD (d :: ds) ρ2), s, ht, fun x H1 F1 ρ1 d s1 st1 rx q1 => ⟨F1, ρ1, (fun ds ρ2 => QD (d :: ds) ρ2), s1, q1, fun xs H2 F2 ρ2 ds s2 st2 rxs q2 => k (x :: xs) H2 F2 ρ2 (d :: ds) s2 (st1.trans st2) (.cons (rx.mono st2.ff) rxs) q2⟩⟩
theorem call_lift {r : List V → Hp → VK → Prop} {dr : List D → (Res → Prop) → Prop} (hd : CallD c.K r dr) {σ : St} {H : Hp} {Q : VK} (h : liftE c (dCB dr t) σ H Q) : liftA c t σ H fun vs H1 => r vs H1 Q := by
  obtain ⟨F, ρ, QD, s, ht, k⟩ := h
  refine ⟨F, ρ, (fun ds ρ1 => dr ds fun r => QD r ρ1), s, ht, fun xs H1 F1 ρ1 ds s1 st1 rx q1 => ?_⟩
  refine hd c.S F1 H1 xs ds _ _ s1.sub rx q1 fun v H' F' r' pe rr q => ?_
  obtain ⟨r1, n1⟩ := rr.rr s1
  exact k v H' F' ρ1 r' (pe.sr s1) (st1.trans pe.stp) r1 (New.back st1 s1 n1) q
theorem de_callB {r : List V → Hp → VK → Prop} {dr : List D → (Res → Prop) → Prop} {id : String} {x : Str} {p : Pos} (hd : CallD c.K r dr) (hc : CallR X (.builtin id) r) (hg : Gl X x) (hm : X.mg x = none) (hv : bootBuiltins x = some (.builtin id)) (ha : PA X (e :: es) (liftA c t))
    (hn : x ≠ "__name__" := by decide) (hdb : (x == ("__debug__" : Str)) = false := by decide)
    (he : starEach (e :: es) X.env = (false, eval e X.env) :: starEach es X.env := by rfl) (hpl : (backTo pos (starEach es X.env)).any (·.1) = false := by rfl) : PE X (.Call (.Name x p) (e :: es) [] pos) (liftE c (dCB dr t)) :=
  PE_imp (pe_callB hc hg hm hv ha hn hdb he hpl) fun _ _ _ h => call_lift hd h
theorem de_callTy {r : List V → Hp → VK → Prop} {dr : List D → (Res → Prop) → Prop} {T : String} {x : Str} {p : Pos} (hd : CallD c.K r dr) (hc : CallR X (.type T) r) (hg : Gl X x) (hm : X.mg x = none) (hv : bootBuiltins x = some (.type T)) (ha : PA X (e :: es) (liftA c t))
    (hn : x ≠ "__name__" := by decide) (hdb : (x == ("__debug__" : Str)) = false := by decide)
    (he : starEach (e :: es) X.env = (false, eval e X.env) :: starEach es X.env := by rfl) (hpl : (backTo pos (starEach es X.env)).any (·.1) = false := by rfl) : PE X (.Call (.Name x p) (e :: es) [] pos) (liftE c (dCB dr t)) :=
  PE_imp (pe_callTy hc hg hm hv ha hn hdb he hpl) fun _ _ _ h => call_lift hd h
def dTup (t : DTA) : DTE := dCB (fun ds Q => ds.length ≤ sizeLine ∧ Q (.v (.tup ds))) t
def dLst (t : DTA) : DTE := dCB (fun ds Q => ds.length ≤ sizeLine ∧ Q (.own ds)) t
theorem cd_tup (K : PySem.W.Frag) : CallD K (fun xs H Q => xs.length ≤ sizeLine ∧ ∀ p, H p = none → Q (.ref p) (upd H p (.tup xs))) (fun ds Q => ds.length ≤ sizeLine ∧ Q (.v (.tup ds))) := by
  intro S F H xs ds QD Q s r ⟨h1, h2⟩ k
  refine ⟨by rw [r.length]; exact h1, fun p hp => ?_⟩
  have pe := PExt.new (o := .tup xs) s hp
  exact k _ _ _ (.v (.tup ds)) pe (.tup upd_same (Reps.mono pe.ff r)) h2
theorem cd_lst (K : PySem.W.Frag) : CallD K (fun xs H Q => xs.length ≤ sizeLine ∧ ∀ p, H p = none → Q (.ref p) (upd H p (.lst xs))) (fun ds Q => ds.length ≤ sizeLine ∧ Q (.own ds)) := by
  intro S F H xs ds QD Q s r ⟨h1, h2⟩ k
  refine ⟨by rw [r.length]; exact h1, fun p hp => ?_⟩
  have pe := PExt.own (o := .lst xs) s hp
  exact k _ _ _ (.own ds) pe ⟨p, .lst xs, rfl, hp, upd_same, free_of s hp, .lst r⟩ h2
theorem de_tup {k : Nat} (h : PA X es (liftA c t)) : PE X (.Tuple es k pos) (liftE c (dTup t)) := PE_imp (pe_tup h) fun _ _ _ q => call_lift (cd_tup c.K) q
theorem de_lst (h : PA X es (liftA c t)) : PE X (.List es pos) (liftE c (dLst t)) := PE_imp (pe_lst h) fun _ _ _ q => call_lift (cd_lst c.K) q
def dIf (tt : DTT) (ta tb : DTE) : DTE := fun ρ Q => tt ρ fun b ρ1 => if b = true then ta ρ1 Q else tb ρ1 Q
theorem de_if {cnd : Expr} {tt : DTT} (hc : PT X cnd (liftT c tt)) (ha : PE X a (liftE c ta)) (hb : PE X b (liftE c tb)) : PE X (.IfExp cnd a b pos) (liftE c (dIf tt ta tb)) :=
  PE_imp (pe_ifExp hc ha hb) fun σ H Q ⟨F, ρ, QD, s, ht, k⟩ => by
    refine ⟨F, ρ, (fun b ρ1 => if b = true then ta ρ1 QD else tb ρ1 QD), s, ht, fun d H1 F1 ρ1 s1 st1 q1 => ?_⟩
    cases d with
    | true =>
      rw [if_pos rfl] at q1 ⊢
      exact ⟨F1, ρ1, QD, s1, q1, fun v H2 F2 ρ2 r s2 st2 rr nw q2 => k v H2 F2 ρ2 r s2 (st1.trans st2) rr (New.back st1 s1 nw) q2⟩
    | false =>
      rw [if_neg Bool.false_ne_true] at q1 ⊢
      exact ⟨F1, ρ1, QD, s1, q1, fun v H2 F2 ρ2 r s2 st2 rr nw q2 => k v H2 F2 ρ2 r s2 (st1.trans st2) rr (New.back st1 s1 nw) q2⟩
/-- a value that is True or False, as a test -/
def dTst (te : DTE) : DTT := fun ρ Q => te ρ fun r ρ1 => ∃ b, r = .v (.bl b) ∧ Q b ρ1
theorem tst_lift {σ : St} {H : Hp} {Q : Bool → Hp → Prop} (h : liftT c (dTst te) σ H Q) : liftE c te σ H fun x H1 => ∃ k, x = .bl k ∧ Q k H1 := by
  obtain ⟨F, ρ, QD, s, ht, k⟩ := h
  refine ⟨F, ρ, (fun r ρ1 => ∃ b, r = .v (.bl b) ∧ QD b ρ1), s, ht, fun v H1 F1 ρ1 r s1 st1 rr nw q => ?_⟩
  obtain ⟨b, e, q⟩ := q
  subst e
  cases rr
  exact ⟨b, rfl, k b H1 F1 ρ1 s1 st1 q⟩
theorem dt_cmp {op : CmpOp} {r : R2} {dr : D → D → (Res → Prop) → Prop} (hd : OpD c.K r dr) (ho : OpR X (compareOp op) r) (ha : PE X a (liftE c ta)) (hb : PE X b (liftE c tb)) (hm : behindInMarks op b = false) : PT X (.Compare a [op] [b] pos) (liftT c (dTst (dOp dr ta tb))) :=
  PT_imp (pt_cmpR ho (froze ha) (froze hb) hm) fun _ _ _ q => bin_lift hd (tst_lift q)
def dAnd (t u : DTT) : DTT := fun ρ Q => t ρ fun b ρ1 => if b = true then u ρ1 Q else Q false ρ1
def dOr (t u : DTT) : DTT := fun ρ Q => t ρ fun b ρ1 => if b = true then Q true ρ1 else u ρ1 Q
def dNot (t : DTT) : DTT := fun ρ Q => t ρ fun b ρ1 => Q (!b) ρ1
section
variable {tA tB : DTT} {rest : List Expr}
theorem dw_and1 (ha : PT X a (liftT c tA)) : PW X (.BoolOp .And [a] pos) (liftT c tA) := pw_and1 ha
theorem dw_or1 (ha : PT X a (liftT c tA)) : PW X (.BoolOp .Or [a] pos) (liftT c tA) := pw_or1 ha
theorem dw_and (ha : PT X a (liftT c tA)) (hb : PW X (.BoolOp .And (b :: rest) pos) (liftT c tB)) : PW X (.BoolOp .And (a :: b :: rest) pos) (liftT c (dAnd tA tB)) :=
  PW_imp (pw_and ha hb) fun σ H Q ⟨F, ρ, QD, s, ht, k⟩ => by
    refine ⟨F, ρ, (fun b ρ1 => if b = true then tB ρ1 QD else QD false ρ1), s, ht, fun d H1 F1 ρ1 s1 st1 q1 => ?_⟩
    cases d with
    | true =>
      rw [if_pos rfl] at q1 ⊢
      exact ⟨F1, ρ1, QD, s1, q1, fun v H2 F2 ρ2 s2 st2 q2 => k v H2 F2 ρ2 s2 (st1.trans st2) q2⟩
    | false =>
      rw [if_neg Bool.false_ne_true] at q1 ⊢
      exact k _ H1 F1 ρ1 s1 st1 q1
theorem dw_or (ha : PT X a (liftT c tA)) (hb : PW X (.BoolOp .Or (b :: rest) pos) (liftT c tB)) : PW X (.BoolOp .Or (a :: b :: rest) pos) (liftT c (dOr tA tB)) :=
  PW_imp (pw_or ha hb) fun σ H Q ⟨F, ρ, QD, s, ht, k⟩ => by
    refine ⟨F, ρ, (fun b ρ1 => if b = true then QD true ρ1 else tB ρ1 QD), s, ht, fun d H1 F1 ρ1 s1 st1 q1 => ?_⟩
    cases d with
    | true =>
      rw [if_pos rfl] at q1 ⊢
      exact k _ H1 F1 ρ1 s1 st1 q1
    | false =>
      rw [if_neg Bool.false_ne_true] at q1 ⊢
      exact ⟨F1, ρ1, QD, s1, q1, fun v H2 F2 ρ2 s2 st2 q2 => k v H2 F2 ρ2 s2 (st1.trans st2) q2⟩
theorem dt_not (ha : PT X a (liftT c tA)) : PT X (.UnaryOp .Not a pos) (liftT c (dNot tA)) :=
  PT_imp (pt_not ha) fun σ H Q ⟨F, ρ, QD, s, ht, k⟩ => ⟨F, ρ, (fun b ρ1 => QD (!b) ρ1), s, ht, fun d H1 F1 ρ1 s1 st1 q1 => k _ H1 F1 ρ1 s1 st1 q1⟩
end
/-- and, or as values: True or False -/
def dAndV (ta tb : DTE) : DTE := fun ρ Q => ta ρ fun r ρ1 => ∃ b, r = .v (.bl b) ∧ if b = true then tb ρ1 Q else Q (.v (.bl false)) ρ1
def dOrV (ta tb : DTE) : DTE := fun ρ Q => ta ρ fun r ρ1 => ∃ b, r = .v (.bl b) ∧ if b = true then Q (.v (.bl true)) ρ1 else tb ρ1 Q
def dNotV (ta : DTE) : DTE := fun ρ Q => ta ρ fun r ρ1 => ∃ b, r = .v (.bl b) ∧ Q (.v (.bl (!b))) ρ1
section
variable {rest : List Expr}
theorem de_one {op} (h : PE X a (liftE c ta)) : PE X (.BoolOp op [a] pos) (liftE c ta) := pe_one h
theorem de_and (ha : PE X a (liftE c ta)) (hb : PE X (.BoolOp .And (b :: rest) pos) (liftE c tb)) : PE X (.BoolOp .And (a :: b :: rest) pos) (liftE c (dAndV ta tb)) :=
  PE_imp (pe_and ha hb) fun σ H Q ⟨F, ρ, QD, s, ht, k⟩ => by
    refine ⟨F, ρ, (fun r ρ1 => ∃ b, r = .v (.bl b) ∧ if b = true then tb ρ1 QD else QD (.v (.bl false)) ρ1), s, ht, fun v H1 F1 ρ1 r s1 st1 rr nw q1 => ?_⟩
    obtain ⟨d, e, q1⟩ := q1
    subst e
    cases rr
    refine ⟨d, rfl, ?_⟩
    cases d with
    | true =>
      rw [if_pos rfl] at q1 ⊢
      exact ⟨F1, ρ1, QD, s1, q1, fun v H2 F2 ρ2 r s2 st2 rr nw q2 => k v H2 F2 ρ2 r s2 (st1.trans st2) rr (New.back st1 s1 nw) q2⟩
    | false =>
      rw [if_neg Bool.false_ne_true] at q1 ⊢
      exact k _ H1 F1 ρ1 (.v (.bl false)) s1 st1 (Rep.bl false) trivial q1
theorem de_or (ha : PE X a (liftE c ta)) (hb : PE X (.BoolOp .Or (b :: rest) pos) (liftE c tb)) : PE X (.BoolOp .Or (a :: b :: rest) pos) (liftE c (dOrV ta tb)) :=
  PE_imp (pe_or ha hb) fun σ H Q ⟨F, ρ, QD, s, ht, k⟩ => by
    refine ⟨F, ρ, (fun r ρ1 => ∃ b, r = .v (.bl b) ∧ if b = true then QD (.v (.bl true)) ρ1 else tb ρ1 QD), s, ht, fun v H1 F1 ρ1 r s1 st1 rr nw q1 => ?_⟩
    obtain ⟨d, e, q1⟩ := q1
    subst e
    cases rr
    refine ⟨d, rfl, ?_⟩
    cases d with
    | true =>
      rw [if_pos rfl] at q1 ⊢
      exact k _ H1 F1 ρ1 (.v (.bl true)) s1 st1 (Rep.bl true) trivial q1
    | false =>
      rw [if_neg Bool.false_ne_true] at q1 ⊢
      exact ⟨F1, ρ1, QD, s1, q1, fun v H2 F2 ρ2 r s2 st2 rr nw q2 => k v H2 F2 ρ2 r s2 (st1.trans st2) rr (New.back st1 s1 nw) q2⟩
theorem de_not (ha : PE X a (liftE c ta)) : PE X (.UnaryOp .Not a pos) (liftE c (dNotV ta)) :=
  PE_imp (pe_not ha) fun σ H Q ⟨F, ρ, QD, s, ht, k⟩ => by
    refine ⟨F, ρ, (fun r ρ1 => ∃ b, r = .v (.bl b) ∧ QD (.v (.bl (!b))) ρ1), s, ht, fun v H1 F1 ρ1 r s1 st1 rr nw q1 => ?_⟩
    obtain ⟨d, e, q1⟩ := q1
    subst e
    cases rr
    exact ⟨d, rfl, k _ H1 F1 ρ1 (.v (.bl (!d))) s1 st1 (Rep.bl (!d)) trivial q1⟩
end
end
end L2.DL
set_option Elab.async false
set_option linter.all false
set_option autoImplicit false
set_option maxRecDepth 100000
set_option maxHeartbeats 1000000
namespace L2.DL
open PySem PySem.Spec PyProof.Rows
section
variable {c : C} {σ : St} {F H F' H' : Hp} {ρ : Rho}
theorem getElem?_set_cases {α : Type} {l : List α} {i j : Nat} {x y : α} (h : (l.set i x)[j]? = some y) : (j = i ∧ y = x ∧ i < l.length) ∨ (j ≠ i ∧ l[j]? = some y) := by
  by_cases hj : i = j
  · subst hj
    by_cases hl : i < l.length
    · rw [List.getElem?_set_self hl] at h
      exact .inl ⟨rfl, (Option.some.inj h).symm, hl⟩
    · rw [List.getElem?_eq_none (by rw [List.length_set]; omega)] at h
      cases h
  · rw [List.getElem?_set_ne hj] at h
    exact .inr ⟨fun e => hj e.symm, h⟩
theorem SR.store {v : V} {r : Res} {i : Nat} (s : SR c F H σ ρ) (rr : RR c σ F H ρ v r) : SR c F H (σ.set i (some v)) (ρ.set i (toSl r)) where
  sub' := s.sub'
  f0 := s.f0
  h0 := s.h0
  n0 := s.n0
  src := s.src
  srcF := s.srcF
  len := by rw [List.length_set, List.length_set]; exact s.len
  sl := fun j d h => by
    rcases getElem?_set_cases h with ⟨e1, e2, e3⟩ | ⟨e1, e2⟩
    · subst e1
      refine ⟨v, List.getElem?_set_self (by rw [← s.len]; exact e3), ?_⟩
      cases r with
      | v d' => cases e2; exact rr
      | ow xs => cases e2
    · rw [List.getElem?_set_ne e1.symm]
      exact s.sl j d e2
  ow := fun j xs h => by
    rcases getElem?_set_cases h with ⟨e1, e2, e3⟩ | ⟨e1, e2⟩
    · subst e1
      cases r with
      | v d' => cases e2
      | ow ys =>
        cases e2
        obtain ⟨p, vs, e, h1, h2, h3, h4, h5, h6⟩ := rr
        exact ⟨p, vs, by rw [e]; exact List.getElem?_set_self (by rw [← s.len]; exact e3), h1, h2, h3, h6, h4⟩
    · rw [List.getElem?_set_ne e1.symm]
      exact s.ow j xs e2
  dis := fun j k xs ys h1 h2 h3 => by
    have key : ∀ (j k : Nat) (xs ys : D), j = i → k ≠ i → (ρ.set i (toSl r))[j]? = some (Sl.o xs) → ρ[k]? = some (Sl.o ys) → i < ρ.length → (σ.set i (some v))[j]? = σ[k]? → False := fun j k xs ys e1 e2 k1 k2 hl k3 => by
      rw [e1] at k1 k3
      rw [List.getElem?_set_self hl] at k1
      rw [List.getElem?_set_self (by rw [← s.len]; exact hl)] at k3
      cases r with
      | v d' => cases k1
      | ow zs =>
        obtain ⟨p, vs, e, g1, g2, g3, g4, g5, g6⟩ := rr
        exact g5 ⟨k, ys, k2, by rw [← k3, e]⟩
    rcases getElem?_set_cases h1 with ⟨e1, e2, e3⟩ | ⟨e1, e2⟩
    · rcases getElem?_set_cases h2 with ⟨f1, f2, f3⟩ | ⟨f1, f2⟩
      · rw [e1, f1]
      · exact (key j k xs ys e1 f1 h1 f2 e3 (by rw [h3, List.getElem?_set_ne f1.symm])).elim
    · rcases getElem?_set_cases h2 with ⟨f1, f2, f3⟩ | ⟨f1, f2⟩
      · exact (key k j ys xs f1 e1 h2 e2 f3 (by rw [← h3, List.getElem?_set_ne e1.symm])).elim
      · refine s.dis j k xs ys e2 f2 ?_
        rw [List.getElem?_set_ne e1.symm, List.getElem?_set_ne f1.symm] at h3
        exact h3
/-- a slot is forgotten -/
theorem SR.drop (i : Nat) (s : SR c F H σ ρ) : SR c F H σ (ρ.set i .un) where
  sub' := s.sub'
  f0 := s.f0
  h0 := s.h0
  n0 := s.n0
  src := s.src
  srcF := s.srcF
  len := by rw [List.length_set]; exact s.len
  sl := fun j d h => by
    rcases getElem?_set_cases h with ⟨e1, e2, e3⟩ | ⟨e1, e2⟩
    · cases e2
    · exact s.sl j d e2
  ow := fun j xs h => by
    rcases getElem?_set_cases h with ⟨e1, e2, e3⟩ | ⟨e1, e2⟩
    · cases e2
    · exact s.ow j xs e2
  dis := fun j k xs ys h1 h2 h3 => by
    rcases getElem?_set_cases h1 with ⟨e1, e2, e3⟩ | ⟨e1, e2⟩
    · cases e2
    · rcases getElem?_set_cases h2 with ⟨f1, f2, f3⟩ | ⟨f1, f2⟩
      · cases f2
      · exact s.dis j k xs ys e2 f2 h3
/-- an owned list is changed -/
theorem SR.grow {i : Nat} {p : Addr} {xs ys : D} {ws : HO} (s : SR c F H σ ρ) (hi : ρ[i]? = some (Sl.o xs)) (hp : σ[i]? = some (some (V.ref p))) (hr : HRep c.K c.S F p ws ys) :
    SR c F (upd H p ws) σ (ρ.set i (.o ys)) := by
  obtain ⟨p', vs, e1, e2, e3, e4, e5, e6⟩ := s.ow i xs hi
  rw [hp] at e1
  cases e1
  have hl : i < ρ.length := (List.getElem?_eq_some_iff.mp hi).1
  refine ⟨fun q o z => ?_, s.f0, fun q o z1 z2 => ?_, s.n0, s.src.upd e6 e2 e4.plain, s.srcF, by rw [List.length_set]; exact s.len, fun j d h => ?_, fun j zs h => ?_, fun j k zs zs' h1 h2 h3 => ?_⟩
  · exact kn_of (by rw [upd_ne (ne_of_none z e3)]; exact s.sub q o z) (kn_nt (s.sub' q o z))
  · rw [upd_ne (ne_of_none z1 e5)]; exact s.h0 q o z1 z2
  · rcases getElem?_set_cases h with ⟨f1, f2, f3⟩ | ⟨f1, f2⟩
    · cases f2
    · exact s.sl j d f2
  · rcases getElem?_set_cases h with ⟨f1, f2, f3⟩ | ⟨f1, f2⟩
    · cases f2; subst f1
      exact ⟨p, ws, hp, upd_same, e3, hr, e5, e6⟩
    · obtain ⟨q, us, a, b, d, f, g, k⟩ := s.ow j zs f2
      have hq : q ≠ p := fun e => f1 (s.dis j i zs xs f2 hi (by rw [a, hp, e]))
      exact ⟨q, us, a, by rw [upd_ne hq]; exact b, d, f, g, k⟩
  · have old : ∀ (j : Nat) (zs : D), (ρ.set i (.o ys))[j]? = some (Sl.o zs) → ∃ zs', ρ[j]? = some (Sl.o zs') := fun j zs h => by
      rcases getElem?_set_cases h with ⟨f1, f2, f3⟩ | ⟨f1, f2⟩
      · subst f1; exact ⟨_, hi⟩
      · exact ⟨_, f2⟩
    obtain ⟨_, a⟩ := old j zs h1
    obtain ⟨_, b⟩ := old k zs' h2
    exact s.dis j k _ _ a b h3
end
def dSeq (t u : DTS) : DTS := fun D ρ => t { D with nx := u D } ρ
def dNext : DTS := fun D ρ => D.nx ρ
def dSet (i : Nat) (te : DTE) : DTS := fun D ρ => te ρ fun r ρ1 => D.nx (ρ1.set i (toSl r))
def dPar (i j : Nat) (ta tb : DTE) : DTS := fun D ρ => ta ρ fun r1 ρ1 => tb ρ1 fun r2 ρ2 => D.nx ((ρ2.set i (toSl r1)).set j (toSl r2))
def dRet (te : DTE) : DTS := fun D ρ => te ρ fun r _ => D.rt r
def dRetN : DTS := fun D _ => D.rt (.v .non)
def dRetVar (i : Nat) : DTS := fun D ρ => match ρ[i]? with
  | some (.d x) => D.rt (.v x)
  | some (.o xs) => D.rt (.ow xs)
  | _ => False
def dDrop (te : DTE) : DTS := fun D ρ => te ρ fun _ ρ1 => D.nx ρ1
def dIfS (tt : DTT) (t u : DTS) : DTS := fun D ρ => tt ρ fun b ρ1 => if b = true then t D ρ1 else u D ρ1
def dBrk : DTS := fun D ρ => D.bk ρ
def dCnt : DTS := fun D ρ => D.ct ρ
def dApp (i : Nat) (te : DTE) : DTS := fun D ρ => (∃ xs, ρ[i]? = some (Sl.o (.lst xs))) ∧ te ρ fun r ρ1 => ∃ xs, ρ1[i]? = some (Sl.o (.lst xs)) ∧ xs.length < sizeLine ∧ D.nx (ρ1.set i (.o (.lst (xs ++ [fz r]))))
section
variable {c : C} {X : Cx} {st : Stmt} {rest : List Stmt} {t u : DTS} {a b e : Expr} {te ta tb : DTE} {tt : DTT} {pos : Pos}
theorem EndsOk.mono {D : Ends} {DD : DEnds} {F F' : Hp} (k : EndsOk c F D DD) (l : Le F F') : EndsOk c F' D DD :=
  ⟨fun σ H G ρ z s h => k.nx σ H G ρ (l.trans z) s h, fun σ v H G ρ r z s h => k.rt σ v H G ρ r (l.trans z) s h, fun σ H G ρ z s h => k.bk σ H G ρ (l.trans z) s h, fun σ H G ρ z s h => k.ct σ H G ρ (l.trans z) s h⟩
theorem EndsOk.seq {D : Ends} {DD : DEnds} {F : Hp} (k : EndsOk c F D DD) : EndsOk c F { D with nx := liftS c u D } { DD with nx := u DD } :=
  ⟨fun σ H F' ρ l s h => ⟨F', ρ, DD, s, h, k.mono l⟩, k.rt, k.bk, k.ct⟩
theorem dss_nil : PSs X [] (liftS c dNext) := PSs_imp pss_nil fun D σ H ⟨F, ρ, DD, s, h, k⟩ => k.nx σ H F ρ (Le.refl _) s h
theorem dss_cons (h1 : PS X st (liftS c t)) (h2 : PSs X rest (liftS c u)) : PSs X (st :: rest) (liftS c (dSeq t u)) :=
  PSs_imp (pss_cons h1 h2) fun D σ H ⟨F, ρ, DD, s, h, k⟩ => ⟨F, ρ, { DD with nx := u DD }, s, h, k.seq⟩
theorem dss_one (h1 : PS X st (liftS c t)) : PSs X [st] (liftS c t) := pss_one h1
theorem set_lift {i : Nat} {D : Ends} {σ : St} {H : Hp} (h : liftS c (dSet i te) D σ H) : tAsg (liftE c te) (gName i) D σ H := by
  obtain ⟨F, ρ, DD, s, h, k⟩ := h
  exact ⟨F, ρ, _, s, h, fun v H1 F1 ρ1 r s1 st1 rr nw q => k.nx _ H1 F1 _ st1.ff (s1.store rr) q⟩
theorem ds_set {i : Nat} {x : Str} {pos' : Pos} (hN : X.N.Nodup) (hi : X.N[i]? = some x) (hx : Loc X.env.scope x) (he : PE X e (liftE c te)) (hs : swapsWith e (some (.Name x pos')) pos.line X.env = pure false := by rfl) (hf : X.fn x = true ∨ X.env.scope.names.lookup x = some .local := by first | exact .inl rfl | exact .inr rfl | assumption) :
    PS X (.Assign [.Name x pos'] e pos) (liftS c (dSet i te)) := PS_imp (ps_set hN hi hx he hs hf) fun D σ H h => set_lift h
theorem store2 {σ : St} {F H Fb Hb : Hp} {ρ ρb : Rho} {i j : Nat} {v w : V} {r1 r2 : Res} (s : SR c F H σ ρ) (h1 : RR c σ F H ρ v r1) (h2 : RR c σ F H ρ w r2) (h1b : RR c σ Fb Hb ρb v r1) (n2 : New σ Hb ρb w r2) :
    SR c F H ((σ.set i (some v)).set j (some w)) ((ρ.set i (toSl r1)).set j (toSl r2)) := by
  refine (s.store h1).store ?_
  cases r2 with
  | v d => exact h2
  | ow ys =>
    obtain ⟨p, vs, e, a, b, d, f, g, k⟩ := h2
    refine ⟨p, vs, e, a, b, d, f, fun ⟨m, zs, z1, z2⟩ => ?_, k⟩
    rcases getElem?_set_cases z1 with ⟨f1, f2, f3⟩ | ⟨f1, f2⟩
    · subst f1
      rw [List.getElem?_set_self (by rw [← s.len]; exact f3)] at z2
      cases r1 with
      | v d' => cases f2
      | ow xs =>
        obtain ⟨p1, vs1, e1, a1, b1, d1, f1, g1, k1⟩ := h1b
        subst e1
        cases z2
        obtain ⟨p2, e2, n2⟩ := n2
        rw [e] at e2
        cases e2
        rw [kn_of a1 d1.plain.1] at n2; cases n2
    · rw [List.getElem?_set_ne f1.symm] at z2
      exact g ⟨m, zs, f2, z2⟩
theorem ds_par {i j : Nat} {x y : Str} {px py pt : Pos} {kt k2 pt2} (hc : X.calm = true) (hN : X.N.Nodup) (hi : X.N[i]? = some x) (hj : X.N[j]? = some y) (hij : i ≠ j)
    (hx : X.env.scope.names.lookup x = some .local) (hy : X.env.scope.names.lookup y = some .local) (ha : PE X a (liftE c ta)) (hb : PE X b (liftE c tb))
    (hw : swappedStores [.Tuple [.Name x px, .Name y py] kt pt] (.Tuple [a, b] k2 pt2) X.env = pure (some [x, y]))
    (he : starEach [a, b] X.env = (false, eval a X.env) :: starEach [b] X.env := by rfl) (he2 : starEach [b] X.env = (false, eval b X.env) :: starEach [] X.env := by rfl)
    (hs : swapsWithSole [.Tuple [.Name x px, .Name y py] kt pt] (.Tuple [a, b] k2 pt2) pos.line X.env = pure false := by rfl) :
    PS X (.Assign [.Tuple [.Name x px, .Name y py] kt pt] (.Tuple [a, b] k2 pt2) pos) (liftS c (dPar i j ta tb)) :=
  PS_imp (ps_par hc hN hi hj hij hx hy (pa_cons ha (pa_cons hb pa_nil he2) he) hw hs) fun D σ H ⟨F, ρ, DD, s, h, k⟩ =>
    ⟨F, ρ, (fun r1 ρ1 => tb ρ1 fun r2 ρ2 => DD.nx ((ρ2.set i (toSl r1)).set j (toSl r2))), s, h, fun v H1 F1 ρ1 r1 s1 st1 rr1 nw1 q1 =>
      ⟨F1, ρ1, (fun r2 ρ2 => DD.nx ((ρ2.set i (toSl r1)).set j (toSl r2))), s1, q1, fun w H2 F2 ρ2 r2 s2 st2 rr2 nw2 q2 =>
        ⟨v, w, rfl, k.nx _ H2 F2 _ (st1.ff.trans st2.ff) (store2 s2 (rr1.keep st2 s2) rr2 rr1 nw2) q2⟩⟩⟩
theorem ds_ret (he : PE X e (liftE c te)) : PS X (.Return (some e) pos) (liftS c (dRet te)) :=
  PS_imp (ps_ret he) fun D σ H ⟨F, ρ, DD, s, h, k⟩ => ⟨F, ρ, _, s, h, fun v H1 F1 ρ1 r s1 st1 rr nw q => k.rt σ v H1 F1 ρ1 r st1.ff s1 rr q⟩
theorem ds_retVar {i : Nat} {x : Str} {pos' : Pos} (hN : X.N[i]? = some x) (hv : Vis X.env.scope x) (hd : (x == ("__debug__" : Str)) = false := by decide) (hcd : (x == ("__classdict__" : Str)) = false := by decide) : PS X (.Return (some (.Name x pos')) pos) (liftS c (dRetVar i)) :=
  PS_imp (ps_ret (pe_var hN hv hd hcd)) fun D σ H ⟨F, ρ, DD, s, h, k⟩ => by
    unfold dRetVar at h
    split at h
    · rename_i d hi
      obtain ⟨v, a, b⟩ := s.sl i d hi
      exact ⟨v, a, k.rt σ v H F ρ (.v d) (Le.refl _) s b h⟩
    · rename_i xs hi
      obtain ⟨p, vs, e1, e2, e3, e4, e5, e6⟩ := s.ow i xs hi
      refine ⟨_, e1, k.rt σ _ H F _ (.ow xs) (Le.refl _) (s.drop i) ⟨p, vs, rfl, e2, e3, e4, e6, fun ⟨m, zs, z1, z2⟩ => ?_, e5⟩ h⟩
      rcases getElem?_set_cases z1 with ⟨f1, f2, f3⟩ | ⟨f1, f2⟩
      · cases f2
      · exact f1 (s.dis m i zs xs f2 hi (by rw [z2, e1]))
    · exact h.elim
theorem dretv (i : Nat) {x : Str} {pos' : Pos} (hN : X.N[i]? = some x := by rfl) (hv : Vis X.env.scope x := by first | exact Or.inl rfl | exact Or.inr (Or.inl rfl) | exact Or.inr (Or.inr rfl)) (hd : (x == ("__debug__" : Str)) = false := by decide) (hcd : (x == ("__classdict__" : Str)) = false := by decide) :
    PS X (.Return (some (.Name x pos')) pos) (liftS c (dRetVar i)) := ds_retVar hN hv hd hcd
theorem ds_if {cnd : Expr} {sa sb : List Stmt} (hc : PT X cnd (liftT c tt)) (ha : PSs X sa (liftS c t)) (hb : PSs X sb (liftS c u)) : PS X (.If cnd sa sb pos) (liftS c (dIfS tt t u)) :=
  PS_imp (ps_if hc ha hb) fun D σ H ⟨F, ρ, DD, s, h, k⟩ => by
    refine ⟨F, ρ, (fun b ρ1 => if b = true then t DD ρ1 else u DD ρ1), s, h, fun d H1 F1 ρ1 s1 st1 q1 => ?_⟩
    cases d with
    | true => rw [if_pos rfl] at q1 ⊢; exact ⟨F1, ρ1, DD, s1, q1, k.mono st1.ff⟩
    | false => rw [if_neg Bool.false_ne_true] at q1 ⊢; exact ⟨F1, ρ1, DD, s1, q1, k.mono st1.ff⟩
/-- x.append(e), x an owned slot -/
theorem ds_append {i : Nat} {x : Str} {p1 p2 p3 : Pos} (hN : X.N[i]? = some x) (hv : Vis X.env.scope x) (he : PE X e (liftE c te)) (hd : (x == ("__debug__" : Str)) = false := by decide) (hcd : (x == ("__classdict__" : Str)) = false := by decide)
    (hst : starEach [e] X.env = (false, eval e X.env) :: starEach [] X.env := by rfl) (hs : swapsWith (.Call (.Attribute (.Name x p1) "append" p2) [e] [] p3) none pos.line X.env = pure false := by rfl)
    (h1 : PE X (.Call (.Attribute (.Name x p1) "append" p2) [e] [] p3) (tBM X.K "list" rAppend (tVar i) (tCons (liftV c (frz te)) tNil)) := by exact (pe_bm PySem.F.plainAttrs_list PySem.F.slot_list_append PySem.F.type_list_append mt_append (pe_var ‹_› ‹_›) (pa_cons (froze ‹_›) pa_nil))) :
    PS X (.Expr (.Call (.Attribute (.Name x p1) "append" p2) [e] [] p3) pos) (liftS c (dApp i te)) :=
  PS_imp (ps_expr h1 hs) fun D σ H ⟨F, ρ, DD, s, h, k⟩ => by
    obtain ⟨⟨xs, hx⟩, h⟩ := h
    obtain ⟨p, vs, e1, e2, e3, e4, e5, e6⟩ := s.ow i _ hx
    cases e4
    refine ⟨.ref p, e1, .inl ⟨rfl, _, .inl (.inl e2)⟩, F, ρ, (fun d ρ1 => ∃ xs, ρ1[i]? = some (Sl.o (.lst xs)) ∧ xs.length < sizeLine ∧ DD.nx (ρ1.set i (.o (.lst (xs ++ [d]))))), s, h, fun v H1 F1 ρ1 d s1 st1 rv q => ?_⟩
    obtain ⟨ys, hy, hz, q⟩ := q
    obtain ⟨p', ws, g1, g2, g3, g4, g5, g6⟩ := s1.ow i _ hy
    cases g4
    rename_i ws g4
    rw [e1] at g1
    cases g1
    exact ⟨p, ws, v, rfl, rfl, g2, by rw [g4.length]; exact hz, k.nx σ _ F1 _ st1.ff (s1.grow hy e1 (.lst (g4.snoc rv))) q⟩
end
abbrev DTG := D → Rho → (Rho → Prop) → Prop
abbrev DTGs := List D → Rho → (Rho → Prop) → Prop
def liftG (c : C) (is : List Nat) (g : DTG) : TG := fun v σ H Q => ∃ F ρ d QD, SR c F H σ ρ ∧ Rep c.K c.S F v d ∧ g d ρ QD ∧
  ∀ σ' ρ', SR c F H σ' ρ' → (∀ j, j ∉ is → σ'[j]? = σ[j]? ∧ ρ'[j]? = ρ[j]?) → (∀ p, Own σ' ρ' p → Own σ ρ p) → σ'.length = σ.length → QD ρ' → Q σ' H
def liftGs (c : C) (is : List Nat) (g : DTGs) : TGs := fun vs σ H Q => ∃ F ρ ds QD, SR c F H σ ρ ∧ Reps c.K c.S F vs ds ∧ g ds ρ QD ∧
  ∀ σ' ρ', SR c F H σ' ρ' → (∀ j, j ∉ is → σ'[j]? = σ[j]? ∧ ρ'[j]? = ρ[j]?) → (∀ p, Own σ' ρ' p → Own σ ρ p) → σ'.length = σ.length → QD ρ' → Q σ' H
def dgName (i : Nat) : DTG := fun d ρ Q => Q (ρ.set i (.d d))
def dgNil : DTGs := fun ds ρ Q => ds = [] ∧ Q ρ
def dgCons (t : DTG) (u : DTGs) : DTGs := fun ds ρ Q => ∃ d r, ds = d :: r ∧ t d ρ fun ρ' => u r ρ' Q
def dgTup (n : Nat) (t : DTGs) : DTG := fun d ρ Q => ∃ ds, d = .tup ds ∧ ds.length = n ∧ t ds ρ Q
section
variable {c : C} {X : Cx} {pos : Pos}
theorem own_set {σ : St} {ρ : Rho} {i : Nat} {v : V} {d : D} {F H : Hp} (s : SR c F H σ ρ) {p : Addr} (h : Own (σ.set i (some v)) (ρ.set i (.d d)) p) : Own σ ρ p := by
  obtain ⟨m, zs, z1, z2⟩ := h
  rcases getElem?_set_cases z1 with ⟨f1, f2, f3⟩ | ⟨f1, f2⟩
  · cases f2
  · rw [List.getElem?_set_ne f1.symm] at z2
    exact ⟨m, zs, f2, z2⟩
theorem dg_name {i : Nat} {x : Str} (hN : X.N.Nodup) (hi : X.N[i]? = some x) (hx : Loc X.env.scope x) (hf : X.fn x = true ∨ X.env.scope.names.lookup x = some .local := by first | exact .inl rfl | exact .inr rfl | assumption) : PG X (.Name x pos) (liftG c [i] (dgName i)) :=
  PG_imp (pg_name hN hi hx hf) fun v σ H Q ⟨F, ρ, d, QD, s, r, h, k⟩ => by
    refine k (σ.set i (some v)) (ρ.set i (.d d)) (s.store (r := .v d) r) (fun j hj => ?_) (fun p z => own_set s z) (List.length_set ..) h
    have hj' : i ≠ j := fun e => hj (by rw [e]; exact List.mem_singleton_self _)
    exact ⟨List.getElem?_set_ne hj', List.getElem?_set_ne hj'⟩
theorem dgs_nil : PGs X [] (liftGs c [] dgNil) := PGs_imp pgs_nil fun vs σ H Q ⟨F, ρ, ds, QD, s, r, ⟨e, h⟩, k⟩ => by
  subst e
  cases r
  exact ⟨rfl, k σ ρ s (fun _ _ => ⟨rfl, rfl⟩) (fun _ z => z) rfl h⟩
theorem dgs_cons {e : Expr} {es : List Expr} {t : DTG} {u : DTGs} {is js : List Nat} (h1 : PG X e (liftG c is t)) (h2 : PGs X es (liftGs c js u))
    (hs : (assignEach (e :: es) X.env).map (·.2) = assign e X.env :: (assignEach es X.env).map (·.2) := by rfl) : PGs X (e :: es) (liftGs c (is ++ js) (dgCons t u)) :=
  PGs_imp (pgs_cons h1 h2 hs) fun vs σ H Q ⟨F, ρ, ds, QD, s, r, ⟨d, rd, e, h⟩, k⟩ => by
    subst e
    cases r with
    | cons r1 r2 =>
      refine ⟨_, _, rfl, F, ρ, d, _, s, r1, h, fun σ' ρ' s' f1 o1 l1 q => ?_⟩
      exact ⟨F, ρ', rd, QD, s', r2, q, fun σ'' ρ'' s'' f2 o2 l2 q2 => k σ'' ρ'' s'' (fun j hj => by
        have h1 := f1 j fun z => hj (List.mem_append_left _ z)
        have h2 := f2 j fun z => hj (List.mem_append_right _ z)
        exact ⟨h2.1.trans h1.1, h2.2.trans h1.2⟩) (fun p z => o1 p (o2 p z)) (l2.trans l1) q2⟩
theorem dg_tup {es : List Expr} {k : Nat} {t : DTGs} {n : Nat} {is : List Nat} (hc : X.calm = true) (hK : X.K = c.K) (h : PGs X es (liftGs c is t))
    (hn : (assignEach es X.env).length = n := by rfl) (hst : (assignEach es X.env).findIdx? (·.1) = none := by rfl) : PG X (.Tuple es k pos) (liftG c is (dgTup n t)) :=
  PG_imp (pg_tup hc h hn hst) fun v σ H Q ⟨F, ρ, d, QD, s, r, ⟨ds, e, hl, h⟩, k⟩ => by
    subst e
    cases r with
    | tup h1 h2 =>
      refine ⟨_, _, rfl, by rw [hK]; exact s.sub.seqT (.inl (.inl h1)), by rw [h2.length]; exact hl, F, ρ, ds, QD, s, h2, h, k⟩
end
/-- target = value, the target a tuple of names -/
def dAsg (te : DTE) (g : DTG) : DTS := fun D ρ => te ρ fun r ρ1 => g (fz r) ρ1 D.nx
end L2.DL
set_option Elab.async false
set_option linter.all false
set_option autoImplicit false
set_option maxRecDepth 100000
set_option maxHeartbeats 1000000
namespace L2.DL
open PySem PySem.Spec PyProof.Rows
/-- J gives out the data ds, as long as what is frozen in F1 stands -/
structure Walk (K : PySem.W.Frag) (S : Src) (J : It) (F1 : Hp) (ds : List D) : Prop where
  go : ∀ (F H : Hp) (i : Nat) (d : D), Le F1 F → Le F H → ds[i]? = some d → J.go i H ∧ ∀ x H', J.yld i H x H' → ∃ F', PExt F H F' H' ∧ Rep K S F' x d
  stop : ∀ (F H : Hp) (i : Nat), Le F1 F → Le F H → ds.length ≤ i → J.stop i H
abbrev DTI := Rho → (List D → Rho → Prop) → Prop
def liftI (c : C) (ti : DTI) : TI := fun σ H R => ∃ F ρ QD, SR c F H σ ρ ∧ ti ρ QD ∧ ∀ J H' F' ρ' ds, SR c F' H' σ ρ' → Stp c σ F H ρ F' H' ρ' → Walk c.K c.S J F' ds → QD ds ρ' → R J H'
def dLoop (g : DTG) (tb : DTS) (E : DEnds) : List D → Rho → Prop
  | [], ρ => E.nx ρ
  | x :: xs, ρ => g x ρ fun ρ2 => tb { E with nx := dLoop g tb E xs, ct := dLoop g tb E xs, bk := E.nx } ρ2
def dFor (ti : DTI) (g : DTG) (tb : DTS) : DTS := fun D ρ => ti ρ fun ds ρ1 => dLoop g tb D ds ρ1
def dItL (te : DTE) : DTI := fun ρ Q => te ρ fun r ρ1 => ∃ ds, fz r = .lst ds ∧ Q ds ρ1
def dItT (te : DTE) : DTI := fun ρ Q => te ρ fun r ρ1 => ∃ ds, fz r = .tup ds ∧ Q ds ρ1
section
variable {c : C} {X : Cx} {tg e iter : Expr} {te : DTE} {pos : Pos}
theorem walk_list {K : PySem.W.Frag} {S : Src} {F1 : Hp} {a : Addr} {vs : List V} {ds : List D} (h : LstAt K F1 a vs) (r : Reps K S F1 vs ds) : Walk K S (Itl K a) F1 ds where
  go := fun F H i d l1 l2 hd => by
    obtain ⟨v, hv, rv⟩ := r.get hd
    have hH : SqL K H a vs := (l1.lst h).sq l2
    exact ⟨⟨vs, v, hH, hv⟩, fun x H' y => by
      obtain ⟨e, y⟩ := y
      subst e
      have := y vs hH
      rw [hv] at this
      cases this
      exact ⟨F, .refl l2, rv.mono l1⟩⟩
  stop := fun F H i l1 l2 hl => ⟨vs, (l1.lst h).sq l2, by rw [r.length]; exact hl⟩
theorem walk_tup {K : PySem.W.Frag} {S : Src} {F1 : Hp} {a : Addr} {vs : List V} {ds : List D} (h : SqT K F1 a vs) (r : Reps K S F1 vs ds) : Walk K S (Itt K a) F1 ds where
  go := fun F H i d l1 l2 hd => by
    obtain ⟨v, hv, rv⟩ := r.get hd
    have hH : SqT K H a vs := l2.seqT (l1.seqT h)
    exact ⟨⟨vs, v, hH, hv⟩, fun x H' y => by
      obtain ⟨e, y⟩ := y
      subst e
      have := y vs hH
      rw [hv] at this
      cases this
      exact ⟨F, .refl l2, rv.mono l1⟩⟩
  stop := fun F H i l1 l2 hl => ⟨vs, l2.seqT (l1.seqT h), by rw [r.length]; exact hl⟩
theorem walk_rng {K : PySem.W.Frag} {S : Src} {F1 : Hp} (lo : Int) (n : Nat) : Walk K S (Itr lo n) F1 ((List.range n).map fun i => D.int (lo + (i : Nat))) where
  go := fun F H i d l1 l2 hd => by
    have hi : i < n := by
      have := (List.getElem?_eq_some_iff.mp hd).1
      simpa using this
    refine ⟨hi, fun x H' y => ?_⟩
    obtain ⟨e, y⟩ := y
    subst e; subst y
    rw [List.getElem?_map, List.getElem?_range hi] at hd
    cases hd
    exact ⟨F, .refl l2, .int _⟩
  stop := fun F H i l1 l2 hl => by
    have : n ≤ i := by simpa using hl
    exact this
theorem di_list (hK : X.K = c.K) (he : PE X e (liftE c te)) : PI X tg e (liftI c (dItL te)) :=
  PI_imp (pi_list (froze he)) fun σ H R ⟨F, ρ, QD, s, h, k⟩ =>
    ⟨F, ρ, (fun d ρ1 => ∃ ds, d = .lst ds ∧ QD ds ρ1), s, h, fun v H1 F1 ρ1 d s1 st1 rv q => by
      obtain ⟨ds, e, q⟩ := q
      subst e
      cases rv with
      | lst h1 h2 => exact ⟨_, rfl, ⟨_, by rw [hK]; exact h1.sq s1.sub⟩, k _ H1 F1 ρ1 ds s1 st1 (by rw [hK]; exact walk_list h1 h2) q⟩⟩
theorem di_tup (hK : X.K = c.K) (he : PE X e (liftE c te)) : PI X tg e (liftI c (dItT te)) :=
  PI_imp (pi_tup (froze he)) fun σ H R ⟨F, ρ, QD, s, h, k⟩ =>
    ⟨F, ρ, (fun d ρ1 => ∃ ds, d = .tup ds ∧ QD ds ρ1), s, h, fun v H1 F1 ρ1 d s1 st1 rv q => by
      obtain ⟨ds, e, q⟩ := q
      subst e
      cases rv with
      | tup h1 h2 => exact ⟨_, rfl, ⟨_, by rw [hK]; exact s1.sub.seqT (.inl (.inl h1))⟩, k _ H1 F1 ρ1 ds s1 st1 (by rw [hK]; exact walk_tup (.inl (.inl h1)) h2) q⟩⟩
/-- lo, lo + 1, .. -/
def rngD (lo : Int) (n : Nat) : List D := (List.range n).map fun i => D.int (lo + (i : Nat))
def dRng1 (t : DTA) : DTI := fun ρ Q => t ρ fun ds ρ1 => ∃ j : Int, ds = [.int j] ∧ -(2 ^ 62) ≤ j ∧ j < 2 ^ 62 ∧ Q (rngD 0 j.toNat) ρ1
def dRng2 (t : DTA) : DTI := fun ρ Q => t ρ fun ds ρ1 => ∃ i j : Int, ds = [.int i, .int j] ∧ (-(2 ^ 62) ≤ i ∧ i < 2 ^ 62 ∧ -(2 ^ 62) ≤ j ∧ j < 2 ^ 62) ∧ Q (rngD i (j - i).toNat) ρ1
theorem di_range1 {a : Expr} {t : DTA} {p : Pos} (hg : Gl X "range") (hm : X.mg "range" = none) (ha : PA X [a] (liftA c t)) (hs : starEach [a] X.env = [(false, eval a X.env)] := by rfl) : PI X tg (.Call (.Name "range" p) [a] [] pos) (liftI c (dRng1 t)) :=
  PI_imp (pi_range1 hg hm ha hs) fun σ H R ⟨F, ρ, QD, s, h, k⟩ =>
    ⟨F, ρ, _, s, h, fun vs H1 F1 ρ1 ds s1 st1 rv q => by
      obtain ⟨j, e, h1, h2, q⟩ := q
      subst e
      cases rv with
      | cons a b =>
        cases a; cases b
        exact ⟨j, rfl, h1, h2, k _ H1 F1 ρ1 _ s1 st1 (walk_rng 0 j.toNat) q⟩⟩
theorem ds_for {body : List Stmt} {ti : DTI} {g : DTG} {tb : DTS} {is : List Nat} (hp : PassesOwn (model X.prog X.w) X.A X.env X.xe) (hc : X.calm = true) (hi : PI X tg iter (liftI c ti)) (hg : PG X tg (liftG c is g)) (hb : PSs X body (liftS c tb))
    (hs : ∀ x, foldedSetIterable iter X.env x = pure x := by intro _; rfl) : PS X (.For tg iter body [] pos) (liftS c (dFor ti g tb)) :=
  PS_imp (ps_for hp hc hi hg hb hs) fun D σ H ⟨F, ρ, DD, s, h, k⟩ =>
    ⟨F, ρ, _, s, h, fun J H1 F1 ρ1 ds s1 st1 w q => by
      refine ⟨fun i m σ H => m = ds.length - i ∧ i ≤ ds.length ∧ ∃ F ρ, SR c F H σ ρ ∧ Le F1 F ∧ dLoop g tb DD (ds.drop i) ρ, ⟨ds.length, by simp, Nat.zero_le _, F1, ρ1, s1, Le.refl _, q⟩, ?_⟩
      rintro i m σ H ⟨rfl, hi, F2, ρ2, s2, l2, q2⟩
      by_cases hlt : i < ds.length
      · have hd : ds[i]? = some ds[i] := List.getElem?_eq_getElem hlt
        obtain ⟨go, yl⟩ := w.go F2 H i ds[i] l2 s2.sub hd
        refine .inr ⟨go, fun σ' H' => ∃ F ρ, SR c F H' σ' ρ ∧ Le F1 F ∧ dLoop g tb DD (ds.drop (i + 1)) ρ, fun σ' H' ⟨F', ρ', s', l', q'⟩ => ⟨ds.length - (i + 1), by omega, rfl, hlt, F', ρ', s', l', q'⟩, fun x H' y => ?_⟩
        obtain ⟨F3, pe, rx⟩ := yl x H' y
        rw [List.drop_eq_getElem_cons hlt] at q2
        have s3 := pe.sr s2
        have l3 : Le F1 F3 := l2.trans pe.ff
        refine ⟨F3, ρ2, ds[i], _, s3, rx, q2, fun σ' ρ' s' _ _ _ q' => ?_⟩
        refine ⟨F3, ρ', { DD with nx := dLoop g tb DD (ds.drop (i + 1)), ct := dLoop g tb DD (ds.drop (i + 1)), bk := DD.nx }, s', q', ?_⟩
        have lF : Le F F3 := st1.ff.trans l3
        exact ⟨fun σ4 H4 F4 ρ4 l4 s4 q4 => ⟨F4, ρ4, s4, l3.trans l4, q4⟩, fun σ4 v4 H4 F4 ρ4 r4 l4 s4 rr q4 => k.rt σ4 v4 H4 F4 ρ4 r4 (lF.trans l4) s4 rr q4, fun σ4 H4 F4 ρ4 l4 s4 q4 => k.nx σ4 H4 F4 ρ4 (lF.trans l4) s4 q4, fun σ4 H4 F4 ρ4 l4 s4 q4 => ⟨F4, ρ4, s4, l3.trans l4, q4⟩⟩
      · have e : i = ds.length := by omega
        subst e
        rw [List.drop_length] at q2
        exact .inl ⟨w.stop F2 H _ l2 s2.sub (Nat.le_refl _), k.nx σ H F2 ρ2 (st1.ff.trans l2) s2 q2⟩⟩
end
end L2.DL
set_option Elab.async false
set_option linter.all false
set_option autoImplicit false
set_option maxRecDepth 100000
set_option maxHeartbeats 1000000
namespace L2.DL
open PySem PySem.Spec PyProof.Rows
def dwipe (ρ : Rho) : List Nat → Rho
  | [] => ρ
  | v :: vs => (dwipe ρ vs).set v .un
def WP (ρ : Rho) (vs : List Nat) : Prop := ∀ (j : Nat), j ∈ vs → ∀ (s : Sl), ρ[j]? = some s → s = .un
theorem dwipe_length (ρ : Rho) : ∀ vs : List Nat, (dwipe ρ vs).length = ρ.length
  | [] => rfl
  | v :: vs => by unfold dwipe; rw [List.length_set, dwipe_length ρ vs]
theorem dwipe_get {ρ : Rho} {j : Nat} {s : Sl} : ∀ {vs : List Nat}, (dwipe ρ vs)[j]? = some s → s = .un ∨ (j ∉ vs ∧ ρ[j]? = some s)
  | [], h => .inr ⟨by simp, h⟩
  | v :: vs, h => by
    unfold dwipe at h
    rcases getElem?_set_cases h with ⟨e1, e2, e3⟩ | ⟨e1, e2⟩
    · exact .inl e2
    · rcases dwipe_get e2 with z | ⟨z1, z2⟩
      · exact .inl z
      · exact .inr ⟨by simp only [List.mem_cons, not_or]; exact ⟨e1, z1⟩, z2⟩
theorem dwipe_wp (ρ : Rho) : ∀ vs : List Nat, WP (dwipe ρ vs) vs := fun vs j hj s h => by
  rcases dwipe_get h with z | ⟨z1, z2⟩
  · exact z
  · exact absurd hj z1
section
variable {c : C} {σ σ' : St} {F H F' H' : Hp} {ρ : Rho}
/-- other slots, as far as they are spoken of -/
theorem SR.slots {ρ' : Rho} (s : SR c F H σ ρ) (hl : ρ'.length = σ'.length) (h : ∀ (j : Nat) (x : Sl), ρ'[j]? = some x → x = .un ∨ (ρ[j]? = some x ∧ σ'[j]? = σ[j]?)) : SR c F H σ' ρ' where
  sub' := s.sub'
  f0 := s.f0
  h0 := s.h0
  n0 := s.n0
  src := s.src
  srcF := s.srcF
  len := hl
  sl := fun j d z => by
    rcases h j _ z with e | ⟨e1, e2⟩
    · cases e
    · rw [e2]; exact s.sl j d e1
  ow := fun j xs z => by
    rcases h j _ z with e | ⟨e1, e2⟩
    · cases e
    · rw [e2]; exact s.ow j xs e1
  dis := fun j k xs ys z1 z2 z3 => by
    rcases h j _ z1 with e | ⟨e1, e2⟩
    · cases e
    · rcases h k _ z2 with f | ⟨f1, f2⟩
      · cases f
      · exact s.dis j k xs ys e1 f1 (by rw [← e2, ← f2]; exact z3)
theorem SR.wiped {vs : List Nat} (s : SR c F H σ ρ) (w : WP ρ vs) : SR c F H (wipe σ vs) ρ :=
  s.slots (by rw [wipe_length]; exact s.len) fun j x h => by
    by_cases hj : j ∈ vs
    · exact .inl (w j hj x h)
    · exact .inr ⟨h, wipe_out hj⟩
theorem SR.unwiped {vs : List Nat} (s : SR c F H σ' ρ) (hl : σ'.length = σ.length) (h : ∀ j, j ∉ vs → σ'[j]? = σ[j]?) : SR c F H σ (dwipe ρ vs) :=
  s.slots (by rw [dwipe_length, s.len, hl]) fun j x z => by
    rcases dwipe_get z with e | ⟨e1, e2⟩
    · exact .inl e
    · exact .inr ⟨e2, (h j e1).symm⟩
theorem SR.dwiped {vs : List Nat} (s : SR c F H σ ρ) : SR c F H σ (dwipe ρ vs) := s.unwiped rfl fun _ _ => rfl
end
theorem wipe_wiped {σ σ' : St} {vs is : List Nat} (hs : ∀ i ∈ is, i ∈ vs) (hl : σ'.length = σ.length) (h : ∀ j, j ∉ is → σ'[j]? = (wipe σ vs)[j]?) : wipe σ' vs = wipe σ vs := by
  have key : ∀ (vs : List Nat) (σ : St) (j : Nat), j ∈ vs → j < σ.length → (wipe σ vs)[j]? = some none := by
    intro vs
    induction vs with
    | nil => intro σ j hj; cases hj
    | cons v vs ih =>
      intro σ j hj hl
      unfold wipe
      by_cases e : v = j
      · subst e; rw [List.getElem?_set_self (by rw [wipe_length]; exact hl)]
      · rw [List.getElem?_set_ne e]
        exact ih σ j ((List.mem_cons.mp hj).resolve_left fun z => e z.symm) hl
  apply List.ext_getElem?
  intro j
  by_cases hj : j ∈ vs
  · by_cases hlt : j < σ.length
    · rw [key vs σ' j hj (by rw [hl]; exact hlt), key vs σ j hj hlt]
    · rw [List.getElem?_eq_none (by rw [wipe_length]; omega), List.getElem?_eq_none (by rw [wipe_length]; omega)]
  · rw [wipe_out hj, h j fun z => hj (hs j z)]
def dYes : DTT := fun ρ Q => Q true ρ
def dLcL (g : DTG) (tt : DTT) (te : DTE) (vs : List Nat) (Q : DQ) : List D → List D → Rho → Prop
  | [], acc, ρ => Q (.own acc) ρ
  | x :: xs, acc, ρ => g x ρ fun ρ2 => tt ρ2 fun b ρ3 => if b = true then te ρ3 fun r ρ4 => acc.length < sizeLine ∧ dLcL g tt te vs Q xs (acc ++ [fz r]) (dwipe ρ4 vs) else dLcL g tt te vs Q xs acc (dwipe ρ3 vs)
def dLc (ti : DTI) (g : DTG) (tt : DTT) (te : DTE) (vs : List Nat) : DTE := fun ρ Q => ti ρ fun ds ρ1 => dLcL g tt te vs Q ds [] (dwipe ρ1 vs)
section
variable {c : C} {X : Cx} {elt tg e iter : Expr} {ti : DTI} {g : DTG} {tt : DTT} {te : DTE} {pos : Pos} {vs is : List Nat}
theorem dts_nil : PTs X [] (liftT c dYes) := PTs_imp pts_nil fun σ H Q ⟨F, ρ, QD, s, h, k⟩ => k true H F ρ s Stp.refl h
theorem dts_one (h : PT X e (liftT c tt)) : PTs X [e] (liftT c tt) := pts_one h
theorem lc_lift (hs : ∀ i ∈ is, i ∈ vs) {σ : St} {H : Hp} {Q : VK} (h : liftE c (dLc ti g tt te vs) σ H Q) : tLc (liftI c ti) (liftG c is g) (liftT c tt) (liftV c (frz te)) vs σ H Q := by
  obtain ⟨F, ρ, QD, s, ht, k⟩ := h
  refine ⟨F, ρ, (fun ds ρ1 => dLcL g tt te vs QD ds [] (dwipe ρ1 vs)), s, ht, fun J H1 F1 ρ1 ds s1 st1 w q => ?_⟩
  intro A hA
  have cH0 : kn c.H0 A = none := s1.newH hA
  have nS : ¬ inS c.S A := s1.newS hA
  have nO : ¬ Own σ ρ1 A := s1.newO hA
  have fA : F1 A = none := free_of s1.sub hA
  have e1 : PExt F1 H1 F1 (upd H1 A (.lst [])) := PExt.own s1.sub hA
  refine ⟨fun i m Hn => m = ds.length - i ∧ i ≤ ds.length ∧ ∃ Fn ρn acc vacc, SR c Fn Hn σ ρn ∧ WP ρn vs ∧ Stp c σ F1 H1 ρ1 Fn Hn ρn ∧ Hn A = some (.lst vacc) ∧ Fn A = none ∧ Reps c.K c.S Fn vacc acc ∧ dLcL g tt te vs QD (ds.drop i) acc ρn,
    ⟨ds.length, by simp, Nat.zero_le _, F1, dwipe ρ1 vs, [], [], (e1.sr s1).dwiped, dwipe_wp _ _, ⟨e1.ff, fun p o z _ _ => e1.hh p o (kn_some z), fun p z => .inl z, fun p ⟨j, xs, z1, z2⟩ => by
      rcases dwipe_get z1 with z | ⟨_, z⟩
      · cases z
      · exact ⟨j, xs, z, z2⟩, e1.stp.tr (c := c) (σ := σ) (ρ := ρ1)⟩, upd_same, fA, .nil, q⟩, ?_⟩
  rintro i m Hn ⟨rfl, hi, Fn, ρn, acc, vacc, sn, wn, stn, hAn, fAn, rn, qn⟩
  by_cases hlt : i < ds.length
  · have hd : ds[i]? = some ds[i] := List.getElem?_eq_getElem hlt
    obtain ⟨go, yl⟩ := w.go Fn Hn i ds[i] stn.ff sn.sub hd
    refine .inr ⟨go, fun H' => ∃ Fn ρn acc vacc, SR c Fn H' σ ρn ∧ WP ρn vs ∧ Stp c σ F1 H1 ρ1 Fn H' ρn ∧ H' A = some (.lst vacc) ∧ Fn A = none ∧ Reps c.K c.S Fn vacc acc ∧ dLcL g tt te vs QD (ds.drop (i + 1)) acc ρn,
      fun H' z => ⟨ds.length - (i + 1), by omega, rfl, hlt, z⟩, fun x H' y => ?_⟩
    obtain ⟨F3, pe, rx⟩ := yl x H' y
    rw [List.drop_eq_getElem_cons hlt] at qn
    have s3 := pe.sr sn
    have st3 : Stp c σ F1 H1 ρ1 F3 H' ρn := stn.trans pe.stp
    have nOn : ¬ Own σ ρn A := fun z => nO (stn.oo A z)
    have hA3 : H' A = some (.lst vacc) := pe.hh _ _ hAn
    have fA3 : F3 A = none := by
      cases q : F3 A with
      | none => rfl
      | some o =>
        rcases pe.nn A (by rw [q]; simp) with z | z | ⟨_, z⟩
        · exact absurd fAn z
        · rw [hAn] at z; cases z
        · rw [hAn] at z; cases z
    have ownW : ∀ p, Own (wipe σ vs) ρn p → Own σ ρn p := fun p ⟨j, xs, z1, z2⟩ => by
      by_cases hj : j ∈ vs
      · cases wn j hj _ z1
      · exact ⟨j, xs, z1, by rw [← wipe_out hj]; exact z2⟩
    refine ⟨F3, ρn, ds[i], _, s3.wiped wn, rx, qn, fun σ2 ρ2 s4 f4 o4 l4 q4 => ?_⟩
    have l2 : σ2.length = σ.length := l4.trans (wipe_length σ vs)
    have hj2 : ∀ j, j ∉ vs → σ2[j]? = σ[j]? := fun j hj => ((f4 j fun z => hj (hs j z)).1).trans (wipe_out hj)
    have own2 : ∀ p, Own σ2 ρ2 p → Own σ ρn p := fun p z => ownW p (o4 p z)
    have ownB : ∀ {ρ5 : Rho} p, Own σ (dwipe ρ5 vs) p → Own σ2 ρ5 p := fun {ρ5} p ⟨j, xs, z1, z2⟩ => by
      rcases dwipe_get z1 with z | ⟨z, z3⟩
      · cases z
      · exact ⟨j, xs, z3, by rw [hj2 j z]; exact z2⟩
    -- what a test or an element has done, said of the outer slots
    have back : ∀ {F5 H5 : Hp} {ρ5 : Rho}, Stp c σ2 F3 H' ρ2 F5 H5 ρ5 → SR c F5 H5 σ2 ρ5 → Stp c σ F1 H1 ρ1 F5 H5 (dwipe ρ5 vs) ∧ H5 A = some (.lst vacc) ∧ F5 A = none := fun {F5 H5 ρ5} st5 s5 => by
      have st' : Stp c σ F3 H' ρn F5 H5 (dwipe ρ5 vs) := ⟨st5.ff, fun p o z1 z2 z3 => st5.hh p o z1 z2 fun z => z3 (own2 p z), fun p z => by
        rcases st5.nn p z with z | z | z | z
        · exact .inl z
        · exact .inr (.inl z)
        · exact .inr (.inr (.inl (own2 p z)))
        · exact .inr (.inr (.inr z)), fun p z => own2 p (st5.oo p (ownB p z)), st5.tr⟩
      refine ⟨st3.trans st', st5.hh A _ (kn_of hA3) nS fun z => nOn (own2 A z), ?_⟩
      cases q : F5 A with
      | none => rfl
      | some o =>
        rcases st5.nn A (by rw [q]; simp) with z | z | z | z
        · exact absurd fA3 z
        · exact (z.no hA3 (fun _ y => by cases y) (fun _ y => by cases y)).elim
        · exact absurd (own2 A z) nOn
        · exact absurd z nS
    refine ⟨wipe_wiped hs (l4.trans (wipe_length σ vs)) (fun j hj => (f4 j hj).1), F3, ρ2, (fun b ρ3 => if b = true then te ρ3 fun r ρ4 => acc.length < sizeLine ∧ dLcL g tt te vs QD (ds.drop (i + 1)) (acc ++ [fz r]) (dwipe ρ4 vs) else dLcL g tt te vs QD (ds.drop (i + 1)) acc (dwipe ρ3 vs)), s4, q4, fun b H5 F5 ρ5 s5 st5 q5 => ?_⟩
    cases b with
    | false =>
      rw [if_neg Bool.false_ne_true] at q5 ⊢
      obtain ⟨a1, a2, a3⟩ := back st5 s5
      exact ⟨F5, dwipe ρ5 vs, acc, vacc, s5.unwiped l2 hj2, dwipe_wp _ _, a1, a2, a3, Reps.mono (pe.ff.trans st5.ff) rn, q5⟩
    | true =>
      rw [if_pos rfl] at q5 ⊢
      refine ⟨F5, ρ5, (fun d ρ4 => acc.length < sizeLine ∧ dLcL g tt te vs QD (ds.drop (i + 1)) (acc ++ [d]) (dwipe ρ4 vs)), s5, q5, fun y H6 F6 ρ6 d s6 st6 ry q6 => ?_⟩
      obtain ⟨q6a, q6⟩ := q6
      obtain ⟨a1, a2, a3⟩ := back (st5.trans st6) s6
      have s7 := s6.unwiped l2 hj2
      have nO6 : ¬ Own σ (dwipe ρ6 vs) A := fun z => nO (a1.oo A z)
      have rn6 : Reps c.K c.S F6 vacc acc := Reps.mono (pe.ff.trans (st5.ff.trans st6.ff)) rn
      refine ⟨vacc, a2, by rw [rn6.length]; exact q6a, F6, dwipe ρ6 vs, acc ++ [d], vacc ++ [y], ?_, dwipe_wp _ _, ⟨a1.ff, fun p o z1 z2 z3 => ?_, a1.nn, a1.oo, fun p z => ?_⟩, upd_same, a3, rn6.snoc ry, q6⟩
      · refine ⟨fun q o z => ?_, s7.f0, fun q o z1 z2 => ?_, s7.n0, s7.src.upd nS a2, s7.srcF, s7.len, s7.sl, fun j xs z => ?_, s7.dis⟩
        · exact kn_of (by rw [upd_ne (ne_of_none z a3)]; exact s7.sub q o z) (kn_nt (s7.sub' q o z))
        · rw [upd_ne (ne_of_none z1 cH0)]; exact s7.h0 q o z1 z2
        · obtain ⟨q, us, a, b, d, f, g, k⟩ := s7.ow j xs z
          have hq : q ≠ A := fun e => nO6 ⟨j, xs, z, by rw [a, e]⟩
          exact ⟨q, us, a, by rw [upd_ne hq]; exact b, d, f, g, k⟩
      · rw [upd_ne (ne_of_none z1 (kn_none hA))]; exact a1.hh p o z1 z2 z3
      · by_cases hq : p = A
        · rw [hq, kn_of upd_same]; simp
        · rw [kn_same (upd_ne hq)]; exact a1.tr p z
  · have e : i = ds.length := by omega
    subst e
    rw [List.drop_length] at qn
    have nOn : ¬ Own σ ρn A := fun z => nO (stn.oo A z)
    exact .inl ⟨w.stop Fn Hn _ stn.ff sn.sub (Nat.le_refl _), k (.ref A) Hn Fn ρn (.own acc) sn (st1.trans stn) ⟨A, _, rfl, hAn, fAn, .lst rn, nS, nOn, cH0⟩ (New.back st1 s1 (r := .own acc) ⟨A, rfl, kn_none hA⟩) qn⟩
theorem de_lc {ifs : List Expr} {scope : Scope} {own : List (Str × Nat)} (hc : X.calm = true) (hN : X.N.Nodup) (hi : PI X tg iter (liftI c ti)) (ok : BlkOk X.N X.env.scope scope own) (hsub : ∀ i ∈ is, i ∈ own.map (·.2))
    (hg : ∀ (s : Shared) (H : Hp) (C : Addr) (cl : List (Str × Addr)) (fp : List Addr), PG (X.blk s H scope (compEnvC scope cl C X.env) fp) tg (liftG c is g)) (ht : ∀ (s : Shared) (H : Hp) (C : Addr) (cl : List (Str × Addr)) (fp : List Addr), PTs (X.blk s H scope (compEnvC scope cl C X.env) fp) ifs (liftT c tt))
    (he : ∀ (s : Shared) (H : Hp) (C : Addr) (cl : List (Str × Addr)) (fp : List Addr), PE (X.blk s H scope (compEnvC scope cl C X.env) fp) elt (liftE c te)) (hs : ∀ x, foldedSetIterable iter X.env x = pure x := by intro _; rfl) :
    PE X (.ListComp elt [⟨tg, iter, ifs, 0⟩] scope pos) (liftE c (dLc ti g tt te (own.map (·.2)))) :=
  PE_imp (pe_lc hc hN hi ok hg ht (fun s H C cl fp => froze (he s H C cl fp)) hs) fun σ H Q h => lc_lift hsub h
theorem ds_setLc {i : Nat} {y : Str} {py spos : Pos} {ifs : List Expr} {scope : Scope} {own : List (Str × Nat)} (hc : X.calm = true) (hN : X.N.Nodup) (hy : X.N[i]? = some y) (hyl : X.env.scope.names.lookup y = some .local)
    (hsw : swapsWith (.ListComp elt [⟨tg, iter, ifs, 0⟩] scope pos) (some (.Name y py)) spos.line X.env = pure true) (hi : PI X tg iter (liftI c ti)) (ok : BlkOk X.N X.env.scope scope own) (hsub : ∀ i ∈ is, i ∈ own.map (·.2))
    (hg : ∀ (s : Shared) (H : Hp) (C : Addr) (cl : List (Str × Addr)) (fp : List Addr), PG (X.blk s H scope (compEnvC scope cl C X.env) fp) tg (liftG c is g)) (ht : ∀ (s : Shared) (H : Hp) (C : Addr) (cl : List (Str × Addr)) (fp : List Addr), PTs (X.blk s H scope (compEnvC scope cl C X.env) fp) ifs (liftT c tt))
    (he : ∀ (s : Shared) (H : Hp) (C : Addr) (cl : List (Str × Addr)) (fp : List Addr), PE (X.blk s H scope (compEnvC scope cl C X.env) fp) elt (liftE c te)) (hs : ∀ x, foldedSetIterable iter X.env x = pure x := by intro _; rfl) :
    PS X (.Assign [.Name y py] (.ListComp elt [⟨tg, iter, ifs, 0⟩] scope pos) spos) (liftS c (dSet i (dLc ti g tt te (own.map (·.2))))) :=
  PS_imp (ps_setLc hc hN hy hyl hsw hi ok hg ht (fun s H C cl fp => froze (he s H C cl fp)) hs) fun D σ H ⟨F, ρ, DD, s, h, k⟩ =>
    lc_lift hsub ⟨F, ρ, (fun r ρ1 => DD.nx (ρ1.set i (toSl r))), s, h, fun v H1 F1 ρ1 r s1 st1 rr nw q => k.nx _ H1 F1 _ st1.ff (s1.store rr) q⟩
end
end L2.DL
set_option Elab.async false
set_option linter.all false
set_option autoImplicit false
set_option maxRecDepth 100000
set_option maxHeartbeats 1000000
namespace L2.DL
open PySem PySem.Spec PyProof.Rows
abbrev DX := Addr → List (Str × D) → Prop
abbrev DSp := List D → (Res → Prop) → DX → Prop
structure Post (S : Src) (F H F' H' : Hp) : Prop where
  sub' : Le F' (kn H')
  ff : Le F F'
  hh : ∀ p o, kn H p = some o → ¬ inS S p → H' p = some o
  nn : ∀ p, F' p ≠ none → F p ≠ none ∨ TF H p
  src : SrcOk S H'
  srcF : ∀ p, inS S p → F' p = none
theorem Post.sub {S : Src} {F H F' H' : Hp} (e : Post S F H F' H') : Le F' H' := fun p o z => kn_some (e.sub' p o z)
/-- an exception's fields -/
def XRep (K : PySem.W.Frag) (S : Src) (F' H' : Hp) (od : Option Addr) (fds : List (Str × D)) : Prop :=
  (od = none ∧ fds = []) ∨ ∃ dx fs, od = some dx ∧ H' dx = some (.xd fs) ∧ fs.map (·.1) = fds.map (·.1) ∧ Reps K S F' (fs.map (·.2)) (fds.map (·.2))
/-- a result, as who calls sees it -/
def RR1 (K : PySem.W.Frag) (S : Src) (F' H H' : Hp) (v : V) : Res → Prop
  | .v d => Rep K S F' v d
  | .ow xs => ∃ p vs, v = .ref p ∧ kn H p = none ∧ H' p = some vs ∧ F' p = none ∧ HRep K S F' p vs xs
def spD (K : PySem.W.Frag) (sp : DSp) : Sp := fun vs H Q E => ∃ S F ds QD XD, Le F (kn H) ∧ SrcOk S H ∧ (∀ p, inS S p → F p = none) ∧ Reps K S F vs ds ∧ sp ds QD XD ∧
  (∀ v H' F' r, Post S F H F' H' → RR1 K S F' H H' v r → QD r → Q v H') ∧
  (∀ C od fds H' F', Post S F H F' H' → XRep K S F' H' od fds → XD C fds → E (.ref C) od H')
section
variable {c : C} {σ : St} {F H F' H' : Hp} {ρ : Rho}
theorem SR.post (s : SR c F H σ ρ) : Post c.S c.F0 c.H0 F H := ⟨s.sub', s.f0, s.h0, s.n0, s.src, s.srcF⟩
theorem Post.trans {S : Src} {F H F' H' F'' H'' : Hp} (a : Post S F H F' H') (b : Post S F' H' F'' H'') : Post S F H F'' H'' where
  sub' := b.sub'
  ff := a.ff.trans b.ff
  hh := fun p o z1 z2 => b.hh p o (kn_of (a.hh p o z1 z2) (kn_nt z1)) z2
  nn := fun p z => by
    rcases b.nn p z with y | y
    · exact a.nn p y
    · cases e : kn H p with
      | none => exact .inr (.inl e)
      | some o =>
        by_cases hs : inS S p
        · exact absurd (b.srcF p hs) z
        · rcases y with y | ⟨vs, y⟩
          · rw [kn_of (a.hh p o e hs) (kn_nt e)] at y
            cases y
          · rw [a.hh p o e hs] at y
            cases y
            exact .inr (.inr ⟨vs, kn_some e⟩)
  src := b.src
  srcF := b.srcF
theorem Post.sr (e : Post c.S F H F' H') (s : SR c F H σ ρ) : SR c F' H' σ ρ where
  sub' := e.sub'
  f0 := s.f0.trans e.ff
  h0 := fun p o h1 h2 => e.hh p o (kn_of (s.h0 p o h1 h2) (kn_nt h1)) h2
  n0 := fun p h => by
    rcases e.nn p h with z | z
    · exact s.n0 p z
    · refine .inr ?_
      cases q : kn c.H0 p with
      | none => exact .inl q
      | some o =>
        by_cases hs : inS c.S p
        · exact absurd (e.srcF p hs) h
        · rcases z with z | ⟨vs, z⟩
          · rw [kn_of (s.h0 p o q hs) (kn_nt q)] at z
            cases z
          · rw [s.h0 p o q hs] at z
            cases z
            exact .inr ⟨vs, kn_some q⟩
  src := e.src
  srcF := e.srcF
  len := s.len
  sl := fun i d h => let ⟨v, a, b⟩ := s.sl i d h; ⟨v, a, b.mono e.ff⟩
  ow := fun i xs h => by
    obtain ⟨p, vs, a, b, d, f, g, k⟩ := s.ow i xs h
    refine ⟨p, vs, a, e.hh _ _ (kn_of b f.plain.1) k, ?_, HRep.mono e.ff f, g, k⟩
    cases q : F' p with
    | none => rfl
    | some o =>
      rcases e.nn p (by rw [q]; simp) with z | z
      · exact absurd d z
      · exact (z.no b f.plain.1 f.notup).elim
  dis := s.dis
theorem Post.stp (s : SR c F H σ ρ) (e : Post c.S F H F' H') : Stp c σ F H ρ F' H' ρ := ⟨e.ff, fun p o h z _ => e.hh p o h z, fun p h => (e.nn p h).elim .inl fun z => .inr (.inl z), fun _ h => h, fun p h => by
  by_cases hs : inS c.S p
  · exact e.src.kn_there s.src hs h
  · cases q : kn H p with
    | none => exact absurd q h
    | some o => rw [kn_of (e.hh p o q hs) (kn_nt q)]; simp⟩
end
/-- where what is raised in the body goes -/
def Lnk (X : Cx) (c : C) (XD : DX) : Prop := ∃ W : WX, Takes X W ∧ ∀ C od fds F H σ, Post c.S c.F0 c.H0 F H → XRep c.K c.S F H od fds → XD C fds → W (.ref C) od σ H
def XNo : DX := fun _ _ => False
theorem lnk_blk {X : Cx} {c : C} {s : Shared} {H : Hp} {scope : Scope} {cenv : Env} {fp : List Addr} : Lnk (X.blk s H scope cenv fp) c XNo := ⟨fun _ _ _ _ => False, takes0, fun _ _ _ _ _ _ _ _ z => z⟩
structure FnG (P : Program) (w : World) (K : PySem.W.Frag) (mg : Str → Option Value) (base : Heap) (k : Nat) (f : Addr) (fd : FuncData) (ps : List Str) (sp : Sp) : Prop where
  len : ∀ vs H Q E, sp vs H Q E → vs.length = ps.length
  run : ∀ (A : Around) (outer : List Env) (s : Shared) (H : Hp) (args : Args) (us : List Value) (vs : List V) (Q : VK) (E : XK), A.guards = some [] → Room k A → Env0 P w K mg base A outer s H → BindsTo s fd args (ps.zip us) → Vals vs us →
    sp vs H Q E → codeAny (model P w) A (.call (.ref f) args) (CR (L2.CX P w) outer P w H s Q E) s
theorem FnG.mono {P : Program} {w : World} {K : PySem.W.Frag} {mg : Str → Option Value} {base : Heap} {j k : Nat} {f : Addr} {fd : FuncData} {ps : List Str} {sp : Sp} (F : FnG P w K mg base j f fd ps sp) (h : j ≤ k) : FnG P w K mg base k f fd ps sp :=
  ⟨F.len, fun A o s H a us vs Q E g r => F.run A o s H a us vs Q E g (r.mono h)⟩
section
variable {X : Cx} {k : Nat} {f C : Addr} {fd : FuncData} {ps : List Str} {sp : Sp} {E : XK} {pins : List (Addr × Obj)} {σ : L2.St} {H : Hp} {s : Shared} {Q : VK} {us : List Value} {vs : List V}
theorem runG (F : FnG X.prog X.w X.K X.mg X.base k f fd ps sp) (hgd : X.A.guards = some []) (hr : Room k X.A) (hb : Binds X.K fd ps []) (hx : Passes (L2.CX X.prog X.w) X E) (I : Inv X pins σ H s) (r : Vals vs us) (h : sp vs H Q E) :
    wpAny (model X.prog X.w) X.A (call (.ref f) us) (EP X pins σ Q) X.xe s := by
  have hl : us.length = ps.length := r.length.symm.trans (F.len _ _ _ _ h)
  have bt := hb s us I.kIn (by rw [List.append_nil]; exact hl)
  rw [List.append_nil] at bt
  refine wpAny_call (codeAny_mono (F.run X.A X.stack s H ⟨us, []⟩ us vs Q E hgd hr I.env0 bt r h) fun res s' => ?_)
  match res with
  | .error e => exact fun z => hx pins σ H s e s' I z
  | .ok (.ret u) => exact fun z => I.after z
  | .ok .next => exact fun z => z.elim
  | .ok .brk => exact fun z => z.elim
  | .ok .cont => exact fun z => z.elim
theorem runMk (M : Mk X.K C f) (F : FnG X.prog X.w X.K X.mg X.base k f fd ps sp) (hgd : X.A.guards = some []) (hr : Room (k + 1) X.A) (hb : Binds X.K fd ps []) (hx : Passes (L2.CX X.prog X.w) X E) (I : Inv X pins σ H s) (r : Vals vs us)
    (h : ∀ y dx, H y = none → H dx = none → dx ≠ y → sp (.ref y :: vs) (upd (upd H dx (.own y)) y (.ins C dx [])) (fun v H2 => v = .non ∧ Q (.ref y) H2) E) :
    wpAny (model X.prog X.w) X.A (call (.ref C) us) (EP X pins σ Q) X.xe s := by
  generalize hn : s.heap.objs.size = n
  have f1 : H n = none := I.hok.fresh (Nat.le_of_eq hn)
  have f2 : H (n + 1) = none := I.hok.fresh (by rw [hn]; exact Nat.le_succ n)
  have q := h (n + 1) n f2 f1 (Nat.ne_of_lt (Nat.lt_succ_self n))
  have J := Inv.made (C := C) I
  rw [hn] at J
  have r2 : Vals (V.ref (n + 1) :: vs) (Value.ref (n + 1) :: us) := .cons rfl r
  have hl := r2.length.symm.trans (F.len _ _ _ _ q)
  have bt := hb _ (Value.ref (n + 1) :: us) J.kIn (by rw [List.append_nil]; exact hl)
  rw [List.append_nil] at bt
  have gm : (X.A.under (.builtin "type.__call__" ⟨.ref C :: us, []⟩)).guards = some [] := by
    simp [Around.under, hgd, pushGuards, Code.guards, Code.isGuard, guardIds]
  have body := F.run _ X.stack _ _ ⟨Value.ref (n + 1) :: us, []⟩ (Value.ref (n + 1) :: us) _ _ E gm (hr.make C us []) (J.env0.make C us []) bt r2 q
  refine wpAny_call (make_map (f := f) I.kIn M.makes M.init (beq_iff_eq.mp M.fn) ?_)
  rw [hn]
  refine codeAny_mono body fun res s' => ?_
  match res with
  | .error e => exact fun z => hx pins σ _ _ e s' J z
  | .ok (.ret u) =>
    intro z
    obtain ⟨v, H', J', rv, ev, q3⟩ := J.after z
    subst ev
    exact ⟨rv, ⟨V.ref (n + 1), H', J', rfl, q3⟩⟩
  | .ok .next => exact fun z => z.elim
  | .ok .brk => exact fun z => z.elim
  | .ok .cont => exact fun z => z.elim
end
/-- a def of the text as callers see it -/
structure Callee (P : Program) (w : World) (K : PySem.W.Frag) (mg : Str → Option Value) (base : Heap) (k : Nat) (x : Str) (sp : DSp) : Prop where
  ex : ∃ (f : Addr) (fd : FuncData) (ps : List Str), FnG P w K mg base k f fd ps (spD K sp) ∧ mg x = some (.ref f) ∧ PySem.W.keepIn K (.ref f) = true ∧ Binds K fd ps []
theorem Callee.mono {P : Program} {w : World} {K : PySem.W.Frag} {mg : Str → Option Value} {base : Heap} {j k : Nat} {x : Str} {sp : DSp} (G : Callee P w K mg base j x sp) (h : j ≤ k) : Callee P w K mg base k x sp :=
  let ⟨f, fd, ps, a, b⟩ := G.ex
  ⟨f, fd, ps, a.mono h, b⟩
def dCall (sp : DSp) (XD : DX) (t : DTA) : DTE := fun ρ Q => t ρ fun ds ρ1 => sp ds (fun r => Q r ρ1) XD
/-- a method -/
structure CalleeM (P : Program) (w : World) (K : PySem.W.Frag) (mg : Str → Option Value) (base : Heap) (k : Nat) (C : Addr) (m : Str) (sp : DSp) : Prop where
  cl : Cls K C
  ex : ∃ (f : Addr) (fd : FuncData) (ps : List Str), Meth K C m f ∧ FnG P w K mg base k f fd ps (spD K sp) ∧ Binds K fd ps []
theorem CalleeM.mono {P : Program} {w : World} {K : PySem.W.Frag} {mg : Str → Option Value} {base : Heap} {j k : Nat} {C : Addr} {x : Str} {sp : DSp} (G : CalleeM P w K mg base j C x sp) (h : j ≤ k) : CalleeM P w K mg base k C x sp :=
  let ⟨f, fd, ps, a, b, d⟩ := G.ex
  ⟨G.cl, f, fd, ps, a, b.mono h, d⟩
def dMeth (C : Addr) (m : Str) (sp : DSp) (XD : DX) (te : DTE) (t : DTA) : DTE := fun ρ Q => te ρ fun r ρ1 => ∃ fs, fz r = .ins C fs ∧ fs.lookup m = none ∧ t ρ1 fun ds ρ2 => sp (.ins C fs :: ds) (fun r => Q r ρ2) XD
/-- a class, as who makes its instances sees it: the promise of C(..) -/
structure CalleeC (P : Program) (w : World) (K : PySem.W.Frag) (mg : Str → Option Value) (base : Heap) (k : Nat) (x : Str) (sp : DSp) : Prop where
  ex : ∃ (C f : Addr) (fd : FuncData) (ps : List Str) (spI : Sp), Mk K C f ∧ FnG P w K mg base k f fd ps spI ∧ mg x = some (.ref C) ∧ Binds K fd ps [] ∧
    ∀ vs H Q E, spD K sp vs H Q E → ∀ y dx, H y = none → H dx = none → dx ≠ y → spI (.ref y :: vs) (upd (upd H dx (.own y)) y (.ins C dx [])) (fun v H2 => v = .non ∧ Q (.ref y) H2) E
theorem lookup_none {α β : Type} {f : Str} : ∀ {fs : List (Str × α)} {gs : List (Str × β)}, fs.map (·.1) = gs.map (·.1) → gs.lookup f = none → fs.lookup f = none
  | [], [], _, _ => rfl
  | [], _ :: _, h, _ => by simp at h
  | _ :: _, [], h, _ => by simp at h
  | (a, x) :: fs, (b, y) :: gs, h, e => by
    simp only [List.map_cons, List.cons.injEq] at h
    obtain ⟨h1, h2⟩ := h
    subst h1
    rw [List.lookup_cons] at e ⊢
    split
    · rename_i hb
      rw [hb] at e
      cases e
    · rename_i hb
      rw [hb] at e
      exact lookup_none h2 e
theorem lookup_some {K : PySem.W.Frag} {S : Src} {F : Hp} {f : Str} {d : D} : ∀ {fs : List (Str × V)} {gs : List (Str × D)}, fs.map (·.1) = gs.map (·.1) → Reps K S F (fs.map (·.2)) (gs.map (·.2)) → gs.lookup f = some d → ∃ v, fs.lookup f = some v ∧ Rep K S F v d
  | [], [], _, _, h => by simp at h
  | [], _ :: _, h, _, _ => by simp at h
  | _ :: _, [], h, _, _ => by simp at h
  | (a, x) :: fs, (b, y) :: gs, h, r, e => by
    simp only [List.map_cons, List.cons.injEq] at h
    obtain ⟨h1, h2⟩ := h
    subst h1
    cases r with
    | cons r1 r2 =>
      rw [List.lookup_cons] at e ⊢
      split
      · rename_i hb
        rw [hb] at e
        cases e
        exact ⟨x, rfl, r1⟩
      · rename_i hb
        rw [hb] at e
        exact lookup_some h2 r2 e
section
variable {c : C} {X : Cx} {pos : Pos} {k : Nat} {x m : Str} {p apos : Pos} {e o : Expr} {es : List Expr} {te : DTE} {t : DTA} {sp : DSp} {XD : DX}
theorem RR1.rr {F H F' H' : Hp} {σ : St} {ρ : Rho} {v : V} {r : Res} (h : RR1 c.K c.S F' H H' v r) (s : SR c F H σ ρ) (pe : Post c.S F H F' H') : RR c σ F' H' ρ v r ∧ New σ H ρ v r := by
  cases r with
  | v d => exact ⟨h, trivial⟩
  | ow xs =>
    obtain ⟨p, vs, e, a, b, d, f⟩ := h
    have nS : ¬ inS c.S p := fun hs => by
      rcases hs with ⟨a1, q, z, hp⟩ | ⟨q, z⟩
      · obtain ⟨l, m, t, cs, h1, h2, _⟩ := s.src.ok a1 q z
        rcases hp with hp | hp
        · rw [hp, kn_of h1] at a; cases a
        · rw [hp, kn_of h2] at a; cases a
      · obtain ⟨ps, h1, _⟩ := pe.src.tab p q z
        rw [h1] at b
        cases b
        exact f.plain.1 _ rfl
    have nO : ¬ Own σ ρ p := fun ⟨i, ys, z1, z2⟩ => by
      obtain ⟨q, us, w1, w2, _, w3, _⟩ := s.ow i ys z1
      rw [z2] at w1
      cases w1
      rw [kn_of w2 w3.plain.1] at a
      cases a
    refine ⟨⟨p, vs, e, b, d, f, nS, nO, ?_⟩, ⟨p, e, a⟩⟩
    cases q : kn c.H0 p with
    | none => rfl
    | some o => rw [kn_of (s.h0 p o q nS) (kn_nt q)] at a; cases a
/-- the end of a call: from spD's wish to what follows -/
theorem call_done {σ : St} {F H F1 H1 : Hp} {ρ ρ1 : Rho} {Q : VK} {QD : DQ} (s1 : SR c F1 H1 σ ρ1) (st1 : Stp c σ F H ρ F1 H1 ρ1) (k : ∀ v H' F' ρ' r, SR c F' H' σ ρ' → Stp c σ F H ρ F' H' ρ' → RR c σ F' H' ρ' v r → New σ H ρ v r → QD r ρ' → Q v H') :
    ∀ v H' F' r, Post c.S F1 H1 F' H' → RR1 c.K c.S F' H1 H' v r → QD r ρ1 → Q v H' := fun v H' F' r pe rr q => by
  obtain ⟨r1, n1⟩ := rr.rr s1 pe
  refine k v H' F' ρ1 r (pe.sr s1) (st1.trans (pe.stp s1)) ?_ (New.back st1 s1 n1) q
  cases r with
  | v d => exact rr
  | ow xs => exact r1
theorem de_call (G : Callee X.prog X.w X.K X.mg X.base k x sp) (hK : X.K = c.K) (hgd : X.A.guards = some []) (hr : Room k X.A) (hg : Gl X x) (lk : Lnk X c XD) (ha : PA X (e :: es) (liftA c t)) (hdb : (x == ("__debug__" : Str)) = false := by decide)
    (he : starEach (e :: es) X.env = (false, eval e X.env) :: starEach es X.env := by rfl) (hpl : (backTo pos (starEach es X.env)).any (·.1) = false := by rfl) : PE X (.Call (.Name x p) (e :: es) [] pos) (liftE c (dCall sp XD t)) := by
  obtain ⟨f, fd, ps, F, hm, hk, hb⟩ := G.ex
  obtain ⟨W, tk, hW⟩ := lk
  refine ⟨fun pins s σ H Q I ⟨F0, ρ, QD, sr, h, kk⟩ => wpAny_Call_Name_kw (ld_glob I hg hm ?_ hdb)⟩
  have arg := ha.run pos pins s σ H (fun vs H1 => spD X.K sp vs H1 Q fun cls d H => ∀ σ, W cls d σ H) I ⟨F0, ρ, _, sr, h, fun vs H1 F1 ρ1 ds s1 st1 rv q => by
    rw [hK]
    exact ⟨c.S, F1, ds, _, _, s1.sub', s1.src, s1.srcF, rv, q, call_done s1 st1 kk, fun C od fds H' F' pe xr xd σ' => hW C od fds F' H' σ' (pe.sr s1).post xr xd⟩⟩
  exact PySem.W.callWith_K (h₀ := X.base) I.ok.mod.kin hk (thn arg fun us s1 ⟨vs, H1, I1, r, q⟩ => ⟨I1.kIn, runG F hgd hr hb (passes_call tk fun cls d σ H z => z σ) I1 r q⟩) he hpl
theorem de_make (G : CalleeC X.prog X.w X.K X.mg X.base k x sp) (hK : X.K = c.K) (hgd : X.A.guards = some []) (hr : Room (k + 1) X.A) (hg : Gl X x) (lk : Lnk X c XD) (ha : PA X (e :: es) (liftA c t)) (hdb : (x == ("__debug__" : Str)) = false := by decide)
    (he : starEach (e :: es) X.env = (false, eval e X.env) :: starEach es X.env := by rfl) (hpl : (backTo pos (starEach es X.env)).any (·.1) = false := by rfl) : PE X (.Call (.Name x p) (e :: es) [] pos) (liftE c (dCall sp XD t)) := by
  obtain ⟨C, f, fd, ps, spI, M, F, hm, hb, hI⟩ := G.ex
  obtain ⟨W, tk, hW⟩ := lk
  refine ⟨fun pins s σ H Q I ⟨F0, ρ, QD, sr, h, kk⟩ => wpAny_Call_Name_kw (ld_glob I hg hm ?_ hdb)⟩
  have arg := ha.run pos pins s σ H (fun vs H1 => spD X.K sp vs H1 Q fun cls d H => ∀ σ, W cls d σ H) I ⟨F0, ρ, _, sr, h, fun vs H1 F1 ρ1 ds s1 st1 rv q => by
    rw [hK]
    exact ⟨c.S, F1, ds, _, _, s1.sub', s1.src, s1.srcF, rv, q, call_done s1 st1 kk, fun C od fds H' F' pe xr xd σ' => hW C od fds F' H' σ' (pe.sr s1).post xr xd⟩⟩
  exact PySem.W.callWith_K (h₀ := X.base) I.ok.mod.kin M.kp (thn arg fun us s1 ⟨vs, H1, I1, r, q⟩ => ⟨I1.kIn, runMk M F hgd hr hb (passes_call tk fun cls d σ H z => z σ) I1 r (hI vs H1 Q _ q)⟩) he hpl
theorem de_meth {C : Addr} {pl : Sem Bool} (ho : PE X o (liftE c te)) (G : CalleeM X.prog X.w X.K X.mg X.base k C m sp) (hK : X.K = c.K) (hgd : X.A.guards = some []) (hr : Room k X.A) (lk : Lnk X c XD) (ha : PA X (e :: es) (liftA c t))
    (hst : starEach (e :: es) X.env = (false, eval e X.env) :: starEach es X.env := by rfl) (hpl : (backTo pos (starEach es X.env)).any (·.1) = false := by rfl)
    (ht : eval (.Call (.Attribute o m apos) (e :: es) [] pos) X.env = (do let ov ← eval o X.env; standAt apos.atName; let (f, first) ← holding [ov] (getMethod ov m pl); callWith pos f first (backTo pos (starEach (e :: es) X.env)) (backToKw pos (keywordEach [] X.env))) := by rfl) :
    PE X (.Call (.Attribute o m apos) (e :: es) [] pos) (liftE c (dMeth C m sp XD te t)) := by
  obtain ⟨f, fd, ps, hm, F, hb⟩ := G.ex
  obtain ⟨W, tk, hW⟩ := lk
  refine ⟨fun pins s σ H Q I ⟨F0, ρ, QD, sr, h, kk⟩ => PySem.W.methodCall_KW (pl := pl) ?_ ht⟩
  refine thn ((froze ho).run pins s σ H (fun v H1 => ∃ a dx fs, v = .ref a ∧ H1 a = some (.ins C dx fs) ∧ fs.lookup m = none ∧ liftA c t σ H1 fun vs H2 => spD X.K sp (.ref a :: vs) H2 Q fun cls d H => ∀ σ, W cls d σ H) I
    ⟨F0, ρ, (fun d ρ1 => ∃ fs, d = .ins C fs ∧ fs.lookup m = none ∧ t ρ1 fun ds ρ2 => sp (.ins C fs :: ds) (fun r => QD r ρ2) XD), sr, h, fun v H1 F1 ρ1 d s1 st1 rv q => ?_⟩) fun u s1 ⟨x, H1, I1, rx, a, dx, fs, ex, ea, l, q⟩ => ?_
  · obtain ⟨fds, e, hl, q⟩ := q
    subst e
    cases rv with
    | ins h1 h2 h3 =>
      rename_i a dx fs
      refine ⟨a, dx, fs, rfl, s1.sub _ _ h1, lookup_none h2 hl, F1, ρ1, _, s1, q, fun vs H2 F2 ρ2 ds s2 st2 rvs q => ?_⟩
      rw [hK]
      exact ⟨c.S, F2, .ins C fds :: ds, _, _, s2.sub', s2.src, s2.srcF, .cons (.ins (st2.ff _ _ h1) h2 (Reps.mono st2.ff h3)) rvs, q, call_done s2 (st1.trans st2) kk, fun C od fds H' F' pe xr xd σ' => hW C od fds F' H' σ' (pe.sr s2).post xr xd⟩
  · subst ex
    obtain rfl : u = Value.ref a := rx
    refine getmeth_ok I1 ea G.cl hm l (PySem.W.callWith_K (first := [.ref a]) (h₀ := X.base) I.ok.mod.kin hm.kp (thn (ha.run pos pins s1 σ H1 _ I1 q) fun us s2 ⟨vs, H2, I2, r, q2⟩ => ⟨I2.kIn, ?_⟩) hst hpl)
    exact runG (us := .ref a :: us) (vs := .ref a :: vs) F hgd hr hb (passes_call tk fun cls d σ H z => z σ) I2 (.cons rfl r) q2
theorem de_meth0 {C : Addr} {pl : Sem Bool} (ho : PE X o (liftE c te)) (G : CalleeM X.prog X.w X.K X.mg X.base k C m sp) (hK : X.K = c.K) (hgd : X.A.guards = some []) (hr : Room k X.A) (lk : Lnk X c XD)
    (ht : eval (.Call (.Attribute o m apos) [] [] pos) X.env = (do let ov ← eval o X.env; standAt apos.atName; let (f, first) ← holding [ov] (getMethod ov m pl); callWith pos f first (backTo pos (starEach [] X.env)) (backToKw pos (keywordEach [] X.env))) := by rfl) :
    PE X (.Call (.Attribute o m apos) [] [] pos) (liftE c (dMeth C m sp XD te dNil)) := by
  obtain ⟨f, fd, ps, hm, F, hb⟩ := G.ex
  obtain ⟨W, tk, hW⟩ := lk
  refine ⟨fun pins s σ H Q I ⟨F0, ρ, QD, sr, h, kk⟩ => PySem.W.methodCall_KW (pl := pl) ?_ ht⟩
  refine thn ((froze ho).run pins s σ H (fun v H1 => ∃ a dx fs, v = .ref a ∧ H1 a = some (.ins C dx fs) ∧ fs.lookup m = none ∧ spD X.K sp [.ref a] H1 Q fun cls d H => ∀ σ, W cls d σ H) I
    ⟨F0, ρ, (fun d ρ1 => ∃ fs, d = .ins C fs ∧ fs.lookup m = none ∧ sp [.ins C fs] (fun r => QD r ρ1) XD), sr, h, fun v H1 F1 ρ1 d s1 st1 rv q => ?_⟩) fun u s1 ⟨x, H1, I1, rx, a, dx, fs, ex, ea, l, q⟩ => ?_
  · obtain ⟨fds, e, hl, q⟩ := q
    subst e
    cases rv with
    | ins h1 h2 h3 =>
      rename_i a dx fs
      refine ⟨a, dx, fs, rfl, s1.sub _ _ h1, lookup_none h2 hl, ?_⟩
      rw [hK]
      exact ⟨c.S, F1, [.ins C fds], _, _, s1.sub', s1.src, s1.srcF, .cons (.ins h1 h2 h3) .nil, q, call_done s1 st1 kk, fun C od fds H' F' pe xr xd σ' => hW C od fds F' H' σ' (pe.sr s1).post xr xd⟩
  · subst ex
    obtain rfl : u = Value.ref a := rx
    exact getmeth_ok I1 ea G.cl hm l (PySem.W.callWith_K0 (first := [.ref a]) I1.kIn hm.kp (runG (us := [.ref a]) (vs := [.ref a]) F hgd hr hb (passes_call tk fun cls d σ H z => z σ) I1 (.cons rfl .nil) q))
/-- e.f of an instance -/
def dFld (C : Addr) (f : Str) (te : DTE) : DTE := fun ρ Q => te ρ fun r ρ1 => ∃ fs d, fz r = .ins C fs ∧ fs.lookup f = some d ∧ Q (.v d) ρ1
theorem de_fld {C : Addr} {f : Str} (cl : Cls c.K C) (na : NoAttr c.K C f) (hK : X.K = c.K) (ho : PE X o (liftE c te)) (h : PE X o (liftV c (frz te)) → PE X (.Attribute o f pos) (tFld X.K (liftV c (frz te)) f) := by intro z; exact pe_fld z rfl) :
    PE X (.Attribute o f pos) (liftE c (dFld C f te)) :=
  PE_imp (h (froze ho)) fun σ H Q ⟨F, ρ, QD, s, ht, k⟩ =>
    ⟨F, ρ, (fun d ρ1 => ∃ fs d', d = .ins C fs ∧ fs.lookup f = some d' ∧ QD (.v d') ρ1), s, ht, fun v H1 F1 ρ1 d s1 st1 rv q => by
      obtain ⟨fds, d', e, hl, q⟩ := q
      subst e
      cases rv with
      | ins h1 h2 h3 =>
        rename_i a dx fs
        obtain ⟨u, hu, ru⟩ := lookup_some h2 h3 hl
        exact ⟨a, C, dx, fs, u, rfl, s1.sub _ _ h1, by rw [hK]; exact cl, by rw [hK]; exact na, hu, k u H1 F1 ρ1 (.v d') s1 st1 ru trivial q⟩⟩
end
def startD (N : List Str) (ds : List D) : Rho := ds.map Sl.d ++ List.replicate (N.length - ds.length) Sl.un
theorem start_sr {c : C} {N : List Str} {vs : List V} {ds : List D} {F H : Hp} (s : Le F (kn H)) (src : SrcOk c.S H) (srcF : ∀ p, inS c.S p → F p = none) (r : Reps c.K c.S F vs ds) (e1 : c.F0 = F) (e2 : c.H0 = H) : SR c F H (start N vs) (startD N ds) where
  sub' := s
  f0 := by rw [e1]; exact Le.refl _
  h0 := fun p o z _ => by rw [← e2]; exact kn_some z
  n0 := fun p z => .inl (by rw [e1]; exact z)
  src := src
  srcF := srcF
  len := by
    unfold startD start
    rw [List.length_append, List.length_append, List.length_map, List.length_map, List.length_replicate, List.length_replicate, r.length]
  sl := fun i d h => by
    unfold startD at h
    by_cases hi : i < ds.length
    · rw [List.getElem?_append_left (by rw [List.length_map]; exact hi), List.getElem?_map] at h
      cases e : ds[i]? with
      | none => rw [e] at h; cases h
      | some d' =>
        rw [e] at h
        cases h
        obtain ⟨v, hv, rv⟩ := r.get e
        refine ⟨v, ?_, rv⟩
        unfold start
        rw [List.getElem?_append_left (by rw [List.length_map, r.length]; exact hi), List.getElem?_map, hv]
        rfl
    · rw [List.getElem?_append_right (by rw [List.length_map]; omega), List.getElem?_replicate] at h
      split at h <;> cases h
  ow := fun i xs h => by
    unfold startD at h
    by_cases hi : i < ds.length
    · rw [List.getElem?_append_left (by rw [List.length_map]; exact hi), List.getElem?_map] at h
      cases e : ds[i]? with
      | none => rw [e] at h; cases h
      | some d' => rw [e] at h; cases h
    · rw [List.getElem?_append_right (by rw [List.length_map]; omega), List.getElem?_replicate] at h
      split at h <;> cases h
  dis := fun i j xs ys h => by
    unfold startD at h
    by_cases hi : i < ds.length
    · rw [List.getElem?_append_left (by rw [List.length_map]; exact hi), List.getElem?_map] at h
      cases e : ds[i]? with
      | none => rw [e] at h; cases h
      | some d' => rw [e] at h; cases h
    · rw [List.getElem?_append_right (by rw [List.length_map]; omega), List.getElem?_replicate] at h
      split at h <;> cases h
section
variable {P : Program} {w : World} {K : PySem.W.Frag} {mg : Str → Option Value} {base : Heap}
/-- a def by its body, where no repr is under way -/
theorem okGc {x qual : Str} {st : Stmt} {f : Addr} {fd : FuncData} {N ps : List Str} {k : Nat} {sp : Sp} (F : Fun K x qual st f fd) (S : FnScope N ps (defScope st)) (len : ∀ vs H Q E, sp vs H Q E → vs.length = ps.length)
    (body : ∀ (cdv : Value) (A : Around) (outer : List Env) (s : Shared) (H : Hp) (vs : List V) (Q : VK) (E : XK), (A.deeper (envOfC qual (defScope st) s.heap.objs.size f cdv)).guards = some [] → Room k (A.deeper (envOfC qual (defScope st) s.heap.objs.size f cdv)) → sp vs H Q E → fd.code = cdv →
      ∃ t, PSs (cxOf (L2.CX P w) P w K mg base N qual (defScope st) f cdv A outer s H E) (defBody st) t ∧ t { nx := fun _ H' => Q .non H', rt := Q } (start N vs) H) : FnG P w K mg base (k + 1) f fd ps sp := by
  obtain ⟨oc, od, kV, doc, pm, an, cdv, ct, osl, rfl, lk, hcd⟩ := F.ex
  refine ⟨len, fun A outer s H args us vs Q E hg hr e0 hb r hsp => ?_⟩
  have here : ∀ {b : Addr} {o : Obj}, base.get? b = some o → s.heap.get? b = some o := fun {b o} z => (e0.bs b o z).1
  have KX : K.In s.heap := e0.mod.kin.keeps fun _ _ z => here z
  have par : ∀ y ∈ ps.zip us, (defScope st).names.lookup y.1 = some .local ∨ ((defScope st).names.lookup y.1 = some .cell ∧ ((cellsFrom (s.heap.objs.size + 1) (defScope st).names []).lookup y.1).isSome = true) := by
    rintro ⟨n, v⟩ hy
    have hn := S.par n (List.of_mem_zip hy).1
    exact hn.imp id fun q => ⟨q, PySem.W.cellsFrom_some _ _ _ (.inl q)⟩
  obtain ⟨t, ht, hq⟩ := body cdv A outer s H vs Q E hg (hr.deeper _) hsp rfl
  refine codeAny_call_function hr.depth (KX _ _ lk) rfl S.co S.gen rfl (PySem.W.codeRec_of KX hcd) (hb _ _ _ _ (wpAny_newFunctionEnv_cells S.kind par fun env he s1 x => ?_))
  subst he
  refine ⟨(e0.mod.nolimit.keeps fun _ _ z => here z).keeps x.toInCall.keep, codeAny_func ?_⟩
  have I : Inv (cxOf (L2.CX P w) P w K mg base N qual (defScope st) f cdv A outer s H E) [] (start N vs) H s1 := inv_start S hr.hd e0 (len _ _ _ _ hsp) r x
  refine wpAny_mono (ht.run [] s1 (start N vs) H _ I hq) (fun fl s' => ?_) fun _ _ z => z
  match fl with
  | .ret u => exact fun ⟨v, σ', H', J, rv, q⟩ => ⟨v, H', J.os, J.bare, J.base, J.hok, rv, q⟩
  | .next => exact fun ⟨σ', H', J, q⟩ => ⟨V.non, H', J.os, J.bare, J.base, J.hok, rfl, q⟩
  | .brk => exact fun ⟨_, _, _, q⟩ => q.elim
  | .cont => exact fun ⟨_, _, _, q⟩ => q.elim
/-- a def by its body, where no repr is under way -/
theorem okG {x qual : Str} {st : Stmt} {f : Addr} {fd : FuncData} {N ps : List Str} {k : Nat} {sp : Sp} (F : Fun K x qual st f fd) (S : FnScope N ps (defScope st)) (len : ∀ vs H Q E, sp vs H Q E → vs.length = ps.length)
    (body : ∀ (cdv : Value) (A : Around) (outer : List Env) (s : Shared) (H : Hp) (vs : List V) (Q : VK) (E : XK), (A.deeper (envOfC qual (defScope st) s.heap.objs.size f cdv)).guards = some [] → Room k (A.deeper (envOfC qual (defScope st) s.heap.objs.size f cdv)) → sp vs H Q E →
      ∃ t, PSs (cxOf (L2.CX P w) P w K mg base N qual (defScope st) f cdv A outer s H E) (defBody st) t ∧ t { nx := fun _ H' => Q .non H', rt := Q } (start N vs) H) : FnG P w K mg base (k + 1) f fd ps sp := okGc F S len fun cdv A outer s H vs Q E hg hr h _ => body cdv A outer s H vs Q E hg hr h
/-- from the body's reading over data to the def's promise -/
theorem fnD {x qual : Str} {st : Stmt} {f : Addr} {fd : FuncData} {N ps : List Str} {k : Nat} {sp : DSp} (F : Fun K x qual st f fd) (S : FnScope N ps (defScope st)) (len : ∀ ds QD XD, sp ds QD XD → ds.length = ps.length)
    (hbody : ∀ (cdv : Value) (A : Around) (outer : List Env) (s : Shared) (H : Hp) (E : XK) (c : C) (XD : DX), (A.deeper (envOfC qual (defScope st) s.heap.objs.size f cdv)).guards = some [] → Room k (A.deeper (envOfC qual (defScope st) s.heap.objs.size f cdv)) → c.K = K →
      PassesOwn (model P w) (A.deeper (envOfC qual (defScope st) s.heap.objs.size f cdv)) (cxOf (L2.CX P w) P w K mg base N qual (defScope st) f cdv A outer s H E).env (cxOf (L2.CX P w) P w K mg base N qual (defScope st) f cdv A outer s H E).xe →
      Lnk (cxOf (L2.CX P w) P w K mg base N qual (defScope st) f cdv A outer s H E) c XD →
      ∃ t, PSs (cxOf (L2.CX P w) P w K mg base N qual (defScope st) f cdv A outer s H E) (defBody st) (liftS c t) ∧ ∀ ds QD, sp ds QD XD → t { nx := fun _ => QD (.v .non), rt := QD } (startD N ds)) :
    FnG P w K mg base (k + 1) f fd ps (spD K sp) := by
  refine okG F S (fun vs H Q E ⟨S', F', ds, QD, XD, _, _, _, r, h, _⟩ => by rw [r.length]; exact len ds QD XD h) fun cdv A outer s H vs Q E hgd hr h => ?_
  obtain ⟨S', F', ds, QD, XD, sub, src, srcF, r, h, hq, hx⟩ := h
  have tk : Takes (cxOf (L2.CX P w) P w K mg base N qual (defScope st) f cdv A outer s H E) (fun cls d _ H => E cls d H) := takes_of rfl rfl rfl rfl
  obtain ⟨t, ht, q⟩ := hbody cdv A outer s H E ⟨K, S', F', H⟩ XD hgd hr rfl (passes_of rfl) ⟨_, tk, fun C od fds F2 H2 _ pe xr xd => hx C od fds H2 F2 pe xr xd⟩
  refine ⟨_, ht, F', startD N ds, _, start_sr sub src srcF r rfl rfl, q ds QD h, ?_⟩
  have rt : RtOk ⟨K, S', F', H⟩ F' { nx := fun _ H' => Q .non H', rt := Q } { nx := fun _ => QD (.v .non), rt := QD } := fun σ v H2 F2 ρ r2 l2 s2 rr q2 => by
    refine hq v H2 F2 r2 s2.post ?_ q2
    cases r2 with
    | v d => exact rr
    | ow xs =>
      obtain ⟨p, vs, e, a, b, d, f, g, k⟩ := rr
      exact ⟨p, vs, e, k, a, b, d⟩
  exact ⟨fun σ H2 F2 ρ l2 s2 q2 => rt σ .non H2 F2 ρ (.v .non) l2 s2 .non q2, rt, fun _ _ _ _ _ _ z => z, fun _ _ _ _ _ _ z => z⟩
end
end L2.DL
set_option Elab.async false
set_option linter.all false
set_option autoImplicit false
set_option maxRecDepth 100000
set_option maxHeartbeats 1000000
namespace L2.DL
open PySem PySem.Spec PyProof.Rows
def rRepr (K : PySem.W.Frag) : List V → Hp → VK → Prop := fun xs H Q => ∃ (a : Addr) (d : PyData), xs = [.ref a] ∧ Dp K H (.ref a) d ∧ d.showable = true ∧ d.hasDict = false ∧ d.depth ≤ 60 ∧ d.shown.length ≤ sizeLine ∧ Q (.str d.shown) H
theorem cr_repr {X : Cx} (hgd : X.A.guards = some []) (hu : X.A.units + 64 < cLine) : CallR X (.builtin "repr") (rRepr X.K) := by
  intro pins s σ H xs us Q I r ⟨a, d, e, dp, sh, nd, dep, sz, q⟩
  subst e
  rw [Vals.ref1 r]
  obtain ⟨as, rd⟩ := Dp.reads I d (.ref a) (.ref a) dp rfl
  exact repr_of_reads' rd sh (PyData.noDict_hsm nd) hgd (by omega) (fun _ _ z => z) (fun h' u tk hk => ⟨.str d.shown, H, I.kept (t' := tk) hk, ⟨u, rfl⟩, q⟩) sz
/-- two lists, wherever they stand -/
def rCatS (K : PySem.W.Frag) : R2 := fun x y H Q => ∃ l b xs zs, x = .ref l ∧ y = .ref b ∧ SqL K H l xs ∧ SqL K H b zs ∧ xs.length + zs.length ≤ sizeLine ∧ ∀ p, H p = none → Q (.ref p) (upd H p (.lst (xs ++ zs)))
theorem op_catS {X : Cx} : OpR X (binaryOp .Add) (rCatS X.K) := by
  intro pins s σ H x y v u Q I rx ry ⟨l, b, xs, zs, e1, e2, hH, hB, hz, q⟩
  subst e1; subst e2
  cases rx
  cases ry
  obtain ⟨its, r, pl, _⟩ := I.list hH
  obtain ⟨its2, r2, pl2, _⟩ := I.list hB
  obtain ⟨⟨c1, d1, da1, sl1⟩, g1, k1, n1, j1⟩ := id pl.isList
  obtain ⟨⟨c2, d2, da2, sl2⟩, g2, k2, n2, j2⟩ := id pl2.isList
  simp only at k1 j1 k2 j2
  subst k1 j1 k2 j2
  have hsz : its.toArray.size + its2.toArray.size ≤ sizeLine := by rw [List.size_toArray, List.size_toArray, ← r.length, ← r2.length]; exact hz
  refine concat_meets ⟨_, g1, rfl⟩ ⟨_, g2, rfl⟩ noFill_list_add seq_list_add PySem.F.slot_list_add PySem.F.entry_list_add (PySem.F.args_list_add_2 _ _) (list_addW l b its.toArray its2.toArray n1 n2 d1 d2 sl1 sl2 hsz) ⟨g1, g2, ?_⟩
  rw [show its.toArray ++ its2.toArray = (its ++ its2).toArray by simp]
  exact ⟨.ref _, _, I.lnew (t' := s.toks) (r.append r2) (by rw [List.length_append]; exact hz), rfl, q _ I.fresh⟩
end L2.DL
set_option Elab.async false
set_option linter.all false
set_option autoImplicit false
set_option maxRecDepth 100000
set_option maxHeartbeats 1000000
namespace L2.DL
open PySem PySem.Spec PyProof.Rows
mutual
def py : D → PyData
  | .bl b => .bool b
  | .int i => .int i
  | .str x => .str x
  | .lst xs => .list (pys xs)
  | .tup xs => .tuple (pys xs)
  | _ => .none
def pys : List D → List PyData
  | [] => []
  | x :: xs => py x :: pys xs
end
mutual
def plain : D → Bool
  | .non => true
  | .bl _ => true
  | .int _ => true
  | .str _ => true
  | .lst xs => plains xs
  | .tup xs => plains xs
  | _ => false
def plains : List D → Bool
  | [] => true
  | x :: xs => plain x && plains xs
end
mutual
theorem Rep.dp {K : PySem.W.Frag} {S : Src} {F : Hp} : ∀ {v : V} {d : D}, Rep K S F v d → plain d = true → Dp K F v (py d)
  | _, _, .non, _ => by simp only [py]; exact .non
  | _, _, .bl b, _ => by simp only [py]; exact .bl b
  | _, _, .int i, _ => by simp only [py]; exact .int i
  | _, _, .str x, _ => by simp only [py]; exact .str x
  | _, _, .lst h r, p => by simp only [py]; exact .lst h.here (Reps.dp r (by simpa only [plain] using p))
  | _, _, .tup h r, p => by simp only [py]; exact .tup (.inl (.inl h)) (Reps.dp r (by simpa only [plain] using p))
  | _, _, .ty n, p => by simp [plain] at p
  | _, _, .dct _ _ _, p => by simp [plain] at p
  | _, _, .dcT _ _ _, p => by simp [plain] at p
  | _, _, .dcL _ _ _, p => by simp [plain] at p
  | _, _, .dcI _ _ _, p => by simp [plain] at p
  | _, _, .ins _ _ _, p => by simp [plain] at p
  | _, _, .iset _ _ _ _, p => by simp [plain] at p
  | _, _, .src _, p => by simp [plain] at p
theorem Reps.dp {K : PySem.W.Frag} {S : Src} {F : Hp} : ∀ {vs : List V} {ds : List D}, Reps K S F vs ds → plains ds = true → DpAll K F vs (pys ds)
  | _, _, .nil, _ => by simp only [pys]; exact .nil
  | _, _, .cons a b, p => by
    simp only [plains, Bool.and_eq_true] at p
    simp only [pys]
    exact .cons (Rep.dp a p.1) (Reps.dp b p.2)
end
def uins (x : Int) : List Int → List Int
  | [] => [x]
  | y :: ys => if x < y then x :: y :: ys else if x = y then y :: ys else y :: uins x ys
def uset : List Int → List Int
  | [] => []
  | x :: xs => uins x (uset xs)
theorem mem_uins {x z : Int} : ∀ {l : List Int}, z ∈ uins x l ↔ z = x ∨ z ∈ l
  | [] => by simp [uins]
  | y :: ys => by
    unfold uins
    split
    · simp
    · split
      · rename_i h; subst h; simp
      · simp only [List.mem_cons, mem_uins (l := ys)]
        constructor
        · rintro (h | h | h) <;> simp [h]
        · rintro (h | h | h) <;> simp [h]
theorem mem_uset {z : Int} : ∀ {l : List Int}, z ∈ uset l ↔ z ∈ l
  | [] => by simp [uset]
  | x :: xs => by unfold uset; rw [mem_uins, mem_uset (l := xs), List.mem_cons]
theorem uins_lt {x : Int} : ∀ {l : List Int}, l.Pairwise (· < ·) → (uins x l).Pairwise (· < ·)
  | [], _ => by simp [uins]
  | y :: ys, h => by
    unfold uins
    rw [List.pairwise_cons] at h
    split
    · rename_i hx
      rw [List.pairwise_cons, List.pairwise_cons]
      exact ⟨fun z hz => (List.mem_cons.mp hz).elim (fun e => by rw [e]; exact hx) fun hz => Int.lt_trans hx (h.1 z hz), h⟩
    · split
      · exact List.pairwise_cons.mpr h
      · rename_i h1 h2
        rw [List.pairwise_cons]
        exact ⟨fun z hz => (mem_uins.mp hz).elim (fun e => by omega) fun hz => h.1 z hz, uins_lt h.2⟩
theorem uset_lt : ∀ {l : List Int}, (uset l).Pairwise (· < ·)
  | [] => .nil
  | x :: xs => uins_lt uset_lt
section
variable {K : PySem.W.Frag}
def dAdd (a b : D) (Q : Res → Prop) : Prop := match a, b with
  | .int i, .int j => Q (.v (.int (i + j)))
  | .str x, .str y => x.length + y.length ≤ sizeLine ∧ Q (.v (.str (x ++ y)))
  | .lst xs, .lst ys => xs.length + ys.length ≤ sizeLine ∧ Q (.own (xs ++ ys))
  | _, _ => False
def rAddD (K : PySem.W.Frag) : R2 := fun x y H Q => (∃ i j, x = .int i ∧ y = .int j ∧ Q (.int (i + j)) H) ∨ (∃ i j, x = .str i ∧ y = .str j ∧ i.length + j.length ≤ sizeLine ∧ Q (.str (i ++ j)) H) ∨ rCatS K x y H Q
theorem op_addD {X : Cx} : OpR X (binaryOp .Add) (rAddD X.K) := (op_add.or (op_add_str.or op_catS))
theorem od_add : OpD K (rAddD K) dAdd := by
  intro S F H x y d e QD Q s rx ry h k
  cases rx with
  | int i =>
    cases ry with
    | int j => exact .inl ⟨i, j, rfl, rfl, k _ H F (.v (.int (i + j))) (.refl s) (.int _) h⟩
    | _ => exact h.elim
  | str i =>
    cases ry with
    | str j => exact .inr (.inl ⟨i, j, rfl, rfl, h.1, k _ H F (.v (.str (i ++ j))) (.refl s) (.str _) h.2⟩)
    | _ => exact h.elim
  | lst h1 r1 =>
    cases ry with
    | lst h2 r2 => exact .inr (.inr ⟨_, _, _, _, rfl, rfl, h1.sq s, h2.sq s, by rw [r1.length, r2.length]; exact h.1, fun p hp => k _ _ F (.own _) (.own s hp) ⟨p, _, rfl, hp, upd_same, free_of s hp, .lst (r1.append r2)⟩ h.2⟩)
    | _ => exact h.elim
  | _ => exact h.elim
/-- two ints -/
def dI2 (C : Int → Int → Prop) (g : Int → Int → D) (a b : D) (Q : Res → Prop) : Prop := match a, b with
  | .int i, .int j => C i j ∧ Q (.v (g i j))
  | _, _ => False
theorem od_int {C : Int → Int → Prop} {g : Int → Int → V} {g' : Int → Int → D} (hg : ∀ S F i j, Rep K S F (g i j) (g' i j)) : OpD K (rI C g) (dI2 C g') := by
  intro S F H x y d e QD Q s rx ry h k
  cases rx with
  | int i =>
    cases ry with
    | int j => exact ⟨i, j, rfl, rfl, h.1, k _ H F (.v (g' i j)) (.refl s) (hg _ _ i j) h.2⟩
    | _ => exact h.elim
  | _ => exact h.elim
theorem od_int0 {g : Int → Int → V} {g' : Int → Int → D} (hg : ∀ S F i j, Rep K S F (g i j) (g' i j)) : OpD K (rI0 g) (dI2 (fun _ _ => True) g') := by
  intro S F H x y d e QD Q s rx ry h k
  cases rx with
  | int i =>
    cases ry with
    | int j => exact ⟨i, j, rfl, rfl, k _ H F (.v (g' i j)) (.refl s) (hg _ _ i j) h.2⟩
    | _ => exact h.elim
  | _ => exact h.elim
def dSub := dI2 (fun _ _ => True) fun i j => .int (i - j)
theorem od_sub : OpD K (rI0 fun i j => .int (i - j)) dSub := od_int0 fun _ _ _ _ => .int _
def dMul := dI2 (fun i j => CMul i j ∨ CMulW i j) fun i j => .int (i * j)
theorem op_mulD {X : Cx} : OpR X (binaryOp .Mult) (rI (fun i j => CMul i j ∨ CMulW i j) fun i j => .int (i * j)) := opI fun _ _ _ _ _ _ _ hc q => mul_int q (hc.elim (fun z => z.ok) fun z => z.ok)
theorem od_mul : OpD K (rI (fun i j => CMul i j ∨ CMulW i j) fun i j => .int (i * j)) dMul := od_int fun _ _ _ _ => .int _
def dFdv := dI2 CDivW fun i j => .int (i / j)
theorem od_fdv : OpD K (rI CDivW fun i j => .int (i / j)) dFdv := od_int fun _ _ _ _ => .int _
def dMod := dI2 (fun _ j => 0 < j) fun i j => .int (i % j)
theorem od_mod : OpD K (rI (fun _ j => 0 < j) fun i j => .int (i % j)) dMod := od_int fun _ _ _ _ => .int _
def dPow := dI2 CPow fun i j => .int (i ^ j.toNat)
def dLt := dI2 (fun _ _ => True) fun i j => .bl (decide (i < j))
def dLe := dI2 (fun _ _ => True) fun i j => .bl (decide (i ≤ j))
def dGt := dI2 (fun _ _ => True) fun i j => .bl (decide (j < i))
def dGe := dI2 (fun _ _ => True) fun i j => .bl (decide (j ≤ i))
theorem od_lt : OpD K (rI0 fun i j => .bl (decide (i < j))) dLt := od_int0 fun _ _ _ _ => .bl _
theorem od_gt : OpD K (rI0 fun i j => .bl (decide (j < i))) dGt := od_int0 fun _ _ _ _ => .bl _
def dNeg (a : D) (Q : Res → Prop) : Prop := match a with
  | .int i => Q (.v (.int (-i)))
  | _ => False
theorem ud_neg : UnD K (rU fun i => .int (-i)) dNeg := by
  intro S F H x d QD Q s rx h k
  cases rx with
  | int i => exact ⟨i, rfl, k _ H F (.v (.int (-i))) (.refl s) (.int _) h⟩
  | _ => exact h.elim
def EqOk (a b : D) : Prop := plain a = true ∧ plain b = true ∧ SeqAt.shaped (py a) = true ∧ SeqAt.shaped (py b) = true
def dEq (a b : D) (Q : Res → Prop) : Prop := EqOk a b ∧ Q (.v (.bl (PyData.eqv (py a) (py b))))
def dNe (a b : D) (Q : Res → Prop) : Prop := EqOk a b ∧ Q (.v (.bl (!PyData.eqv (py a) (py b))))
theorem od_eq : OpD K (rEqD K) dEq := by
  intro S F H x y d e QD Q s rx ry ⟨⟨p1, p2, s1, s2⟩, h⟩ k
  exact ⟨_, _, (rx.mono s).dp p1, (ry.mono s).dp p2, s1, s2, k _ H F (.v (.bl _)) (.refl s) (.bl _) h⟩
theorem od_ne : OpD K (rNeD K) dNe := by
  intro S F H x y d e QD Q s rx ry ⟨⟨p1, p2, s1, s2⟩, h⟩ k
  exact ⟨_, _, (rx.mono s).dp p1, (ry.mono s).dp p2, s1, s2, k _ H F (.v (.bl _)) (.refl s) (.bl _) h⟩
def isN : D → Bool
  | .non => true
  | _ => false
theorem rep_non {S : Src} {F : Hp} {v : V} {d : D} (r : Rep K S F v d) : decide (v = .non) = isN d := by
  cases r <;> simp [isN]
def dIsN (a b : D) (Q : Res → Prop) : Prop := b = .non ∧ Q (.v (.bl (isN a)))
def dNotN (a b : D) (Q : Res → Prop) : Prop := b = .non ∧ Q (.v (.bl (!isN a)))
theorem od_isN : OpD K (fun x y H Q => y = .non ∧ Q (.bl (decide (x = .non))) H) dIsN := by
  intro S F H x y d e QD Q s rx ry ⟨h1, h⟩ k
  subst h1
  cases ry
  exact ⟨rfl, by rw [rep_non rx]; exact k _ H F (.v (.bl _)) (.refl s) (.bl _) h⟩
theorem od_notN : OpD K (fun x y H Q => y = .non ∧ Q (.bl (!decide (x = .non))) H) dNotN := by
  intro S F H x y d e QD Q s rx ry ⟨h1, h⟩ k
  subst h1
  cases ry
  exact ⟨rfl, by rw [rep_non rx]; exact k _ H F (.v (.bl _)) (.refl s) (.bl _) h⟩
def flatD : D → Bool
  | .non => true
  | .bl _ => true
  | .int _ => true
  | .str _ => true
  | _ => false
def eqD : D → D → Bool
  | .non, .non => true
  | .bl a, .bl b => a == b
  | .bl a, .int b => (if a then 1 else 0) == b
  | .int a, .bl b => a == (if b then 1 else 0)
  | .int a, .int b => a == b
  | .str a, .str b => a == b
  | _, _ => false
def inD (x : D) (xs : List D) : Bool := xs.any fun y => eqD y x
theorem flat_rep {S : Src} {F : Hp} {v : V} {d : D} (r : Rep K S F v d) (h : flatD d = true) : flatV v = true := by
  cases r <;> first | rfl | (simp [flatD] at h)
theorem flats_rep {S : Src} {F : Hp} : ∀ {vs : List V} {ds : List D}, Reps K S F vs ds → ds.all flatD = true → vs.all flatV = true
  | _, _, .nil, _ => rfl
  | _, _, .cons a b, h => by
    rw [List.all_cons, Bool.and_eq_true] at h ⊢
    exact ⟨flat_rep a h.1, flats_rep b h.2⟩
theorem eq_rep {S : Src} {F : Hp} {v u : V} {d e : D} (r : Rep K S F v d) (q : Rep K S F u e) (h : flatD d = true) (h' : flatD e = true) : eqV v u = eqD d e := by
  cases r <;> first | (simp [flatD] at h; done) | (cases q <;> first | rfl | (simp [flatD] at h'; done))
theorem in_rep {S : Src} {F : Hp} {v : V} {d : D} (r : Rep K S F v d) (h : flatD d = true) : ∀ {vs : List V} {ds : List D}, Reps K S F vs ds → ds.all flatD = true → inV v vs = inD d ds
  | _, _, .nil, _ => rfl
  | _, _, .cons a b, h' => by
    rw [List.all_cons, Bool.and_eq_true] at h'
    have ih := in_rep r h b h'.2
    unfold inV inD at ih ⊢
    rw [List.any_cons, List.any_cons, eq_rep a r h'.1 h, ih]
/-- in a list or a tuple -/
def dIn (neg : Bool) (a b : D) (Q : Res → Prop) : Prop := ∃ xs, (b = .lst xs ∨ b = .tup xs) ∧ flatD a = true ∧ xs.all flatD = true ∧ Q (.v (.bl (if neg then !inD a xs else inD a xs)))
theorem od_in {neg : Bool} : OpD K (rIn K neg) (dIn neg) := by
  intro S F H x y d e QD Q s rx ry ⟨xs, hb, f1, f2, h⟩ k
  rcases hb with hb | hb
  · subst hb
    cases ry with
    | lst h1 r1 => exact ⟨_, _, rfl, .inl (h1.sq s), flat_rep rx f1, flats_rep r1 f2, by rw [in_rep rx f1 r1 f2]; exact k _ H F (.v (.bl _)) (.refl s) (.bl _) h⟩
  · subst hb
    cases ry with
    | tup h1 r1 => exact ⟨_, _, rfl, .inr (s.seqT (.inl (.inl h1))), flat_rep rx f1, flats_rep r1 f2, by rw [in_rep rx f1 r1 f2]; exact k _ H F (.v (.bl _)) (.refl s) (.bl _) h⟩
/-- one sign in a text -/
def dInS (neg : Bool) (a b : D) (Q : Res → Prop) : Prop := ∃ (c : Nat) (z : Str), a = .str ⟨#[c]⟩ ∧ b = .str z ∧ Q (.v (.bl (if neg then !decide (c ∈ z.cps.toList) else decide (c ∈ z.cps.toList))))
theorem od_inS : OpD K (fun x y H Q => ∃ (c : Nat) (z : Str), x = .str ⟨#[c]⟩ ∧ y = .str z ∧ Q (.bl (decide (c ∈ z.cps.toList))) H) (dInS false) := by
  intro S F H x y d e QD Q s rx ry ⟨c, z, h1, h2, h⟩ k
  subst h1; subst h2
  cases rx; cases ry
  exact ⟨c, z, rfl, rfl, k _ H F (.v (.bl _)) (.refl s) (.bl _) h⟩
theorem od_notInS : OpD K (fun x y H Q => ∃ (c : Nat) (z : Str), x = .str ⟨#[c]⟩ ∧ y = .str z ∧ Q (.bl (!decide (c ∈ z.cps.toList))) H) (dInS true) := by
  intro S F H x y d e QD Q s rx ry ⟨c, z, h1, h2, h⟩ k
  subst h1; subst h2
  cases rx; cases ry
  exact ⟨c, z, rfl, rfl, k _ H F (.v (.bl _)) (.refl s) (.bl _) h⟩
/-- a list, a tuple, a text at an int -/
def dIx (a b : D) (Q : Res → Prop) : Prop := match a, b with
  | .lst xs, .int i => ∃ d, atI xs i = some d ∧ Q (.v d)
  | .tup xs, .int i => ∃ d, atI xs i = some d ∧ Q (.v d)
  | .str z, .int i => ∃ c, z.length ≤ sizeLine ∧ atI z.cps.toList i = some c ∧ Q (.v (.str ⟨#[c]⟩))
  | _, _ => False
theorem at_rep {S : Src} {F : Hp} {vs : List V} {ds : List D} (r : Reps K S F vs ds) {i : Int} {d : D} (h : atI ds i = some d) : ∃ v, atI vs i = some v ∧ Rep K S F v d := by
  unfold atI at h ⊢
  rw [r.length]
  cases e : ixN ds.length i with
  | none => rw [e] at h; cases h
  | some j =>
    rw [e] at h
    obtain ⟨v, a, b⟩ := r.get (show ds[j]? = some d from h)
    exact ⟨v, a, b⟩
theorem od_ix : OpD K (rIx K) dIx := by
  intro S F H x y d e QD Q s rx ry h k
  cases rx with
  | lst h1 r1 =>
    cases ry with
    | int i =>
      obtain ⟨d, h2, h⟩ := h
      obtain ⟨v, a, b⟩ := at_rep r1 h2
      exact .inl ⟨_, _, i, v, rfl, rfl, h1.sq s, a, k _ H F (.v d) (.refl s) b h⟩
    | _ => exact h.elim
  | tup h1 r1 =>
    cases ry with
    | int i =>
      obtain ⟨d, h2, h⟩ := h
      obtain ⟨v, a, b⟩ := at_rep r1 h2
      exact .inr (.inl ⟨_, _, i, v, rfl, rfl, s.seqT (.inl (.inl h1)), a, k _ H F (.v d) (.refl s) b h⟩)
    | _ => exact h.elim
  | str z =>
    cases ry with
    | int i =>
      obtain ⟨c, h1, h2, h⟩ := h
      exact .inr (.inr ⟨z, i, c, rfl, rfl, h1, h2, k _ H F (.v (.str ⟨#[c]⟩)) (.refl s) (.str _) h⟩)
    | _ => exact h.elim
  | _ => exact h.elim
end
abbrev DTO := Rho → (Option Int → Rho → Prop) → Prop
def liftO (c : C) (t : DTO) : TO := fun σ H Q => ∃ F ρ QD, SR c F H σ ρ ∧ t ρ QD ∧ ∀ o H' F' ρ', SR c F' H' σ ρ' → Stp c σ F H ρ F' H' ρ' → QD o ρ' → Q o H'
def dNoP : DTO := fun ρ Q => Q none ρ
def dPart (te : DTE) : DTO := fun ρ Q => te ρ fun r ρ1 => ∃ i, fz r = .int i ∧ Q (some i) ρ1
def cutD (xs : List D) (lo hi : Option Int) : List D := (xs.drop (HT.sIx xs.length 0 lo)).take (HT.sIx xs.length xs.length hi - HT.sIx xs.length 0 lo)
/-- a slice of a list, of a text -/
def dCut (a : D) (lo hi : Option Int) (Q : Res → Prop) : Prop := match a with
  | .lst xs => Q (.own (cutD xs lo hi))
  | .str z => z.length ≤ sizeLine ∧ Q (.v (.str (cutS z lo hi)))
  | _ => False
def dSl (te : DTE) (tl th : DTO) : DTE := fun ρ Q => te ρ fun r ρ1 => tl ρ1 fun l ρ2 => th ρ2 fun u ρ3 => dCut (fz r) l u fun r => Q r ρ3
section
variable {c : C} {X : Cx} {e : Expr} {te : DTE} {tl th : DTO} {lo hi : Option Expr} {pos p2 : Pos}
theorem do_none : PO X none (liftO c dNoP) := ⟨fun pins s σ H Q I ⟨F, ρ, QD, sr, h, k⟩ => po_none.run pins s σ H Q I (k none H F ρ sr Stp.refl h)⟩
theorem do_some (h : PE X e (liftE c te)) : PO X (some e) (liftO c (dPart te)) := ⟨fun pins s σ H Q I ⟨F, ρ, QD, sr, ht, k⟩ => (po_some (froze h)).run pins s σ H Q I
  ⟨F, ρ, (fun d ρ1 => ∃ i, d = .int i ∧ QD (some i) ρ1), sr, ht, fun v H1 F1 ρ1 d s1 st1 rv ⟨i, e, q⟩ => by
    subst e
    cases rv
    exact ⟨i, rfl, k (some i) H1 F1 ρ1 s1 st1 q⟩⟩⟩
theorem de_slice (hK : X.K = c.K) (he : PE X e (liftE c te)) (hl : PO X lo (liftO c tl)) (hu : PO X hi (liftO c th)) : PE X (.Subscript e (.Slice lo hi none p2) pos) (liftE c (dSl te tl th)) :=
  PE_imp (pe_slice (sl_list.or sl_str) (froze he) hl hu) fun σ H Q ⟨F, ρ, QD, s, h, k⟩ => by
    refine ⟨F, ρ, (fun d ρ1 => tl ρ1 fun l ρ2 => th ρ2 fun u ρ3 => dCut d l u fun r => QD r ρ3), s, h, fun v H1 F1 ρ1 d s1 st1 rv q => ?_⟩
    refine ⟨F1, ρ1, (fun l ρ2 => th ρ2 fun u ρ3 => dCut d l u fun r => QD r ρ3), s1, q, fun l H2 F2 ρ2 s2 st2 q => ?_⟩
    refine ⟨F2, ρ2, (fun u ρ3 => dCut d l u fun r => QD r ρ3), s2, q, fun u H3 F3 ρ3 s3 st3 q => ?_⟩
    have st := (st1.trans st2).trans st3
    have rv3 := rv.mono ((st2.trans st3).ff)
    cases rv3 with
    | lst h1 r1 =>
      rename_i ar vs ds qa qb
      refine .inl ⟨_, _, rfl, by rw [hK]; exact h1.sq s3.sub, fun p hp => ?_⟩
      have pe : PExt F3 H3 F3 (upd H3 p (.lst (cutV vs l u))) := PExt.own s3.sub hp
      have rr : RR0 c.K c.S F3 H3 (upd H3 p (.lst (cutV vs l u))) (.ref p) (.own (cutD ds l u)) := ⟨p, _, rfl, hp, upd_same, free_of s3.sub hp, .lst <| by
        unfold cutV cutD
        rw [r1.length]
        exact (r1.drop _).take _⟩
      obtain ⟨a, b⟩ := rr.rr s3
      exact k _ _ F3 ρ3 (.own (cutD ds l u)) (pe.sr s3) (st.trans pe.stp) a (New.back st s3 b) q
    | str z => exact .inr ⟨z, rfl, q.1, k _ H3 F3 ρ3 (.v (.str (cutS z l u))) s3 st (.str _) trivial q.2⟩
    | _ => exact q.elim
end
section
variable {K : PySem.W.Frag}
def dLen (ds : List D) (Q : Res → Prop) : Prop := match ds with
  | [.lst xs] => Q (.v (.int xs.length))
  | [.tup xs] => Q (.v (.int xs.length))
  | [.str z] => z.length ≤ sizeLine ∧ Q (.v (.int z.length))
  | _ => False
theorem cd_len : CallD K (fun xs H Q => ∃ x n, xs = [x] ∧ LenV K x H n ∧ Q (.int n) H) dLen := by
  intro S F H xs ds QD Q s r h k
  match r with
  | .nil => exact h.elim
  | .cons a .nil =>
    cases a with
    | lst h1 r1 => exact ⟨_, _, rfl, .inl ⟨_, h1.sq s, r1.length.symm⟩, k _ H F (.v (.int _)) (.refl s) (.int _) h⟩
    | tup h1 r1 => exact ⟨_, _, rfl, .inr ⟨_, s.seqT (.inl (.inl h1)), r1.length.symm⟩, k _ H F (.v (.int _)) (.refl s) (.int _) h⟩
    | str z => exact ⟨_, _, rfl, ⟨h.1, rfl⟩, k _ H F (.v (.int _)) (.refl s) (.int _) h.2⟩
    | _ => exact h.elim
  | .cons a (.cons _ _) => cases a <;> exact h.elim
def dInt1 (ds : List D) (Q : Res → Prop) : Prop := match ds with
  | [.int i] => Q (.v (.int i))
  | [.bl b] => Q (.v (.int (if b then 1 else 0)))
  | _ => False
theorem cd_int1 : CallD K (fun xs H Q => (∃ i, xs = [.int i] ∧ Q (.int i) H) ∨ ∃ k, xs = [.bl k] ∧ Q (.int (if k then 1 else 0)) H) dInt1 := by
  intro S F H xs ds QD Q s r h k
  match r with
  | .nil => exact h.elim
  | .cons a .nil =>
    cases a with
    | int i => exact .inl ⟨i, rfl, k _ H F (.v (.int _)) (.refl s) (.int _) h⟩
    | bl b => exact .inr ⟨b, rfl, k _ H F (.v (.int _)) (.refl s) (.int _) h⟩
    | _ => exact h.elim
  | .cons a (.cons _ _) => cases a <;> exact h.elim
def dStrI (ds : List D) (Q : Res → Prop) : Prop := ∃ i, ds = [.int i] ∧ i.natAbs.log2 < 1920 ∧ Q (.v (.str (toString i)))
theorem cd_strI : CallD K (fun xs H Q => ∃ i, xs = [.int i] ∧ i.natAbs.log2 < 1920 ∧ Q (.str (toString i)) H) dStrI := by
  intro S F H xs ds QD Q s r ⟨i, e, h1, h⟩ k
  subst e
  match r with
  | .cons (.int _) .nil => exact ⟨i, rfl, h1, k _ H F (.v (.str _)) (.refl s) (.str _) h⟩
def dAbs (ds : List D) (Q : Res → Prop) : Prop := ∃ i : Int, ds = [.int i] ∧ Q (.v (.int (if i < 0 then -i else i)))
def dMax2 (ds : List D) (Q : Res → Prop) : Prop := ∃ i j : Int, ds = [.int i, .int j] ∧ Q (.v (.int (if j > i then j else i)))
theorem cd_max2 : CallD K (fun xs H Q => ∃ i j, xs = [.int i, .int j] ∧ Q (.int (if j > i then j else i)) H) dMax2 := by
  intro S F H xs ds QD Q s r ⟨i, j, e, h⟩ k
  subst e
  match r with
  | .cons (.int _) (.cons (.int _) .nil) => exact ⟨i, j, rfl, k _ H F (.v (.int _)) (.refl s) (.int _) h⟩
def dMin2 (ds : List D) (Q : Res → Prop) : Prop := ∃ i j : Int, ds = [.int i, .int j] ∧ Q (.v (.int (if j < i then j else i)))
theorem cd_min2 : CallD K (fun xs H Q => ∃ i j, xs = [.int i, .int j] ∧ Q (.int (if j < i then j else i)) H) dMin2 := by
  intro S F H xs ds QD Q s r ⟨i, j, e, h⟩ k
  subst e
  match r with
  | .cons (.int _) (.cons (.int _) .nil) => exact ⟨i, j, rfl, k _ H F (.v (.int _)) (.refl s) (.int _) h⟩
def dSum (ds : List D) (Q : Res → Prop) : Prop := ∃ ns : List Int, ds = [.lst (ns.map .int)] ∧ Q (.v (.int ns.sum))
theorem cd_sum : CallD K (rSum K) dSum := by
  intro S F H xs ds QD Q s r ⟨ns, e, h⟩ k
  subst e
  match r with
  | .cons (.lst h1 r1) .nil =>
    have e := Reps.of_ints r1
    subst e
    exact ⟨_, ns, rfl, h1.sq s, k _ H F (.v (.int _)) (.refl s) (.int _) h⟩
def dAll (ds : List D) (Q : Res → Prop) : Prop := ∃ bs : List Bool, ds = [.lst (bs.map .bl)] ∧ Q (.v (.bl (bs.all id)))
theorem of_bls {S : Src} {F : Hp} : ∀ {vs : List V} {bs : List Bool}, Reps K S F vs (bs.map D.bl) → vs = bs.map V.bl
  | _, [], .nil => rfl
  | _, n :: ns, .cons a b => by cases a; rw [List.map_cons, of_bls b]
theorem cd_all : CallD K (rAll K) dAll := by
  intro S F H xs ds QD Q s r ⟨ns, e, h⟩ k
  subst e
  match r with
  | .cons (.lst h1 r1) .nil =>
    have e := of_bls r1
    subst e
    exact ⟨_, ns, rfl, h1.sq s, k _ H F (.v (.bl _)) (.refl s) (.bl _) h⟩
/-- what repr asks -/
def ShowOk (d : D) : Prop := plain d = true ∧ (py d).showable = true ∧ (py d).hasDict = false ∧ (py d).depth ≤ 60 ∧ (py d).shown.length ≤ sizeLine
def dRepr (ds : List D) (Q : Res → Prop) : Prop := ∃ xs, (ds = [.lst xs] ∧ ShowOk (.lst xs) ∧ Q (.v (.str (py (.lst xs)).shown))) ∨ (ds = [.tup xs] ∧ ShowOk (.tup xs) ∧ Q (.v (.str (py (.tup xs)).shown)))
theorem cd_repr : CallD K (rRepr K) dRepr := by
  intro S F H xs ds QD Q s r ⟨ys, h⟩ k
  rcases h with ⟨e, ⟨a, b, d, f, g⟩, h⟩ | ⟨e, ⟨a, b, d, f, g⟩, h⟩
  · subst e
    match r with
    | .cons (.lst h1 r1) .nil => exact ⟨_, _, rfl, ((Rep.lst h1 r1).mono s).dp a, b, d, f, g, k _ H F (.v (.str _)) (.refl s) (.str _) h⟩
  · subst e
    match r with
    | .cons (.tup h1 r1) .nil => exact ⟨_, _, rfl, ((Rep.tup h1 r1).mono s).dp a, b, d, f, g, k _ H F (.v (.str _)) (.refl s) (.str _) h⟩
/-- list(x) of a list or a tuple -/
def dListOf (ds : List D) (Q : Res → Prop) : Prop := ∃ xs, (ds = [.lst xs] ∨ ds = [.tup xs]) ∧ Q (.own xs)
theorem cd_listOf : CallD K (fun xs H Q => ∃ p ys, xs = [.ref p] ∧ (SqL K H p ys ∨ SqT K H p ys) ∧ ∀ l, H l = none → Q (.ref l) (upd H l (.lst ys))) dListOf := by
  intro S F H xs ds QD Q s r ⟨ys, e, h⟩ k
  rcases e with e | e
  · subst e
    match r with
    | .cons (.lst h1 r1) .nil => exact ⟨_, _, rfl, .inl (h1.sq s), fun l hl => k _ _ F (.own ys) (.own s hl) ⟨l, _, rfl, hl, upd_same, free_of s hl, .lst r1⟩ h⟩
  · subst e
    match r with
    | .cons (.tup h1 r1) .nil => exact ⟨_, _, rfl, .inr (s.seqT (.inl (.inl h1))), fun l hl => k _ _ F (.own ys) (.own s hl) ⟨l, _, rfl, hl, upd_same, free_of s hl, .lst r1⟩ h⟩
/-- tuple(x) of a list -/
def dTupOf (ds : List D) (Q : Res → Prop) : Prop := ∃ xs, (ds = [.lst xs] ∨ ds = [.tup xs]) ∧ Q (.v (.tup xs))
theorem cd_tupOf : CallD K (fun xs H Q => ∃ p ys, xs = [.ref p] ∧ ((SqL K H p ys ∧ ∀ l, H l = none → Q (.ref l) (upd H l (.tup ys))) ∨ (SqT K H p ys ∧ Q (.ref p) H))) dTupOf := by
  intro S F H xs ds QD Q s r ⟨ys, e, h⟩ k
  rcases e with e | e
  · subst e
    match r with
    | .cons (.lst (vs := vs) h1 r1) .nil =>
      refine ⟨_, _, rfl, .inl ⟨h1.sq s, fun l hl => ?_⟩⟩
      have pe := PExt.new (o := .tup vs) s hl
      exact k _ _ _ (.v (.tup ys)) pe (.tup upd_same (Reps.mono pe.ff r1)) h
  · subst e
    match r with
    | .cons (.tup h1 r1) .nil => exact ⟨_, _, rfl, .inr ⟨s.seqT (.inl (.inl h1)), k _ H F (.v (.tup ys)) (.refl s) (.tup h1 r1) h⟩⟩
/-- isinstance against a built-in class -/
def tyD : D → Option String
  | .non => some "NoneType"
  | .bl _ => some "bool"
  | .int _ => some "int"
  | .str _ => some "str"
  | .lst _ => some "list"
  | .tup _ => some "tuple"
  | .dct _ => some "dict"
  | _ => none
theorem ty_rep {S : Src} {F H : Hp} {v : V} {d : D} (s : Le F H) (r : Rep K S F v d) {n : String} (h : tyD d = some n) : TyX K H v (.type n) := by
  cases r with
  | non => cases h; exact .base .non
  | bl b => cases h; exact .base (.bl b)
  | int i => cases h; exact .base (.int i)
  | str x => cases h; exact .base (.str x)
  | lst h1 _ =>
    cases h
    rcases h1 with h1 | ⟨o, _, _, h1, hc, _⟩
    · exact .base (.lst (s _ _ h1))
    · exact .kList h1 hc
  | tup h1 _ =>
    cases h
    rcases s.seqT (.inl (.inl h1)) with (h1 | ⟨o, h1⟩) | ⟨o, _, _, h1, hc, _⟩
    · exact .base (.tup h1)
    · exact .fTuple h1
    · exact .kTuple h1 hc
  | dct h1 _ _ => cases h; exact .base (.dK (s _ _ h1))
  | _ => cases h
def dIsi (ds : List D) (Q : Res → Prop) : Prop := match ds with
  | [d, .ty n] => ∃ m b, tyD d = some m ∧ PySem.W.kitOne K (.type m) (.type n) = some b ∧ Q (.v (.bl b))
  | _ => False
theorem cd_isi : CallD K (rIsi K) (dIsi (K := K)) := by
  intro S F H xs ds QD Q s r h k
  cases r with
  | nil => exact h.elim
  | cons a r =>
    cases r with
    | nil => exact h.elim
    | cons a' r =>
      cases r with
      | nil =>
        cases a' with
        | ty n =>
          obtain ⟨m, b, h1, h2, h⟩ := h
          exact ⟨_, _, _, _, b, rfl, .ty n, ty_rep s a h1, h2, k _ H F (.v (.bl b)) (.refl s) (.bl b) h⟩
        | _ => exact h.elim
      | cons _ _ => cases a' <;> exact h.elim
end
end L2.DL
set_option Elab.async false
set_option linter.all false
set_option autoImplicit false
set_option maxRecDepth 100000
set_option maxHeartbeats 1000000
namespace L2.DL
open PySem PySem.Spec PyProof.Rows
def dSortSet (te : DTE) : DTE := fun ρ Q => te ρ fun r ρ1 => ∃ ns : List Int, (fz r = .lst (ns.map .int) ∨ fz r = .tup (ns.map .int)) ∧ ns.length < 64 ∧ Q (.own ((uset ns).map .int)) ρ1
section
variable {c : C} {X : Cx} {e : Expr} {te : DTE} {pos p1 p2 ps : Pos}
/-- two new objects, one behind the other -/
theorem PExt.own2 {F H : Hp} {p q : Addr} {o u : HO} (s : Le F H) (h : H p = none) (h2 : (upd H p o) q = none) : PExt F H F (upd (upd H p o) q u) := (PExt.own s h).trans (PExt.own (PExt.own s h).sub h2)
end
def dScL (g : DTG) (tt : DTT) (te : DTE) (vs : List Nat) (Q : List Int → Rho → Prop) : List D → List Int → Rho → Prop
  | [], acc, ρ => Q acc ρ
  | x :: xs, acc, ρ => g x ρ fun ρ2 => tt ρ2 fun b ρ3 => if b = true then te ρ3 fun r ρ4 => ∃ k, fz r = .int k ∧ acc.length < 63 ∧ dScL g tt te vs Q xs (acc ++ [k]) (dwipe ρ4 vs) else dScL g tt te vs Q xs acc (dwipe ρ3 vs)
def dSortSc (ti : DTI) (g : DTG) (tt : DTT) (te : DTE) (vs : List Nat) : DTE := fun ρ Q => ti ρ fun ds ρ1 => dScL g tt te vs (fun ns ρ' => Q (.own ((uset ns).map .int)) ρ') ds [] (dwipe ρ1 vs)
end L2.DL
set_option Elab.async false
set_option linter.all false
set_option autoImplicit false
set_option maxRecDepth 100000
set_option maxHeartbeats 1000000
namespace L2.DL
open PySem PySem.Spec PyProof.Rows
section
variable {c : C} {X : Cx} {a b e tg : Expr} {te ta tb : DTE} {t : DTA} {pos p p2 ps apos cpos tpos : Pos}
def dListVals (te : DTE) : DTE := fun ρ Q => te ρ fun r ρ1 => ∃ kds, fz r = .dct kds ∧ Q (.own (kds.map (·.2))) ρ1
/-- keys as data -/
def kD : Key → D
  | .inl i => .int i
  | .inr x => .str x
theorem rep_key {K : PySem.W.Frag} {S : Src} {F : Hp} (k : Key) : Rep K S F (kV k) (kD k) := by
  cases k with
  | inl i => exact .int i
  | inr x => exact .str x
theorem reps_keys {K : PySem.W.Frag} {S : Src} {F : Hp} : ∀ ks : List Key, Reps K S F (ks.map kV) (ks.map kD)
  | [] => .nil
  | k :: ks => .cons (rep_key k) (reps_keys ks)
def dListKeys (ds : List D) (Q : Res → Prop) : Prop := ∃ kds, ds = [.dct kds] ∧ Q (.own (kds.map fun p => kD p.1))
theorem cd_listKeys {K : PySem.W.Frag} : CallD K rListD dListKeys := by
  intro S F H xs ds QD Q s r ⟨kds, e, h⟩ k
  subst e
  match r with
  | .cons (.dct (kvs := kvs) h1 h2 h3) .nil =>
    refine ⟨_, _, rfl, s _ _ h1, fun q hq => ?_⟩
    have e1 : (kvs.map fun kv => kV kv.1) = (kvs.map (·.1)).map kV := by rw [List.map_map] <;> rfl
    have e2 : (kds.map fun kv => kD kv.1) = (kds.map (·.1)).map kD := by rw [List.map_map] <;> rfl
    refine k _ _ F (.own _) (.own s hq) ⟨q, _, rfl, hq, upd_same, free_of s hq, .lst ?_⟩ h
    rw [e1, e2, h2]
    exact reps_keys _
def zipD : List D → List D → List D
  | x :: xs, y :: ys => .tup [x, y] :: zipD xs ys
  | _, _ => []
theorem zipD_get : ∀ {xs ys : List D} {i : Nat} {d : D}, (zipD xs ys)[i]? = some d → ∃ x y, xs[i]? = some x ∧ ys[i]? = some y ∧ d = .tup [x, y]
  | [], _, i, d, h => by simp [zipD] at h
  | x :: xs, [], i, d, h => by simp [zipD] at h
  | x :: xs, y :: ys, 0, d, h => by simp [zipD] at h; subst h; exact ⟨x, y, rfl, rfl, rfl⟩
  | x :: xs, y :: ys, i + 1, d, h => by
    obtain ⟨a, b, h1, h2, h3⟩ := zipD_get (xs := xs) (ys := ys) (i := i) (by simpa [zipD] using h)
    exact ⟨a, b, by simpa using h1, by simpa using h2, h3⟩
theorem zipD_len : ∀ {xs ys : List D} {i : Nat}, (zipD xs ys).length ≤ i → xs.length ≤ i ∨ ys.length ≤ i
  | [], _, i, _ => .inl (Nat.zero_le _)
  | x :: xs, [], i, _ => .inr (Nat.zero_le _)
  | x :: xs, y :: ys, 0, h => by simp [zipD] at h
  | x :: xs, y :: ys, i + 1, h => by
    rcases zipD_len (xs := xs) (ys := ys) (i := i) (by simpa [zipD] using h) with h | h
    · exact .inl (by simpa using h)
    · exact .inr (by simpa using h)
theorem walk_zip {K : PySem.W.Frag} {S : Src} {F1 : Hp} {a b : Addr} {vs ws : List V} {ds es : List D} (h : LstAt K F1 a vs) (r : Reps K S F1 vs ds) (h' : LstAt K F1 b ws) (r' : Reps K S F1 ws es) : Walk K S (Itz K a b) F1 (zipD ds es) where
  go := fun F H i d l1 l2 hd => by
    obtain ⟨x, y, hx, hy, e⟩ := zipD_get hd
    subst e
    obtain ⟨v, hv, rv⟩ := r.get hx
    obtain ⟨w, hw, rw'⟩ := r'.get hy
    have hA : SqL K H a vs := (l1.lst h).sq l2
    have hB : SqL K H b ws := (l1.lst h').sq l2
    refine ⟨⟨vs, ws, v, w, hA, hB, hv, hw⟩, fun z H' q => ?_⟩
    obtain ⟨T, x1, y1, e1, hT, e2, f1, f2⟩ := q
    have g1 := f1 vs hA
    have g2 := f2 ws hB
    rw [hv] at g1; cases g1
    rw [hw] at g2; cases g2
    subst e1; subst e2
    have pe := PExt.new (o := .tup [v, w]) l2 hT
    exact ⟨_, pe, .tup upd_same (.cons ((rv.mono l1).mono pe.ff) (.cons ((rw'.mono l1).mono pe.ff) .nil))⟩
  stop := fun F H i l1 l2 hl => ⟨vs, ws, (l1.lst h).sq l2, (l1.lst h').sq l2, by rw [r.length, r'.length]; exact zipD_len hl⟩
def dZip (t : DTA) : DTI := fun ρ Q => t ρ fun ds ρ1 => ∃ xs ys, ds = [.lst xs, .lst ys] ∧ Q (zipD xs ys) ρ1
theorem di_zip {e2 : Expr} {elts : List Expr} {kk : Nat} (hK : X.K = c.K) (hg : Gl X "zip") (hm : X.mg "zip" = none) (ha : PA X [e, e2] (liftA c t))
    (hs : starEach [e, e2] X.env = (false, eval e X.env) :: starEach [e2] X.env := by rfl) (hpl : (backTo pos (starEach [e2] X.env)).any (·.1) = false := by rfl) :
    PI X (.Tuple elts kk tpos) (.Call (.Name "zip" p) [e, e2] [] pos) (liftI c (dZip t)) :=
  PI_imp (pi_zip hg hm ha hs hpl) fun σ H R ⟨F, ρ, QD, s, h, k⟩ =>
    ⟨F, ρ, _, s, h, fun vs H1 F1 ρ1 ds s1 st1 rv ⟨xs, ys, e, q⟩ => by
      subst e
      match rv with
      | .cons (.lst h1 r1) (.cons (.lst h2 r2) .nil) =>
        exact ⟨_, _, _, _, rfl, by rw [hK]; exact h1.sq s1.sub, by rw [hK]; exact h2.sq s1.sub, k _ H1 F1 ρ1 _ s1 st1 (by rw [hK]; exact walk_zip h1 r1 h2 r2) q⟩⟩
def enumD : Nat → List D → List D
  | _, [] => []
  | n, x :: xs => .tup [.int (n : Nat), x] :: enumD (n + 1) xs
theorem enumD_get : ∀ {xs : List D} {n i : Nat} {d : D}, (enumD n xs)[i]? = some d → ∃ x, xs[i]? = some x ∧ d = .tup [.int ((n + i : Nat)), x]
  | [], n, i, d, h => by simp [enumD] at h
  | x :: xs, n, 0, d, h => by simp [enumD] at h; subst h; exact ⟨x, rfl, rfl⟩
  | x :: xs, n, i + 1, d, h => by
    obtain ⟨a, h1, h2⟩ := enumD_get (xs := xs) (n := n + 1) (i := i) (by simpa [enumD] using h)
    refine ⟨a, by simpa using h1, ?_⟩
    rw [h2]
    congr 4
    omega
theorem enumD_len : ∀ {xs : List D} {n : Nat}, (enumD n xs).length = xs.length
  | [], n => rfl
  | x :: xs, n => by simp [enumD, enumD_len (xs := xs) (n := n + 1)]
theorem walk_enum {K : PySem.W.Frag} {S : Src} {F1 : Hp} {a : Addr} {vs : List V} {ds : List D} (h : LstAt K F1 a vs) (r : Reps K S F1 vs ds) : Walk K S (Ite K a) F1 (enumD 0 ds) where
  go := fun F H i d l1 l2 hd => by
    obtain ⟨x, hx, e⟩ := enumD_get hd
    rw [Nat.zero_add] at e
    subst e
    obtain ⟨v, hv, rv⟩ := r.get hx
    have hA : SqL K H a vs := (l1.lst h).sq l2
    refine ⟨⟨vs, v, hA, hv⟩, fun z H' q => ?_⟩
    obtain ⟨T, x1, e1, hT, e2, f1⟩ := q
    have g1 := f1 vs hA
    rw [hv] at g1; cases g1
    subst e1; subst e2
    have pe := PExt.new (o := .tup [.int (i : Nat), v]) l2 hT
    exact ⟨_, pe, .tup upd_same (.cons (.int _) (.cons ((rv.mono l1).mono pe.ff) .nil))⟩
  stop := fun F H i l1 l2 hl => ⟨vs, (l1.lst h).sq l2, by rw [r.length]; rw [enumD_len] at hl; exact hl⟩
def dEnum (t : DTA) : DTI := fun ρ Q => t ρ fun ds ρ1 => ∃ xs, ds = [.lst xs] ∧ Q (enumD 0 xs) ρ1
theorem di_enum {elts : List Expr} {kk : Nat} (hK : X.K = c.K) (hg : Gl X "enumerate") (hm : X.mg "enumerate" = none) (ha : PA X [e] (liftA c t)) (hs : starEach [e] X.env = [(false, eval e X.env)] := by rfl) :
    PI X (.Tuple elts kk tpos) (.Call (.Name "enumerate" p) [e] [] pos) (liftI c (dEnum t)) :=
  PI_imp (pi_enum hg hm ha hs) fun σ H R ⟨F, ρ, QD, s, h, k⟩ =>
    ⟨F, ρ, _, s, h, fun vs H1 F1 ρ1 ds s1 st1 rv ⟨xs, e, q⟩ => by
      subst e
      match rv with
      | .cons (.lst h1 r1) .nil => exact ⟨_, _, rfl, by rw [hK]; exact h1.sq s1.sub, k _ H1 F1 ρ1 _ s1 st1 (by rw [hK]; exact walk_enum h1 r1) q⟩⟩
/-- a text sign by sign -/
def signsD (z : Str) : List D := z.cps.toList.map fun c => .str ⟨#[c]⟩
def dItS (te : DTE) : DTI := fun ρ Q => te ρ fun r ρ1 => ∃ z, fz r = .str z ∧ Q (signsD z) ρ1
theorem walk_str {K : PySem.W.Frag} {S : Src} {F1 : Hp} (z : Str) : Walk K S (Its z) F1 (signsD z) where
  go := fun F H i d l1 l2 hd => by
    unfold signsD at hd
    rw [List.getElem?_map] at hd
    obtain ⟨ch, h1, h2⟩ := Option.map_eq_some_iff.mp hd
    subst h2
    have h1' : z.cps[i]? = some ch := by rw [← Array.getElem?_toList]; exact h1
    refine ⟨(Array.getElem?_eq_some_iff.mp h1').1, fun v H' ⟨e1, c2, e2, e3⟩ => ?_⟩
    subst e1
    rw [h1'] at e2; cases e2
    subst e3
    exact ⟨F, .refl l2, .str _⟩
  stop := fun F H i l1 l2 hl => by
    unfold signsD at hl
    have : z.cps.size ≤ i := by simpa using hl
    exact this
theorem di_str (he : PE X e (liftE c te)) : PI X tg e (liftI c (dItS te)) :=
  PI_imp (pi_str (froze he)) fun σ H R ⟨F, ρ, QD, s, h, k⟩ =>
    ⟨F, ρ, (fun d ρ1 => ∃ z, d = .str z ∧ QD (signsD z) ρ1), s, h, fun v H1 F1 ρ1 d s1 st1 rv ⟨z, e, q⟩ => by
      subst e
      cases rv
      exact ⟨z, rfl, k _ H1 F1 ρ1 _ s1 st1 (walk_str z) q⟩⟩
def dInR (neg : Bool) (ta : DTE) (t : DTA) : DTE := fun ρ Q => ta ρ fun r ρ1 => t ρ1 fun ds ρ2 => ∃ i lo hi : Int, fz r = .int i ∧ ds = [.int lo, .int hi] ∧ Q (.v (.bl (if neg then !decide (lo ≤ i ∧ i < hi) else decide (lo ≤ i ∧ i < hi)))) ρ2
theorem inr_lift {neg : Bool} {σ : L2.St} {H : Hp} {Q : VK} (h : liftE c (dInR neg ta t) σ H Q) : liftV c (frz ta) σ H fun x H1 => tCB (fun vs H Q => ∃ i j, vs = [V.int i, V.int j] ∧ ∀ p, H p = none → Q (.ref p) (upd H p (.rng i j))) (liftA c t) σ H1 fun y H2 => rInRng neg x y H2 Q := by
  obtain ⟨F, ρ, QD, s, h, k⟩ := h
  refine ⟨F, ρ, (fun d ρ1 => t ρ1 fun ds ρ2 => ∃ i lo hi : Int, d = .int i ∧ ds = [.int lo, .int hi] ∧ QD (.v (.bl (if neg then !decide (lo ≤ i ∧ i < hi) else decide (lo ≤ i ∧ i < hi)))) ρ2), s, h, fun x H1 F1 ρ1 d s1 st1 rx q => ?_⟩
  refine ⟨F1, ρ1, _, s1, q, fun vs H2 F2 ρ2 ds s2 st2 rv ⟨i, lo, hi, e1, e2, qq⟩ => ?_⟩
  clear q
  subst e1; subst e2
  cases rx
  match rv with
  | .cons (.int _) (.cons (.int _) .nil) =>
    refine ⟨lo, hi, rfl, fun p hp => ⟨i, p, lo, hi, rfl, rfl, upd_same, ?_⟩⟩
    have pe : PExt F2 H2 F2 (upd H2 p (.rng lo hi)) := PExt.own s2.sub hp
    exact k _ _ F2 ρ2 (.v (.bl _)) (pe.sr s2) ((st1.trans st2).trans pe.stp) (Rep.bl _) trivial qq
theorem dt_notInRng {es : List Expr} (hg : Gl X "range") (hm : X.mg "range" = none) (ha : PE X a (liftE c ta)) (hb : PA X (b :: es) (liftA c t)) (hv : bootBuiltins "range" = some (.type "range") := by decide +kernel)
    (he : starEach (b :: es) X.env = (false, eval b X.env) :: starEach es X.env := by rfl) (hpl : (backTo ps (starEach es X.env)).any (·.1) = false := by rfl) (hmk : behindInMarks .NotIn (.Call (.Name "range" p2) (b :: es) [] ps) = false := by rfl) :
    PT X (.Compare a [.NotIn] [.Call (.Name "range" p2) (b :: es) [] ps] pos) (liftT c (dTst (dInR true ta t))) :=
  PT_imp (pt_cmpR op_notInRng (froze ha) (pe_callTy cr_range2 hg hm hv hb (he := he) (hpl := hpl)) hmk) fun σ H Q h => inr_lift (tst_lift h)
end
section
variable {K : PySem.W.Frag}
def keyOf : D → Option Key
  | .int i => some (.inl i)
  | .str x => some (.inr x)
  | _ => none
def valD (kds : List (Key × D)) (k : Key) : Option D := (kds.find? fun kv => decide (kv.1 = k)).map (·.2)
theorem val_rep {S : Src} {F : Hp} {k : Key} : ∀ {kvs : List (Key × V)} {kds : List (Key × D)}, kvs.map (·.1) = kds.map (·.1) → Reps K S F (kvs.map (·.2)) (kds.map (·.2)) → (valD kds k = none → valV kvs k = none) ∧ ∀ d, valD kds k = some d → ∃ v, valV kvs k = some v ∧ Rep K S F v d
  | [], [], _, _ => ⟨fun _ => rfl, fun d h => by simp [valD] at h⟩
  | [], _ :: _, h, _ => by simp at h
  | _ :: _, [], h, _ => by simp at h
  | (a, x) :: kvs, (b, y) :: kds, h, r => by
    simp only [List.map_cons, List.cons.injEq] at h
    obtain ⟨h1, h2⟩ := h
    subst h1
    cases r with
    | cons r1 r2 =>
      have ih := val_rep (k := k) h2 r2
      by_cases e : a = k
      · subst e
        refine ⟨fun z => by simp [valD] at z, fun d z => ⟨x, by simp [valV], ?_⟩⟩
        have : y = d := by simpa [valD] using z
        rw [← this]; exact r1
      · have e1 : valD ((a, y) :: kds) k = valD kds k := by simp [valD, e]
        have e2 : valV ((a, x) :: kvs) k = valV kvs k := by simp [valV, e]
        rw [e1, e2]; exact ih
theorem rep_keyOf {S : Src} {F : Hp} {v : V} {d : D} {k : Key} (r : Rep K S F v d) (h : keyOf d = some k) : v = kV k := by
  cases r <;> first | (simp [keyOf] at h; subst h; rfl) | (simp [keyOf] at h)
/-- k in d -/
def rInDct (neg : Bool) : R2 := fun y x H Q => ∃ a kvs k, x = .ref a ∧ H a = some (.dK kvs) ∧ y = kV k ∧ Q (.bl (if neg then !(valV kvs k).isSome else (valV kvs k).isSome)) H
theorem op_inDct {X : Cx} (hu : X.A.units + 1 < cLine) : OpR X (compareOp .In) (rInDct false) := by
  intro pins s σ H y x u v Q I ry rx ⟨a, kvs, k, e, h, ey, q⟩
  subst e; subst ey
  obtain rfl : v = Value.ref a := rx
  exact d_in hu I (DGet.k h) ry fun s' I' => ⟨.bl _, H, I', rfl, q⟩
def dInDct (neg : Bool) (a b : D) (Q : Res → Prop) : Prop := ∃ kds k, b = .dct kds ∧ keyOf a = some k ∧ Q (.v (.bl (if neg then !(valD kds k).isSome else (valD kds k).isSome)))
theorem od_inDct {neg : Bool} : OpD K (rInDct neg) (dInDct neg) := by
  intro S F H x y d e QD Q s rx ry ⟨kds, k0, hb, hk, h⟩ k
  subst hb
  cases ry with
  | dct h1 h2 h3 =>
    rename_i a kvs
    have e : (valV kvs k0).isSome = (valD kds k0).isSome := by
      obtain ⟨n, m⟩ := val_rep (k := k0) h2 h3
      cases z : valD kds k0 with
      | none => rw [n z] <;> rfl
      | some d => obtain ⟨v, hv, _⟩ := m d z; rw [hv]; rfl
    exact ⟨a, kvs, k0, rfl, s _ _ h1, rep_keyOf rx hk, by rw [e]; exact k _ H F (.v (.bl _)) (.refl s) (.bl _) h⟩
end
/-- d[k] -/
def dDctIx (td ty : DTE) : DTE := fun ρ Q => td ρ fun r ρ1 => ty ρ1 fun r2 ρ2 => ∃ kds k d, fz r = .dct kds ∧ keyOf (fz r2) = some k ∧ valD kds k = some d ∧ Q (.v d) ρ2
theorem de_dctIx {c : C} {X : Cx} {o i : Expr} {td ty : DTE} {pos : Pos} (hu : X.A.units + 1 < cLine) (ho : PE X o (liftE c td)) (hi : PE X i (liftE c ty)) (hs : NoSl i) : PE X (.Subscript o i pos) (liftE c (dDctIx td ty)) :=
  PE_imp (pe_dget hu (froze ho) (froze hi) hs) fun σ H Q ⟨F, ρ, QD, s, h, k⟩ =>
    ⟨F, ρ, (fun d ρ1 => ty ρ1 fun r2 ρ2 => ∃ kds k d', d = .dct kds ∧ keyOf (fz r2) = some k ∧ valD kds k = some d' ∧ QD (.v d') ρ2), s, h, fun x H1 F1 ρ1 d s1 st1 rx q =>
      ⟨F1, ρ1, (fun e ρ2 => ∃ kds k d', d = .dct kds ∧ keyOf e = some k ∧ valD kds k = some d' ∧ QD (.v d') ρ2), s1, q, fun y H2 F2 ρ2 e s2 st2 ry ⟨kds, k0, d', e1, e2, e3, qq⟩ => by
        clear q
        subst e1
        cases rx.mono st2.ff with
        | dct h1 h2 h3 =>
          obtain ⟨v, hv, rv⟩ := (val_rep (k := k0) h2 h3).2 d' e3
          exact ⟨_, v, rfl, by rw [rep_keyOf ry e2, ← hv]; exact DGet.k (s2.sub _ _ h1), k v H2 F2 ρ2 (.v d') s2 (st1.trans st2) rv trivial qq⟩⟩⟩
end L2.DL
set_option Elab.async false
set_option linter.all false
set_option autoImplicit false
set_option maxRecDepth 100000
set_option maxHeartbeats 1000000
namespace L2.DL
open PySem PySem.Spec PyProof.Rows
section
variable {c : C} {X : Cx} {a b e d : Expr} {te ta tb td : DTE} {t : DTA} {pos : Pos}
def dPar3 (i j l : Nat) (ta tb td : DTE) : DTS := fun D ρ => ta ρ fun r1 ρ1 => tb ρ1 fun r2 ρ2 => td ρ2 fun r3 ρ3 => D.nx (((ρ3.set i (toSl r1)).set j (toSl r2)).set l (toSl r3))
/-- an own result is none of an earlier state's -/
theorem own_apart {σ : L2.St} {F H Fb Hb : Hp} {ρ ρb : Rho} {v w : V} {r1 r2 : Res} {p : Addr} {xs ys : D} (h1 : RR c σ Fb Hb ρb v r1) (e1 : r1 = .ow xs) (ep : v = .ref p) (n2 : New σ Hb ρb w r2) (e2 : r2 = .ow ys) : w ≠ .ref p := by
  subst e1; subst e2
  obtain ⟨q, vs, e, a, b, d, f, g, k⟩ := h1
  rw [ep] at e; cases e
  obtain ⟨q, e2, n2⟩ := n2
  intro z
  rw [e2] at z
  cases z
  rw [kn_of a d.plain.1] at n2; cases n2
theorem RR.stored {σ : L2.St} {F H Fb Hb : Hp} {ρ ρb : Rho} {i : Nat} {v w : V} {r1 r2 : Res} (s : SR c F H σ ρ) (h2 : RR c σ F H ρ w r2) (h1b : RR c σ Fb Hb ρb v r1) (n2 : New σ Hb ρb w r2) : RR c (σ.set i (some v)) F H (ρ.set i (toSl r1)) w r2 := by
  cases r2 with
  | v d => exact h2
  | ow ys =>
    obtain ⟨p, vs, e, a, b, d, f, g, k⟩ := h2
    refine ⟨p, vs, e, a, b, d, f, fun ⟨m, zs, z1, z2⟩ => ?_, k⟩
    rcases getElem?_set_cases z1 with ⟨f1, f2, f3⟩ | ⟨f1, f2⟩
    · subst f1
      rw [List.getElem?_set_self (by rw [← s.len]; exact f3)] at z2
      cases r1 with
      | v d' => cases f2
      | ow xs =>
        cases z2
        exact own_apart (F := F) (H := H) (ρ := ρ) h1b rfl rfl n2 rfl e
    · rw [List.getElem?_set_ne f1.symm] at z2
      exact g ⟨m, zs, f2, z2⟩
theorem ds_par3 {i j l : Nat} {x y z : Str} {px py pz pt : Pos} {kt k2 pt2} (hc : X.calm = true) (hN : X.N.Nodup) (hi : X.N[i]? = some x) (hj : X.N[j]? = some y) (hl : X.N[l]? = some z) (hij : i ≠ j) (hil : i ≠ l) (hjl : j ≠ l)
    (hx : X.env.scope.names.lookup x = some .local) (hy : X.env.scope.names.lookup y = some .local) (hz : X.env.scope.names.lookup z = some .local) (ha : PE X a (liftE c ta)) (hb : PE X b (liftE c tb)) (hd : PE X d (liftE c td))
    (hw : swappedStores [.Tuple [.Name x px, .Name y py, .Name z pz] kt pt] (.Tuple [a, b, d] k2 pt2) X.env = pure (some [x, y, z]))
    (he : starEach [a, b, d] X.env = (false, eval a X.env) :: starEach [b, d] X.env := by rfl) (he2 : starEach [b, d] X.env = (false, eval b X.env) :: starEach [d] X.env := by rfl) (he3 : starEach [d] X.env = (false, eval d X.env) :: starEach [] X.env := by rfl)
    (hs : swapsWithSole [.Tuple [.Name x px, .Name y py, .Name z pz] kt pt] (.Tuple [a, b, d] k2 pt2) pos.line X.env = pure false := by rfl) :
    PS X (.Assign [.Tuple [.Name x px, .Name y py, .Name z pz] kt pt] (.Tuple [a, b, d] k2 pt2) pos) (liftS c (dPar3 i j l ta tb td)) :=
  PS_imp (ps_par3 hc hN hi hj hl hij hil hjl hx hy hz (pa_cons ha (pa_cons hb (pa_cons hd pa_nil he3) he2) he) hw hs) fun E σ H ⟨F, ρ, DD, s, h, k⟩ =>
    ⟨F, ρ, (fun r1 ρ1 => tb ρ1 fun r2 ρ2 => td ρ2 fun r3 ρ3 => DD.nx (((ρ3.set i (toSl r1)).set j (toSl r2)).set l (toSl r3))), s, h, fun v H1 F1 ρ1 r1 s1 st1 rr1 nw1 q1 =>
      ⟨F1, ρ1, (fun r2 ρ2 => td ρ2 fun r3 ρ3 => DD.nx (((ρ3.set i (toSl r1)).set j (toSl r2)).set l (toSl r3))), s1, q1, fun w H2 F2 ρ2 r2 s2 st2 rr2 nw2 q2 =>
        ⟨F2, ρ2, (fun r3 ρ3 => DD.nx (((ρ3.set i (toSl r1)).set j (toSl r2)).set l (toSl r3))), s2, q2, fun u H3 F3 ρ3 r3 s3 st3 rr3 nw3 q3 => by
          refine ⟨v, w, u, rfl, k.nx _ H3 F3 _ ((st1.ff.trans st2.ff).trans st3.ff) ?_ q3⟩
          have a1 := (rr1.keep st2 s2).keep st3 s3
          have a2 := rr2.keep st3 s3
          have b1 : SR c F3 H3 ((σ.set i (some v)).set j (some w)) ((ρ3.set i (toSl r1)).set j (toSl r2)) := store2 s3 a1 a2 rr1 nw2
          refine b1.store ?_
          -- the third one beside the first two
          have c1 : RR c (σ.set i (some v)) F3 H3 (ρ3.set i (toSl r1)) u r3 := RR.stored s3 rr3 (rr1.keep st2 s2) nw3
          have c2 : RR c (σ.set i (some v)) F2 H2 (ρ2.set i (toSl r1)) w r2 := RR.stored s2 rr2 rr1 nw2
          have n3 : New (σ.set i (some v)) H2 (ρ2.set i (toSl r1)) u r3 := by
            cases r3 with
            | v d => trivial
            | ow zs =>
              obtain ⟨p, ep, n⟩ := nw3
              exact ⟨p, ep, n⟩
          exact RR.stored (s3.store a1) c1 c2 n3⟩⟩⟩
def dAugI (g : Int → Int → Int) (i : Nat) (te : DTE) : DTS := fun D ρ => ∃ n : Int, ρ[i]? = some (Sl.d (.int n)) ∧ te ρ fun r ρ1 => ∃ m : Int, fz r = .int m ∧ D.nx (ρ1.set i (.d (.int (g n m))))
def truD : D → Option Bool
  | .non => some false
  | .bl b => some b
  | .int i => some (i != 0)
  | .str z => if z.length ≤ sizeLine then some ((z.length : Int) != 0) else none
  | .lst xs => some (!xs.isEmpty)
  | .tup xs => some (!xs.isEmpty)
  | .dct xs => some (!xs.isEmpty)
  | _ => none
theorem isEmpty_reps {K : PySem.W.Frag} {S : Src} {F : Hp} {vs : List V} {ds : List D} (r : Reps K S F vs ds) : vs.isEmpty = ds.isEmpty := by
  cases r <;> rfl
theorem isEmpty_keys {α β : Type} {xs : List (Key × α)} {ys : List (Key × β)} (h : xs.map (·.1) = ys.map (·.1)) : xs.isEmpty = ys.isEmpty := by
  cases xs <;> cases ys <;> first | rfl | (simp at h)
def dTru (te : DTE) : DTT := fun ρ Q => te ρ fun r ρ1 => ∃ b, truD (fz r) = some b ∧ Q b ρ1
theorem tru_rep {K : PySem.W.Frag} {S : Src} {F H : Hp} {v : V} {d : D} {b : Bool} (s : Le F H) (r : Rep K S F v d) (h : truD d = some b) : TruV K v H b := by
  cases r with
  | non => cases h; exact rfl
  | bl b => cases h; exact rfl
  | int i => cases h; exact rfl
  | str z =>
    have h : (if z.length ≤ sizeLine then some ((z.length : Int) != 0) else none) = some b := h
    by_cases hz : z.length ≤ sizeLine
    · rw [if_pos hz] at h
      cases h
      exact ⟨hz, rfl⟩
    · rw [if_neg hz] at h
      cases h
  | lst h1 r1 => cases h; exact .inl ⟨_, h1.sq s, by rw [isEmpty_reps r1]⟩
  | tup h1 r1 => cases h; exact .inr (.inl ⟨_, s.seqT (.inl (.inl h1)), by rw [isEmpty_reps r1]⟩)
  | dct h1 h2 h3 => cases h; exact .inr (.inr ⟨_, s _ _ h1, by rw [isEmpty_keys h2]⟩)
  | _ => cases h
theorem dt_tru (hK : X.K = c.K) (ha : PE X a (liftE c te)) (he : ∀ whole, isTrue a X.env whole = (do let v ← whole; standAt a.pos; holding [v] (truthy v)) := by intro _; rfl) : PT X a (liftT c (dTru te)) :=
  PT_imp (pt_truth (froze ha) he) fun σ H Q ⟨F, ρ, QD, s, h, k⟩ =>
    ⟨F, ρ, (fun d ρ1 => ∃ b, truD d = some b ∧ QD b ρ1), s, h, fun v H1 F1 ρ1 d s1 st1 rv ⟨b, hb, q⟩ => ⟨b, by rw [hK]; exact tru_rep s1.sub rv hb, k b H1 F1 ρ1 s1 st1 q⟩⟩
def dChain (dr dr' : D → D → (Res → Prop) → Prop) (ta tb td : DTE) : DTE := fun ρ Q => ta ρ fun r1 ρ1 => tb ρ1 fun r2 ρ2 => dr (fz r1) (fz r2) fun r => ∃ b, r = .v (.bl b) ∧ if b = true then td ρ2 fun r3 ρ3 => dr' (fz r2) (fz r3) fun r => Q r ρ3 else Q (.v (.bl false)) ρ2
end
end L2.DL
set_option Elab.async false
set_option linter.all false
set_option autoImplicit false
set_option maxRecDepth 100000
set_option maxHeartbeats 1000000
namespace L2.DL
open PySem PySem.Spec PyProof.Rows
theorem nlc : ¬ kc = kl := by decide +kernel
theorem nmc : ¬ kc = km := by decide +kernel
theorem nml : ¬ kl = km := by decide +kernel
theorem ntc : ¬ kc = kt := by decide +kernel
theorem ntl : ¬ kl = kt := by decide +kernel
theorem ntm : ¬ km = kt := by decide +kernel
theorem nlm : ¬ km = kl := by decide +kernel
theorem nlt : ¬ kt = kl := by decide +kernel
theorem nmt : ¬ kt = km := by decide +kernel
section
variable {q : Addr} {l m t : Int} {v : V}
abbrev srcK (q : Addr) (l m t : Int) : List (Key × V) := [(kc, .ref q), (kl, .int l), (km, .int m), (kt, .int t)]
theorem get_c : valV (srcK q l m t) kc = some (.ref q) := valV_pos rfl
theorem get_l : valV (srcK q l m t) kl = some (.int l) := (valV_neg nlc).trans (valV_pos rfl)
theorem get_m : valV (srcK q l m t) km = some (.int m) := (valV_neg nmc).trans ((valV_neg nml).trans (valV_pos rfl))
theorem get_t : valV (srcK q l m t) kt = some (.int t) := (valV_neg ntc).trans ((valV_neg ntl).trans ((valV_neg ntm).trans (valV_pos rfl)))
theorem put_l {l' : Int} : putK (srcK q l m t) kl (.int l') = srcK q l' m t := by unfold putK srcK; simp [nlc, nlm, nlt]
theorem put_m {m' : Int} : putK (srcK q l m t) km (.int m') = srcK q l m' t := by unfold putK srcK; simp [nmc, nml, nmt]
theorem put_t {t' : Int} : putK (srcK q l m t) kt (.int t') = srcK q l m t' := by unfold putK srcK; simp [ntc, ntl, ntm]
end
section
variable {c : C} {σ : L2.St} {F H H' : Hp} {ρ : Rho}
/-- the source alone has changed -/
theorem SR.src' (s : SR c F H σ ρ) (h : ∀ p, ¬ inS c.S p → H' p = H p) (k : SrcOk c.S H') : SR c F H' σ ρ where
  sub' := fun p o z => by
    rw [kn_same (h p fun y => by rw [s.srcF p y] at z; cases z)]
    exact s.sub' p o z
  f0 := s.f0
  h0 := fun p o z y => by rw [h p y]; exact s.h0 p o z y
  n0 := s.n0
  src := k
  srcF := s.srcF
  len := s.len
  sl := s.sl
  ow := fun i xs z => by
    obtain ⟨p, vs, a, b, d, f, g, y⟩ := s.ow i xs z
    exact ⟨p, vs, a, by rw [h p y]; exact b, d, f, g, y⟩
  dis := s.dis
end
/-- an int that the source keeps -/
def dSrcG (i : Nat) (lim : Int → Prop) : DTE := fun ρ Q => ρ[i]? = some (Sl.d .src) ∧ ∀ k : Int, 0 ≤ k → lim k → Q (.v (.int k)) ρ
def dSrcP (i : Nat) (lim : Int → Prop) (te : DTE) : DTS := fun D ρ => te ρ fun r ρ1 => ρ1[i]? = some (Sl.d .src) ∧ ∃ k : Int, fz r = .int k ∧ 0 ≤ k ∧ lim k ∧ D.nx ρ1
def limL : Int → Prop := fun _ => True
def limM : Int → Prop := fun m => m < 4294967296
section
variable {c : C} {X : Cx} {e : Expr} {te : DTE} {i : Nat} {x : Str} {pos p2 p3 : Pos} {j : Nat}
theorem src_at {F H : Hp} {σ : L2.St} {ρ : Rho} (s : SR c F H σ ρ) (h : ρ[i]? = some (Sl.d .src)) :
    ∃ (a q : Addr) (l m t : Int) (cs : List Int), σ[i]? = some (some (V.ref a)) ∧ c.S.1 = some (a, q) ∧ H a = some (.dK (srcK q l m t)) ∧ H q = some (.lst (cs.map V.int)) ∧ (∀ z, z ∈ cs → 0 ≤ z) ∧ 0 ≤ l ∧ 0 ≤ m ∧ m < 4294967296 ∧ 0 ≤ t := by
  obtain ⟨v, hv, rv⟩ := s.sl i _ h
  cases rv with
  | src hS =>
    rename_i a q
    obtain ⟨l, m, t, cs, h1, h2, h3, h4, h5, h6, h7⟩ := s.src.ok a q hS
    exact ⟨a, q, l, m, t, cs, hv, hS, h1, h2, h3, h4, h5, h6, h7⟩
theorem de_srcL (hu : X.A.units + 1 < cLine) (ho : PE X e (tVar i)) (hs : NoSl (.Constant (.str "left") j p2)) : PE X (.Subscript e (.Constant (.str "left") j p2) pos) (liftE c (dSrcG i limL)) :=
  PE_imp (pe_dget hu ho pe_str hs) fun σ H Q ⟨F, ρ, QD, s, ⟨h, q⟩, k⟩ => by
    obtain ⟨a, b, l, m, t, cs, h1, h2, h3, h4, h5, h6, h7, h8, h9⟩ := src_at s h
    exact ⟨_, h1, a, _, rfl, (show DGet H a (kV kl) (some (.int l)) from by rw [← get_l]; exact DGet.k h3), k _ H F ρ (.v (.int l)) s Stp.refl (.int l) trivial (q l h6 trivial)⟩
theorem de_srcM (hu : X.A.units + 1 < cLine) (ho : PE X e (tVar i)) (hs : NoSl (.Constant (.str "mixed") j p2)) : PE X (.Subscript e (.Constant (.str "mixed") j p2) pos) (liftE c (dSrcG i limM)) :=
  PE_imp (pe_dget hu ho pe_str hs) fun σ H Q ⟨F, ρ, QD, s, ⟨h, q⟩, k⟩ => by
    obtain ⟨a, b, l, m, t, cs, h1, h2, h3, h4, h5, h6, h7, h8, h9⟩ := src_at s h
    exact ⟨_, h1, a, _, rfl, (show DGet H a (kV km) (some (.int m)) from by rw [← get_m]; exact DGet.k h3), k _ H F ρ (.v (.int m)) s Stp.refl (.int m) trivial (q m h7 h8)⟩
theorem de_srcT (hu : X.A.units + 1 < cLine) (ho : PE X e (tVar i)) (hs : NoSl (.Constant (.str "turn") j p2)) : PE X (.Subscript e (.Constant (.str "turn") j p2) pos) (liftE c (dSrcG i limL)) :=
  PE_imp (pe_dget hu ho pe_str hs) fun σ H Q ⟨F, ρ, QD, s, ⟨h, q⟩, k⟩ => by
    obtain ⟨a, b, l, m, t, cs, h1, h2, h3, h4, h5, h6, h7, h8, h9⟩ := src_at s h
    exact ⟨_, h1, a, _, rfl, (show DGet H a (kV kt) (some (.int t)) from by rw [← get_t]; exact DGet.k h3), k _ H F ρ (.v (.int t)) s Stp.refl (.int t) trivial (q t h9 trivial)⟩
theorem srcok_at {S : Src} {H : Hp} {a q : Addr} {l m t : Int} {cs : List Int} (hS : S.1 = some (a, q)) (h1 : H a = some (.dK (srcK q l m t))) (h2 : H q = some (.lst (cs.map V.int))) (h3 : ∀ z, z ∈ cs → 0 ≤ z) (h4 : 0 ≤ l) (h5 : 0 ≤ m) (h6 : m < 4294967296) (h7 : 0 ≤ t) (ht : ∀ P q, (P, q) ∈ S.2 → LamX.TabS H P q) : SrcOk S H := by
  refine ⟨fun a' q' e => ?_, ht⟩
  rw [hS] at e
  cases e
  exact ⟨l, m, t, cs, h1, h2, h3, h4, h5, h6, h7⟩
theorem put_end {F H : Hp} {σ : L2.St} {ρ : Rho} {a q : Addr} {l m t : Int} {cs : List Int} (s : SR c F H σ ρ) (hS : c.S.1 = some (a, q)) {H0k : List (Key × V)} (hH : H a = some (.dK H0k)) (h2 : H q = some (.lst (cs.map V.int))) (h3 : ∀ z, z ∈ cs → 0 ≤ z) (h4 : 0 ≤ l) (h5 : 0 ≤ m) (h6 : m < 4294967296) (h7 : 0 ≤ t) :
    SR c F (upd H a (.dK (srcK q l m t))) σ ρ := by
  have nq : q ≠ a := fun e => by rw [e, hH] at h2; cases h2
  exact s.src' (fun p hp => upd_ne fun e => hp (.inl ⟨a, q, hS, .inl e⟩)) (srcok_at hS upd_same (by rw [upd_ne nq]; exact h2) h3 h4 h5 h6 h7 fun P q' e => tab_put (s.src.tab P q' e) hH)
theorem ds_srcL (hu : X.A.units + 1 < cLine) (hv : PE X e (liftE c te)) {o : Expr} (ho : PE X o (tVar i)) (hs : swapsWith e (some (.Subscript o (.Constant (.str "left") j p2) p3)) pos.line X.env = pure false) : PS X (.Assign [.Subscript o (.Constant (.str "left") j p2) p3] e pos) (liftS c (dSrcP i limL te)) :=
  PS_imp (ps_dput hu ho pe_str (froze hv) hs) fun E σ H ⟨F, ρ, DD, s, h, k⟩ => by
    refine ⟨F, ρ, (fun d ρ1 => ρ1[i]? = some (Sl.d .src) ∧ ∃ k : Int, d = .int k ∧ 0 ≤ k ∧ limL k ∧ DD.nx ρ1), s, h, fun v H1 F1 ρ1 d s1 st1 rv ⟨hi, n, ed, n0, _, qn⟩ => ?_⟩
    subst ed
    cases rv
    obtain ⟨a, b, l, m, t, cs, h1, h2, h3, h4, h5, h6, h7, h8, h9⟩ := src_at s1 hi
    exact ⟨_, h1, a, _, rfl, DPut.k (k := kl) h3 (show 4 < sizeLine by decide), by rw [put_l]; exact k.nx _ _ F1 ρ1 st1.ff (put_end s1 h2 h3 h4 h5 n0 h7 h8 h9) qn⟩
theorem ds_srcM (hu : X.A.units + 1 < cLine) (hv : PE X e (liftE c te)) {o : Expr} (ho : PE X o (tVar i)) (hs : swapsWith e (some (.Subscript o (.Constant (.str "mixed") j p2) p3)) pos.line X.env = pure false) : PS X (.Assign [.Subscript o (.Constant (.str "mixed") j p2) p3] e pos) (liftS c (dSrcP i limM te)) :=
  PS_imp (ps_dput hu ho pe_str (froze hv) hs) fun E σ H ⟨F, ρ, DD, s, h, k⟩ => by
    refine ⟨F, ρ, (fun d ρ1 => ρ1[i]? = some (Sl.d .src) ∧ ∃ k : Int, d = .int k ∧ 0 ≤ k ∧ limM k ∧ DD.nx ρ1), s, h, fun v H1 F1 ρ1 d s1 st1 rv ⟨hi, n, ed, n0, nl, qn⟩ => ?_⟩
    subst ed
    cases rv
    obtain ⟨a, b, l, m, t, cs, h1, h2, h3, h4, h5, h6, h7, h8, h9⟩ := src_at s1 hi
    exact ⟨_, h1, a, _, rfl, DPut.k (k := km) h3 (show 4 < sizeLine by decide), by rw [put_m]; exact k.nx _ _ F1 ρ1 st1.ff (put_end s1 h2 h3 h4 h5 h6 n0 nl h9) qn⟩
theorem ds_srcT (hu : X.A.units + 1 < cLine) (hv : PE X e (liftE c te)) {o : Expr} (ho : PE X o (tVar i)) (hs : swapsWith e (some (.Subscript o (.Constant (.str "turn") j p2) p3)) pos.line X.env = pure false) : PS X (.Assign [.Subscript o (.Constant (.str "turn") j p2) p3] e pos) (liftS c (dSrcP i limL te)) :=
  PS_imp (ps_dput hu ho pe_str (froze hv) hs) fun E σ H ⟨F, ρ, DD, s, h, k⟩ => by
    refine ⟨F, ρ, (fun d ρ1 => ρ1[i]? = some (Sl.d .src) ∧ ∃ k : Int, d = .int k ∧ 0 ≤ k ∧ limL k ∧ DD.nx ρ1), s, h, fun v H1 F1 ρ1 d s1 st1 rv ⟨hi, n, ed, n0, _, qn⟩ => ?_⟩
    subst ed
    cases rv
    obtain ⟨a, b, l, m, t, cs, h1, h2, h3, h4, h5, h6, h7, h8, h9⟩ := src_at s1 hi
    exact ⟨_, h1, a, _, rfl, DPut.k (k := kt) h3 (show 4 < sizeLine by decide), by rw [put_t]; exact k.nx _ _ F1 ρ1 st1.ff (put_end s1 h2 h3 h4 h5 h6 h7 h8 n0) qn⟩
end
def dFeed (i j : Nat) : DTS := fun D ρ => ρ[i]? = some (Sl.d .src) ∧ (∃ n : Int, ρ[j]? = some (Sl.d (.int n))) ∧ D.nx ρ
theorem last_get {cs : List Int} (h : 0 < cs.length) : ∃ z, (cs.map V.int)[(cs.map V.int).length - 1]? = some (V.int z) ∧ z ∈ cs := by
  have hl : cs.length - 1 < cs.length := by omega
  refine ⟨cs[cs.length - 1], ?_, List.getElem_mem hl⟩
  rw [List.length_map, List.getElem?_map, List.getElem?_eq_getElem hl]
  rfl
theorem map_dropLast {cs : List Int} : (cs.map V.int).dropLast = cs.dropLast.map V.int := by rw [List.dropLast_eq_take, List.dropLast_eq_take, List.length_map, List.map_take]
section
variable {c : C} {X : Cx} {em o o2 o3 o4 : Expr} {i j : Nat}
theorem ds_feed {a1 a2 a3 a4 a5 a6 a7 : Nat} {b1 b2 b3 b4 b5 b6 b7 c1 c2 c3 c4 c5 c6 p1 pa cp ap s1 s2 s3 pos wp : Pos} (hp : PassesOwn (model X.prog X.w) X.A X.env X.xe) (hu : X.A.units + 1 < cLine) (gl : Gl X "len") (ml : X.mg "len" = none)
    (hm : PE X em (tVar j)) (h1 : PE X o (tVar i)) (h2 : PE X o2 (tVar i)) (h3 : PE X o3 (tVar i)) (h4 : PE X o4 (tVar i))
    (n1 : NoSl (.Constant (.str "left") a2 b2)) (n2 : NoSl (.Constant (.str "cells") a4 b4)) (n3 : NoSl (.Constant (.str "cells") a7 b7))
    (k1 : behindInMarks .Gt (.Constant (.int 1) a1 b1) = false) (k2 : behindInMarks .Lt (.Constant (.int 2) a3 b3) = false) (k3 : behindInMarks .Gt (.Constant (.int 0) a5 b5) = false)
    (e1 : starEach [.Subscript o2 (.Constant (.str "cells") a4 b4) c4] X.env = (false, eval (.Subscript o2 (.Constant (.str "cells") a4 b4) c4) X.env) :: starEach [] X.env) (e2 : (backTo pa (starEach [] X.env)).any (·.1) = false)
    (hb : attributeBase (.Subscript o4 (.Constant (.str "cells") a7 b7) c6) "pop" X.env (eval (.Subscript o4 (.Constant (.str "cells") a7 b7) c6) X.env) = eval (.Subscript o4 (.Constant (.str "cells") a7 b7) c6) X.env) (hl : (ap.endLine == cp.line) = true)
    (hs : swapsWith (.Call (.Attribute (.Subscript o4 (.Constant (.str "cells") a7 b7) c6) "pop" ap) [] [] cp) (some (.Subscript o3 (.Constant (.str "left") a6 b6) s1)) s2.line X.env = pure false) :
    PS X (.While (.BoolOp .And [.Compare em [.Gt] [.Constant (.int 1) a1 b1] c1, .Compare (.Subscript o (.Constant (.str "left") a2 b2) c2) [.Lt] [.Constant (.int 2) a3 b3] c3, .Compare (.Call (.Name "len" p1) [.Subscript o2 (.Constant (.str "cells") a4 b4) c4] [] pa) [.Gt] [.Constant (.int 0) a5 b5] c5] pos)
      [.Assign [.Subscript o3 (.Constant (.str "left") a6 b6) s1] (.Call (.Attribute (.Subscript o4 (.Constant (.str "cells") a7 b7) c6) "pop" ap) [] [] cp) s2] [] wp) (liftS c (dFeed i j)) :=
  PS_imp (ps_while hp (pw_and (pt_cmpR op_gt hm pe_int k1) (pw_and (pt_cmpR op_lt (pe_dget hu h1 pe_str n1) pe_int k2) (pw_and1 (pt_cmpR op_gt (pe_callB call_len gl ml PySem.boot_len (pa_cons (pe_dget hu h2 pe_str n2) pa_nil e1) (he := e1) (hpl := e2)) pe_int k3)))).pt
      (pss_one (ps_dput hu h3 pe_str (pe_bm0 PySem.F.plainAttrs_list PySem.F.slot_list_pop PySem.F.type_list_pop mt_pop (pe_dget hu h4 pe_str n3) hb hl) hs)))
    fun E σ H ⟨F, ρ, DD, s, ⟨hi, ⟨n, hj⟩, hnx⟩, k⟩ => by
      refine ⟨fun m' σ' H' => σ' = σ ∧ SR c F H' σ ρ ∧ ∃ (a q : Addr) (l m t : Int) (cs : List Int), m' = cs.length ∧ σ[i]? = some (some (V.ref a)) ∧ c.S.1 = some (a, q) ∧ H' a = some (.dK (srcK q l m t)) ∧ H' q = some (.lst (cs.map V.int)) ∧ (∀ z, z ∈ cs → 0 ≤ z) ∧ 0 ≤ l ∧ 0 ≤ m ∧ m < 4294967296 ∧ 0 ≤ t, ?_, ?_⟩
      · obtain ⟨a, q, l, m, t, cs, z⟩ := src_at s hi
        exact ⟨_, rfl, s, a, q, l, m, t, cs, rfl, z⟩
      · rintro m' σ' H' ⟨rfl, s', a, q, l, m, t, cs, rfl, g1, g2, g3, g4, g5, g6, g7, g8, g9⟩
        obtain ⟨vn, gn, rn⟩ := s'.sl j _ hj
        cases rn
        have dl : DGet H' a (kV kl) (some (.int l)) := by rw [← get_l]; exact DGet.k g3
        have dc : DGet H' a (kV kc) (some (.ref q)) := by rw [← get_c (q := q) (l := l) (m := m) (t := t)]; exact DGet.k g3
        have fin : E.nx σ' H' := k.nx σ' H' F ρ (Le.refl _) s' hnx
        refine ⟨_, gn, n, 1, rfl, rfl, _, rfl, ?_⟩
        by_cases z1 : decide (1 < n) = true
        · rw [z1]
          refine iteT ⟨_, g1, a, _, rfl, dl, l, 2, rfl, rfl, _, rfl, ?_⟩
          by_cases z2 : decide (l < 2) = true
          · rw [z2]
            refine iteT ⟨_, g1, a, _, rfl, dc, _, cs.length, rfl, .inl ⟨_, .inl (.inl g4), (List.length_map ..).symm⟩, _, 0, rfl, rfl, _, rfl, ?_⟩
            by_cases z3 : decide ((0 : Int) < cs.length) = true
            · rw [z3]
              refine iteT ?_
              have hlen : 0 < cs.length := by have := of_decide_eq_true z3; omega
              obtain ⟨w, w1, w2⟩ := last_get hlen
              have nq : q ≠ a := fun e => by rw [e, g3] at g4; cases g4
              refine ⟨fun σ2 H2 => ∃ m2, m2 < cs.length ∧ σ2 = σ' ∧ SR c F H2 σ' ρ ∧ ∃ (a q : Addr) (l m t : Int) (cs : List Int), m2 = cs.length ∧ σ'[i]? = some (some (V.ref a)) ∧ c.S.1 = some (a, q) ∧ H2 a = some (.dK (srcK q l m t)) ∧ H2 q = some (.lst (cs.map V.int)) ∧ (∀ z, z ∈ cs → 0 ≤ z) ∧ 0 ≤ l ∧ 0 ≤ m ∧ m < 4294967296 ∧ 0 ≤ t, fun σ2 H2 z => z, ?_⟩
              refine ⟨_, g1, a, _, rfl, dc, .inl ⟨rfl, _, .inl (.inl g4)⟩, q, _, _, rfl, rfl, g4, w1, ?_⟩
              have ga : (upd H' q (.lst ((cs.map V.int).dropLast))) a = some (.dK (srcK q l m t)) := by rw [upd_ne nq.symm]; exact g3
              refine ⟨_, g1, a, _, rfl, DPut.k (k := kl) ga (show 4 < sizeLine by decide), ?_⟩
              rw [put_l, map_dropLast]
              have pos : ∀ z, z ∈ cs.dropLast → 0 ≤ z := fun z hz => g5 z (List.dropLast_subset _ hz)
              have ok : SrcOk c.S (upd (upd H' q (.lst (cs.dropLast.map V.int))) a (.dK (srcK q w m t))) := srcok_at g2 upd_same (by rw [upd_ne nq, upd_same]) pos (g5 w w2) g7 g8 g9 fun P q' e => tab_put (tab_put (s'.src.tab P q' e) g4) (by rw [upd_ne nq.symm]; exact g3)
              refine ⟨cs.length - 1, by omega, rfl, s'.src' (fun p hp => ?_) ok, a, q, w, m, t, cs.dropLast, by rw [List.length_dropLast], g1, g2, upd_same, by rw [upd_ne nq, upd_same], pos, g5 w w2, g7, g8, g9⟩
              rw [upd_ne fun e => hp (.inl ⟨a, q, g2, .inl e⟩), upd_ne fun e => hp (.inl ⟨a, q, g2, .inr e⟩)]
            · rw [Bool.eq_false_iff.mpr z3]
              exact iteF fin
          · rw [Bool.eq_false_iff.mpr z2]
            exact iteF (iteF fin)
        · rw [Bool.eq_false_iff.mpr z1]
          exact iteF (iteF fin)
end
end L2.DL
set_option Elab.async false
set_option linter.all false
set_option autoImplicit false
set_option maxRecDepth 100000
set_option maxHeartbeats 1000000
namespace L2.DL
open PySem PySem.Spec PyProof.Rows
section
variable {c : C} {X : Cx} {pos : Pos} {x : Str}
/-- a built-in class as a value -/
theorem de_bty {T : String} (hg : Gl X x) (hm : X.mg x = none) (hv : bootBuiltins x = some (.type T)) (hn : x ≠ "__name__" := by decide) (hd : (x == ("__debug__" : Str)) = false := by decide) : PE X (.Name x pos) (liftE c (dC (.ty T))) :=
  de_c (te := tC (.ty T)) (pe_bltn hg hm hv (show RelV (.ty T) (.type T) from rfl) hn hd) fun _ => .ty T
/-- a text of the module -/
theorem de_con {z : Str} (hg : Gl X x) (hm : ∃ t, X.mg x = some (.str z t)) (hd : (x == ("__debug__" : Str)) = false := by decide) : PE X (.Name x pos) (liftE c (dC (.str z))) :=
  let ⟨t, h⟩ := hm
  de_glob hg h (show RelV (.str z) (.str z t) from ⟨t, rfl⟩) (fun _ => .str z) hd
def dNever : DTS := fun _ _ => False
theorem ds_never {st : Stmt} : PS X st (liftS c dNever) := PS_imp ps_never fun D σ H ⟨F, ρ, DD, s, h, k⟩ => h.elim
theorem PSs_ex {α : Type} {p : α → Prop} {st : List Stmt} {t : α → TS} (h : ∀ a, p a → PSs X st (t a)) : PSs X st (fun D σ H => ∃ a, p a ∧ t a D σ H) := ⟨fun pins s σ H D I ⟨a, pa, q⟩ => (h a pa).run pins s σ H D I q⟩
end
/-- element by element; J is kept, what is kept of x is f x -/
theorem lcL_fun {α : Type} {g : DTG} {tt : DTT} {te : DTE} {vs : List Nat} {Q : DQ} (J : Rho → Prop) (inj : α → D) (p : α → Bool) (f : α → D)
    (step : ∀ (x : α) ρ, J ρ → ∀ (K1 : DQ) (K2 : Rho → Prop), (p x = true → ∀ r ρ4, fz r = f x → J (dwipe ρ4 vs) → K1 r ρ4) → (p x = false → ∀ ρ3, J (dwipe ρ3 vs) → K2 ρ3) → g (inj x) ρ fun ρ2 => tt ρ2 fun b ρ3 => if b = true then te ρ3 K1 else K2 ρ3) :
    ∀ (xs : List α) (acc : List D) (ρ : Rho), acc.length + xs.length ≤ 1000000 → J ρ → (∀ ρ', J ρ' → Q (.own (acc ++ (xs.filter p).map f)) ρ') → dLcL g tt te vs Q (xs.map inj) acc ρ
  | [], acc, ρ, _, j, q => by
    have := q ρ j
    simp only [List.filter_nil, List.map_nil, List.append_nil] at this
    exact this
  | x :: xs, acc, ρ, hl, j, q => by
    rw [List.length_cons] at hl
    have hz : (1000000 : Nat) < sizeLine := by decide
    refine step x ρ j _ _ (fun hp r ρ4 e j4 => ⟨by omega, ?_⟩) (fun hp ρ3 j3 => ?_)
    · rw [e]
      refine lcL_fun J inj p f step xs _ _ (by rw [List.length_append]; show acc.length + 1 + xs.length ≤ _; omega) j4 fun ρ' j' => ?_
      have := q ρ' j'
      rw [List.filter_cons_of_pos hp, List.map_cons] at this
      rw [List.append_assoc]
      exact this
    · refine lcL_fun J inj p f step xs _ _ (by omega) j3 fun ρ' j' => ?_
      have := q ρ' j'
      rw [List.filter_cons_of_neg (by rw [hp]; exact Bool.false_ne_true)] at this
      exact this
/-- pairwise, as many -/
inductive All2 {α β : Type} (P : α → β → Prop) : List α → List β → Prop where
  | nil : All2 P [] []
  | cons {a b as bs} : P a b → All2 P as bs → All2 P (a :: as) (b :: bs)
theorem All2.length {α β : Type} {P : α → β → Prop} : ∀ {as : List α} {bs : List β}, All2 P as bs → bs.length = as.length
  | _, _, .nil => rfl
  | _, _, .cons _ h => by rw [List.length_cons, List.length_cons, h.length]
theorem All2.imp {α β : Type} {P P' : α → β → Prop} (f : ∀ a b, P a b → P' a b) : ∀ {as : List α} {bs : List β}, All2 P as bs → All2 P' as bs
  | _, _, .nil => .nil
  | _, _, .cons a h => .cons (f _ _ a) (h.imp f)
/-- every element gives one; what it is, is any y with P x y, told as out y -/
theorem lcL_rel {α β : Type} {g : DTG} {te : DTE} {vs : List Nat} {Q : DQ} (J : Rho → Prop) (inj : α → D) (P : α → β → Prop) (out : β → D)
    (step : ∀ (x : α) ρ, J ρ → ∀ (K1 : DQ), (∀ y r ρ4, P x y → fz r = out y → J (dwipe ρ4 vs) → K1 r ρ4) → g (inj x) ρ fun ρ2 => te ρ2 K1) :
    ∀ (xs : List α) (acc : List D) (ρ : Rho), acc.length + xs.length ≤ 1000000 → J ρ → (∀ ys ρ', All2 P xs ys → J ρ' → Q (.own (acc ++ ys.map out)) ρ') → dLcL g dYes te vs Q (xs.map inj) acc ρ
  | [], acc, ρ, _, j, q => by
    have := q [] ρ .nil j
    simp only [List.map_nil, List.append_nil] at this
    exact this
  | x :: xs, acc, ρ, hl, j, q => by
    rw [List.length_cons] at hl
    have hz : (1000000 : Nat) < sizeLine := by decide
    refine step x ρ j _ (fun y r ρ4 py e j4 => ⟨by omega, ?_⟩)
    rw [e]
    refine lcL_rel J inj P out step xs _ _ (by rw [List.length_append]; show acc.length + 1 + xs.length ≤ _; omega) j4 fun ys ρ' a j' => ?_
    have := q (y :: ys) ρ' (.cons py a) j'
    rw [List.map_cons] at this
    rw [List.append_assoc]
    exact this
theorem loop_inv {α : Type} {g : DTG} {tb : DTS} {E : DEnds} (inj : α → D) (J : List α → Rho → Prop) 
    (step : ∀ x xs ρ, J (x :: xs) ρ → ∀ E' : DEnds, (∀ ρ', J xs ρ' → E'.nx ρ') → (∀ ρ', J xs ρ' → E'.ct ρ') → (∀ ρ', E.nx ρ' → E'.bk ρ') → E'.rt = E.rt → g (inj x) ρ fun ρ2 => tb E' ρ2) (fin : ∀ ρ, J [] ρ → E.nx ρ) :
    ∀ (xs : List α) ρ, J xs ρ → dLoop g tb E (xs.map inj) ρ
  | [], ρ, j => fin ρ j
  | x :: xs, ρ, j => step x xs ρ j _ (fun ρ' j' => loop_inv inj J step fin xs ρ' j') (fun ρ' j' => loop_inv inj J step fin xs ρ' j') (fun _ z => z) rfl
end L2.DL
set_option Elab.async false
set_option linter.all false
set_option autoImplicit false
set_option maxRecDepth 100000
set_option maxHeartbeats 1000000
namespace L2.DL
open PySem PySem.Spec PyProof.Rows
def putD (kds : List (Key × D)) (k : Key) (d : D) : List (Key × D) :=
  if (kds.any fun kv => decide (kv.1 = k)) = true then kds.map (fun kv => if kv.1 = k then (kv.1, d) else kv) else kds ++ [(k, d)]
theorem any_keys {α β : Type} {k : Key} : ∀ {xs : List (Key × α)} {ys : List (Key × β)}, xs.map (·.1) = ys.map (·.1) → (xs.any fun kv => decide (kv.1 = k)) = ys.any fun kv => decide (kv.1 = k)
  | [], [], _ => rfl
  | [], _ :: _, h => by simp at h
  | _ :: _, [], h => by simp at h
  | (a, x) :: xs, (b, y) :: ys, h => by
    simp only [List.map_cons, List.cons.injEq] at h
    rw [List.any_cons, List.any_cons, any_keys h.2, h.1]
theorem put_rep {K : PySem.W.Frag} {S : Src} {F : Hp} {k : Key} {v : V} {d : D} {kvs : List (Key × V)} {kds : List (Key × D)} (h : kvs.map (·.1) = kds.map (·.1)) (r : Reps K S F (kvs.map (·.2)) (kds.map (·.2))) (rv : Rep K S F v d) :
    (putK kvs k v).map (·.1) = (putD kds k d).map (·.1) ∧ Reps K S F ((putK kvs k v).map (·.2)) ((putD kds k d).map (·.2)) := by
  unfold putK putD
  rw [any_keys h]
  split
  · have key : ∀ {kvs : List (Key × V)} {kds : List (Key × D)}, kvs.map (·.1) = kds.map (·.1) → Reps K S F (kvs.map (·.2)) (kds.map (·.2)) →
        (kvs.map fun kv => if kv.1 = k then (kv.1, v) else kv).map (·.1) = (kds.map fun kv => if kv.1 = k then (kv.1, d) else kv).map (·.1) ∧ Reps K S F ((kvs.map fun kv => if kv.1 = k then (kv.1, v) else kv).map (·.2)) ((kds.map fun kv => if kv.1 = k then (kv.1, d) else kv).map (·.2)) := by
      intro kvs
      induction kvs with
      | nil => intro kds h r; cases kds with
        | nil => exact ⟨rfl, .nil⟩
        | cons _ _ => simp at h
      | cons p kvs ih =>
        intro kds h r
        cases kds with
        | nil => simp at h
        | cons q kds =>
          simp only [List.map_cons, List.cons.injEq] at h
          cases r with
          | cons r1 r2 =>
            obtain ⟨a, b⟩ := ih h.2 r2
            simp only [List.map_cons]
            rw [h.1]
            split
            · exact ⟨by simp only [List.cons.injEq]; exact ⟨trivial, a⟩, .cons rv b⟩
            · exact ⟨by simp only [List.cons.injEq]; exact ⟨h.1, a⟩, .cons r1 b⟩
    exact key h r
  · rw [List.map_append, List.map_append, List.map_append, List.map_append, h]
    exact ⟨rfl, r.append (.cons rv .nil)⟩
theorem keys_len {α β : Type} {xs : List (Key × α)} {ys : List (Key × β)} (h : xs.map (·.1) = ys.map (·.1)) : xs.length = ys.length := by
  have := congrArg List.length h
  rwa [List.length_map, List.length_map] at this
def dNewD : DTE := fun ρ Q => Q (.ow (.dct [])) ρ
def dPutS (i : Nat) (ty tv : DTE) : DTS := fun D ρ => tv ρ fun r ρ1 => (∃ kds, ρ1[i]? = some (Sl.o (.dct kds))) ∧ ty ρ1 fun r2 ρ2 => ∃ kds k, ρ2[i]? = some (Sl.o (.dct kds)) ∧ keyOf (fz r2) = some k ∧ kds.length < sizeLine ∧ D.nx (ρ2.set i (.o (.dct (putD kds k (fz r)))))
section
variable {c : C} {X : Cx} {e o ix : Expr} {te ty tv : DTE} {i : Nat} {pos pos' : Pos}
theorem de_dct0 : PE X (.Dict [] [] pos) (liftE c dNewD) :=
  PE_imp pe_dnewK fun σ H Q ⟨F, ρ, QD, s, h, k⟩ => fun p hp => by
    have pe : PExt F H F (upd H p (.dK [])) := PExt.own s.sub hp
    have rr : RR0 c.K c.S F H (upd H p (.dK [])) (.ref p) (.ow (.dct [])) := ⟨p, _, rfl, hp, upd_same, free_of s.sub hp, .dct rfl .nil⟩
    obtain ⟨a, b⟩ := rr.rr s
    exact k _ _ F ρ _ (pe.sr s) pe.stp a b h
theorem ds_put (hu : X.A.units + 1 < cLine) (ho : PE X o (tVar i)) (hi : PE X ix (liftE c ty)) (hv : PE X e (liftE c tv)) (hs : swapsWith e (some (.Subscript o ix pos')) pos.line X.env = pure false := by rfl) : PS X (.Assign [.Subscript o ix pos'] e pos) (liftS c (dPutS i ty tv)) :=
  PS_imp (ps_dput hu ho (froze hi) (froze hv) hs) fun E σ H ⟨F, ρ, DD, s, h, k⟩ =>
    ⟨F, ρ, (fun d ρ1 => (∃ kds, ρ1[i]? = some (Sl.o (.dct kds))) ∧ ty ρ1 fun r2 ρ2 => ∃ kds k, ρ2[i]? = some (Sl.o (.dct kds)) ∧ keyOf (fz r2) = some k ∧ kds.length < sizeLine ∧ DD.nx (ρ2.set i (.o (.dct (putD kds k d))))), s, h, fun v H1 F1 ρ1 d s1 st1 rv ⟨⟨kds0, hi0⟩, q⟩ => by
      obtain ⟨p, ob, e1, e2, e3, e4, e5, e6⟩ := s1.ow i _ hi0
      refine ⟨_, e1, F1, ρ1, (fun d2 ρ2 => ∃ kds k, ρ2[i]? = some (Sl.o (.dct kds)) ∧ keyOf d2 = some k ∧ kds.length < sizeLine ∧ DD.nx (ρ2.set i (.o (.dct (putD kds k d))))), s1, q, fun y H2 F2 ρ2 d2 s2 st2 ry ⟨kds, k0, hi2, hk, hl, q2⟩ => ?_⟩
      obtain ⟨p', ob', g1, g2, g3, g4, g5, g6⟩ := s2.ow i _ hi2
      rw [e1] at g1
      cases g1
      cases g4 with
      | dct hk1 hr1 =>
        obtain ⟨a, b⟩ := put_rep (k := k0) hk1 hr1 (rv.mono st2.ff)
        refine ⟨p, _, rfl, by rw [rep_keyOf ry hk]; exact DPut.k g2 (by rw [keys_len hk1]; exact hl), k.nx _ _ F2 _ (st1.ff.trans st2.ff) (s2.grow hi2 e1 (.dct a b)) q2⟩⟩
def putFD (f : Str) (d : D) : List (Str × D) → List (Str × D)
  | [] => [(f, d)]
  | (g, x) :: r => if g = f then (g, d) :: r else (g, x) :: putFD f d r
theorem putF_rep {K : PySem.W.Frag} {S : Src} {F : Hp} {f : Str} {v : V} {d : D} (rv : Rep K S F v d) : ∀ {fs : List (Str × V)} {gs : List (Str × D)}, fs.map (·.1) = gs.map (·.1) → Reps K S F (fs.map (·.2)) (gs.map (·.2)) →
    (putF f v fs).map (·.1) = (putFD f d gs).map (·.1) ∧ Reps K S F ((putF f v fs).map (·.2)) ((putFD f d gs).map (·.2))
  | [], [], _, _ => ⟨rfl, .cons rv .nil⟩
  | [], _ :: _, h, _ => by simp at h
  | _ :: _, [], h, _ => by simp at h
  | (a, x) :: fs, (b, y) :: gs, h, r => by
    simp only [List.map_cons, List.cons.injEq] at h
    obtain ⟨h1, h2⟩ := h
    subst h1
    cases r with
    | cons r1 r2 =>
      obtain ⟨a1, b1⟩ := putF_rep rv h2 r2
      unfold putF putFD
      split
      · exact ⟨by simp only [List.map_cons, h2], .cons rv r2⟩
      · exact ⟨by simp only [List.map_cons, a1], .cons r1 b1⟩
def dFldS (C : Addr) (f : Str) (i : Nat) (te : DTE) : DTS := fun D ρ => te ρ fun r ρ1 => ∃ fs, ρ1[i]? = some (Sl.o (.ins C fs)) ∧ fs.length < 1000 ∧ D.nx (ρ1.set i (.o (.ins C (putFD f (fz r) fs))))
def dStar (te : DTE) (t : DTA) : DTA := fun ρ Q => te ρ fun r ρ1 => ∃ xs, (fz r = .tup xs ∨ fz r = .lst xs) ∧ t ρ1 fun ds ρ2 => Q (xs ++ ds) ρ2
end
mutual
def noK (l : Bool) : D → Bool
  | .lst xs => !l && noKs l xs
  | .tup xs => noKs l xs
  | .dct _ => false
  | .dcT _ => false
  | .dcL _ => false
  | .dcI _ => false
  | .ins _ _ => false
  | _ => true
def noKs (l : Bool) : List D → Bool
  | [] => true
  | x :: xs => noK l x && noKs l xs
end
def cutP (F : Hp) (p : Addr) : Hp := fun q => if q = p then none else F q
theorem cutP_ne {F : Hp} {p q : Addr} (h : q ≠ p) : cutP F p q = F q := if_neg h
theorem cutP_same {F : Hp} {p : Addr} : cutP F p p = none := if_pos rfl
/-- what the lent object is -/
def lent (l : Bool) (o : HO) : Prop := (∃ kvs, o = .dK kvs) ∨ (l = true ∧ ∃ vs, o = .lst vs)
mutual
theorem Rep.cut {K : PySem.W.Frag} {S : Src} {F : Hp} {p : Addr} {l : Bool} {o : HO} (hp : F p = some o) (hl : lent l o) : ∀ {v : V} {d : D}, Rep K S F v d → noK l d = true → Rep K S (cutP F p) v d
  | _, _, .non, _ => .non
  | _, _, .bl b, _ => .bl b
  | _, _, .int i, _ => .int i
  | _, _, .str x, _ => .str x
  | _, _, .ty x, _ => .ty x
  | _, _, .lst (a := a) h r, n => by
    simp only [noK, Bool.and_eq_true, Bool.not_eq_true'] at n
    refine .lst ?_ (Reps.cut hp hl r n.2)
    rcases h with h | h
    · refine .inl ?_
      by_cases e : a = p
      · rw [e, hp] at h
        cases h
        rcases hl with ⟨_, z⟩ | ⟨z, _⟩
        · cases z
        · rw [n.1] at z; cases z
      · rw [cutP_ne e]; exact h
    · exact .inr h
  | _, _, .tup (a := a) h r, n => by
    simp only [noK] at n
    refine .tup ?_ (Reps.cut hp hl r n)
    have key : ∀ u, F a = some u → (∀ k, u ≠ .dK k) → (∀ k, u ≠ .lst k) → cutP F p a = some u := fun u z z1 z2 => by
      by_cases e : a = p
      · rw [e, hp] at z
        cases z
        rcases hl with ⟨k, z⟩ | ⟨_, k, z⟩
        · exact absurd z (z1 k)
        · exact absurd z (z2 k)
      · rw [cutP_ne e]; exact z
    exact key _ h (fun _ z => by cases z) fun _ z => by cases z
  | _, _, .dcT _ _ _, n => by simp [noK] at n
  | _, _, .dcL _ _ _, n => by simp [noK] at n
  | _, _, .dcI _ _ _, n => by simp [noK] at n
  | _, _, .dct _ _ _, n => by simp [noK] at n
  | _, _, .ins _ _ _, n => by simp [noK] at n
  | _, _, .iset (a := a) h x y z, _ => by
    refine .iset ?_ x y z
    by_cases e : a = p
    · rw [e, hp] at h
      cases h
      rcases hl with ⟨_, z⟩ | ⟨_, _, z⟩ <;> cases z
    · rw [cutP_ne e]; exact h
  | _, _, .src h, _ => .src h
theorem Reps.cut {K : PySem.W.Frag} {S : Src} {F : Hp} {p : Addr} {l : Bool} {o : HO} (hp : F p = some o) (hl : lent l o) : ∀ {vs : List V} {ds : List D}, Reps K S F vs ds → noKs l ds = true → Reps K S (cutP F p) vs ds
  | _, _, .nil, _ => .nil
  | _, _, .cons a b, n => by
    simp only [noKs, Bool.and_eq_true] at n
    exact .cons (Rep.cut hp hl a n.1) (Reps.cut hp hl b n.2)
end
end L2.DL
set_option Elab.async false
set_option linter.all false
set_option autoImplicit false
set_option maxRecDepth 100000
set_option maxHeartbeats 1000000
namespace L2.DL
open PySem PySem.Spec PyProof.Rows
section
variable {c : C} {X : Cx} {e o : Expr} {es : List Expr} {te : DTE} {t : DTA} {i : Nat} {p pos : Pos}
theorem da_star (hK : X.K = c.K) (he : PE X e (liftE c te)) (hr : PA X es (liftA c t)) (hs : starEach (.Starred e p :: es) X.env = (true, eval e X.env) :: starEach es X.env := by rfl) : PA X (.Starred e p :: es) (liftA c (dStar te t)) :=
  PA_imp (StX.pa_star (froze he) hr hs) fun σ H Q ⟨F, ρ, QD, s, ht, k⟩ =>
    ⟨F, ρ, (fun d ρ1 => ∃ xs, (d = .tup xs ∨ d = .lst xs) ∧ t ρ1 fun ds ρ2 => QD (xs ++ ds) ρ2), s, ht, fun v H1 F1 ρ1 d s1 st1 rv ⟨xs, hd, q⟩ => by
      rcases hd with hd | hd
      · subst hd
        cases rv with
        | tup h1 r1 => exact ⟨_, _, rfl, .inl (by rw [hK]; exact s1.sub.seqT (.inl (.inl h1))), F1, ρ1, (fun ds ρ2 => QD (xs ++ ds) ρ2), s1, q, fun ys H2 F2 ρ2 ds s2 st2 rys q2 => k _ H2 F2 ρ2 (xs ++ ds) s2 (st1.trans st2) ((Reps.mono st2.ff r1).append rys) q2⟩
      · subst hd
        cases rv with
        | lst h1 r1 => exact ⟨_, _, rfl, .inr (by rw [hK]; exact h1.sq s1.sub), F1, ρ1, (fun ds ρ2 => QD (xs ++ ds) ρ2), s1, q, fun ys H2 F2 ρ2 ds s2 st2 rys q2 => k _ H2 F2 ρ2 (xs ++ ds) s2 (st1.trans st2) ((Reps.mono st2.ff r1).append rys) q2⟩⟩
def dFldM (C : Addr) (f : Str) (i : Nat) (te : DTE) : DTS := fun D ρ => te ρ fun r ρ1 => ∃ y fs, ρ1[i]? = some (Sl.o (.me y (.ins C fs))) ∧ fs.length < 1000 ∧ D.nx (ρ1.set i (.o (.me y (.ins C (putFD f (fz r) fs)))))
theorem ds_fldM {C : Addr} {f : Str} {pos' : Pos} (hK : X.K = c.K) (cl : Cls c.K C) (na : NoAttr c.K C f) (ho : PE X o (tVar i)) (hv : PE X e (liftE c te)) (hs : swapsWith e (some (.Attribute o f pos')) pos.line X.env = pure false := by rfl) : PS X (.Assign [.Attribute o f pos'] e pos) (liftS c (dFldM C f i te)) :=
  PS_imp (ps_fld ho (froze hv) hs) fun E σ H ⟨F, ρ, DD, s, h, k⟩ =>
    ⟨F, ρ, (fun d ρ1 => ∃ y fs, ρ1[i]? = some (Sl.o (.me y (.ins C fs))) ∧ fs.length < 1000 ∧ DD.nx (ρ1.set i (.o (.me y (.ins C (putFD f d fs)))))), s, h, fun v H1 F1 ρ1 d s1 st1 rv ⟨y, fs, hi, hl, q⟩ => by
      obtain ⟨p, ob, e1, e2, e3, e4, e5, e6⟩ := s1.ow i _ hi
      cases e4 with
      | me hk hr =>
        rename_i dx fvs
        obtain ⟨a, b⟩ := putF_rep (f := f) rv hk hr
        have hlen : fvs.length = fs.length := by
          have := congrArg List.length hk
          rwa [List.length_map, List.length_map] at this
        exact ⟨_, e1, _, C, dx, fvs, rfl, e2, by rw [hK]; exact cl, by rw [hK]; exact na, by rw [hlen]; exact hl, k.nx _ _ F1 _ st1.ff (s1.grow hi e1 (.me a b)) q⟩⟩
end
def dDcL (g : DTG) (tt : DTT) (tk tv : DTE) (vs : List Nat) (Q : DQ) : List D → List (Key × D) → Rho → Prop
  | [], acc, ρ => Q (.ow (.dct acc)) ρ
  | x :: xs, acc, ρ => g x ρ fun ρ2 => tt ρ2 fun b ρ3 => if b = true then tk ρ3 fun r1 ρ4 => tv ρ4 fun r2 ρ5 => ∃ k, keyOf (fz r1) = some k ∧ acc.length < sizeLine ∧ dDcL g tt tk tv vs Q xs (putD acc k (fz r2)) (dwipe ρ5 vs) else dDcL g tt tk tv vs Q xs acc (dwipe ρ3 vs)
def dDc (ti : DTI) (g : DTG) (tt : DTT) (tk tv : DTE) (vs : List Nat) : DTE := fun ρ Q => ti ρ fun ds ρ1 => dDcL g tt tk tv vs Q ds [] (dwipe ρ1 vs)
section
variable {c : C} {X : Cx} {kx vx tg iter : Expr} {ti : DTI} {g : DTG} {tt : DTT} {tk tv : DTE} {pos : Pos} {vs is : List Nat}
theorem dc_lift (hs : ∀ i ∈ is, i ∈ vs) {σ : L2.St} {H : Hp} {Q : VK} (h : liftE c (dDc ti g tt tk tv vs) σ H Q) : tDc (liftI c ti) (liftG c is g) (liftT c tt) (liftV c (frz tk)) (liftV c (frz tv)) vs σ H Q := by
  obtain ⟨F, ρ, QD, s, ht, k⟩ := h
  refine ⟨F, ρ, (fun ds ρ1 => dDcL g tt tk tv vs QD ds [] (dwipe ρ1 vs)), s, ht, fun J H1 F1 ρ1 ds s1 st1 w q => ?_⟩
  intro A hA
  have cH0 : kn c.H0 A = none := s1.newH hA
  have nS : ¬ inS c.S A := s1.newS hA
  have nO : ¬ Own σ ρ1 A := s1.newO hA
  have fA : F1 A = none := free_of s1.sub hA
  have e1 : PExt F1 H1 F1 (upd H1 A (.dK [])) := PExt.own s1.sub hA
  let J2 : Nat → Hp → Prop := fun i Hn => ∃ Fn ρn acc vacc, SR c Fn Hn σ ρn ∧ WP ρn vs ∧ Stp c σ F1 H1 ρ1 Fn Hn ρn ∧ Hn A = some (.dK vacc) ∧ Fn A = none ∧ vacc.map (·.1) = acc.map (·.1) ∧ Reps c.K c.S Fn (vacc.map (·.2)) (acc.map (·.2)) ∧ dDcL g tt tk tv vs QD (ds.drop i) acc ρn
  refine ⟨fun i m Hn => m = ds.length - i ∧ i ≤ ds.length ∧ J2 i Hn,
    ⟨ds.length, by simp, Nat.zero_le _, F1, dwipe ρ1 vs, [], [], (e1.sr s1).dwiped, dwipe_wp _ _, ⟨e1.ff, fun p o z _ _ => e1.hh p o (kn_some z), fun p z => .inl z, fun p ⟨j, xs, z1, z2⟩ => by
      rcases dwipe_get z1 with z | ⟨_, z⟩
      · cases z
      · exact ⟨j, xs, z, z2⟩, e1.stp.tr (c := c) (σ := σ) (ρ := ρ1)⟩, upd_same, fA, rfl, .nil, q⟩, ?_⟩
  rintro i m Hn ⟨rfl, hi, Fn, ρn, acc, vacc, sn, wn, stn, hAn, fAn, kn, rn, qn⟩
  have nOn : ¬ Own σ ρn A := fun z => nO (stn.oo A z)
  by_cases hlt : i < ds.length
  · have hd : ds[i]? = some ds[i] := List.getElem?_eq_getElem hlt
    obtain ⟨go, yl⟩ := w.go Fn Hn i ds[i] stn.ff sn.sub hd
    refine .inr ⟨go, J2 (i + 1), fun H' z => ⟨ds.length - (i + 1), by omega, rfl, hlt, z⟩, fun x H' y => ?_⟩
    obtain ⟨F3, pe, rx⟩ := yl x H' y
    rw [List.drop_eq_getElem_cons hlt] at qn
    have s3 := pe.sr sn
    have st3 : Stp c σ F1 H1 ρ1 F3 H' ρn := stn.trans pe.stp
    have hA3 : H' A = some (.dK vacc) := pe.hh _ _ hAn
    have fA3 : F3 A = none := by
      cases q : F3 A with
      | none => rfl
      | some o =>
        rcases pe.nn A (by rw [q]; simp) with z | z | ⟨_, z⟩
        · exact absurd fAn z
        · rw [hAn] at z; cases z
        · rw [hAn] at z; cases z
    have ownW : ∀ p, Own (wipe σ vs) ρn p → Own σ ρn p := fun p ⟨j, xs, z1, z2⟩ => by
      by_cases hj : j ∈ vs
      · cases wn j hj _ z1
      · exact ⟨j, xs, z1, by rw [← wipe_out hj]; exact z2⟩
    refine ⟨F3, ρn, ds[i], _, s3.wiped wn, rx, qn, fun σ2 ρ2 s4 f4 o4 l4 q4 => ?_⟩
    have l2 : σ2.length = σ.length := l4.trans (wipe_length σ vs)
    have hj2 : ∀ j, j ∉ vs → σ2[j]? = σ[j]? := fun j hj => ((f4 j fun z => hj (hs j z)).1).trans (wipe_out hj)
    have own2 : ∀ p, Own σ2 ρ2 p → Own σ ρn p := fun p z => ownW p (o4 p z)
    have ownB : ∀ {ρ5 : Rho} p, Own σ (dwipe ρ5 vs) p → Own σ2 ρ5 p := fun {ρ5} p ⟨j, xs, z1, z2⟩ => by
      rcases dwipe_get z1 with z | ⟨z, z3⟩
      · cases z
      · exact ⟨j, xs, z3, by rw [hj2 j z]; exact z2⟩
    have back : ∀ {F5 H5 : Hp} {ρ5 : Rho}, Stp c σ2 F3 H' ρ2 F5 H5 ρ5 → SR c F5 H5 σ2 ρ5 → Stp c σ F1 H1 ρ1 F5 H5 (dwipe ρ5 vs) ∧ H5 A = some (.dK vacc) ∧ F5 A = none := fun {F5 H5 ρ5} st5 s5 => by
      have st' : Stp c σ F3 H' ρn F5 H5 (dwipe ρ5 vs) := ⟨st5.ff, fun p o z1 z2 z3 => st5.hh p o z1 z2 fun z => z3 (own2 p z), fun p z => by
        rcases st5.nn p z with z | z | z | z
        · exact .inl z
        · exact .inr (.inl z)
        · exact .inr (.inr (.inl (own2 p z)))
        · exact .inr (.inr (.inr z)), fun p z => own2 p (st5.oo p (ownB p z)), st5.tr⟩
      refine ⟨st3.trans st', st5.hh A _ (kn_of hA3) nS fun z => nOn (own2 A z), ?_⟩
      cases q : F5 A with
      | none => rfl
      | some o =>
        rcases st5.nn A (by rw [q]; simp) with z | z | z | z
        · exact absurd fA3 z
        · exact (z.no hA3 (fun _ y => by cases y) (fun _ y => by cases y)).elim
        · exact absurd (own2 A z) nOn
        · exact absurd z nS
    refine ⟨wipe_wiped hs (l4.trans (wipe_length σ vs)) (fun j hj => (f4 j hj).1), F3, ρ2, (fun b ρ3 => if b = true then tk ρ3 fun r1 ρ4 => tv ρ4 fun r2 ρ5 => ∃ k, keyOf (fz r1) = some k ∧ acc.length < sizeLine ∧ dDcL g tt tk tv vs QD (ds.drop (i + 1)) (putD acc k (fz r2)) (dwipe ρ5 vs) else dDcL g tt tk tv vs QD (ds.drop (i + 1)) acc (dwipe ρ3 vs)), s4, q4, fun b H5 F5 ρ5 s5 st5 q5 => ?_⟩
    cases b with
    | false =>
      rw [if_neg Bool.false_ne_true] at q5 ⊢
      obtain ⟨a1, a2, a3⟩ := back st5 s5
      exact ⟨F5, dwipe ρ5 vs, acc, vacc, s5.unwiped l2 hj2, dwipe_wp _ _, a1, a2, a3, kn, Reps.mono (pe.ff.trans st5.ff) rn, q5⟩
    | true =>
      rw [if_pos rfl] at q5 ⊢
      refine ⟨F5, ρ5, (fun d1 ρ4 => tv ρ4 fun r2 ρ5 => ∃ k, keyOf d1 = some k ∧ acc.length < sizeLine ∧ dDcL g tt tk tv vs QD (ds.drop (i + 1)) (putD acc k (fz r2)) (dwipe ρ5 vs)), s5, q5, fun y1 H6 F6 ρ6 d1 s6 st6 ry1 q6 => ?_⟩
      refine ⟨F6, ρ6, (fun d2 ρ5 => ∃ k, keyOf d1 = some k ∧ acc.length < sizeLine ∧ dDcL g tt tk tv vs QD (ds.drop (i + 1)) (putD acc k d2) (dwipe ρ5 vs)), s6, q6, fun y2 H7 F7 ρ7 d2 s7 st7 ry2 ⟨k0, hk0, hlen, q7⟩ => ?_⟩
      clear q6
      obtain ⟨a1, a2, a3⟩ := back ((st5.trans st6).trans st7) s7
      have s8 := s7.unwiped l2 hj2
      have nO7 : ¬ Own σ (dwipe ρ7 vs) A := fun z => nO (a1.oo A z)
      have rn7 : Reps c.K c.S F7 (vacc.map (·.2)) (acc.map (·.2)) := Reps.mono (pe.ff.trans (st5.ff.trans (st6.ff.trans st7.ff))) rn
      obtain ⟨b1, b2⟩ := put_rep (k := k0) kn rn7 ry2
      refine ⟨vacc, k0, rep_keyOf ry1 hk0, a2, by rw [keys_len kn]; exact hlen, F7, dwipe ρ7 vs, putD acc k0 d2, putK vacc k0 y2, ?_, dwipe_wp _ _, ⟨a1.ff, fun p o z1 z2 z3 => ?_, a1.nn, a1.oo, fun p z => ?_⟩, upd_same, a3, b1, b2, q7⟩
      · refine ⟨fun q o z => ?_, s8.f0, fun q o z1 z2 => ?_, s8.n0, s8.src.upd nS a2, s8.srcF, s8.len, s8.sl, fun j xs z => ?_, s8.dis⟩
        · exact kn_of (by rw [upd_ne (ne_of_none z a3)]; exact s8.sub q o z) (kn_nt (s8.sub' q o z))
        · rw [upd_ne (ne_of_none z1 cH0)]; exact s8.h0 q o z1 z2
        · obtain ⟨q, us, a, b, d, f, g, k⟩ := s8.ow j xs z
          have hq : q ≠ A := fun e => nO7 ⟨j, xs, z, by rw [a, e]⟩
          exact ⟨q, us, a, by rw [upd_ne hq]; exact b, d, f, g, k⟩
      · rw [upd_ne (ne_of_none z1 (kn_none hA))]; exact a1.hh p o z1 z2 z3
      · by_cases hq : p = A
        · rw [hq, kn_of upd_same]; simp
        · rw [kn_same (upd_ne hq)]; exact a1.tr p z
  · have e : i = ds.length := by omega
    subst e
    rw [List.drop_length] at qn
    exact .inl ⟨w.stop Fn Hn _ stn.ff sn.sub (Nat.le_refl _), k (.ref A) Hn Fn ρn (.ow (.dct acc)) sn (st1.trans stn) ⟨A, _, rfl, hAn, fAn, .dct kn rn, nS, nOn, cH0⟩ (New.back st1 s1 (r := .ow (.dct acc)) ⟨A, rfl, kn_none hA⟩) qn⟩
theorem de_dc {ifs : List Expr} {scope : Scope} {own : List (Str × Nat)} (hc : X.calm = true) (hN : X.N.Nodup) (hi : PI X tg iter (liftI c ti)) (ok : BlkOk X.N X.env.scope scope own) (hsub : ∀ i ∈ is, i ∈ own.map (·.2))
    (hg : ∀ (s : Shared) (H : Hp) (C : Addr) (cl : List (Str × Addr)) (fp : List Addr), PG (X.blk s H scope (compEnvC scope cl C X.env) fp) tg (liftG c is g)) (ht : ∀ (s : Shared) (H : Hp) (C : Addr) (cl : List (Str × Addr)) (fp : List Addr), PTs (X.blk s H scope (compEnvC scope cl C X.env) fp) ifs (liftT c tt))
    (hk : ∀ (s : Shared) (H : Hp) (C : Addr) (cl : List (Str × Addr)) (fp : List Addr), PE (X.blk s H scope (compEnvC scope cl C X.env) fp) kx (liftE c tk))
    (he : ∀ (s : Shared) (H : Hp) (C : Addr) (cl : List (Str × Addr)) (fp : List Addr), PE (X.blk s H scope (compEnvC scope cl C X.env) fp) vx (liftE c tv)) (hs : ∀ x, foldedSetIterable iter X.env x = pure x := by intro _; rfl) :
    PE X (.DictComp kx vx [⟨tg, iter, ifs, 0⟩] scope pos) (liftE c (dDc ti g tt tk tv (own.map (·.2)))) :=
  PE_imp (pe_dc hc hN hi ok hg ht (fun s H C cl fp => froze (hk s H C cl fp)) (fun s H C cl fp => froze (he s H C cl fp)) hs) fun σ H Q h => dc_lift hsub h
end
end L2.DL
set_option Elab.async false
set_option linter.all false
set_option autoImplicit false
set_option maxRecDepth 100000
set_option maxHeartbeats 1000000
namespace L2.DL
open PySem PySem.Spec PyProof.Rows
def liftAB (c : C) (i : Nat) (t : DTA) : TA := fun σ H Q => ∃ F ρ QD, SR c F H σ ρ ∧ t ρ QD ∧ ∀ vs H' F' ρ' ds p o x, SR c F' H' σ ρ' → Stp c σ F H ρ F' H' ρ' → ρ'[i]? = some (Sl.o x) → σ[i]? = some (some (V.ref p)) → H' p = some o → F' p = none → Reps c.K c.S (upd F' p o) vs ds → QD ds ρ' → Q vs H'
def dNilB (i : Nat) : DTA := fun ρ Q => (∃ x, ρ[i]? = some (Sl.o x)) ∧ Q [] ρ
def dBor (i : Nat) (t : DTA) : DTA := fun ρ Q => ∃ x, ρ[i]? = some (Sl.o x) ∧ t ρ fun ds ρ' => ρ'[i]? = some (Sl.o x) ∧ Q (unAt x :: ds) ρ'
def lendable (l : Bool) : D → Prop
  | .dct _ => True
  | .lst _ => l = true
  | _ => False
def noKR (l : Bool) : Res → Bool
  | .v d => noK l d
  | .ow (.lst xs) => noKs l xs
  | .ow _ => false
def dCallB (i : Nat) (l : Bool) (sp : DSp) (XD : DX) (t : DTA) : DTE := fun ρ Q => t ρ fun ds ρ1 => ∃ x, ρ1[i]? = some (Sl.o x) ∧ lendable l x ∧ sp ds (fun r => noKR l r = true ∧ Q r ρ1) XD
section
variable {c : C} {X : Cx} {e : Expr} {es : List Expr} {te : DTE} {t : DTA} {i : Nat} {p pos : Pos} {x : Str} {sp : DSp} {XD : DX} {k : Nat} {l : Bool}
theorem dab_nil : PA X [] (liftAB c i (dNilB i)) := PA_imp pa_nil fun σ H Q ⟨F, ρ, QD, s, ⟨⟨x, hx⟩, ht⟩, k⟩ => by
  obtain ⟨p, o, e1, e2, e3, e4, e5, e6⟩ := s.ow i x hx
  exact k [] H F ρ [] p o x s Stp.refl hx e1 e2 e3 .nil ht
theorem dab_cons (ha : PE X e (liftE c te)) (hr : PA X es (liftAB c i t)) (hs : starEach (e :: es) X.env = (false, eval e X.env) :: starEach es X.env := by rfl) : PA X (e :: es) (liftAB c i (dCons te t)) :=
  PA_imp (pa_cons (froze ha) hr hs) fun σ H Q ⟨F, ρ, QD, s, ht, k⟩ =>
    ⟨F, ρ, (fun d ρ1 => t ρ1 fun ds ρ2 => QD (d :: ds) ρ2), s, ht, fun v H1 F1 ρ1 d s1 st1 rx q1 => ⟨F1, ρ1, (fun ds ρ2 => QD (d :: ds) ρ2), s1, q1, fun vs H2 F2 ρ2 ds p o y s2 st2 a b d2 f rxs q2 => k (v :: vs) H2 F2 ρ2 (d :: ds) p o y s2 (st1.trans st2) a b d2 f (.cons ((rx.mono st2.ff).mono fun q u z => by rw [upd_ne (ne_of_none z f)]; exact z) rxs) q2⟩⟩
theorem dab_bor {z : Str} {zp : Pos} (hN : X.N[i]? = some z := by rfl) (hv : Vis X.env.scope z := by first | exact Or.inl rfl | exact Or.inr (Or.inl rfl) | exact Or.inr (Or.inr rfl)) (hr : PA X es (liftAB c i t)) (hd : (z == ("__debug__" : Str)) = false := by decide) (hcd : (z == ("__classdict__" : Str)) = false := by decide)
    (hs : starEach (.Name z zp :: es) X.env = (false, eval (.Name z zp) X.env) :: starEach es X.env := by rfl) : PA X (.Name z zp :: es) (liftAB c i (dBor i t)) :=
  PA_imp (pa_cons (pe_var hN hv hd hcd) hr hs) fun σ H Q ⟨F, ρ, QD, s, ⟨x, hx, ht⟩, k⟩ => by
    obtain ⟨p, o, e1, e2, e3, e4, e5, e6⟩ := s.ow i x hx
    refine ⟨_, e1, F, ρ, (fun ds ρ' => ρ'[i]? = some (Sl.o x) ∧ QD (unAt x :: ds) ρ'), s, ht, fun vs H2 F2 ρ2 ds p2 o2 y s2 st2 a b d2 f rxs ⟨hx2, q2⟩ => ?_⟩
    obtain ⟨p3, o3, g1, g2, g3, g4, g5, g6⟩ := s2.ow i x hx2
    rw [e1] at b g1
    cases b; cases g1
    rw [d2] at g2
    cases g2
    exact k (.ref p :: vs) H2 F2 ρ2 (unAt x :: ds) p o2 x s2 st2 hx2 e1 d2 f (.cons ((g4.mono fun q u z => by rw [upd_ne (ne_of_none z f)]; exact z).rep upd_same) rxs) q2
theorem de_callBor (G : Callee X.prog X.w X.K X.mg X.base k x sp) (hK : X.K = c.K) (hgd : X.A.guards = some []) (hr : Room k X.A) (hg : Gl X x) (lk : Lnk X c XD) (ha : PA X (e :: es) (liftAB c i t)) (hdb : (x == ("__debug__" : Str)) = false := by decide)
    (he : starEach (e :: es) X.env = (false, eval e X.env) :: starEach es X.env := by rfl) (hpl : (backTo pos (starEach es X.env)).any (·.1) = false := by rfl) : PE X (.Call (.Name x p) (e :: es) [] pos) (liftE c (dCallB i l sp XD t)) := by
  obtain ⟨f, fd, ps, G1, hm, hk, hb⟩ := G.ex
  obtain ⟨W, tk, hW⟩ := lk
  refine ⟨fun pins s σ H Q I ⟨F0, ρ, QD, sr, h, kk⟩ => wpAny_Call_Name_kw (ld_glob I hg hm ?_ hdb)⟩
  have arg := ha.run pos pins s σ H (fun vs H1 => spD X.K sp vs H1 Q fun cls d H => ∀ σ, W cls d σ H) I ⟨F0, ρ, _, sr, h, fun vs H1 F1 ρ1 ds p o y s1 st1 hy e1 e2 e3 rv q => by
    rw [hK]
    obtain ⟨y', hy', ly, q⟩ := q
    rw [hy] at hy'
    cases hy'
    obtain ⟨p', o', g1, g2, g3, g4, g5, g6⟩ := s1.ow i y hy
    rw [e1] at g1
    cases g1
    rw [e2] at g2
    cases g2
    have ll : lent l o := by
      cases g4 with
      | lst _ => exact .inr ⟨ly, _, rfl⟩
      | dct _ _ => exact .inl ⟨_, rfl⟩
      | dcT _ _ => exact ly.elim
      | ins _ _ => exact ly.elim
      | me _ _ => exact ly.elim
    have le1 : Le F1 (upd F1 p o) := fun q u z => by rw [upd_ne (ne_of_none z e3)]; exact z
    refine ⟨c.S, upd F1 p o, ds, _, _, fun q u z => ?_, s1.src, fun q z => ?_, rv, q, fun v H' F' r pe rr ⟨nr, qr⟩ => ?_, fun C od fds H' F' pe xr xd σ' => hW C od fds F' H' σ' ⟨pe.sub', (s1.f0.trans le1).trans pe.ff, fun q u z1 z2 => pe.hh q u (kn_of (s1.h0 q u z1 z2) (kn_nt z1)) z2, fun q z => ?_, pe.src, pe.srcF⟩ xr xd⟩
    · by_cases hq : q = p
      · subst hq; rw [upd_same] at z; cases z; exact kn_of e2 g4.plain.1
      · rw [upd_ne hq] at z; exact s1.sub' q u z
    · rw [upd_ne fun hq => g6 (by rw [← hq]; exact z)]; exact s1.srcF q z
    · have hp : F' p = some o := pe.ff p o upd_same
      have cutE : ∀ {q u}, cutP F' p q = some u → q ≠ p ∧ F' q = some u := fun {q u} z => by
        by_cases hq : q = p
        · rw [hq, cutP_same] at z; cases z
        · rw [cutP_ne hq] at z; exact ⟨hq, z⟩
      have post : Post c.S F1 H1 (cutP F' p) H' := ⟨fun q u z => pe.sub' q u (cutE z).2, fun q u z => by
          rw [cutP_ne (ne_of_none z e3)]; exact pe.ff q u (le1 q u z), pe.hh, fun q z => by
          cases w : cutP F' p q with
          | none => exact absurd w z
          | some u =>
            obtain ⟨a, b⟩ := cutE w
            rcases pe.nn q (by rw [b]; simp) with y | y
            · rw [upd_ne a] at y; exact .inl y
            · exact .inr y, pe.src, fun q z => by
          by_cases hq : q = p
          · rw [hq]; exact cutP_same
          · rw [cutP_ne hq]; exact pe.srcF q z⟩
      refine call_done s1 st1 kk v H' (cutP F' p) r post ?_ qr
      cases r with
      | v d => exact Rep.cut hp ll rr nr
      | ow z =>
        obtain ⟨p2, o2, a, b, d, f, g⟩ := rr
        refine ⟨p2, o2, a, b, d, ?_, ?_⟩
        · by_cases hq : p2 = p
          · rw [hq]; exact cutP_same
          · rw [cutP_ne hq]; exact f
        · cases g with
          | lst rz => exact .lst (Reps.cut hp ll rz nr)
          | dct _ _ => cases nr
          | dcT _ _ => cases nr
          | ins _ _ => cases nr
          | me _ _ => cases nr
    · rcases pe.nn q z with y | y
      · by_cases hq : q = p
        · rw [hq]; exact .inr (.inl g5)
        · rw [upd_ne hq] at y; exact s1.n0 q y
      · exact .inr (s1.newTF y fun hs => z (pe.srcF q hs))⟩
  exact PySem.W.callWith_K (h₀ := X.base) I.ok.mod.kin hk (thn arg fun us s1 ⟨vs, H1, I1, r, q⟩ => ⟨I1.kIn, runG G1 hgd hr hb (passes_call tk fun cls d σ H z => z σ) I1 r q⟩) he hpl
end
def startI (y C : Addr) (N : List Str) (ds : List D) : Rho := Sl.o (.me y (.ins C [])) :: startD N.tail ds
def spI (K : PySem.W.Frag) (C : Addr) (sp : DSp) : Sp := fun vs' H' Q' E => ∃ vs H Q y dx, spD K sp vs H Q E ∧ H y = none ∧ H dx = none ∧ dx ≠ y ∧ vs' = .ref y :: vs ∧ H' = upd (upd H dx (.own y)) y (.ins C dx []) ∧ Q' = fun v H2 => v = .non ∧ Q (.ref y) H2
theorem startI_sr {K : PySem.W.Frag} {S : Src} {N : List Str} {x : Str} {vs : List V} {ds : List D} {F H : Hp} {y dx C : Addr} (hy : H y = none) (hd : H dx = none) (ne : dx ≠ y) (sk : Le F (kn H)) (src : SrcOk S H) (srcF : ∀ p, inS S p → F p = none) (r : Reps K S F vs ds) :
    SR ⟨K, S, F, H⟩ F (upd (upd H dx (.own y)) y (.ins C dx [])) (start (x :: N) (.ref y :: vs)) (startI y C (x :: N) ds) := by
  have s : Le F H := fun p o z => kn_some (sk p o z)
  have s0 := start_sr (c := ⟨K, S, F, H⟩) (N := N) sk src srcF r rfl rfl
  have hn : (upd H dx (.own y)) y = none := by rw [upd_ne ne.symm]; exact hy
  have pe : PExt F H F (upd (upd H dx (.own y)) y (.ins C dx [])) := PExt.own2 s hd hn
  have s1 := pe.sr s0
  have fy : F y = none := free_of s hy
  have nS : ¬ inS S y := fun z => src.there z hy
  have est : start (x :: N) (.ref y :: vs) = some (.ref y) :: start N vs := by
    unfold start
    simp only [List.map_cons, List.cons_append, List.length_cons]
    rw [Nat.add_sub_add_right]
  rw [est]
  refine ⟨s1.sub', s1.f0, s1.h0, s1.n0, s1.src, s1.srcF, ?_, fun i d h => ?_, fun i xs h => ?_, fun i j xs ys h1 h2 h3 => ?_⟩
  · unfold startI
    rw [List.length_cons, List.length_cons]
    exact congrArg Nat.succ s1.len
  · cases i with
    | zero => simp [startI] at h
    | succ i => exact s1.sl i d (by simpa [startI] using h)
  · cases i with
    | zero =>
      simp [startI] at h
      subst h
      exact ⟨y, _, rfl, upd_same, fy, .me rfl .nil, kn_none hy, nS⟩
    | succ i => exact s1.ow i xs (by simpa [startI] using h)
  · have no : ∀ (j : Nat) (ys : D), (startD N ds)[j]? ≠ some (Sl.o ys) := fun j ys h => by
      unfold startD at h
      by_cases hi : j < ds.length
      · rw [List.getElem?_append_left (by rw [List.length_map]; exact hi), List.getElem?_map] at h
        cases e : ds[j]? with
        | none => rw [e] at h; cases h
        | some d' => rw [e] at h; cases h
      · rw [List.getElem?_append_right (by rw [List.length_map]; omega), List.getElem?_replicate] at h
        split at h <;> cases h
    cases i with
    | zero =>
      cases j with
      | zero => rfl
      | succ j => exact absurd (by simpa [startI] using h2) (no j ys)
    | succ i => exact absurd (by simpa [startI] using h1) (no i xs)
section
variable {P : Program} {w : World} {K : PySem.W.Frag} {mg : Str → Option Value} {base : Heap}
theorem fnI {x qual self : Str} {st : Stmt} {f : Addr} {fd : FuncData} {N ps : List Str} {k : Nat} {sp : DSp} {C : Addr} (F : Fun K x qual st f fd) (S : FnScope (self :: N) (self :: ps) (defScope st)) (len : ∀ ds QD XD, sp ds QD XD → ds.length = ps.length)
    (hbody : ∀ (cdv : Value) (A : Around) (outer : List Env) (s : Shared) (H : Hp) (E : XK) (c : L2.DL.C) (XD : DX), (A.deeper (envOfC qual (defScope st) s.heap.objs.size f cdv)).guards = some [] → Room k (A.deeper (envOfC qual (defScope st) s.heap.objs.size f cdv)) → c.K = K →
      PassesOwn (model P w) (A.deeper (envOfC qual (defScope st) s.heap.objs.size f cdv)) (cxOf (L2.CX P w) P w K mg base (self :: N) qual (defScope st) f cdv A outer s H E).env (cxOf (L2.CX P w) P w K mg base (self :: N) qual (defScope st) f cdv A outer s H E).xe →
      Lnk (cxOf (L2.CX P w) P w K mg base (self :: N) qual (defScope st) f cdv A outer s H E) c XD →
      ∃ t, PSs (cxOf (L2.CX P w) P w K mg base (self :: N) qual (defScope st) f cdv A outer s H E) (defBody st) (liftS c t) ∧
        ∀ ds QD y, sp ds QD XD → t { nx := fun ρ => ∃ fs, ρ[0]? = some (Sl.o (.me y (.ins C fs))) ∧ QD (.v (.ins C fs)), rt := fun _ => False } (startI y C (self :: N) ds)) :
    FnG P w K mg base (k + 1) f fd (self :: ps) (spI K C sp) := by
  refine okG F S (fun vs H Q E ⟨vs0, H0, Q0, y, dx, ⟨S', F', ds, QD, XD, _, _, _, r, h, _⟩, _, _, _, ev, _⟩ => by rw [ev, List.length_cons, List.length_cons, r.length, len ds QD XD h]) fun cdv A outer s H' vs' Q' E hgd hr h => ?_
  obtain ⟨vs, H, Q, y, dx, ⟨S', F', ds, QD, XD, sub, src, srcF, r, h, hq, hx⟩, hy, hd, ne, ev, eH, eQ⟩ := h
  subst ev; subst eH; subst eQ
  have tk : Takes (cxOf (L2.CX P w) P w K mg base (self :: N) qual (defScope st) f cdv A outer s (upd (upd H dx (.own y)) y (.ins C dx [])) E) (fun cls d _ H => E cls d H) := takes_of rfl rfl rfl rfl
  obtain ⟨t, ht, q⟩ := hbody cdv A outer s _ E ⟨K, S', F', H⟩ XD hgd hr rfl (passes_of rfl) ⟨_, tk, fun C od fds F2 H2 _ pe xr xd => hx C od fds H2 F2 pe xr xd⟩
  refine ⟨_, ht, F', startI y C (self :: N) ds, _, startI_sr hy hd ne sub src srcF r, q ds QD y h, ?_⟩
  refine ⟨fun σ H2 F2 ρ l2 s2 ⟨fs, z1, z2⟩ => ⟨rfl, ?_⟩, fun _ _ _ _ _ _ _ _ _ z => z.elim, fun _ _ _ _ _ _ z => z, fun _ _ _ _ _ _ z => z⟩
  obtain ⟨p, o, e1, e2, e3, e4, e5, e6⟩ := s2.ow 0 _ z1
  cases e4 with
  | me hk hr2 =>
    rename_i dx' fvs
    have le : Le F2 (upd F2 y (.ins C dx' fvs)) := fun q u z => by rw [upd_ne (ne_of_none z e3)]; exact z
    refine hq (.ref y) H2 (upd F2 y (.ins C dx' fvs)) (.v (.ins C fs)) ⟨fun q u z => ?_, s2.f0.trans le, s2.h0, fun q z => ?_, s2.src, fun q z => ?_⟩ (Rep.ins upd_same hk (Reps.mono le hr2)) z2
    · by_cases hq : q = y
      · subst hq; rw [upd_same] at z; cases z; exact kn_of e2
      · rw [upd_ne hq] at z; exact s2.sub' q u z
    · by_cases hq : q = y
      · rw [hq]; exact .inr (.inl (kn_none hy))
      · rw [upd_ne hq] at z; exact s2.n0 q z
    · rw [upd_ne fun hq => e6 (by rw [← hq]; exact z)]; exact s2.srcF q z
/-- the class, from its __init__ -/
theorem calleeC {C f : Addr} {fd : FuncData} {ps : List Str} {k : Nat} {x : Str} {sp : DSp} (M : Mk K C f) (G : FnG P w K mg base k f fd ps (spI K C sp)) (hm : mg x = some (.ref C)) (hb : Binds K fd ps []) : CalleeC P w K mg base k x sp :=
  ⟨C, f, fd, ps, _, M, G, hm, hb, fun vs H Q E h y dx h1 h2 h3 => ⟨vs, H, Q, y, dx, h, h1, h2, h3, rfl, rfl, rfl⟩⟩
end
end L2.DL
set_option Elab.async false
set_option linter.all false
set_option autoImplicit false
set_option maxRecDepth 100000
set_option maxHeartbeats 1000000
namespace L2.DL
open PySem PySem.Spec PyProof.Rows
theorem fun_ofD {K : PySem.W.Frag} {x qual : Str} {st : Stmt} {f : Addr} {fd : FuncData} (F : FunD K x qual (defArgs st) (defBody st) (defScope st) [] [] f fd) : Fun K x qual st f fd := by
  obtain ⟨⟨oc, od, dV, kV, doc, pm, an, cdv, ct, osl, e, l, hc, hd, _⟩, kp⟩ := F
  rcases hd with ⟨_, rfl⟩ | ⟨z, _⟩
  · exact ⟨⟨oc, od, kV, doc, pm, an, cdv, ct, osl, e, l, hc⟩, kp⟩
  · exact absurd rfl z
section
variable {P : Program} {w : World} {K : PySem.W.Frag} {mg mb : Str → Option Value} {k : Nat} {fa a : Addr} {fd : FuncData} {x : Str} {sp : Sp} {s : Shared}
/-- at most the script is tracked: it is locked -/
def Scr (s : Shared) (a : Addr) (H : Hp) : Prop := ∀ q, H q = none ∨ (q = a ∧ ∃ ob xs, H q = some (.frz ob (.lst xs)) ∧ s.heap.get? q = some ob)
theorem Scr.only {a : Addr} {H : Hp} (h : Scr s a H) : Only H := fun q => (h q).imp id fun ⟨_, ob, xs, z, _⟩ => ⟨ob, xs, z⟩
theorem call_from {H : Hp} {vs : List Value} (hS : Scr s a H) (ok : HOk P w H s.heap) (kH : H a ≠ none → K.lookup a = none) (at_a : s.heap.get? a = some { cls := .type "list", data := .seq vs.toArray })
    (kIn : K.In s.heap) (glob : s.heap.Ns mainGlobals mg) (blt : s.heap.Ns builtinsNs mb) (blts : ∀ x : Str, x ≠ "__name__" → mb x = bootBuiltins x) (lim : s.heap.NoLimit) (gens : s.gens = #[]) (room : Room k callerA)
    (F : ∀ base : Heap, K.In base → base.Ns mainGlobals mg → FnG P w K mg base k fa fd [x] sp) (bind : ∀ (t : Shared) (u : Value), BindsTo t fd ⟨[u], []⟩ [(x, u)]) (pre : sp [.ref a] H (fun v _ => v = .bl true) fun _ _ _ => False) :
    codeAny (model P w) callerA (.call (.ref fa) ⟨[.ref a], []⟩) (fun r t => r = .ok (.ret (.bool true)) ∧ OldK s.heap t.heap ∧ t.os = s.os ∧ AllBare t.gens) s := by
  have stays : ∀ {q : Addr} {ob : Obj}, s.heap.get? q = some ob → q ≠ a → (hidT s.heap H).get? q = some ob := fun {q ob} e n => hidT_get e ((hS q).elim id fun z => absurd z.1 n)
  have aNot : ∀ {q : Addr} {ob : Obj} {es : Array DictEntry} {ep : Nat}, s.heap.get? q = some ob → ob.data = .dict es ep → q ≠ a := fun {q ob es ep} e d z => by
    rw [z, at_a] at e
    cases e
    cases d
  have nsStay : ∀ {q : Addr} {m : Str → Option Value}, s.heap.Ns q m → (hidT s.heap H).Ns q m := fun {q m} z => by
    obtain ⟨ob, es, ep, e, d, r⟩ := z
    exact ⟨ob, es, ep, stays e (aNot e d), d, r⟩
  have kStay : K.In (hidT s.heap H) := fun q ob e => by
    by_cases z : H q = none
    · exact hidT_get (kIn q ob e) z
    · rcases hS q with y | ⟨y, _⟩
      · exact absurd y z
      · rw [y] at z e
        rw [kH z] at e
        cases e
  obtain ⟨mc, lim1, lim2⟩ := lim
  have modl : Mod K mg (hidT s.heap H) := { kin := kStay, glob := nsStay glob, blt := ⟨mb, nsStay blt, blts⟩, nolimit := ⟨mc, nsStay lim1, lim2⟩ }
  have env : Env0 P w K mg (hidT s.heap H) callerA [] s H := ⟨rfl, modl, fun _ _ e => of_hidT e, Nat.le_of_eq (hidT_size _ _), trivial, (fun _ z => nomatch z), ok, AllBare.of_eq gens⟩
  refine codeAny_mono ((F (hidT s.heap H) kStay (nsStay glob)).run callerA [] s H _ [.ref a] [.ref a] _ _ rfl room env (bind s (.ref a)) (.cons rfl .nil) pre) fun r t h => ?_
  cases r with
  | error e =>
    have h : L2.CX P w [] H s (fun _ _ _ => False) e t := h
    obtain ⟨_, _, _, _, _, _, _, _, _, _, _, _, z⟩ := h
    exact z.elim
  | ok fl =>
    cases fl with
    | ret u =>
      obtain ⟨v, H1, h1, h2, h3, h4, rv, hv⟩ := h
      have hv : v = .bl true := hv
      subst hv
      have rv : u = Value.bool true := rv
      subst rv
      refine ⟨rfl, OldK.of_keep fun q ob e => ?_, h1, h2⟩
      rcases hS q with z | ⟨_, ob2, xs, z, e2⟩
      · exact h3.keep q ob e z (by intro y; cases y) (by intro y; cases y)
      · rw [e] at e2
        cases e2
        exact (h4 q _ (h3.frzs q ob _ z)).1
    | _ => exact h.elim
theorem law_callG {vs : List Value} {ns : List Int} (at_a : s.heap.get? a = some { cls := .type "list", data := .seq vs.toArray }) (isI : IntsAre vs ns) (few : ns.length ≤ sizeLine)
    (kIn : K.In s.heap) (glob : s.heap.Ns mainGlobals mg) (blt : s.heap.Ns builtinsNs mb) (blts : ∀ x : Str, x ≠ "__name__" → mb x = bootBuiltins x) (lim : s.heap.NoLimit) (gens : s.gens = #[]) (room : Room k callerA)
    (F : ∀ base : Heap, K.In base → base.Ns mainGlobals mg → FnG P w K mg base k fa fd [x] sp) (bind : ∀ (t : Shared) (u : Value), BindsTo t fd ⟨[u], []⟩ [(x, u)])
    (pre : ∀ H : Hp, Only H → SqL K H a (ns.map V.int) → sp [.ref a] H (fun v _ => v = .bl true) fun _ _ _ => False) :
    codeAny (model P w) callerA (.call (.ref fa) ⟨[.ref a], []⟩) (fun r t => r = .ok (.ret (.bool true)) ∧ OldK s.heap t.heap ∧ t.os = s.os ∧ AllBare t.gens) s := by
  have vals := vals_ints isI
  have many := isI.length
  by_cases hk : ∃ ob, K.lookup a = some ob
  · obtain ⟨ob, hk⟩ := hk
    have e := kIn a ob hk
    rw [at_a] at e
    cases e
    have seq : SqL K (fun _ => none) a (ns.map V.int) := .inr ⟨_, vs.toArray, _, hk, rfl, rfl, rfl, by rw [List.size_toArray, many]; exact few, by simpa using vals⟩
    exact call_from (H := fun _ => none) (fun _ => .inl rfl) (fun q u z => nomatch z) (fun z => absurd rfl z) at_a kIn glob blt blts lim gens room F bind (pre _ (fun _ => .inl rfl) seq)
  · have nk : K.lookup a = none := by
      cases e : K.lookup a with
      | none => rfl
      | some ob => exact absurd ⟨ob, e⟩ hk
    let hl : HO := .frz { cls := .type "list", data := .seq vs.toArray } (.lst (ns.map V.int))
    have here : (upd (fun _ => none) a hl) a = some hl := upd_same
    have scr : Scr s a (upd (fun _ => none) a hl) := fun q => by
      by_cases hq : q = a
      · rw [hq]
        exact .inr ⟨rfl, _, _, here, at_a⟩
      · exact .inl (upd_ne hq)
    have okH : HOk P w (upd (fun _ => none) a hl) s.heap := fun q u z => by
      by_cases hq : q = a
      · subst hq
        rw [here] at z
        cases z
        exact ⟨at_a, by rw [List.length_map]; exact few, vs, _, vals, at_a⟩
      · rw [upd_ne hq] at z
        cases z
    exact call_from scr okH (fun _ => nk) at_a kIn glob blt blts lim gens room F bind (pre _ scr.only (.inl (.inr ⟨_, here⟩)))
end
/-- the law's end over a head by facts -/
theorem walk_ofG {l : PySem.W.OpenLaw} {n k : Nat} {q : Program} {loose : List Str} {XP : (Str → Option Value) → Heap → Prop} {YP : World → Heap → Prop} {d : DefRec} {x : Str}
    (most : l.most = some n) (line : n ≤ sizeLine) (nodef : d.params.defaults = []) (room : Room k callerA)
    (F : ∀ (w : World) (mg : Str → Option Value) (fa : Addr) (h : Heap), YP w h → h.Ns mainGlobals mg → mg d.name = some (.ref fa) →
      ∃ (K : PySem.W.Frag) (fd : FuncData) (sp : Sp), K.In h ∧ (∀ (s : Shared) (u : Value), BindsTo s fd ⟨[u], []⟩ [(x, u)]) ∧
        (∀ (H : Hp) (a : Addr) (ns : List Int), ns.length ≤ n → Only H → SqL K H a (ns.map V.int) → sp [.ref a] H (fun v _ => v = .bl true) fun _ _ _ => False) ∧
        ∀ base : Heap, K.In base → base.Ns mainGlobals mg → FnG l.prog w K mg base k fa fd [x] sp) :
    PySem.W.WalkO q loose XP YP l.row.toRowW d [] (fun f vs => PySem.call f vs) :=
  Att.attach_call most nodef fun w s0 s1 mg mb fa o pm cd doc a vs ns G Y ho hd hcd hmg hobj hints hlen hg =>
    let ⟨K, fd, sp, KX, hb, hsp, hF⟩ := F w mg fa _ Y G.T.g hmg
    law_callG hobj hints (Nat.le_trans hlen line) KX G.T.g G.T.b G.T.builtins G.T.nolimit hg room hF hb fun H hO hS => hsp H a ns hlen hO hS
def dIsiT2 (K : PySem.W.Frag) (m n : String) (te : DTE) : DTE := fun ρ Q => te ρ fun r ρ1 => ∃ t b, tyD (fz r) = some t ∧ PySem.W.kitAny K (.type t) [.type m, .type n] = some b ∧ Q (.v (.bl b)) ρ1
section
variable {c : C} {X : Cx} {e : Expr} {te : DTE} {pos p p1 p2 tpos : Pos} {x y : Str}
theorem de_isiT2 {m n : String} {kk : Nat} (hK : X.K = c.K) (he : PE X e (liftE c te)) (hgi : Gl X "isinstance") (hmi : X.mg "isinstance" = none) (hg1 : Gl X x) (hm1 : X.mg x = none) (hv1 : bootBuiltins x = some (.type m)) (hg2 : Gl X y) (hm2 : X.mg y = none) (hv2 : bootBuiltins y = some (.type n))
    (hvi : bootBuiltins "isinstance" = some (.builtin "isinstance") := by decide +kernel) (n1 : x ≠ "__name__" := by decide) (n2 : y ≠ "__name__" := by decide) (d1 : (x == ("__debug__" : Str)) = false := by decide) (d2 : (y == ("__debug__" : Str)) = false := by decide)
    (s1 : starEach [e, .Tuple [.Name x p1, .Name y p2] kk tpos] X.env = (false, eval e X.env) :: starEach [.Tuple [.Name x p1, .Name y p2] kk tpos] X.env := by rfl)
    (s2 : starEach [.Tuple [.Name x p1, .Name y p2] kk tpos] X.env = (false, eval (.Tuple [.Name x p1, .Name y p2] kk tpos) X.env) :: starEach [] X.env := by rfl)
    (s3 : starEach [.Name x p1, .Name y p2] X.env = (false, eval (.Name x p1) X.env) :: starEach [.Name y p2] X.env := by rfl) (s4 : starEach [.Name y p2] X.env = (false, eval (.Name y p2) X.env) :: starEach [] X.env := by rfl)
    (hpl : (backTo pos (starEach [.Tuple [.Name x p1, .Name y p2] kk tpos] X.env)).any (·.1) = false := by rfl) :
    PE X (.Call (.Name "isinstance" p) [e, .Tuple [.Name x p1, .Name y p2] kk tpos] [] pos) (liftE c (dIsiT2 c.K m n te)) :=
  PE_imp (pe_callB call_isiT hgi hmi hvi (pa_cons (froze he) (pa_cons (pe_tup (pa_cons (pe_bltn hg1 hm1 hv1 (show RelV (.ty m) (.type m) from rfl) n1 d1) (pa_cons (pe_bltn hg2 hm2 hv2 (show RelV (.ty n) (.type n) from rfl) n2 d2) pa_nil s4) s3)) pa_nil s2) s1) (he := s1) (hpl := hpl)) fun σ H Q ⟨F, ρ, QD, s, h, k⟩ =>
    ⟨F, ρ, (fun d ρ1 => ∃ t b, tyD d = some t ∧ PySem.W.kitAny c.K (.type t) [.type m, .type n] = some b ∧ QD (.v (.bl b)) ρ1), s, h, fun v H1 F1 ρ1 d s1 st1 rv ⟨t, b, ht, hb, q⟩ =>
      ⟨(show (2 : Nat) ≤ sizeLine by decide), fun tp htp => by
        have pe : PExt F1 H1 F1 (upd H1 tp (.tup [.ty m, .ty n])) := PExt.own s1.sub htp
        refine ⟨v, tp, _, .type t, [.type m, .type n], b, rfl, upd_same, .cons (.ty m) (.cons (.ty n) .nil), ?_, by rw [hK]; exact hb, k (.bl b) _ F1 ρ1 (.v (.bl b)) (pe.sr s1) (st1.trans pe.stp) (Rep.bl b) trivial q⟩
        rw [hK]
        exact ty_rep pe.sub rv ht⟩⟩
end
end L2.DL
set_option Elab.async false
set_option linter.all false
set_option autoImplicit false
set_option maxRecDepth 100000
set_option maxHeartbeats 1000000
namespace L2.DL
open PySem PySem.Spec PyProof.Rows
def scal1 : Res → Bool
  | .v .non => true
  | .v (.bl _) => true
  | .v (.int _) => true
  | .v (.str _) => true
  | _ => false
def dCBB (dr : List D → (Res → Prop) → Prop) (t : DTA) : DTE := fun ρ Q => t ρ fun ds ρ1 => dr ds fun r => scal1 r = true ∧ Q r ρ1
def dOneL (t : DTA) : DTA := fun ρ Q => t ρ fun ds ρ1 => ds.length ≤ sizeLine ∧ Q [.lst ds] ρ1
section
variable {c : C} {X : Cx} {e : Expr} {es : List Expr} {t : DTA} {i : Nat} {pos p lpos : Pos} {x : Str}
theorem scal_rep {K : PySem.W.Frag} {S : Src} {F F' H H' : Hp} {v : V} {r : Res} (h : scal1 r = true) (rr : RR0 K S F H H' v r) : ∃ d, r = .v d ∧ Rep K S F' v d := by
  cases r with
  | ow x => cases h
  | v d =>
    have rr : Rep K S F v d := rr
    cases rr with
    | non => exact ⟨_, rfl, .non⟩
    | bl b => exact ⟨_, rfl, .bl b⟩
    | int b => exact ⟨_, rfl, .int b⟩
    | str b => exact ⟨_, rfl, .str b⟩
    | _ => cases h
theorem callBB_lift {r : List V → Hp → VK → Prop} {dr : List D → (Res → Prop) → Prop} (hd : CallD c.K r dr) {σ : L2.St} {H : Hp} {Q : VK} (h : liftE c (dCBB dr t) σ H Q) : liftAB c i t σ H fun vs H1 => r vs H1 Q := by
  obtain ⟨F, ρ, QD, s, ht, k⟩ := h
  refine ⟨F, ρ, _, s, ht, fun vs H1 F1 ρ1 ds p o x s1 st1 hx e1 e2 e3 rv q => ?_⟩
  have le1 : Le F1 (upd F1 p o) := fun q u z => by rw [upd_ne (ne_of_none z e3)]; exact z
  have sub1 : Le (upd F1 p o) H1 := fun q u z => by
    by_cases hq : q = p
    · subst hq; rw [upd_same] at z; cases z; exact e2
    · rw [upd_ne hq] at z; exact s1.sub q u z
  refine hd c.S (upd F1 p o) H1 vs ds _ _ sub1 rv q fun v H' F' r' pe rr ⟨hs, qr⟩ => ?_
  have pe1 : PExt F1 H1 F1 H' := ⟨s1.sub.trans pe.hh, Le.refl _, pe.hh, fun q z => .inl z, fun k q u z => kn_of (pe.hh q u (kn_some (k q u z))) (kn_nt (k q u z))⟩
  obtain ⟨d, e, rd⟩ := scal_rep (F' := F1) hs rr
  subst e
  exact k v H' F1 ρ1 (.v d) (pe1.sr s1) (st1.trans pe1.stp) rd trivial qr
theorem de_callBB {r : List V → Hp → VK → Prop} {dr : List D → (Res → Prop) → Prop} {id : String} (hd : CallD c.K r dr) (hc : CallR X (.builtin id) r) (hg : Gl X x) (hm : X.mg x = none) (hv : bootBuiltins x = some (.builtin id)) (ha : PA X (e :: es) (liftAB c i t))
    (hn : x ≠ "__name__" := by decide) (hdb : (x == ("__debug__" : Str)) = false := by decide)
    (he : starEach (e :: es) X.env = (false, eval e X.env) :: starEach es X.env := by rfl) (hpl : (backTo pos (starEach es X.env)).any (·.1) = false := by rfl) : PE X (.Call (.Name x p) (e :: es) [] pos) (liftE c (dCBB dr t)) :=
  PE_imp (pe_callB hc hg hm hv ha hn hdb he hpl) fun _ _ _ h => callBB_lift hd h
end
end L2.DL
set_option Elab.async false
set_option linter.all false
set_option autoImplicit false
set_option maxRecDepth 100000
set_option maxHeartbeats 1000000
namespace L2.DL
open PySem PySem.Spec PyProof.Rows
def spSrc (K : PySem.W.Frag) : Sp := fun vs H Q _ => ∃ (a : Addr) (ns : List Int), vs = [.ref a] ∧ SqL K H a (ns.map V.int) ∧ ns.length ≤ 63 ∧
  ∀ (p q : Addr) (m : Int) (cs : List Int) (H' : Hp), Le H H' → H' p = some (.dK (srcK q 1 m 0)) → H' q = some (.lst (cs.map V.int)) → (∀ z, z ∈ cs → 0 ≤ z) → 0 ≤ m → m < 4294967296 → Q (.ref p) H'
def spLaw (K : PySem.W.Frag) : Sp := fun vs H Q _ => ∃ (a : Addr) (ns : List Int), vs = [.ref a] ∧ SqL K H a (ns.map V.int) ∧ ns.length ≤ 63 ∧ ∀ H', Q (.bl true) H'
section
variable {X : Cx} {k : Nat} {f : Addr} {fd : FuncData} {ps : List Str} {sp : Sp} {e : Expr} {es : List Expr} {x : Str} {p pos : Pos} {t : TA}
theorem pe_callG (F : FnG X.prog X.w X.K X.mg X.base k f fd ps sp) (hgd : X.A.guards = some []) (hr : Room k X.A) (hg : Gl X x) (hm : X.mg x = some (.ref f)) (hk : PySem.W.keepIn X.K (.ref f) = true) (hb : Binds X.K fd ps []) (ha : PA X (e :: es) t) (hdb : (x == ("__debug__" : Str)) = false := by decide)
    (he : starEach (e :: es) X.env = (false, eval e X.env) :: starEach es X.env := by rfl) (hpl : (backTo pos (starEach es X.env)).any (·.1) = false := by rfl) :
    PE X (.Call (.Name x p) (e :: es) [] pos) (fun σ H Q => t σ H fun vs H1 => sp vs H1 Q fun _ _ _ => False) :=
  ⟨fun pins s σ H Q I h => wpAny_Call_Name_kw (ld_glob I hg hm (PySem.W.callWith_K (h₀ := X.base) I.ok.mod.kin hk (thn (ha.run pos pins s σ H _ I h) fun us s1 ⟨vs, H1, I1, r, q⟩ => ⟨I1.kIn, runG F hgd hr hb (passes_call takes0 fun _ _ _ _ z => z) I1 r q⟩) he hpl) hdb)⟩
end
section
variable {P : Program} {w : World} {K : PySem.W.Frag} {mg : Str → Option Value} {base : Heap}
/-- the law: its source, then its body over data -/
theorem fnLaw {x qual : Str} {st : Stmt} {f : Addr} {fd : FuncData} {N ps : List Str} {k : Nat} {s1 : Stmt} {rest : List Stmt} (F : Fun K x qual st f fd) (S : FnScope N ps (defScope st)) (hb : defBody st = s1 :: rest) (t : DTS) (hps : ps.length = 1)
    (h1 : ∀ (cdv : Value) (A : Around) (outer : List Env) (s : Shared) (H : Hp) (E : XK), (A.deeper (envOfC qual (defScope st) s.heap.objs.size f cdv)).guards = some [] → Room k (A.deeper (envOfC qual (defScope st) s.heap.objs.size f cdv)) →
      PassesOwn (model P w) (A.deeper (envOfC qual (defScope st) s.heap.objs.size f cdv)) (cxOf (L2.CX P w) P w K mg base N qual (defScope st) f cdv A outer s H E).env (cxOf (L2.CX P w) P w K mg base N qual (defScope st) f cdv A outer s H E).xe →
      PS (cxOf (L2.CX P w) P w K mg base N qual (defScope st) f cdv A outer s H E) s1 (tAsg (fun σ H Q => tCons (tVar 0) tNil σ H fun vs H1 => spSrc K vs H1 Q fun _ _ _ => False) (gName 1)))
    (h2 : ∀ (cdv : Value) (A : Around) (outer : List Env) (s : Shared) (H : Hp) (E : XK) (c : C), (A.deeper (envOfC qual (defScope st) s.heap.objs.size f cdv)).guards = some [] → Room k (A.deeper (envOfC qual (defScope st) s.heap.objs.size f cdv)) → c.K = K →
      PassesOwn (model P w) (A.deeper (envOfC qual (defScope st) s.heap.objs.size f cdv)) (cxOf (L2.CX P w) P w K mg base N qual (defScope st) f cdv A outer s H E).env (cxOf (L2.CX P w) P w K mg base N qual (defScope st) f cdv A outer s H E).xe →
      Lnk (cxOf (L2.CX P w) P w K mg base N qual (defScope st) f cdv A outer s H E) c XNo →
      PSs (cxOf (L2.CX P w) P w K mg base N qual (defScope st) f cdv A outer s H E) rest (liftS c t))
    (pure : t { nx := fun _ => False, rt := fun r => r = .v (.bl true) } (Sl.un :: Sl.d .src :: List.replicate (N.length - 2) Sl.un)) (hN : 2 ≤ N.length := by decide) : FnG P w K mg base (k + 1) f fd ps (spLaw K) := by
  refine okG F S (fun vs H Q E ⟨a, ns, e, _⟩ => by rw [e, hps]; rfl) fun cdv A outer s H vs Q E hgd hr h => ?_
  obtain ⟨a, ns, rfl, hS, hl, hq⟩ := h
  rw [hb]
  refine ⟨_, pss_cons (h1 cdv A outer s H E hgd hr (passes_of rfl)) (PSs_ex (p := fun c : C => c.K = K) (t := fun c => liftS c t) fun c hc => h2 cdv A outer s H E c hgd hr hc (passes_of rfl) ⟨fun _ _ _ _ => False, takes0, fun _ _ _ _ _ _ _ _ z => z⟩), ?_⟩
  refine ⟨.ref a, rfl, a, ns, rfl, hS, hl, fun p q m cs H' _ hp hqq hcs m0 m1 => ?_⟩
  have est : (start N [V.ref a]).length = N.length := by
    unfold start
    rw [List.length_append, List.length_map, List.length_replicate, List.length_singleton]
    omega
  refine ⟨⟨K, (some (p, q), []), fun _ => none, fun _ => none⟩, rfl, fun _ => none, _, _, ⟨fun _ _ z => (nomatch z), Le.refl _, fun _ _ z _ => (by unfold kn at z; cases z), fun _ z => absurd rfl z, ⟨?_, fun _ _ e => nomatch e⟩, fun _ _ => rfl, ?_, ?_, ?_, ?_⟩, pure, ?_⟩
  · intro a' q' e
    cases e
    exact ⟨1, m, 0, cs, hp, hqq, hcs, by decide, m0, m1, by decide⟩
  · rw [List.length_set, est]
    simp only [List.length_cons, List.length_replicate]
    omega
  · intro i d hi
    have i1 : i = 1 ∧ d = .src := by
      match i, hi with
      | 0, hi => simp at hi
      | 1, hi => simp at hi; exact ⟨rfl, hi.symm⟩
      | i + 2, hi =>
        simp only [List.getElem?_cons_succ, List.getElem?_replicate] at hi
        split at hi <;> cases hi
    obtain ⟨rfl, rfl⟩ := i1
    exact ⟨.ref p, List.getElem?_set_self (by rw [est]; omega), .src rfl⟩
  · intro i x hi
    match i, hi with
    | 0, hi => simp at hi
    | 1, hi => simp at hi
    | i + 2, hi =>
      simp only [List.getElem?_cons_succ, List.getElem?_replicate] at hi
      split at hi <;> cases hi
  · intro i j x y hi
    match i, hi with
    | 0, hi => simp at hi
    | 1, hi => simp at hi
    | i + 2, hi =>
      simp only [List.getElem?_cons_succ, List.getElem?_replicate] at hi
      split at hi <;> cases hi
  · refine ⟨fun _ _ _ _ _ _ z => z.elim, fun σ v H2 F2 ρ2 r _ _ rr z => ?_, fun _ _ _ _ _ _ z => z.elim, fun _ _ _ _ _ _ z => z.elim⟩
    subst z
    have rr : Rep K _ _ v (.bl true) := rr
    cases rr
    exact hq H2
end
section
variable {c : C} {X : Cx} {e o : Expr} {te : DTE} {i : Nat} {pos p2 p3 : Pos} {j : Nat}
theorem ds_srcL1 (hu : X.A.units + 1 < cLine) (hv : PE X e (liftE c te)) (ho : PE X o (tVar i)) (hs : swapsWith e (some (.Subscript o (.Constant (.str "left") j p2) p3)) pos.line X.env = pure false) : PS X (.Assign [.Subscript o (.Constant (.str "left") j p2) p3] e pos) (liftS c (dSrcP i limL te)) := ds_srcL hu hv ho hs
theorem ds_srcM1 (hu : X.A.units + 1 < cLine) (hv : PE X e (liftE c te)) (ho : PE X o (tVar i)) (hs : swapsWith e (some (.Subscript o (.Constant (.str "mixed") j p2) p3)) pos.line X.env = pure false) : PS X (.Assign [.Subscript o (.Constant (.str "mixed") j p2) p3] e pos) (liftS c (dSrcP i limM te)) := ds_srcM hu hv ho hs
theorem ds_srcT1 (hu : X.A.units + 1 < cLine) (hv : PE X e (liftE c te)) (ho : PE X o (tVar i)) (hs : swapsWith e (some (.Subscript o (.Constant (.str "turn") j p2) p3)) pos.line X.env = pure false) : PS X (.Assign [.Subscript o (.Constant (.str "turn") j p2) p3] e pos) (liftS c (dSrcP i limL te)) := ds_srcT hu hv ho hs
end
def t_source (K : PySem.W.Frag) : TS := tSeq (tAsg (tC (V.int 11)) (gName 1)) (tSeq (tFor (iList K (tVar 0)) (gName 2) (tAsg (tOp (rI (fun x j => 0 < j) fun i j => V.int (i % j)) (tCB
  (fun xs H Q => (∃ i, xs = [V.int i] ∧ Q (V.int i) H) ∨ ∃ k, xs = [V.bl k] ∧ Q (V.int (if k = true then 1 else 0)) H)
  (tCons (tOp (rI0 fun i j => V.int (i + j)) (tOp (rI0 fun i j => V.int (i + j)) (tOp (rI CMul fun i j => V.int (i * j)) (tVar 1) (tC (V.int 69069))) (tOp (rI CMul fun i j => V.int (i * j)) (tVar 2) (tC (V.int 31)))) (tC (V.int 5))) tNil)) (tC (V.int 2147483629))) (gName 1)))
  (tRet (tDisp [(tC (V.str (Str.ofString "cells")), tRevL K (tLc (iList K (tVar 0)) (gName 2) tYes (tCB (fun xs H Q => ∃ i, xs = [V.int i] ∧ Q (V.int (if i < 0 then -i else i)) H) (tCons (tVar 2) tNil)) [2])),
    (tC (V.str (Str.ofString "left")), tC (V.int 1)), (tC (V.str (Str.ofString "mixed")), tVar 1), (tC (V.str (Str.ofString "turn")), tC (V.int 0))])))
theorem pure_source {K : PySem.W.Frag} {vs : List V} {H : Hp} {Q : VK} {E : XK} {N : List Str} {a b c : Str} (h : spSrc K vs H Q E) : t_source K { nx := fun _ H' => Q .non H', rt := Q } (start [a, b, c] vs) H := by
  obtain ⟨s, ns, rfl, hS, hl, fin⟩ := h
  unfold t_source
  -- _law_mixed = 11
  refine ⟨_, rfl, s, rfl, ⟨_, hS⟩, for_list (K := K) (a := s) (xs := ns.map V.int) (fun i σ H2 => ∃ (m : Int) (v : Option V), σ = [some (.ref s), some (.int m), v] ∧ H2 = H ∧ 0 ≤ m ∧ m < 2147483629) ⟨11, none, rfl, rfl, by decide, by decide⟩ (fun i σ H2 _ ⟨_, _, _, e, _⟩ => by rw [e]; exact hS) ?_ ?_⟩
  · rintro i y σ H2 hi ⟨m, v, rfl, rfl, m0, m1⟩
    obtain ⟨z, rfl⟩ : ∃ z, y = V.int z := by
      rw [List.getElem?_map] at hi
      cases e : ns[i]? with
      | none => rw [e] at hi; cases hi
      | some z => rw [e] at hi; exact ⟨z, (Option.some.inj hi).symm⟩
    refine ⟨_, rfl, _, _, rfl, rfl, .inr ⟨by decide, by decide⟩, ?_⟩
    refine ⟨_, rfl, _, _, rfl, rfl, .inr ⟨by decide, by decide⟩, ?_⟩
    refine ⟨_, _, rfl, rfl, _, _, rfl, rfl, .inl ⟨_, rfl, _, _, rfl, rfl, (by decide : (0 : Int) < 2147483629), ?_⟩⟩
    exact ⟨_, _, rfl, rfl, Int.emod_nonneg _ (by decide), Int.emod_lt_of_pos _ (by decide)⟩
  · rintro σ H2 ⟨m, v, rfl, rfl, m0, m1⟩
    intro p hp
    have hS1 : SqL K (upd H2 p (.dK [])) s (ns.map V.int) := by
      rcases hS with (h | ⟨o, h⟩) | h
      · exact .inl (.inl (by rw [upd_ne (ne_of_none h hp)]; exact h))
      · exact .inl (.inr ⟨o, by rw [upd_ne (ne_of_none h hp)]; exact h⟩)
      · exact .inr h
    refine ⟨_, rfl, s, rfl, ⟨_, hS1⟩, fun D hD => ?_⟩
    have nDp : D ≠ p := fun z => by rw [z, upd_same] at hD; cases hD
    have keep : ∀ (H3 : Hp), (∀ b o, (upd H2 p (.dK [])) b = some o → H3 b = some o) → SqL K H3 s (ns.map V.int) := fun H3 k => by
      rcases hS1 with (h | ⟨o, h⟩) | h
      · exact .inl (.inl (k _ _ h))
      · exact .inl (.inr ⟨o, k _ _ h⟩)
      · exact .inr h
    refine lc_list (K := K) (a := s) (xs := ns.map V.int) (fun i H3 => ∃ cs : List Int, H3 D = some (.lst (cs.map V.int)) ∧ cs.length = i ∧ (∀ z, z ∈ cs → 0 ≤ z) ∧ ∀ b o, (upd H2 p (.dK [])) b = some o → H3 b = some o)
      ⟨[], upd_same, rfl, fun z h => (nomatch h), fun b o z => by rw [upd_ne (ne_of_none z hD)]; exact z⟩ (fun i H3 _ ⟨_, _, _, _, k⟩ => keep H3 k) ?_ ?_
    · rintro i y H3 hi ⟨cs, c1, c2, c3, c4⟩
      obtain ⟨z, rfl⟩ : ∃ z, y = V.int z := by
        rw [List.getElem?_map] at hi
        cases e : ns[i]? with
        | none => rw [e] at hi; cases hi
        | some z => rw [e] at hi; exact ⟨z, (Option.some.inj hi).symm⟩
      have hi2 : i < ns.length := by
        have := (List.getElem?_eq_some_iff.mp hi).1
        rwa [List.length_map] at this
      refine ⟨rfl, _, rfl, z, rfl, _, c1, (by rw [List.length_map, c2, show sizeLine = 16777216 from rfl]; omega), cs ++ [if z < 0 then -z else z], by rw [upd_same, List.map_append]; rfl, by rw [List.length_append, c2]; rfl, fun x hx => ?_, fun b o h => ?_⟩
      · rcases List.mem_append.mp hx with h | h
        · exact c3 x h
        · rw [List.mem_singleton.mp h]
          split <;> omega
      · rw [upd_ne (ne_of_none h hD)]
        exact c4 b o h
    · rintro H3 ⟨cs, c1, c2, c3, c4⟩
      refine ⟨D, _, rfl, .inl (.inl c1), fun q hq => ?_⟩
      have hp3 : H3 p = some (.dK []) := c4 p _ upd_same
      have nqp : q ≠ p := fun z => by rw [z, hp3] at hq; cases hq
      refine ⟨_, rfl, by rw [upd_ne nqp.symm]; exact hp3, [(kc, .ref q), (kl, .int 1), (km, .int m), (kt, .int 0)], rfl, (show 4 ≤ 15 by decide), ?_⟩
      have em : mergeK [] [(kc, V.ref q), (kl, .int 1), (km, .int m), (kt, .int 0)] = srcK q 1 m 0 := by
        simp only [mergeK, List.foldl_cons, List.foldl_nil, putK, List.any_nil, List.any_cons, Bool.false_eq_true, if_false, List.nil_append, List.cons_append]
        simp [nlc, nmc, nml, ntc, ntl, ntm]
      rw [em]
      exact fin p q m cs.reverse _ (fun b o z => by
        have h3 := c4 b o (by rw [upd_ne (ne_of_none z hp)]; exact z)
        rw [upd_ne (ne_of_none z hp), upd_ne (ne_of_none h3 hq)]
        exact h3) upd_same (by rw [upd_ne nqp, upd_same, List.map_reverse]) (fun z hz => c3 z (List.mem_reverse.mp hz)) m0 (by omega)
end L2.DL
set_option Elab.async false
set_option linter.all false
set_option autoImplicit false
set_option maxRecDepth 100000
set_option maxHeartbeats 1000000
namespace L2.DL
open PySem PySem.Spec PyProof.Rows
def dReprA (ds : List D) (Q : Res → Prop) : Prop := ∃ d, ds = [d] ∧ ShowOk d ∧ Q (.v (.str (py d).shown))
section
variable {K : PySem.W.Frag}
def dSortL (ds : List D) (Q : Res → Prop) : Prop := ∃ ns : List Int, ds = [.lst (ns.map .int)] ∧ ns.length < 64 ∧ ∀ ns' : List Int, ns'.Perm ns → ns'.Pairwise (· ≤ ·) → Q (.own (ns'.map .int))
theorem cd_sortL : CallD K (rSorted K) dSortL := by
  intro S F H xs ds QD Q s r ⟨ns, e, h0, h⟩ k
  subst e
  match r with
  | .cons (.lst h1 r1) .nil =>
    have e := Reps.of_ints r1
    subst e
    exact ⟨_, ns, rfl, h1.sq s, h0, fun ns' p hp hs hl => k _ _ F (.own _) (.own s hl) ⟨p, _, rfl, hl, upd_same, free_of s hl, .lst Reps.ints⟩ (h ns' hp hs)⟩
end
def dRepD (t : DTA) (tb : DTE) : DTE := fun ρ Q => t ρ fun ds ρ1 => ds.length ≤ sizeLine ∧ tb ρ1 fun r ρ2 => ∃ k : Int, fz r = .int k ∧ -(2 ^ 63) ≤ k ∧ k < 2 ^ 63 ∧ ds.length * k.toNat ≤ sizeLine ∧ Q (.own (List.replicate k.toNat ds).flatten) ρ2
theorem Reps.rep {K : PySem.W.Frag} {S : Src} {F : Hp} {vs : List V} {ds : List D} (r : Reps K S F vs ds) : ∀ n, Reps K S F (List.replicate n vs).flatten (List.replicate n ds).flatten
  | 0 => .nil
  | n + 1 => by
    rw [List.replicate_succ, List.replicate_succ, List.flatten_cons, List.flatten_cons]
    exact r.append (Reps.rep r n)
end L2.DL
set_option Elab.async false
set_option linter.all false
set_option autoImplicit false
set_option maxRecDepth 100000
set_option maxHeartbeats 1000000
namespace L2.DL
open PySem PySem.Spec PyProof.Rows
def dGet2 (td ty tx : DTE) : DTE := fun ρ Q => td ρ fun r ρ1 => ∃ kds, fz r = .dct kds ∧ ty ρ1 fun r2 ρ2 => ∃ k, keyOf (fz r2) = some k ∧ tx ρ2 fun r3 ρ3 => Q (.v ((valD kds k).getD (fz r3))) ρ3
def mergeD (kds more : List (Key × D)) : List (Key × D) := more.foldl (fun acc kv => putD acc kv.1 kv.2) kds
theorem merge_rep {K : PySem.W.Frag} {S : Src} {F : Hp} (more : List (Key × V)) : ∀ (mored : List (Key × D)) (kvs : List (Key × V)) (kds : List (Key × D)), more.map (·.1) = mored.map (·.1) → Reps K S F (more.map (·.2)) (mored.map (·.2)) → kvs.map (·.1) = kds.map (·.1) → Reps K S F (kvs.map (·.2)) (kds.map (·.2)) →
    (mergeK kvs more).map (·.1) = (mergeD kds mored).map (·.1) ∧ Reps K S F ((mergeK kvs more).map (·.2)) ((mergeD kds mored).map (·.2)) := by
  induction more with
  | nil =>
    intro mored kvs kds h r h' r'
    cases mored with
    | nil => exact ⟨h', r'⟩
    | cons _ _ => simp at h
  | cons ax more ih =>
    intro mored kvs kds h r h' r'
    cases mored with
    | nil => simp at h
    | cons bx mored =>
      obtain ⟨a, x⟩ := ax
      obtain ⟨b, y⟩ := bx
      simp only [List.map_cons, List.cons.injEq] at h
      obtain ⟨h1, h2⟩ := h
      subst h1
      cases r with
      | cons ra rb =>
        obtain ⟨p1, p2⟩ := put_rep (k := a) h' r' ra
        exact ih mored _ _ h2 rb p1 p2
end L2.DL
set_option Elab.async false
set_option linter.all false
set_option autoImplicit false
set_option maxRecDepth 100000
set_option maxHeartbeats 1000000
namespace L2.DL
open PySem PySem.Spec PyProof.Rows
def alt {α : Type} : List α → List α
  | [] => []
  | [x] => [x]
  | x :: _ :: r => x :: alt r
theorem alt_cons {α : Type} (x : α) (r : List α) : alt (x :: r) = x :: alt (r.drop 1) := by cases r <;> rfl
theorem alt_pick {α : Type} (xs : Array α) : ∀ (m a : Nat), xs.size ≤ a + 2 * m → ((List.range m).map fun k => a + 2 * k).filterMap (xs[·]?) = alt (xs.toList.drop a)
  | 0, a, h => by rw [List.drop_eq_nil_of_le (by rw [Array.length_toList]; omega)]; rfl
  | m + 1, a, h => by
    have ih := alt_pick xs m (a + 2) (by omega)
    have e : ((List.range (m + 1)).map fun k => a + 2 * k) = a :: (List.range m).map fun k => a + 2 + 2 * k := by
      rw [List.range_succ_eq_map, List.map_cons, List.map_map]
      congr 1
      refine List.map_congr_left fun k _ => ?_
      show a + 2 * (k + 1) = _
      omega
    rw [e, List.filterMap_cons, ih]
    by_cases ha : a < xs.size
    · have h2 : a < xs.toList.length := by rw [Array.length_toList]; exact ha
      rw [Array.getElem?_eq_getElem ha, List.drop_eq_getElem_cons h2, alt_cons, List.drop_drop]
      rfl
    · rw [Array.getElem?_eq_none (by omega), List.drop_eq_nil_of_le (by rw [Array.length_toList]; omega), List.drop_eq_nil_of_le (by rw [Array.length_toList]; omega)]
theorem alt_len {α : Type} : ∀ l : List α, (alt l).length ≤ l.length
  | [] => Nat.le_refl _
  | [_] => Nat.le_refl _
  | _ :: _ :: r => by
    have := alt_len r
    simp only [alt, List.length_cons]
    omega
theorem alt_map {α β : Type} (f : α → β) : ∀ l : List α, alt (l.map f) = (alt l).map f
  | [] => rfl
  | [_] => rfl
  | _ :: _ :: r => by simp only [List.map_cons, alt, alt_map f r]
theorem rng2 (lo n : Int) (h0 : 0 ≤ lo) (hn : lo ≤ n) : sliceRange lo n 2 = (List.range ((n - lo + 1) / 2).toNat).map fun k => lo.toNat + 2 * k := by
  unfold sliceRange
  rw [if_pos (show (2 : Int) > 0 by decide)]
  have hc : (if lo < n then (n - lo + 2 - 1) / 2 else 0) = (n - lo + 1) / 2 := by
    split <;> omega
  simp only [hc]
  refine List.map_congr_left fun k _ => ?_
  omega
theorem pick2_0 (its : Array Value) : slicePick its none none (some 2) = (alt its.toList).toArray := by
  have b : sliceBounds none none (some 2) its.size = (0, (its.size : Int), 2) := rfl
  unfold slicePick
  rw [b]
  show ((sliceRange 0 (its.size : Int) 2).filterMap (its[·]?)).toArray = _
  rw [rng2 0 _ (Int.le_refl _) (by omega), alt_pick its _ _ (by show its.size ≤ 0 + 2 * _; omega)]
  rfl
theorem pick2_1 (its : Array Value) : slicePick its (some 1) none (some 2) = (alt (its.toList.drop 1)).toArray := by
  have b : sliceBounds (some 1) none (some 2) its.size = (max 0 (min 1 (its.size : Int)), (its.size : Int), 2) := rfl
  unfold slicePick
  rw [b]
  show ((sliceRange (max 0 (min 1 (its.size : Int))) (its.size : Int) 2).filterMap (its[·]?)).toArray = _
  by_cases h : its.size = 0
  · rw [rng2 _ _ (by omega) (by omega), alt_pick its _ _ (by omega)]
    rw [List.drop_eq_nil_of_le (by rw [Array.length_toList]; omega), List.drop_eq_nil_of_le (by rw [Array.length_toList]; omega)]
  · rw [show max 0 (min 1 (its.size : Int)) = 1 by omega, rng2 _ _ (by omega) (by omega), alt_pick its _ _ (by omega)]
    rfl
def tStep2 (K : PySem.W.Frag) (k : Nat) (te : TE) : TE := fun σ H Q => te σ H fun x H1 => ∃ a xs, x = .ref a ∧ SqL K H1 a xs ∧ ∀ p, H1 p = none → Q (.ref p) (upd H1 p (.lst (alt (xs.drop k))))
section
variable {c : C} {X : Cx} {e : Expr} {te : TE} {t : DTE} {j1 j2 : Nat} {p1 p2 p3 pos : Pos}
/-- what is left behind the parts of the slice -/
theorem step2_end {lo : Option Int} {k : Nat} {lox stx : Option Expr} {pins : List (Addr × Obj)} {σ : L2.St} {H : Hp} {s : Shared} {Q : VK} {a : Addr} {xs : List V} {vl vu vs : Value} (hpick : ∀ its : Array Value, slicePick its lo none (some 2) = (alt (its.toList.drop k)).toArray)
    (I : Inv X pins σ H s) (hx : SqL X.K H a xs) (pl : IsPart vl lo) (pu : IsPart vu none) (ps : IsPart vs (some 2)) (q : ∀ p, H p = none → Q (.ref p) (upd H p (.lst (alt (xs.drop k)))))
    (hsub : ∀ r, subscripted (.Slice lox none stx p3) false (.ref a) (.ref r) = operate [.ref a, .ref r] (getItem (.ref a) (.ref r)) := by intro r; with_unfolding_all rfl) :
    wpAny (model X.prog X.w) X.A (subscriptTail e (.Slice lox none stx p3) (.ref a) (.ref s.heap.objs.size)) (EP X pins σ Q) X.xe { s with heap := s.heap.push { cls := .type "slice", data := .fields #[vl, vu, vs] } } := by
  have J : Inv X pins σ H { s with heap := s.heap.push { cls := .type "slice", data := .fields #[vl, vu, vs] } } := I.kept (t' := s.toks) fun b ob z => Heap.get?_push_of_some _ z
  obtain ⟨its, r, ht, hz⟩ := J.list hx
  have len := r.length
  refine tail_any (ops := [.ref a, .ref s.heap.objs.size]) ht.isList.typeIs (PySem.slot_list_getitem.lookup) ?_ (hsub _)
  refine wpAny_getItem_list_slice ht.isList (Heap.IsSliceOf.new _ vl vu vs) pl pu ps (by decide) ?_ (by rw [List.size_toArray]; omega)
  rw [hpick]
  have r2 : Vals (alt (xs.drop k)) (alt (its.drop k)) := by
    have gen : ∀ {vs : List V} {us : List Value}, Vals vs us → Vals (alt vs) (alt us) := by
      intro vs
      induction vs using alt.induct with
      | case1 => intro us z; cases z; exact .nil
      | case2 x => intro us z; cases z with | cons z1 z2 => cases z2; exact .cons z1 .nil
      | case3 x y r ih => intro us z; cases z with | cons z1 z2 => cases z2 with | cons z3 z4 => exact .cons z1 (ih z4)
    exact gen (r.drop k)
  refine ⟨.ref _, _, J.laid (t' := s.toks) (o := .lst (alt (xs.drop k))) (fun b ob z => Heap.get?_push_of_some _ z) (Nat.le_refl _) ?_, rfl, q _ (J.hok.fresh (Nat.le_refl _))⟩
  exact ⟨Nat.le_trans (alt_len _) (by rw [List.length_drop]; omega), _, 0, r2, Heap.get?_push_size _ rfl⟩
theorem pe_step2_0 (he : PE X e te) : PE X (.Subscript e (.Slice none none (some (.Constant (.int 2) j1 p1)) p3) pos) (tStep2 X.K 0 te) := by
  refine ⟨fun pins s σ H Q I h => Subscript_ (thn (he.run pins s σ H _ I h) fun v s1 ⟨x, H1, I1, r1, a, xs, ex, hx, q⟩ => ?_)⟩
  subst ex
  cases r1
  refine wpAny_Slice (thn (po_none.run pins s1 σ H1 (fun o H2 => o = none ∧ H2 = H1) I1 ⟨rfl, rfl⟩) fun vl s2 ⟨l, H2, I2, pl, el, e2⟩ => thn (po_none.run pins s2 σ H2 (fun o H3 => o = none ∧ H3 = H2) I2 ⟨rfl, rfl⟩) fun vu s3 ⟨u, H3, I3, pu, eu, e3⟩ =>
    thn ((po_some (pe_int (i := 2) (j := j1) (pos := p1))).run pins s3 σ H3 (fun o H4 => o = some 2 ∧ H4 = H3) I3 ⟨2, rfl, rfl, rfl⟩) fun vs s4 ⟨o, H4, I4, ps, eo, e4⟩ => ?_)
  subst el eu eo e4 e3 e2
  exact step2_end (k := 0) (fun its => by rw [List.drop_zero]; exact pick2_0 its) I4 hx pl pu ps q
theorem pe_step2_1 (he : PE X e te) : PE X (.Subscript e (.Slice (some (.Constant (.int 1) j2 p2)) none (some (.Constant (.int 2) j1 p1)) p3) pos) (tStep2 X.K 1 te) := by
  refine ⟨fun pins s σ H Q I h => Subscript_ (thn (he.run pins s σ H _ I h) fun v s1 ⟨x, H1, I1, r1, a, xs, ex, hx, q⟩ => ?_)⟩
  subst ex
  cases r1
  refine wpAny_Slice (thn ((po_some (pe_int (i := 1) (j := j2) (pos := p2))).run pins s1 σ H1 (fun o H2 => o = some 1 ∧ H2 = H1) I1 ⟨1, rfl, rfl, rfl⟩) fun vl s2 ⟨l, H2, I2, pl, el, e2⟩ => thn (po_none.run pins s2 σ H2 (fun o H3 => o = none ∧ H3 = H2) I2 ⟨rfl, rfl⟩) fun vu s3 ⟨u, H3, I3, pu, eu, e3⟩ =>
    thn ((po_some (pe_int (i := 2) (j := j1) (pos := p1))).run pins s3 σ H3 (fun o H4 => o = some 2 ∧ H4 = H3) I3 ⟨2, rfl, rfl, rfl⟩) fun vs s4 ⟨o, H4, I4, ps, eo, e4⟩ => ?_)
  subst el eu eo e4 e3 e2
  exact step2_end (k := 1) pick2_1 I4 hx pl pu ps q
def dStep2 (k : Nat) (t : DTE) : DTE := fun ρ Q => t ρ fun r ρ1 => ∃ xs, fz r = .lst xs ∧ Q (.own (alt (xs.drop k))) ρ1
theorem Reps.alt {K : PySem.W.Frag} {S : Src} {F : Hp} {vs : List V} : ∀ {ds : List D}, Reps K S F vs ds → Reps K S F (DL.alt vs) (DL.alt ds) := by
  induction vs using alt.induct with
  | case1 => intro ds z; cases z; exact .nil
  | case2 x => intro ds z; cases z with | cons z1 z2 => cases z2; exact .cons z1 .nil
  | case3 x y r ih => intro ds z; cases z with | cons z1 z2 => cases z2 with | cons z3 z4 => exact .cons z1 (ih z4)
theorem step2_lift {k : Nat} (hK : X.K = c.K) {σ : L2.St} {H : Hp} {Q : VK} : liftE c (dStep2 k t) σ H Q → tStep2 X.K k (liftV c (frz t)) σ H Q := fun ⟨F, ρ, QD, s, h, kk⟩ =>
    ⟨F, ρ, (fun d ρ1 => ∃ xs, d = .lst xs ∧ QD (.own (alt (xs.drop k))) ρ1), s, h, fun x H1 F1 ρ1 d s1 st1 rx ⟨ds, e1, q⟩ => by
      subst e1
      cases rx with
      | lst h1 h2 =>
        rename_i a vs
        refine ⟨_, _, rfl, by rw [hK]; exact h1.sq s1.sub, fun p hp => ?_⟩
        have pe : PExt F1 H1 F1 (upd H1 p (.lst (alt (List.drop k vs)))) := PExt.own s1.sub hp
        have rr : RR0 c.K c.S F1 H1 (upd H1 p (.lst (alt (List.drop k vs)))) (.ref p) (.own (alt (ds.drop k))) := ⟨p, _, rfl, hp, upd_same, free_of s1.sub hp, .lst (Reps.alt (Reps.drop k h2))⟩
        obtain ⟨a, b⟩ := rr.rr s1
        exact kk _ _ F1 ρ1 _ (pe.sr s1) (st1.trans pe.stp) a (New.back st1 s1 b) q⟩
theorem de_step2_0 (hK : X.K = c.K) (he : PE X e (liftE c t)) : PE X (.Subscript e (.Slice none none (some (.Constant (.int 2) j1 p1)) p3) pos) (liftE c (dStep2 0 t)) := PE_imp (pe_step2_0 (froze he)) fun _ _ _ => step2_lift hK
theorem de_step2_1 (hK : X.K = c.K) (he : PE X e (liftE c t)) : PE X (.Subscript e (.Slice (some (.Constant (.int 1) j2 p2)) none (some (.Constant (.int 2) j1 p1)) p3) pos) (liftE c (dStep2 1 t)) := PE_imp (pe_step2_1 (froze he)) fun _ _ _ => step2_lift hK
end
end L2.DL
set_option Elab.async false
set_option linter.all false
set_option autoImplicit false
set_option maxRecDepth 100000
set_option maxHeartbeats 1000000
namespace L2.DL
open PySem PySem.Spec PyProof.Rows
def lstAt : Option Sl → Option (List D)
  | some (.o (.lst xs)) => some xs
  | some (.d (.lst xs)) => some xs
  | _ => none
def dSlV (i : Nat) (tl th : DTO) : DTE := fun ρ Q => (lstAt ρ[i]?).isSome = true ∧ tl ρ fun l ρ1 => th ρ1 fun u ρ2 => ∃ xs, lstAt ρ2[i]? = some xs ∧ Q (.own (cutD xs l u)) ρ2
def dIxV (i : Nat) (ti : DTE) : DTE := fun ρ Q => (lstAt ρ[i]?).isSome = true ∧ ti ρ fun r ρ1 => ∃ xs k d, lstAt ρ1[i]? = some xs ∧ fz r = .int k ∧ atI xs k = some d ∧ Q (.v d) ρ1
section
variable {c : C} {X : Cx} {e o ix : Expr} {te ti : DTE} {tl th : DTO} {lo hi : Option Expr} {i : Nat} {p2 pos pos' : Pos}
/-- where the list stands -/
theorem lst_at {σ : L2.St} {F H : Hp} {ρ : Rho} {xs : List D} (s : SR c F H σ ρ) (h : lstAt ρ[i]? = some xs) : ∃ p vs, σ[i]? = some (some (V.ref p)) ∧ SqL c.K H p vs ∧ Reps c.K c.S F vs xs := by
  cases e : ρ[i]? with
  | none => rw [e] at h; cases h
  | some u =>
    rw [e] at h
    cases u with
    | un => cases h
    | d x =>
      cases x with
      | lst ys =>
        cases h
        obtain ⟨v, hv, rv⟩ := s.sl i _ e
        cases rv with
        | lst h1 h2 => exact ⟨_, _, hv, h1.sq s.sub, h2⟩
      | _ => cases h
    | o x =>
      cases x with
      | lst ys =>
        cases h
        obtain ⟨p, ob, hv, h1, _, h2, _⟩ := s.ow i _ e
        cases h2 with
        | lst h3 => exact ⟨p, _, hv, .inl (.inl h1), h3⟩
      | _ => cases h
theorem var_at {σ : L2.St} {F H : Hp} {ρ : Rho} (s : SR c F H σ ρ) (h : (lstAt ρ[i]?).isSome = true) : ∃ p, σ[i]? = some (some (V.ref p)) := by
  obtain ⟨xs, e⟩ := Option.isSome_iff_exists.mp h
  obtain ⟨p, vs, a, _⟩ := lst_at s e
  exact ⟨p, a⟩
theorem de_ixV (hK : X.K = c.K) (ho : PE X o (tVar i)) (hi : PE X ix (liftE c ti)) (hs : PlainIx ix) : PE X (.Subscript o ix pos) (liftE c (dIxV i ti)) :=
  PE_imp (pe_ix ix_list ho (froze hi) hs) fun σ H Q ⟨F, ρ, QD, s, ⟨hx, h⟩, k⟩ => by
    obtain ⟨p, hp⟩ := var_at s hx
    refine ⟨.ref p, hp, F, ρ, (fun d1 ρ1 => ∃ xs k d, lstAt ρ1[i]? = some xs ∧ d1 = .int k ∧ atI xs k = some d ∧ QD (.v d) ρ1), s, h, fun w H2 F2 ρ2 d2 s2 st2 rw2 ⟨xs, j, d, hx2, e2, hat, q⟩ => ?_⟩
    subst e2
    cases rw2
    obtain ⟨p', vs, hp', sq, rp⟩ := lst_at s2 hx2
    rw [hp] at hp'
    cases hp'
    obtain ⟨v, hv, rv⟩ := at_rep rp hat
    exact ⟨p, vs, j, v, rfl, rfl, by rw [hK]; exact sq, hv, k v H2 F2 ρ2 (.v d) s2 st2 rv trivial q⟩
/-- x[k] = e -/
def dSetV (i : Nat) (ti te : DTE) : DTS := fun D ρ => te ρ fun r ρ1 => (∃ xs, ρ1[i]? = some (Sl.o (.lst xs))) ∧ ti ρ1 fun r2 ρ2 => ∃ xs k j, ρ2[i]? = some (Sl.o (.lst xs)) ∧ fz r2 = .int k ∧ ixN xs.length k = some j ∧ D.nx (ρ2.set i (.o (.lst (xs.set j (fz r)))))
end
theorem Reps.setAt {K : PySem.W.Frag} {S : Src} {F : Hp} {v : V} {d : D} (rv : Rep K S F v d) {vs : List V} : ∀ {ds : List D} {j : Nat}, Reps K S F vs ds → Reps K S F (vs.set j v) (ds.set j d) := by
  induction vs with
  | nil => intro ds j h; cases h; exact .nil
  | cons x vs ih =>
    intro ds j h
    cases h with
    | cons a b =>
      cases j with
      | zero => exact .cons rv b
      | succ j => exact .cons a (ih b)
section
variable {c : C} {X : Cx} {e o ix E : Expr} {te ti : DTE} {i : Nat} {p pos pos' : Pos}
theorem ds_setV (hg : PG X (.Subscript o ix pos') (gSub (tVar i) (liftV c (frz ti)) rSetL)) (hv : PE X e (liftE c te)) (hs : swapsWithSole [.Subscript o ix pos'] e pos.line X.env = pure false := by rfl) (hw : swappedStores [.Subscript o ix pos'] e X.env = pure none := by rfl)
    (h1 : (assignEach [.Subscript o ix pos'] X.env).map (·.2) = [assign (.Subscript o ix pos') X.env] := by rfl) : PS X (.Assign [.Subscript o ix pos'] e pos) (liftS c (dSetV i ti te)) :=
  PS_imp (ps_asg (froze hv) hg hs hw h1) fun D σ H ⟨F, ρ, DD, s, h, k⟩ =>
    ⟨F, ρ, (fun d ρ1 => (∃ xs, ρ1[i]? = some (Sl.o (.lst xs))) ∧ ti ρ1 fun r2 ρ2 => ∃ xs k j, ρ2[i]? = some (Sl.o (.lst xs)) ∧ fz r2 = .int k ∧ ixN xs.length k = some j ∧ DD.nx (ρ2.set i (.o (.lst (xs.set j d))))), s, h, fun v H1 F1 ρ1 d s1 st1 rv ⟨⟨xs0, hx0⟩, q⟩ => by
      obtain ⟨p, ob, e1, _⟩ := s1.ow i _ hx0
      refine ⟨.ref p, e1, F1, ρ1, (fun d2 ρ2 => ∃ xs k j, ρ2[i]? = some (Sl.o (.lst xs)) ∧ d2 = .int k ∧ ixN xs.length k = some j ∧ DD.nx (ρ2.set i (.o (.lst (xs.set j d))))), s1, q, fun y H2 F2 ρ2 d2 s2 st2 ry ⟨xs, k0, j, hx, e2, hj, q2⟩ => ?_⟩
      subst e2
      cases ry
      obtain ⟨p', ob', g1, g2, g3, g4, g5, g6⟩ := s2.ow i _ hx
      rw [e1] at g1
      cases g1
      cases g4 with
      | lst r => exact ⟨p, _, k0, j, rfl, rfl, g2, by rw [r.length]; exact hj, k.nx σ _ F2 _ (st1.ff.trans st2.ff) (s2.grow hx e1 (.lst (Reps.setAt (rv.mono st2.ff) r))) q2⟩⟩
/-- an owned list changes within an expression -/
theorem grow_stp {σ : L2.St} {F H : Hp} {ρ : Rho} {a : Addr} {x y : D} {w : HO} (s : SR c F H σ ρ) (hi : ρ[i]? = some (Sl.o x)) (hp : σ[i]? = some (some (V.ref a))) (n : ∀ ps, w ≠ .tbl ps := by intro _ z; cases z) : Stp c σ F H ρ F (upd H a w) (ρ.set i (.o y)) where
  ff := Le.refl _
  hh := fun q o z _ ho => by
    have : q ≠ a := fun e => ho ⟨i, x, hi, by rw [hp, e]⟩
    rw [upd_ne this]; exact kn_some z
  nn := fun _ h => .inl h
  oo := fun q ⟨j, z, h1, h2⟩ => by
    by_cases e : j = i
    · subst e
      exact ⟨j, x, hi, h2⟩
    · rw [List.getElem?_set_ne (Ne.symm e)] at h1
      exact ⟨j, z, h1, h2⟩
  tr := fun q h => by
    by_cases e : q = a
    · subst e; rw [kn_of upd_same n]; simp
    · rw [kn_same (upd_ne e)]; exact h
/-- x.pop(k) -/
def dPopV (i : Nat) (ti : DTE) : DTE := fun ρ Q => (∃ xs, ρ[i]? = some (Sl.o (.lst xs))) ∧ ti ρ fun r ρ1 => ∃ xs k j d, ρ1[i]? = some (Sl.o (.lst xs)) ∧ fz r = .int k ∧ xs.length ≤ sizeLine ∧ ixN xs.length k = some j ∧ xs[j]? = some d ∧ Q (.v d) (ρ1.set i (.o (.lst (xs.eraseIdx j))))
theorem Reps.eraseIdx {K : PySem.W.Frag} {S : Src} {F : Hp} {vs : List V} : ∀ {ds : List D} {j : Nat}, Reps K S F vs ds → Reps K S F (vs.eraseIdx j) (ds.eraseIdx j) := by
  induction vs with
  | nil => intro ds j h; cases h; exact .nil
  | cons x vs ih =>
    intro ds j h
    cases h with
    | cons a b =>
      cases j with
      | zero => exact b
      | succ j => exact .cons a (ih b)
theorem de_popV (h1 : PE X E (tBM X.K "list" rPopAt (tVar i) (tCons (liftV c (frz ti)) tNil))) : PE X E (liftE c (dPopV i ti)) :=
  PE_imp h1 fun σ H Q ⟨F, ρ, QD, s, ⟨⟨xs0, hx0⟩, h⟩, k⟩ => by
    obtain ⟨p, ob, e1, e2, e3, e4, e5, e6⟩ := s.ow i _ hx0
    cases e4
    refine ⟨.ref p, e1, .inl ⟨rfl, _, .inl (.inl e2)⟩, F, ρ, (fun d2 ρ1 => ∃ xs k j d, ρ1[i]? = some (Sl.o (.lst xs)) ∧ d2 = .int k ∧ xs.length ≤ sizeLine ∧ ixN xs.length k = some j ∧ xs[j]? = some d ∧ QD (.v d) (ρ1.set i (.o (.lst (xs.eraseIdx j))))), s, h, fun v H1 F1 ρ1 d2 s1 st1 rv ⟨xs, k0, j, d, hx, e2, hl, hj, hd, q⟩ => ?_⟩
    subst e2
    cases rv
    obtain ⟨p', ob', g1, g2, g3, g4, g5, g6⟩ := s1.ow i _ hx
    rw [e1] at g1
    cases g1
    cases g4 with
    | lst r =>
      rename_i vs
      obtain ⟨j1, j2, j3, j4⟩ := ixN_seq hj
      obtain ⟨w, hw, rw'⟩ := r.get hd
      have big : (sizeLine : Nat) < 2 ^ 62 := by decide
      refine ⟨p, vs, k0, j, w, rfl, rfl, g2, by omega, by omega, by rw [r.length]; exact j1, hw, ?_⟩
      exact k w _ F1 _ (.v d) (s1.grow hx e1 (.lst (Reps.eraseIdx r))) (st1.trans (grow_stp s1 hx e1)) rw' trivial q
/-- len(x) -/
def dLenV (i : Nat) : DTE := fun ρ Q => ∃ xs, lstAt ρ[i]? = some xs ∧ Q (.v (.int xs.length)) ρ
theorem de_lenV {x : Str} (hK : X.K = c.K) (hg : Gl X "len") (hm : X.mg "len" = none) (ha : PA X [e] (tCons (tVar i) tNil)) (hv : bootBuiltins "len" = some (.builtin "len") := by decide +kernel)
    (he : starEach [e] X.env = (false, eval e X.env) :: starEach [] X.env := by rfl) (hpl : (backTo pos (starEach [] X.env)).any (·.1) = false := by rfl) : PE X (.Call (.Name "len" p) [e] [] pos) (liftE c (dLenV i)) :=
  PE_imp (pe_callB call_len hg hm hv ha (by decide) (by decide) he hpl) fun σ H Q ⟨F, ρ, QD, s, ⟨xs, hx, h⟩, k⟩ => by
    obtain ⟨a, vs, e1, sq, rp⟩ := lst_at s hx
    refine ⟨.ref a, e1, .ref a, _, rfl, .inl ⟨vs, by rw [hK]; exact sq, rfl⟩, ?_⟩
    have := k (.int vs.length) H F ρ (.v (.int xs.length)) s Stp.refl (by rw [rp.length]; exact .int _) trivial h
    exact this
end
end L2.DL
set_option Elab.async false
set_option linter.all false
set_option autoImplicit false
set_option maxRecDepth 100000
set_option maxHeartbeats 1000000
namespace L2.DL
open PySem PySem.Spec PyProof.Rows
def dLcLP (g : DTG) (tt : DTT) (te : DTE) (vs : List Nat) (P : Rho → Prop) (Q : DQ) : List D → List D → Rho → Prop
  | [], acc, ρ => P ρ ∧ Q (.own acc) ρ
  | x :: xs, acc, ρ => P ρ ∧ g x ρ fun ρ2 => tt ρ2 fun b ρ3 => if b = true then te ρ3 fun r ρ4 => acc.length < sizeLine ∧ dLcLP g tt te vs P Q xs (acc ++ [fz r]) (dwipe ρ4 vs) else dLcLP g tt te vs P Q xs acc (dwipe ρ3 vs)
def dLcV (i : Nat) (g : DTG) (tt : DTT) (te : DTE) (vs : List Nat) : DTE := fun ρ Q => ∃ ds, lstAt ρ[i]? = some ds ∧ dLcLP g tt te vs (fun r => lstAt r[i]? = some ds) Q ds [] (dwipe ρ vs)
section
variable {c : C} {X : Cx} {elt tg iter e : Expr} {g : DTG} {tt : DTT} {te : DTE} {pos : Pos} {vs is : List Nat}
theorem lcV_lift {iv : Nat} (hs : ∀ i ∈ is, i ∈ vs) {σ : L2.St} {H : Hp} {Q : VK} (h : liftE c (dLcV iv g tt te vs) σ H Q) : tLc (iList c.K (tVar iv)) (liftG c is g) (liftT c tt) (liftV c (frz te)) vs σ H Q := by
  obtain ⟨F1, ρ1, QD, s1, ⟨ds, hds, q⟩, k⟩ := h
  obtain ⟨pL, vL, eL, sqL, rL⟩ := lst_at s1 hds
  refine ⟨.ref pL, eL, pL, rfl, ⟨vL, sqL⟩, ?_⟩
  generalize H = H1 at *
  have st1 : Stp c σ F1 H1 ρ1 F1 H1 ρ1 := Stp.refl
  intro A hA
  have cH0 : kn c.H0 A = none := s1.newH hA
  have nS : ¬ inS c.S A := s1.newS hA
  have nO : ¬ Own σ ρ1 A := s1.newO hA
  have fA : F1 A = none := free_of s1.sub hA
  have e1 : PExt F1 H1 F1 (upd H1 A (.lst [])) := PExt.own s1.sub hA
  refine ⟨fun i m Hn => m = ds.length - i ∧ i ≤ ds.length ∧ ∃ Fn ρn acc vacc, SR c Fn Hn σ ρn ∧ WP ρn vs ∧ Stp c σ F1 H1 ρ1 Fn Hn ρn ∧ Hn A = some (.lst vacc) ∧ Fn A = none ∧ Reps c.K c.S Fn vacc acc ∧ dLcLP g tt te vs (fun r => lstAt r[iv]? = some ds) QD (ds.drop i) acc ρn,
    ⟨ds.length, by simp, Nat.zero_le _, F1, dwipe ρ1 vs, [], [], (e1.sr s1).dwiped, dwipe_wp _ _, ⟨e1.ff, fun p o z _ _ => e1.hh p o (kn_some z), fun p z => .inl z, fun p ⟨j, xs, z1, z2⟩ => by
      rcases dwipe_get z1 with z | ⟨_, z⟩
      · cases z
      · exact ⟨j, xs, z, z2⟩, e1.stp.tr (c := c) (σ := σ) (ρ := ρ1)⟩, upd_same, fA, .nil, q⟩, ?_⟩
  rintro i m Hn ⟨rfl, hi, Fn, ρn, acc, vacc, sn, wn, stn, hAn, fAn, rn, qn⟩
  by_cases hlt : i < ds.length
  · have hd : ds[i]? = some ds[i] := List.getElem?_eq_getElem hlt
    rw [List.drop_eq_getElem_cons hlt] at qn
    obtain ⟨hP, qn⟩ := qn
    obtain ⟨pM, vM, eM, sqM, rM⟩ := lst_at sn hP
    rw [eL] at eM
    cases eM
    obtain ⟨v0, hv0, rv0⟩ := rM.get hd
    have go : (Itl c.K pL).go i Hn := ⟨vM, v0, sqM, hv0⟩
    have yl : ∀ x H', (Itl c.K pL).yld i Hn x H' → ∃ F3, PExt Fn Hn F3 H' ∧ Rep c.K c.S F3 x ds[i] := fun x H' y => by
      obtain ⟨e, y⟩ := y
      subst e
      have := y vM sqM
      rw [hv0] at this
      cases this
      exact ⟨Fn, .refl sn.sub, rv0⟩
    refine .inr ⟨go, fun H' => ∃ Fn ρn acc vacc, SR c Fn H' σ ρn ∧ WP ρn vs ∧ Stp c σ F1 H1 ρ1 Fn H' ρn ∧ H' A = some (.lst vacc) ∧ Fn A = none ∧ Reps c.K c.S Fn vacc acc ∧ dLcLP g tt te vs (fun r => lstAt r[iv]? = some ds) QD (ds.drop (i + 1)) acc ρn,
      fun H' z => ⟨ds.length - (i + 1), by omega, rfl, hlt, z⟩, fun x H' y => ?_⟩
    obtain ⟨F3, pe, rx⟩ := yl x H' y
    have s3 := pe.sr sn
    have st3 : Stp c σ F1 H1 ρ1 F3 H' ρn := stn.trans pe.stp
    have nOn : ¬ Own σ ρn A := fun z => nO (stn.oo A z)
    have hA3 : H' A = some (.lst vacc) := pe.hh _ _ hAn
    have fA3 : F3 A = none := by
      cases q : F3 A with
      | none => rfl
      | some o =>
        rcases pe.nn A (by rw [q]; simp) with z | z | ⟨_, z⟩
        · exact absurd fAn z
        · rw [hAn] at z; cases z
        · rw [hAn] at z; cases z
    have ownW : ∀ p, Own (wipe σ vs) ρn p → Own σ ρn p := fun p ⟨j, xs, z1, z2⟩ => by
      by_cases hj : j ∈ vs
      · cases wn j hj _ z1
      · exact ⟨j, xs, z1, by rw [← wipe_out hj]; exact z2⟩
    refine ⟨F3, ρn, ds[i], _, s3.wiped wn, rx, qn, fun σ2 ρ2 s4 f4 o4 l4 q4 => ?_⟩
    have l2 : σ2.length = σ.length := l4.trans (wipe_length σ vs)
    have hj2 : ∀ j, j ∉ vs → σ2[j]? = σ[j]? := fun j hj => ((f4 j fun z => hj (hs j z)).1).trans (wipe_out hj)
    have own2 : ∀ p, Own σ2 ρ2 p → Own σ ρn p := fun p z => ownW p (o4 p z)
    have ownB : ∀ {ρ5 : Rho} p, Own σ (dwipe ρ5 vs) p → Own σ2 ρ5 p := fun {ρ5} p ⟨j, xs, z1, z2⟩ => by
      rcases dwipe_get z1 with z | ⟨z, z3⟩
      · cases z
      · exact ⟨j, xs, z3, by rw [hj2 j z]; exact z2⟩
    -- what a test or an element has done, said of the outer slots
    have back : ∀ {F5 H5 : Hp} {ρ5 : Rho}, Stp c σ2 F3 H' ρ2 F5 H5 ρ5 → SR c F5 H5 σ2 ρ5 → Stp c σ F1 H1 ρ1 F5 H5 (dwipe ρ5 vs) ∧ H5 A = some (.lst vacc) ∧ F5 A = none := fun {F5 H5 ρ5} st5 s5 => by
      have st' : Stp c σ F3 H' ρn F5 H5 (dwipe ρ5 vs) := ⟨st5.ff, fun p o z1 z2 z3 => st5.hh p o z1 z2 fun z => z3 (own2 p z), fun p z => by
        rcases st5.nn p z with z | z | z | z
        · exact .inl z
        · exact .inr (.inl z)
        · exact .inr (.inr (.inl (own2 p z)))
        · exact .inr (.inr (.inr z)), fun p z => own2 p (st5.oo p (ownB p z)), st5.tr⟩
      refine ⟨st3.trans st', st5.hh A _ (kn_of hA3) nS fun z => nOn (own2 A z), ?_⟩
      cases q : F5 A with
      | none => rfl
      | some o =>
        rcases st5.nn A (by rw [q]; simp) with z | z | z | z
        · exact absurd fA3 z
        · exact (z.no hA3 (fun _ y => by cases y) (fun _ y => by cases y)).elim
        · exact absurd (own2 A z) nOn
        · exact absurd z nS
    refine ⟨wipe_wiped hs (l4.trans (wipe_length σ vs)) (fun j hj => (f4 j hj).1), F3, ρ2, (fun b ρ3 => if b = true then te ρ3 fun r ρ4 => acc.length < sizeLine ∧ dLcLP g tt te vs (fun r => lstAt r[iv]? = some ds) QD (ds.drop (i + 1)) (acc ++ [fz r]) (dwipe ρ4 vs) else dLcLP g tt te vs (fun r => lstAt r[iv]? = some ds) QD (ds.drop (i + 1)) acc (dwipe ρ3 vs)), s4, q4, fun b H5 F5 ρ5 s5 st5 q5 => ?_⟩
    cases b with
    | false =>
      rw [if_neg Bool.false_ne_true] at q5 ⊢
      obtain ⟨a1, a2, a3⟩ := back st5 s5
      exact ⟨F5, dwipe ρ5 vs, acc, vacc, s5.unwiped l2 hj2, dwipe_wp _ _, a1, a2, a3, Reps.mono (pe.ff.trans st5.ff) rn, q5⟩
    | true =>
      rw [if_pos rfl] at q5 ⊢
      refine ⟨F5, ρ5, (fun d ρ4 => acc.length < sizeLine ∧ dLcLP g tt te vs (fun r => lstAt r[iv]? = some ds) QD (ds.drop (i + 1)) (acc ++ [d]) (dwipe ρ4 vs)), s5, q5, fun y H6 F6 ρ6 d s6 st6 ry q6 => ?_⟩
      obtain ⟨q6a, q6⟩ := q6
      obtain ⟨a1, a2, a3⟩ := back (st5.trans st6) s6
      have s7 := s6.unwiped l2 hj2
      have nO6 : ¬ Own σ (dwipe ρ6 vs) A := fun z => nO (a1.oo A z)
      have rn6 : Reps c.K c.S F6 vacc acc := Reps.mono (pe.ff.trans (st5.ff.trans st6.ff)) rn
      refine ⟨vacc, a2, by rw [rn6.length]; exact q6a, F6, dwipe ρ6 vs, acc ++ [d], vacc ++ [y], ?_, dwipe_wp _ _, ⟨a1.ff, fun p o z1 z2 z3 => ?_, a1.nn, a1.oo, fun p z => ?_⟩, upd_same, a3, rn6.snoc ry, q6⟩
      · refine ⟨fun q o z => ?_, s7.f0, fun q o z1 z2 => ?_, s7.n0, s7.src.upd nS a2, s7.srcF, s7.len, s7.sl, fun j xs z => ?_, s7.dis⟩
        · exact kn_of (by rw [upd_ne (ne_of_none z a3)]; exact s7.sub q o z) (kn_nt (s7.sub' q o z))
        · rw [upd_ne (ne_of_none z1 cH0)]; exact s7.h0 q o z1 z2
        · obtain ⟨q, us, a, b, d, f, g, k⟩ := s7.ow j xs z
          have hq : q ≠ A := fun e => nO6 ⟨j, xs, z, by rw [a, e]⟩
          exact ⟨q, us, a, by rw [upd_ne hq]; exact b, d, f, g, k⟩
      · rw [upd_ne (ne_of_none z1 (kn_none hA))]; exact a1.hh p o z1 z2 z3
      · by_cases hq : p = A
        · rw [hq, kn_of upd_same]; simp
        · rw [kn_same (upd_ne hq)]; exact a1.tr p z
  · have e : i = ds.length := by omega
    subst e
    rw [List.drop_length] at qn
    obtain ⟨hP, qn⟩ := qn
    obtain ⟨pM, vM, eM, sqM, rM⟩ := lst_at sn hP
    rw [eL] at eM
    cases eM
    have nOn : ¬ Own σ ρn A := fun z => nO (stn.oo A z)
    exact .inl ⟨⟨vM, sqM, by rw [rM.length]; exact Nat.le_refl _⟩, k (.ref A) Hn Fn ρn (.own acc) sn (st1.trans stn) ⟨A, _, rfl, hAn, fAn, .lst rn, nS, nOn, cH0⟩ (New.back st1 s1 (r := .own acc) ⟨A, rfl, kn_none hA⟩) qn⟩
theorem de_lcV {i : Nat} {ifs : List Expr} {scope : Scope} {own : List (Str × Nat)} (hK : X.K = c.K) (hc : X.calm = true) (hN : X.N.Nodup) (hi : PE X iter (tVar i)) (ok : BlkOk X.N X.env.scope scope own) (hsub : ∀ i ∈ is, i ∈ own.map (·.2))
    (hg : ∀ (s : Shared) (H : Hp) (C : Addr) (cl : List (Str × Addr)) (fp : List Addr), PG (X.blk s H scope (compEnvC scope cl C X.env) fp) tg (liftG c is g)) (ht : ∀ (s : Shared) (H : Hp) (C : Addr) (cl : List (Str × Addr)) (fp : List Addr), PTs (X.blk s H scope (compEnvC scope cl C X.env) fp) ifs (liftT c tt))
    (he : ∀ (s : Shared) (H : Hp) (C : Addr) (cl : List (Str × Addr)) (fp : List Addr), PE (X.blk s H scope (compEnvC scope cl C X.env) fp) elt (liftE c te)) (hs : ∀ x, foldedSetIterable iter X.env x = pure x := by intro _; rfl) :
    PE X (.ListComp elt [⟨tg, iter, ifs, 0⟩] scope pos) (liftE c (dLcV i g tt te (own.map (·.2)))) :=
  PE_imp (pe_lc hc hN (pi_list hi) ok hg ht (fun s H C cl fp => froze (he s H C cl fp)) hs) fun σ H Q h => by rw [hK]; exact lcV_lift hsub h
end
end L2.DL
set_option Elab.async false
set_option linter.all false
set_option autoImplicit false
set_option maxRecDepth 100000
set_option maxHeartbeats 1000000
namespace L2.DL
open PySem PySem.Spec PyProof.Rows
theorem lcP_fun {α : Type} {g : DTG} {tt : DTT} {te : DTE} {vs : List Nat} {P : Rho → Prop} {Q : DQ} (J : Rho → Prop) (inj : α → D) (p : α → Bool) (f : α → D) (hP : ∀ ρ, J ρ → P ρ)
    (step : ∀ (x : α) ρ, J ρ → ∀ (K1 : DQ) (K2 : Rho → Prop), (p x = true → ∀ r ρ4, fz r = f x → J (dwipe ρ4 vs) → K1 r ρ4) → (p x = false → ∀ ρ3, J (dwipe ρ3 vs) → K2 ρ3) → g (inj x) ρ fun ρ2 => tt ρ2 fun b ρ3 => if b = true then te ρ3 K1 else K2 ρ3) :
    ∀ (xs : List α) (acc : List D) (ρ : Rho), acc.length + xs.length ≤ 1000000 → J ρ → (∀ ρ', J ρ' → Q (.own (acc ++ (xs.filter p).map f)) ρ') → dLcLP g tt te vs P Q (xs.map inj) acc ρ
  | [], acc, ρ, _, j, q => by
    have := q ρ j
    simp only [List.filter_nil, List.map_nil, List.append_nil] at this
    exact ⟨hP ρ j, this⟩
  | x :: xs, acc, ρ, hl, j, q => by
    rw [List.length_cons] at hl
    have hz : (1000000 : Nat) < sizeLine := by decide
    refine ⟨hP ρ j, step x ρ j _ _ (fun hp r ρ4 e j4 => ⟨by omega, ?_⟩) (fun hp ρ3 j3 => ?_)⟩
    · rw [e]
      refine lcP_fun J inj p f hP step xs _ _ (by rw [List.length_append]; show acc.length + 1 + xs.length ≤ _; omega) j4 fun ρ' j' => ?_
      have := q ρ' j'
      rw [List.filter_cons_of_pos hp, List.map_cons] at this
      rw [List.append_assoc]
      exact this
    · refine lcP_fun J inj p f hP step xs _ _ (by omega) j3 fun ρ' j' => ?_
      have := q ρ' j'
      rw [List.filter_cons_of_neg (by rw [hp]; exact Bool.false_ne_true)] at this
      exact this
/-- a state goes along: what is left, what is made -/
theorem lcL_inv {α : Type} {g : DTG} {tt : DTT} {te : DTE} {vs : List Nat} {Q : DQ} (J : List α → List D → Rho → Prop) (inj : α → D) (len : ∀ l acc ρ, J l acc ρ → acc.length + l.length ≤ 1000000)
    (step : ∀ (x : α) rest acc ρ, J (x :: rest) acc ρ → ∀ (K1 : DQ) (K2 : Rho → Prop), (∀ r ρ4, J rest (acc ++ [fz r]) (dwipe ρ4 vs) → K1 r ρ4) → (∀ ρ3, J rest acc (dwipe ρ3 vs) → K2 ρ3) → g (inj x) ρ fun ρ2 => tt ρ2 fun b ρ3 => if b = true then te ρ3 K1 else K2 ρ3)
    (fin : ∀ acc ρ, J [] acc ρ → Q (.own acc) ρ) : ∀ (xs : List α) (acc : List D) (ρ : Rho), J xs acc ρ → dLcL g tt te vs Q (xs.map inj) acc ρ
  | [], acc, ρ, j => fin acc ρ j
  | x :: xs, acc, ρ, j => by
    have hz : (1000000 : Nat) < sizeLine := by decide
    have hl := len _ _ _ j
    rw [List.length_cons] at hl
    exact step x xs acc ρ j _ _ (fun r ρ4 j4 => ⟨by omega, lcL_inv J inj len step fin xs _ _ j4⟩) (fun ρ3 j3 => lcL_inv J inj len step fin xs _ _ j3)
end L2.DL
set_option Elab.async false
set_option linter.all false
set_option autoImplicit false
set_option maxRecDepth 100000
set_option maxHeartbeats 1000000
namespace L2.DL
open PySem PySem.Spec PyProof.Rows
/-- the class -/
structure ExB (K : PySem.W.Frag) (C : Addr) (B newId initId : String) (bmB : List Value) : Prop where
  fb : ExcBaseFacts B newId initId bmB
  sf : PySem.StoreFacts B bmB "object.__setattr__" "object"
  xf : PySem.W.KxsFacts B initId
  q : PySem.W.excInitIn K C bmB newId = true
  over : PySem.W.excOver K C bmB = true
  hd : PySem.W.hasDictIn K C = true
  sa : PySem.W.findIn K (.ref C) "__setattr__" = some (some (.builtin "object.__setattr__"))
  exB : PySem.W.subIn K (.ref C) (.type "BaseException") = some true
  exT : PySem.W.typeIn K (.ref C) = some (.type "type")
  sB : PySem.W.subIn K (.ref C) (.type B) = some true
  kp : PySem.W.keepIn K (.ref C) = true
  op : PySem.W.nsIn K cStatics "thirdparty.any" = some none
/-- its own __init__, a function at fI -/
structure ExI (K : PySem.W.Frag) (C : Addr) (initId : String) (file qual : Str) (params : Arguments) (body : List Stmt) (scope : Scope) (fI cc cda : Addr) (dV kV doc pm ct : Value) (an : Option Addr) : Prop where
  fi : PySem.W.findIn K (.ref C) "__init__" = some (some (.ref fI))
  ft : PySem.W.typeIn K (.ref fI) = some (.type "function")
  fn : ∃ oc od osl, K.lookup fI = some ⟨oc, od, .func (PySem.W.ksFn "__init__" qual params body scope dV kV doc pm an (.ref cda) ct cc), osl⟩
  code : PySem.W.codeIn K (.ref cda) qual = true
  cfile : ∃ ccl cdd vs ccs tf, K.lookup cda = some ⟨ccl, cdd, .fields vs, ccs⟩ ∧ vs[2]? = some (.str file tf)
  cell : ∃ cl cld csl, K.lookup cc = some ⟨cl, cld, .cell (some (.ref C)), csl⟩
  cls : ∃ cd, PySem.W.clsIn K C = some cd
  mro : PySem.W.mroIn K C (.ref C) = some true
  sup : PySem.W.ks_superIn K C C "__init__" = some (some (.builtin initId))
section
open PySem.W PySem.Calls Builtin Builtin.ObjectAttr
variable {prog : Program} {w : World} {A : Around} {E : Value → Shared → Prop} {R : Result → Shared → Prop} {hp : Heap} {g : Array GenState} {d : Drawn} {t : Nat} {os : OsState}
/-- the first field of an exception: its dict is made -/
theorem osa_first {B : String} {bmB : List Value} {K : PySem.W.Frag} {C x : Addr} {t0 : Addr} {f : Str} {tk : Tok} {v : Value} (SF : StoreFacts B bmB "object.__setattr__" "object") (X : K.In hp) (hx : hp.get? x = some (excObj C t0 none .none))
    (ov : excOver K C bmB = true) (ht : takerIn K C f = some none) (hh : hasDictIn K C = true)
    (hq : ∀ h' tk' dx, (∀ b o, b ≠ x → hp.get? b = some o → h'.get? b = some o) → hp.objs.size ≤ dx → dx ≠ x → h'.get? x = some (excObj C t0 (some dx) .none) → h'.Ns1 dx (fun y => if y = f then some v else none) → R (.ok (.ret .none)) ⟨h', g, d, tk', os⟩) :
    codeAny (model prog w) A (.call (.builtin "object.__setattr__") ⟨[.ref x, .str f tk, v], []⟩) R ⟨hp, g, d, t, os⟩ := by
  have hxs : x ≠ hp.objs.size := Nat.ne_of_lt (Heap.lt_size hx)
  refine osa_openX (od := none) SF X ⟨hx, rfl, rfl, trivial⟩ ov ht fun b => ?_
  obtain ⟨cd, hc, hd'⟩ := any_some hh
  refine wpAny_bind (wpAny_pure (wpAny_bind (instanceDict_exc hx (looks_clsIn X hc) hd' ?_)))
  show wpAny _ _ (storeInDict hp.objs.size (.str f tk) f v) _ _ _
  refine HandSPX.store_in_new ?_ fun h' tk' hn' hs => ?_
  · exact ⟨_, #[], _, (Heap.get?_update_ne _ _ _ _ hxs.symm).trans (Heap.get?_push_at rfl rfl), rfl, fun e he => absurd he (by simp), fun _ => rfl⟩
  · have hx1 : (hp.push (dictOf [] 0)).get? x = some (excObj C t0 none .none) := Heap.get?_push_of_some _ hx
    refine hq h' tk' hp.objs.size (fun b o hb ho => ?_) (Nat.le_refl _) hxs.symm ?_ hn'
    · exact (hs.2 b (Nat.ne_of_lt (Heap.lt_size ho))).trans ((Heap.get?_update_ne _ _ _ _ hb).trans (Heap.get?_push_of_some _ ho))
    · exact (hs.2 x hxs).trans (Heap.get?_update_self _ hx1 rfl)
end
section
open PySem.W PySem.Calls Builtin Builtin.ObjectAttr
variable {prog : Program} {w : World} {A : Around} {E : Value → Shared → Prop} {g : Array GenState} {d : Drawn} {t : Nat} {os : OsState}
/-- what the text is for the machine (by rfl, the scope written) -/
structure SupE (qual : Str) (scope : Scope) (p0 p1 p2 p3 p4 : Pos) : Prop where
  he : ∀ (L fI cda cc : Addr), ∃ pl : Sem Bool, PySem.eval (.Call (.Attribute (.Call (.Name "super" p0) [] [] p1) "__init__" p2) [] [] p3) (ksEnv qual scope L fI (.ref cda) cc) = (do
    let ov ← attributeBase (.Call (.Name "super" p0) [] [] p1) "__init__" (ksEnv qual scope L fI (.ref cda) cc) (PySem.eval (.Call (.Name "super" p0) [] [] p1) (ksEnv qual scope L fI (.ref cda) cc))
    standAt p2.atName
    let (f, first) ← holding [ov] (getMethod ov "__init__" pl)
    callWith p3 f first (backTo p3 (starEach [] (ksEnv qual scope L fI (.ref cda) cc))) [])
  hi : ∀ (L fI cda cc : Addr), interactive (ksEnv qual scope L fI (.ref cda) cc) = false
  hs : ∀ (L fI cda cc : Addr), swapsWith (.Call (.Attribute (.Call (.Name "super" p0) [] [] p1) "__init__" p2) [] [] p3) none p4.line (ksEnv qual scope L fI (.ref cda) cc) = pure false
/-- super().__init__() -/
theorem super_stmt {K : PySem.W.Frag} {hp : Heap} {L C fI cc cda e t0 : Addr} {m mg mb : Str → Option Value} {s : Shared} {news : List (Addr × Obj)} {B newId initId : String} {bmB : List Value} {qual file : Str} {params : Arguments} {scope : Scope} {body body0 rest : List Stmt} {dV kV doc pm ct : Value} {an : Option Addr} {p0 p1 p2 p3 p4 : Pos} {Q : Flow → Shared → Prop} {ar : Arg}
    (T : ExB K C B newId initId bmB) (D : ExI K C initId file qual params body0 scope fI cc cda dV kV doc pm ct an) (F : Fr hp L s.heap m) (X : K.In hp) (N : News hp L s.heap ((e, excObj C t0 none .none) :: news)) (ne : ∀ p ∈ news, p.1 ≠ e)
    (hg : hp.Ns mainGlobals mg) (hb : hp.Ns builtinsNs mb) (hbb : ∀ x : Str, x ≠ "__name__" → mb x = bootBuiltins x) (hfile : ((prog.main.file : Str) == file) = true) (htop : (prog.main.scope.names.lookup ("super" : Str)).isSome = false) (hsup : nsIn K mainGlobals "super" = some none)
    (hp1 : (params.posonlyargs ++ params.args).head? = some ar) (hself : m ar.arg = some (.ref e)) (hks : scope.names.lookup ("super" : Str) = some .globalImplicit) (hkc : scope.names.lookup ("__class__" : Str) = some .free) (hka : scope.names.lookup ar.arg = some .local) (hk : scope.kind = .function) (S : SupE qual scope p0 p1 p2 p3 p4)
    (h : ∀ t' s', Fr hp L s'.heap m → s'.heap.get? e = some (excObj C t' none .none) → s'.gens = s.gens → s'.os = s.os → PySem.wpAt (model prog w) A (.func body (ksEnv qual scope L fI (.ref cda) cc)) (execs rest (ksEnv qual scope L fI (.ref cda) cc)) Q E s') :
    PySem.wpAt (model prog w) A (.func body (ksEnv qual scope L fI (.ref cda) cc)) (execs (.Expr (.Call (.Attribute (.Call (.Name "super" p0) [] [] p1) "__init__" p2) [] [] p3) p4 :: rest) (ksEnv qual scope L fI (.ref cda) cc)) Q E s := by
  obtain ⟨pl, he⟩ := S.he L fI cda cc
  refine ks_wpAt_execs_cons (ks_wpAt_Expr_any (ks_wpAt_MethodCall (pl := pl) ?_ he) (S.hi _ _ _ _) (S.hs _ _ _ _))
  obtain ⟨oc, od, osl, hfn⟩ := D.fn
  obtain ⟨ccl, cdd, vs, ccs, tf, hcode, hvs⟩ := D.cfile
  obtain ⟨cl, cld, csl, hcell⟩ := D.cell
  obtain ⟨cd, hcd⟩ := D.cls
  have XF : K.In s.heap := X.keeps F.keep
  have I : PySem.W.InstAt s.heap e (excObj C t0 none .none) C none := ⟨(N _ List.mem_cons_self).1, rfl, rfl, trivial⟩
  obtain ⟨hh, g, d, t, os⟩ := s
  obtain ⟨oD, hD1, hD2⟩ : ∃ oD, hh.get? C = some oD ∧ oD.data = .cls cd := by
    unfold clsIn at hcd
    split at hcd
    · rename_i c d cd' sl ho
      cases hcd
      exact ⟨_, XF _ _ ho, rfl⟩
    · cases hcd
  refine ks_wpAt_super_base (env := ksEnv qual scope L fI (.ref cda) cc) hks hkc (by decide) rfl (XF _ _ hfn) rfl hp1 rfl (XF _ _ hcode) rfl hvs hfile htop ?_
  refine ks_loadName_global hk hks (loadGlobal_builtin (env := ksEnv qual scope L fI (.ref cda) cc) (hg.keeps F.keep) (mg_none_of X hg hsup) (hb.keeps F.keep) ((hbb _ (by decide +kernel)).trans (by decide +kernel)) ⟨rfl, ?_⟩)
  refine wpAny_loadName_free hk hkc rfl ⟨_, XF _ _ hcell, rfl⟩ ?_
  refine wpAny_loadName_local hk hka F.ns hself ?_
  refine ks_wpAny_isType_cls hD1 hD2 ⟨rfl, ?_⟩
  refine ks_wpAny_call_super hD1 hD2 I.at_ I.cls (fun c e => nomatch e) (looks_mroIn XF D.mro) (fun h1 e1 k1 => ?_)
  obtain ⟨F1, N1, l1⟩ := ks_newsPush (s := ⟨hh, g, d, t, os⟩) F N rfl e1 k1
  have I1 : PySem.W.InstAt h1 e (excObj C t0 none .none) C none := ⟨k1 _ _ I.at_, rfl, rfl, trivial⟩
  refine kxs_method (s := ⟨h1, g, d, t, os⟩) T.xf F1 X N1 List.mem_cons_self I1 T.op D.sup T.sB (by decide) fun q h2 F2 N2 l2 => ?_
  refine kxs_callWith0 N2 List.mem_cons_self ?_
  have n1 := Nat.ne_of_gt (l1 _ List.mem_cons_self)
  have n2 := Nat.ne_of_gt (l2 (e, excObj C t0 none .none) (.tail _ List.mem_cons_self))
  refine kxs_call (rest := []) (s := ⟨h2, g, d, t + 1, os⟩) F2 X N2 T.fb T.q List.mem_cons_self (.tail n2 (.tail n1 (.head ne))) (Nat.zero_le _) fun t' h3 F3 N3 l3 => ?_
  refine h t' ⟨h3, g, d, t + 1, os⟩ F3 (N3 _ (.tail _ (.tail _ (.tail _ List.mem_cons_self)))).1 rfl rfl
end
section
open PySem.W PySem.Calls Builtin Builtin.ObjectAttr
variable {X : Cx} {pins : List (Addr × Obj)} {σ : L2.St} {H : Hp}
/-- what is left behind C(..): the exception apart, its dict an exception's dict -/
theorem ex_end {hp h3 : Heap} {g : Array GenState} {dr dr' : Drawn} {tk tk' : Nat} {os : OsState} {e C dx t0 : Addr} {fs : List (Str × V)} {mA : Str → Option Value} {Q : XK} (I : Inv X pins σ H ⟨hp, g, dr, tk, os⟩) (exB : subIn X.K (.ref C) (.type "BaseException") = some true) (exT : typeIn X.K (.ref C) = some (.type "type"))
    (ne : hp.get? e = none) (nd : hp.get? dx = none) (hde : dx ≠ e) (Hd : H dx = none) (He : H e = none) (k : ∀ b o, hp.get? b = some o → h3.get? b = some o) (he : h3.get? e = some (excObj C t0 (some dx) .none)) (hn : h3.Ns1 dx mA) (rel : ∀ f, RelO (fs.lookup f) (mA f)) (q : Q (.ref C) (some dx) (upd H dx (.xd fs))) :
    MkP X pins σ Q (.ref e) ⟨h3, g, dr', tk', os⟩ := by
  obtain ⟨G, g1', g2'⟩ := restrict h3 fun b => decide (b ≠ e)
  have gk : ∀ b, b ≠ e → G.get? b = h3.get? b := fun b hb => g1' b (decide_eq_true hb)
  have ge : G.get? e = none := g2' e (by simp)
  have nhe : ∀ {b : Addr} {o : Obj}, hp.get? b = some o → b ≠ e := fun {b o} z y => by rw [y, ne] at z; cases z
  have nhd : ∀ {b : Addr} {o : Obj}, hp.get? b = some o → b ≠ dx := fun {b o} z y => by rw [y, nd] at z; cases z
  have U : Un (frs X.stack) [] H (upd H dx (.xd fs)) hp G := {
    keep := fun b o z _ _ _ => by rw [gk b (nhe z)]; exact k b o z
    slot := fun b o z _ _ _ => ⟨o.slots, by rw [gk b (nhe z)]; exact k b o z⟩
    free := fun b o z n _ => by rw [upd_ne (nhd z)]; exact n
    there := fun b o z _ => ⟨o, by rw [gk b (nhe z)]; exact k b o z⟩
    tups := fun b xs z => by rw [upd_ne (ne_of_none z Hd)]; exact z
    frzs := fun b o v z => by rw [upd_ne (ne_of_none z Hd)]; exact z
    tbls := fun b ps z => ⟨#[], by rw [upd_ne (ne_of_none z Hd), z]; simp⟩ }
  have hok3 : HOk X.prog X.w (upd H dx (.xd fs)) G := fun b o z => by
    by_cases hbd : b = dx
    · subst hbd
      rw [upd_same] at z
      cases z
      exact ⟨mA, hn.at fun o y => (gk b hde).trans y, rel⟩
    · rw [upd_ne hbd] at z
      refine (I.hok b o z).stay (fun c v hc y => ?_) (fun c hc => by rw [upd_ne (ne_of_none hc Hd)]; exact hc) (fun c xs hc => by rw [upd_ne (ne_of_none hc Hd)]; exact hc)
      rw [gk c (nhe y)]
      exact k c v y
  have J : Inv X pins σ (upd H dx (.xd fs)) ⟨G, g, dr, tk', os⟩ := I.call' (ch := []) rfl U hok3 I.bare (fun b z => absurd z (by simp))
  refine ⟨e, _, _, ⟨G, g, dr, tk', os⟩, _, .ref C, some dx, rfl, J, fun b o z => ?_, ge, he, ⟨rfl, rfl⟩, rfl, rfl, by rw [upd_ne hde.symm]; exact He, rfl, I.bare, raises_own exB exT, q⟩
  by_cases hb : b = e
  · rw [hb, ge] at z; cases z
  · exact (gk b hb).symm.trans z
end
end L2.DL
set_option Elab.async false
set_option linter.all false
set_option autoImplicit false
set_option maxRecDepth 100000
set_option maxHeartbeats 1000000
namespace L2.DL
open PySem PySem.Spec PyProof.Rows
section
open PySem.W PySem.Calls Builtin Builtin.ObjectAttr PySem.HandSPX
variable {prog : Program} {w : World} {A : Around} {E : Value → Shared → Prop} {c : Code}
/-- self.f = a, the first one -/
theorem store_first {K : PySem.W.Frag} {hp : Heap} {L C fI cc cda e t0 : Addr} {m : Str → Option Value} {s : Shared} {B newId initId : String} {bmB : List Value} {qual : Str} {scope : Scope} {rest : List Stmt} {p0 p1 p2 p3 : Pos} {Q : Flow → Shared → Prop} {f a self : Str} {v : Value}
    (T : ExB K C B newId initId bmB) (F : Fr hp L s.heap m) (X : K.In hp) (he : s.heap.get? e = some (excObj C t0 none .none)) (hpe : hp.get? e = none) (heL : e ≠ L) (ht : takerIn K C f = some none)
    (hself : m self = some (.ref e)) (hka : scope.names.lookup self = some .local) (ha : m a = some v) (hkb : scope.names.lookup a = some .local) (hk : scope.kind = .function) (nd1 : (self == ("__debug__" : Str)) = false) (nd2 : (a == ("__debug__" : Str)) = false)
    (hs : ∀ L fI cda cc, swapsWith (.Name a p0) (some (.Attribute (.Name self p1) f p2)) p3.line (ksEnv qual scope L fI (.ref cda) cc) = pure false)
    (h : ∀ s' dx, Fr hp L s'.heap m → s'.heap.get? e = some (excObj C t0 (some dx) .none) → s.heap.objs.size ≤ dx → dx ≠ e → s'.heap.Ns1 dx (fun y => if y = f then some v else none) → s'.gens = s.gens → s'.os = s.os → PySem.wpAt (model prog w) A c (execs rest (ksEnv qual scope L fI (.ref cda) cc)) Q E s') :
    PySem.wpAt (model prog w) A c (execs (.Assign [.Attribute (.Name self p1) f p2] (.Name a p0) p3 :: rest) (ksEnv qual scope L fI (.ref cda) cc)) Q E s := by
  refine ks_wpAt_execs_cons (PySem.wpAt_of_wpAny ?_)
  refine plainObj_wpAny_Assign_Attribute (wpAny_Name (wpAny_loadName_local hk hkb F.ns ha (wpAny_Name (wpAny_loadName_local hk hka F.ns hself ?_) nd1)) nd2) (hs _ _ _ _)
  have I : PySem.W.InstAt s.heap e (excObj C t0 none .none) C none := ⟨he, rfl, rfl, trivial⟩
  obtain ⟨hh, g, d, t, os⟩ := s
  refine set_plain (s := ⟨hh, g, d, t, os⟩) (X.keeps F.keep) I T.sa ?_
  refine osa_first (hp := hh) T.sf (X.keeps F.keep) he T.over ht T.hd fun h' tk' dx k hd ne he' hn => ?_
  have lt : L < hh.objs.size := F.ns.lt
  refine h ⟨h', g, d, tk', os⟩ dx ⟨?_, fun b o z => k b o (fun y => by rw [y, hpe] at z; cases z) (F.keep b o z), F.above⟩ he' hd ne hn rfl rfl
  exact F.ns.at fun o z => k _ _ heL.symm z
end
section
open PySem.W PySem.Calls Builtin Builtin.ObjectAttr PySem.HandSPX
variable {X : Cx} {pins : List (Addr × Obj)} {σ : L2.St} {H : Hp}
/-- what the text of such an __init__ is -/
structure IniTx (scope : Scope) (params : Arguments) (ps : List Str) : Prop where
  hks : scope.names.lookup ("super" : Str) = some .globalImplicit
  hkc : scope.names.lookup ("__class__" : Str) = some .free
  hka : ∀ x ∈ ps, scope.names.lookup x = some .local ∧ (x == ("__debug__" : Str)) = false
  hk : scope.kind = .function
  hco : scope.isCoroutine = false
  hgen : scope.isGenerator = false
  cell : ∀ x ∈ scope.names, x.2 ≠ .cell
/-- C(u): the call, up to its __init__'s body -/
theorem ex_enter {K : PySem.W.Frag} {C fI cc cda : Addr} {B newId initId : String} {bmB : List Value} {qual file : Str} {params : Arguments} {scope : Scope} {body : List Stmt} {dV kV doc pm ct : Value} {an : Option Addr} {us : List Value} {ps : List Str} {Q : XK} {hp : Heap} {g : Array GenState} {dr : Drawn} {tk : Nat} {os : OsState}
    (T : ExB K C B newId initId bmB) (D : ExI K C initId file qual params body scope fI cc cda dV kV doc pm ct an) (Tx : IniTx scope params ps) (eK : X.K = K) (I : Inv X pins σ H ⟨hp, g, dr, tk, os⟩) (hr : Room 1 X.A) (hus : us.length ≤ sizeLine) (hps : ps.length = us.length + 1)
    (hbind : ∀ e : Value, bindArgs (ksFn "__init__" qual params body scope dV kV doc pm an (.ref cda) ct cc) ⟨e :: us, []⟩ = pure (ps.zip (e :: us)))
    (h : ∀ (A : Around) (s : Shared) (e L t0 : Addr) (m : Str → Option Value) (E : Value → Shared → Prop), Fr hp L s.heap m → s.heap.get? e = some (excObj C t0 none .none) → e ≠ L → hp.get? e = none → H e = none → s.gens = g → s.os = os → (∀ x, m x = (ps.zip (.ref e :: us)).reverse.lookup x) →
      PySem.wpAt (model X.prog X.w) A (.func body (ksEnv qual scope L fI (.ref cda) cc)) (execs body (ksEnv qual scope L fI (.ref cda) cc)) (fun f s' => f = .next ∧ MkP X pins σ Q (.ref e) s') E s) :
    wpAny (model X.prog X.w) X.A (call (.ref C) us) (MkP X pins σ Q) X.xe ⟨hp, g, dr, tk, os⟩ := by
  subst eK
  have kk : ∀ b o, hp.get? b = some o → ((hp.push (kdv_tup us)).push (excO C hp.objs.size)).get? b = some o := fun b o e => Heap.get?_push_of_some _ (Heap.get?_push_of_some _ e)
  have hget : ((hp.push (kdv_tup us)).push (excO C hp.objs.size)).get? (hp.objs.size + 1) = some (excO C hp.objs.size) := by heap_get
  obtain ⟨nm, N, q, bs, bm, hdct, sn, sub, ab, col, dd, k0, k1, k2, k3, k5, hC, hT⟩ := excInit_of I.kIn T.q
  obtain ⟨oc, od, osl, hfn⟩ := D.fn
  refine wpAny_call (call_own T.fb hT hC (looks_findIn I.kIn D.fi) (fun self => bind_fn I.kIn self D.ft) hus ?_)
  refine ks_codeAny_call_defAt (fd := ksFn "__init__" qual params body scope dV kV doc pm an (.ref cda) ct cc) (body := body) (binds := ps.zip (.ref (hp.objs.size + 1) :: us)) ((hr.make C us []).depth) (kk _ _ (I.kIn _ _ hfn)) rfl ?_ ?_ rfl (.of_eq (hbind _)) Tx.cell ?_ ?_ Tx.hco Tx.hgen Tx.hk
  · exact (I.mod.nolimit.keeps I.bk).keeps kk
  · exact codeRec_of (I.kIn.keeps kk) D.code
  · intro x hx
    exact (Tx.hka _ (List.of_mem_zip hx).1).1
  · intro h0 hns hk0
    refine ks_wpAt_mono (h _ ⟨h0, g, dr, _, os⟩ (hp.objs.size + 1) _ hp.objs.size _ _ ⟨hns, fun b o z => hk0 b o (kk b o z), ?_⟩ (hk0 _ _ hget) ?_ ?_ ?_ rfl rfl fun x => rfl) (fun f s' hq => ?_) fun _ _ z => z
    · show hp.objs.size ≤ ((hp.push _).push _).objs.size
      rw [Heap.size_push, Heap.size_push]
      omega
    · show hp.objs.size + 1 ≠ ((hp.push _).push _).objs.size
      rw [Heap.size_push, Heap.size_push]
      omega
    · cases z : hp.get? (hp.objs.size + 1) with
      | none => rfl
      | some o => exact absurd (Heap.lt_size z) (Nat.not_lt.mpr (Nat.le_succ _))
    · exact I.hok.fresh (Nat.le_succ _)
    · obtain ⟨rfl, q⟩ := hq
      exact ⟨rfl, q⟩
/-- C(u), __init__ storing u under f -/
theorem ex_call1 {K : PySem.W.Frag} {C fI cc cda : Addr} {B newId initId : String} {bmB : List Value} {qual file : Str} {params : Arguments} {scope : Scope} {dV kV doc pm ct : Value} {an : Option Addr} {u : Value} {v : V} {f a self : Str} {ar : Arg} {Q : XK} {hp : Heap} {g : Array GenState} {dr : Drawn} {tk : Nat} {os : OsState} {p0 p1 p2 p3 p4 q0 q1 q2 q3 : Pos}
    (T : ExB K C B newId initId bmB) (D : ExI K C initId file qual params [.Expr (.Call (.Attribute (.Call (.Name "super" p0) [] [] p1) "__init__" p2) [] [] p3) p4, .Assign [.Attribute (.Name self q1) f q2] (.Name a q0) q3] scope fI cc cda dV kV doc pm ct an) (Tx : IniTx scope params [self, a]) (eK : X.K = K) (I : Inv X pins σ H ⟨hp, g, dr, tk, os⟩) (hr : Room 1 X.A)
    (hbind : ∀ e : Value, bindArgs (ksFn "__init__" qual params [.Expr (.Call (.Attribute (.Call (.Name "super" p0) [] [] p1) "__init__" p2) [] [] p3) p4, .Assign [.Attribute (.Name self q1) f q2] (.Name a q0) q3] scope dV kV doc pm an (.ref cda) ct cc) ⟨[e, u], []⟩ = pure [(self, e), (a, u)])
    (S : SupE qual scope p0 p1 p2 p3 p4) (hp1 : (params.posonlyargs ++ params.args).head? = some ar) (har : ar.arg = self) (ne : (a == self) = false) (nf : (self == a) = false) (ht : takerIn K C f = some none)
    (hs : ∀ L fI cda cc, swapsWith (.Name a q0) (some (.Attribute (.Name self q1) f q2)) q3.line (ksEnv qual scope L fI (.ref cda) cc) = pure false)
    (hfile : ((X.prog.main.file : Str) == file) = true) (htop : (X.prog.main.scope.names.lookup ("super" : Str)).isSome = false) (hsup : nsIn K mainGlobals "super" = some none)
    (ru : RelV v u) (q : ∀ dx, H dx = none → Q (.ref C) (some dx) (upd H dx (.xd [(f, v)]))) :
    wpAny (model X.prog X.w) X.A (call (.ref C) [u]) (MkP X pins σ Q) X.xe ⟨hp, g, dr, tk, os⟩ := by
  subst eK
  refine ex_enter T D Tx rfl I hr (by show 1 ≤ sizeLine; rw [sizeLine_eq]; omega) rfl hbind fun A s e L t0 m E F he heL hpe hHe hg ho hm => ?_
  have ms : m self = some (.ref e) := by
    rw [hm]
    show List.lookup self [(a, u), (self, .ref e)] = _
    simp only [List.lookup, nf, beq_self_eq_true]
  have ma : m a = some u := by
    rw [hm]
    show List.lookup a [(a, u), (self, .ref e)] = _
    simp only [List.lookup, beq_self_eq_true]
  obtain ⟨mb, hmb, hbb⟩ := I.mod.blt
  obtain ⟨self1, self2⟩ := Tx.hka self (by simp)
  obtain ⟨a1, a2⟩ := Tx.hka a (by simp)
  have N : News hp L s.heap [(e, excObj C t0 none .none)] := fun p hp' => by
    rw [List.mem_singleton] at hp'
    subst hp'
    exact ⟨he, heL, hpe⟩
  refine super_stmt (news := []) T D F I.kIn N (fun p hp' => nomatch hp') (I.mod.glob.keeps I.bk) (hmb.keeps I.bk) hbb hfile htop hsup hp1 (by rw [har]; exact ms) Tx.hks Tx.hkc (by rw [har]; exact self1) Tx.hk S fun t1 s1 F1 he1 g1 o1 => ?_
  refine store_first T F1 I.kIn he1 hpe heL ht ms self1 ma a1 Tx.hk self2 a2 hs fun s2 dx F2 he2 hsz hde hn g2 o2 => ?_
  refine PySem.wpAt_of_wpAny (wpAny_execs_nil ⟨rfl, ?_⟩)
  have hpd : hp.get? dx = none := by
    cases z : hp.get? dx with
    | none => rfl
    | some o =>
      have := F1.keep _ _ z
      exact absurd (Heap.lt_size this) (Nat.not_lt.mpr hsz)
  have hHd : H dx = none := I.hok.gone hpd
  obtain ⟨h2, gg, dd, tt, oo⟩ := s2
  have eg : gg = g := g2.trans (g1.trans hg)
  have eo : oo = os := o2.trans (o1.trans ho)
  subst eg eo
  refine ex_end I T.exB T.exT hpe hpd hde hHd hHe (fun b o z => F2.keep b o z) he2 hn (fun y => ?_) (q dx hHd)
  show RelO (List.lookup y [(f, v)]) (if y = f then some u else none)
  by_cases h : y = f
  · rw [if_pos h]
    have hb : (y == f) = true := beq_iff_eq.mpr h
    simp only [List.lookup, hb]
    exact ru
  · rw [if_neg h]
    have hb : (y == f) = false := beq_eq_false_iff_ne.mpr h
    simp only [List.lookup, hb]
    exact trivial
end
end L2.DL
set_option Elab.async false
set_option linter.all false
set_option autoImplicit false
set_option maxRecDepth 100000
set_option maxHeartbeats 1000000
namespace L2.DL
open PySem PySem.Spec PyProof.Rows
/-- the classes' addresses, by name -/
abbrev Nm : Type := Str → Addr
def isiNames : List String := ["int", "bool", "str", "list", "tuple", "dict"]
/-- what isinstance asks of an own class -/
structure InsN (K : PySem.W.Frag) (C : Addr) : Prop where
  cl : Cls K C
  ha : PySem.W.findIn K (.ref C) "__class__" = some (some (.builtin "object.__class__"))
  hn : PySem.W.specialIn K (.builtin "object.__class__") "__get__" = some (some (.builtin "getset_descriptor.__get__"))
  htk : PySem.W.takesIn K (.builtin "object.__class__") = some true
  hm : PySem.W.mroIn K C (.type "object") = some true
  no : ∀ n ∈ isiNames, PySem.W.kitOne K (.ref C) (.type n) = some false
  me : PySem.W.kitOne K (.ref C) (.ref C) = some true
  nt : ∀ n ∈ "NoneType" :: isiNames, PySem.W.kitOne K (.type n) (.ref C) = some false
  ty : PySem.W.keepIn K (.ref C) = true
def insB (x : Str) (K : PySem.W.Frag) : Bool :=
  He.eqO (PySem.W.findIn K (.ref (He.ga K x)) "__class__") (some (some (.builtin "object.__class__"))) &&
  (He.eqO (PySem.W.specialIn K (.builtin "object.__class__") "__get__") (some (some (.builtin "getset_descriptor.__get__"))) &&
  (decide (PySem.W.takesIn K (.builtin "object.__class__") = some true) &&
  (decide (PySem.W.mroIn K (He.ga K x) (.type "object") = some true) &&
  (isiNames.all (fun n => decide (PySem.W.kitOne K (.ref (He.ga K x)) (.type n) = some false)) &&
  (decide (PySem.W.kitOne K (.ref (He.ga K x)) (.ref (He.ga K x)) = some true) &&
  (("NoneType" :: isiNames).all (fun n => decide (PySem.W.kitOne K (.type n) (.ref (He.ga K x)) = some false)) &&
  PySem.W.keepIn K (.ref (He.ga K x))))))))
theorem insB_ok {x : Str} {K : PySem.W.Frag} (cl : Cls K (He.ga K x)) (h : insB x K = true) : InsN K (He.ga K x) := by
  obtain ⟨h1, h⟩ := He.ba h
  obtain ⟨h2, h⟩ := He.ba h
  obtain ⟨h3, h⟩ := He.ba h
  obtain ⟨h4, h⟩ := He.ba h
  obtain ⟨h5, h⟩ := He.ba h
  obtain ⟨h6, h⟩ := He.ba h
  obtain ⟨h7, h8⟩ := He.ba h
  exact ⟨cl, He.eqO_ok h1, He.eqO_ok h2, of_decide_eq_true h3, of_decide_eq_true h4, fun n hn => of_decide_eq_true (List.all_eq_true.mp h5 n hn), of_decide_eq_true h6, fun n hn => of_decide_eq_true (List.all_eq_true.mp h7 n hn), h8⟩
section
variable {K : PySem.W.Frag} {C : Addr}
theorem InsN.tyx (I : InsN K C) {H : Hp} {a dx : Addr} {fs : List (Str × V)} (e : H a = some (.ins C dx fs)) : TyX K H (.ref a) (.ref C) := .base (.ins e I.cl I.ha I.hn I.htk I.hm)
/-- isinstance(x, T), T a built-in class; x may be an instance of C -/
def dIsiC (K : PySem.W.Frag) (C : Addr) (ds : List D) (Q : Res → Prop) : Prop := match ds with
  | [.ins C' _, .ty n] => C' = C ∧ n ∈ isiNames ∧ Q (.v (.bl false))
  | [d, .ty n] => dIsi (K := K) [d, .ty n] Q
  | _ => False
theorem dIsiC_or {ds : List D} {Q : Res → Prop} (h : dIsiC K C ds Q) : (∃ fs n, ds = [.ins C fs, .ty n] ∧ n ∈ isiNames ∧ Q (.v (.bl false))) ∨ dIsi (K := K) ds Q := by
  unfold dIsiC at h
  split at h
  · obtain ⟨h1, h2, h3⟩ := h
    subst h1
    exact .inl ⟨_, _, rfl, h2, h3⟩
  · exact .inr h
  · exact h.elim
theorem cd_isiC (I : InsN K C) : CallD K (rIsi K) (dIsiC K C) := by
  intro S F H xs ds QD Q s r h k
  rcases dIsiC_or h with ⟨fs, n, e, hn, hf⟩ | h
  · subst e
    match r with
    | .cons (.ins h1 _ _) (.cons (.ty _) .nil) => exact ⟨_, _, _, _, false, rfl, .ty n, I.tyx (s _ _ h1), I.no n hn, k _ H F (.v (.bl false)) (.refl s) (.bl false) hf⟩
  · exact cd_isi S F H xs ds QD Q s r h k
/-- isinstance(x, C), C the own class -/
def isiO (C : Addr) (d : D) (Q : Bool → Prop) : Prop := match d with
  | .ins C' _ => C' = C ∧ Q true
  | d => (tyD d).isSome = true ∧ Q false
def dIsiO (C : Addr) (te : DTE) : DTE := fun ρ Q => te ρ fun r ρ1 => isiO C (fz r) fun b => Q (.v (.bl b)) ρ1
end
end L2.DL
set_option Elab.async false
set_option linter.all false
set_option autoImplicit false
set_option maxRecDepth 100000
set_option maxHeartbeats 1000000
namespace L2.DL
open PySem PySem.Spec PyProof.Rows
abbrev AlX : Type := He.AlD × Bool
def obsX (fa : List He.Fa) (fn : List He.DefD) (gs : List (PySem.W.Frag → Bool)) (K : PySem.W.Frag) : AlX := (He.obsD fa fn K, gs.all fun g => g K)
def valX (fn : List He.DefD) : AlX := (He.valD fn, true)
def SaysX (fa : List He.Fa) (fn : List He.DefD) (gs : List (PySem.W.Frag → Bool)) (K : PySem.W.Frag) : Prop := obsX fa fn gs K = valX fn
section
variable {fa : List He.Fa} {fn : List He.DefD} {gs : List (PySem.W.Frag → Bool)} {K : PySem.W.Frag}
theorem SaysX.d (c : SaysX fa fn gs K) : He.SaysD fa fn K := congrArg (fun z : AlX => z.1) c
theorem SaysX.more (c : SaysX fa fn gs K) (i : Nat) {g : PySem.W.Frag → Bool} (h : gs[i]? = some g := by rfl) : g K = true :=
  List.all_eq_true.mp (show (gs.all fun g => g K) = true from congrArg (fun z : AlX => z.2) c) g (List.mem_of_getElem? h)
end
end L2.DL
set_option Elab.async false
set_option linter.all false
set_option autoImplicit false
set_option maxRecDepth 100000
set_option maxHeartbeats 1000000
namespace L2.DL
open PySem PySem.Spec PyProof.Rows
section
variable {c : C} {F H : Hp} {σ : L2.St} {ρ : Rho} {p : Addr} {o : HO}
theorem SR.over {u : HO} (s : SR c F H σ ρ) (hF : F p = none) (hS : ¬ inS c.S p) (hO : ¬ Own σ ρ p) (h0 : kn c.H0 p = none) (hp : H p = some u) (hu : Plain u) : SR c F (upd H p o) σ ρ where
  sub' := fun q u hq => by
    have : q ≠ p := fun z => by rw [z, hF] at hq; cases hq
    rw [kn_same (upd_ne this)]; exact s.sub' q u hq
  f0 := s.f0
  h0 := fun q u hq hs => by
    have : q ≠ p := fun z => by rw [z, h0] at hq; cases hq
    rw [upd_ne this]; exact s.h0 q u hq hs
  n0 := s.n0
  src := s.src.upd hS hp hu
  srcF := s.srcF
  len := s.len
  sl := s.sl
  ow := fun i xs hi => by
    obtain ⟨q, vs, a, b, d, f, g, k⟩ := s.ow i xs hi
    refine ⟨q, vs, a, ?_, d, f, g, k⟩
    rw [upd_ne fun z => hO ⟨i, xs, hi, by rw [a, z]⟩]
    exact b
  dis := s.dis
end
abbrev DTP := Rho → (List (Key × D) → Rho → Prop) → Prop
def dPNil : DTP := fun ρ Q => Q [] ρ
def dPCons (k : Key) (t : DTE) (u : DTP) : DTP := fun ρ Q => t ρ fun r ρ1 => u ρ1 fun kds ρ2 => Q ((k, fz r) :: kds) ρ2
def dDisp (u : DTP) : DTE := fun ρ Q => u ρ fun kds ρ1 => Q (.ow (.dct (mergeD [] kds))) ρ1
/-- the pairs of a display, over data -/
structure DPs (X : Cx) (c : C) (pos : Pos) (keys : List (Option Expr)) (values : List Expr) (u : DTP) : Prop where
  ex : ∃ trs : List (TE × TE), PPs X pos keys values trs ∧ ∀ (σ : L2.St) (H F : Hp) (ρ : Rho) (QD : List (Key × D) → Rho → Prop) (Q : List (V × V) → Hp → Prop), SR c F H σ ρ → u ρ QD →
    (∀ (kvs : List (Key × V)) (kds : List (Key × D)) (H' F' : Hp) (ρ' : Rho), SR c F' H' σ ρ' → Stp c σ F H ρ F' H' ρ' → kvs.map (·.1) = kds.map (·.1) → Reps c.K c.S F' (kvs.map (·.2)) (kds.map (·.2)) → kvs.length = keys.length → QD kds ρ' → Q (kvs.map fun kv => (kV kv.1, kv.2)) H') → tPairs trs σ H Q
section
variable {X : Cx} {c : C} {pos : Pos} {keys : List (Option Expr)} {values : List Expr} {u : DTP} {ke e : Expr} {k : Key} {t : DTE}
theorem dpp_nil : DPs X c pos [] [] dPNil := ⟨[], pps_nil, fun σ H F ρ QD Q s h k => k [] [] H F ρ s Stp.refl rfl .nil rfl h⟩
theorem dpp_cons (hk : PE X ke (tC (kV k))) (hv : PE X e (liftE c t)) (hr : DPs X c pos keys values u) : DPs X c pos (some ke :: keys) (e :: values) (dPCons k t u) := by
  obtain ⟨trs, P, L⟩ := hr.ex
  refine ⟨_, pps_cons hk (froze hv) P, fun σ H F ρ QD Q s h kk => ?_⟩
  refine ⟨F, ρ, (fun d ρ1 => u ρ1 fun kds ρ2 => QD ((k, d) :: kds) ρ2), s, h, fun v H1 F1 ρ1 d s1 st1 rv q => ?_⟩
  refine L σ H1 F1 ρ1 _ _ s1 q fun kvs kds H2 F2 ρ2 s2 st2 e1 r2 hl q2 => ?_
  exact kk ((k, v) :: kvs) ((k, d) :: kds) H2 F2 ρ2 s2 (st1.trans st2) (by simp only [List.map_cons, e1]) (.cons (rv.mono st2.ff) r2) (by simp only [List.length_cons, hl]) q2
theorem de_disp (h : DPs X c pos keys values u) (hall : keys.all (·.isSome) = true) (hl : keys.length = values.length) (h0 : keys ≠ []) (h15 : keys.length ≤ 15) : PE X (.Dict keys values pos) (liftE c (dDisp u)) := by
  obtain ⟨trs, P, L⟩ := h.ex
  refine PE_imp (pe_disp P hall hl h0 h15) fun σ H Q ⟨F, ρ, QD, s, ht, k⟩ p hp => ?_
  have pe : PExt F H F (upd H p (.dK [])) := PExt.own s.sub hp
  have nS := s.newS hp
  have nO := s.newO hp
  have n0 := s.newH hp
  have fF := free_of s.sub hp
  refine L σ _ F ρ _ _ (pe.sr s) ht fun kvs kds H2 F2 ρ2 s2 st2 e1 r2 hlen q => ?_
  have hH2 : H2 p = some (.dK []) := st2.hh p _ (kn_of upd_same) nS nO
  have fF2 : F2 p = none := by
    cases z : F2 p with
    | none => rfl
    | some o =>
      rcases st2.nn p (by rw [z]; simp) with h | h | h | h
      · exact absurd fF h
      · exact (h.no upd_same (fun _ y => by cases y) (fun _ y => by cases y)).elim
      · exact absurd h nO
      · exact absurd h nS
  have nO2 : ¬ Own σ ρ2 p := fun z => nO (st2.oo p z)
  obtain ⟨m1, m2⟩ := merge_rep kvs kds [] [] e1 r2 rfl .nil
  refine ⟨hH2, kvs, rfl, by omega, ?_⟩
  refine k (.ref p) _ F2 ρ2 (.ow (.dct (mergeD [] kds))) (s2.over fF2 nS nO2 n0 hH2 ⟨fun _ z => (by cases z), fun _ _ z => (by unfold LamX.CodeO at z; cases z)⟩) ⟨st2.ff, fun q o hq a b => ?_, fun q hq => ?_, st2.oo, fun q hq => ?_⟩ ⟨p, _, rfl, upd_same, fF2, .dct m1 m2, nS, nO2, n0⟩ ⟨p, rfl, kn_none hp⟩ q
  · have ne : q ≠ p := fun z => by rw [z, kn_none hp] at hq; cases hq
    rw [upd_ne ne]
    exact st2.hh q o (by rw [kn_same (upd_ne ne)]; exact hq) a b
  · rcases st2.nn q hq with h | h | h
    · exact .inl h
    · refine .inr (.inl ?_)
      by_cases e : q = p
      · rw [e]; exact .inl (kn_none hp)
      · exact h.elim (fun h => .inl (by rw [kn_same (upd_ne e)] at h; exact h)) fun ⟨vs, h⟩ => .inr ⟨vs, by rw [upd_ne e] at h; exact h⟩
    · exact .inr (.inr h)
  · by_cases e : q = p
    · rw [e, kn_none hp] at hq; exact absurd rfl hq
    · rw [kn_same (upd_ne e)]
      exact st2.tr q (by rw [kn_same (upd_ne e)]; exact hq)
end
end L2.DL
set_option Elab.async false
set_option linter.all false
set_option autoImplicit false
set_option maxRecDepth 100000
set_option maxHeartbeats 1000000
namespace L2.DL
open PySem PySem.Spec PyProof.Rows
open PySem.W in
def exbB (x : Str) (bm : List Value) (newId B : String) (K : Frag) : Bool :=
  excInitIn K (He.ga K x) bm newId && (excOver K (He.ga K x) bm && (hasDictIn K (He.ga K x) && (He.eqO (findIn K (.ref (He.ga K x)) "__setattr__") (some (some (.builtin "object.__setattr__"))) &&
  (decide (subIn K (.ref (He.ga K x)) (.type "BaseException") = some true) && (decide (typeIn K (.ref (He.ga K x)) = some (.type "type")) && (decide (subIn K (.ref (He.ga K x)) (.type B) = some true) &&
  (keepIn K (.ref (He.ga K x)) && He.eqO (nsIn K cStatics "thirdparty.any") (some none))))))))
theorem exbB_ok {x : Str} {bm : List Value} {B newId initId : String} {K : PySem.W.Frag} (fb : ExcBaseFacts B newId initId bm) (sf : PySem.StoreFacts B bm "object.__setattr__" "object") (xf : PySem.W.KxsFacts B initId) (h : exbB x bm newId B K = true) : ExB K (He.ga K x) B newId initId bm := by
  obtain ⟨h1, h⟩ := He.ba h
  obtain ⟨h2, h⟩ := He.ba h
  obtain ⟨h3, h⟩ := He.ba h
  obtain ⟨h4, h⟩ := He.ba h
  obtain ⟨h5, h⟩ := He.ba h
  obtain ⟨h6, h⟩ := He.ba h
  obtain ⟨h7, h⟩ := He.ba h
  obtain ⟨h8, h9⟩ := He.ba h
  exact ⟨fb, sf, xf, h1, h2, h3, He.eqO_ok h4, of_decide_eq_true h5, of_decide_eq_true h6, of_decide_eq_true h7, h8, He.eqO_ok h9⟩
/-- what an __init__ with a closure is, but for addresses -/
abbrev FnC : Type := Option (Str × Str × Arguments × FuncBody × Scope × Addr × List Str × Addr × Value × Value)
def fnC (K : PySem.W.Frag) (f : Addr) : FnC := match K.lookup f with
  | some ⟨_, _, .func fd, _⟩ => some (fd.name, fd.qualname, fd.params, fd.body, fd.scope, fd.globals, fd.closure.map (·.1), fd.builtins, fd.defaults, fd.kwdefaults)
  | _ => none
structure ExD where
  x : Str
  qual : Str
  params : Arguments
  body : List Stmt
  scope : Scope
def ExD.val (d : ExD) : FnC := some ("__init__", d.qual, d.params, .stmts d.body, d.scope, mainGlobals, ["__class__"], builtinsNs, .none, .none)
def ExD.obs (K : PySem.W.Frag) (d : ExD) : FnC := fnC K (He.ma K (He.ga K d.x) "__init__")
def exiC (K : PySem.W.Frag) (C fI : Addr) (qual file : Str) : Bool := match K.lookup fI with
  | some ⟨_, _, .func fd, _⟩ => (match fd.closure, fd.code with
    | [(_, cc)], .ref cda => PySem.W.codeIn K (.ref cda) qual && ((match K.lookup cda with
      | some ⟨_, _, .fields vs, _⟩ => (match (vs[2]? : Option Value) with
        | some (Value.str f _) => decide (f = file)
        | _ => false)
      | _ => false) && (match K.lookup cc with
      | some ⟨_, _, .cell (some (.ref C')), _⟩ => decide (C' = C)
      | _ => false))
    | _, _ => false)
  | _ => false
def exiB (x qual file : Str) (initId : String) (K : PySem.W.Frag) : Bool :=
  He.eqO (PySem.W.findIn K (.ref (He.ga K x)) "__init__") (some (some (.ref (He.ma K (He.ga K x) "__init__")))) && (decide (PySem.W.typeIn K (.ref (He.ma K (He.ga K x) "__init__")) = some (.type "function")) &&
  (exiC K (He.ga K x) (He.ma K (He.ga K x) "__init__") qual file && ((PySem.W.clsIn K (He.ga K x)).isSome && (decide (PySem.W.mroIn K (He.ga K x) (.ref (He.ga K x)) = some true) && He.eqO (PySem.W.ks_superIn K (He.ga K x) (He.ga K x) "__init__") (some (some (.builtin initId)))))))
theorem exiB_ok {d : ExD} {file : Str} {initId : String} {K : PySem.W.Frag} (h : exiB d.x d.qual file initId K = true) (e : d.obs K = d.val) :
    ∃ fI cc cda doc pm ct an, ExI K (He.ga K d.x) initId file d.qual d.params d.body d.scope fI cc cda .none .none doc pm ct an := by
  obtain ⟨h1, h⟩ := He.ba h
  obtain ⟨h2, h⟩ := He.ba h
  obtain ⟨h3, h⟩ := He.ba h
  obtain ⟨h4, h⟩ := He.ba h
  obtain ⟨h5, h6⟩ := He.ba h
  unfold exiC at h3
  unfold ExD.obs fnC at e
  split at h3
  · rename_i oc od fd osl hf
    rw [hf] at e
    split at h3
    · rename_i nm cc cda hcl hco
      obtain ⟨c1, c2⟩ := He.ba h3
      obtain ⟨c3, c4⟩ := He.ba c2
      obtain ⟨n1, n2, n3, n4, n5, n6, n7, n8, n9, n10, n11, n12, n13, n14, n15⟩ := fd
      have e2 : (some (n1, n2, n3, n4, n5, n6, n7.map (·.1), n15, n8, n9) : FnC) = d.val := e
      unfold ExD.val at e2
      simp only [Option.some.injEq, Prod.mk.injEq] at e2
      obtain ⟨e1, e2, e3, e4, e5, e6, e7, e8, e9, e10⟩ := e2
      dsimp only at hcl hco
      subst hcl hco
      simp only [List.map_cons, List.map_nil, List.cons.injEq, and_true] at e7
      subst e1 e2 e3 e4 e5 e6 e7 e8 e9 e10
      refine ⟨_, cc, cda, n10, n11, n14, n12, He.eqO_ok h1, of_decide_eq_true h2, ⟨oc, od, osl, hf⟩, c1, ?_, ?_, ?_, of_decide_eq_true h5, He.eqO_ok h6⟩
      · split at c3
        · rename_i z1 z2 vs z3 hl
          split at c3
          · rename_i f tk hv
            have := of_decide_eq_true c3
            subst this
            exact ⟨_, _, _, _, _, hl, hv⟩
          · cases c3
        · cases c3
      · split at c4
        · rename_i z1 z2 C' z3 hl
          have := of_decide_eq_true c4
          subst this
          exact ⟨_, _, _, hl⟩
        · cases c4
      · exact Option.isSome_iff_exists.mp h4
    · cases h3
  · cases h3
/-- C(u, ..) makes an exception with these fields -/
def ExMk (P : Program) (w : World) (K : PySem.W.Frag) (mg : Str → Option Value) (C : Addr) (fl : List Str) : Prop :=
  ∀ (X : Cx) (pins : List (Addr × Obj)) (σ : L2.St) (H : Hp) (s : Shared) (us : List Value) (vs : List V) (Q : XK), X.prog = P → X.K = K → Inv X pins σ H s → Room 1 X.A → Vals vs us → vs.length = fl.length →
    (∀ dx, H dx = none → Q (.ref C) (some dx) (upd H dx (.xd (fl.zip vs)))) → wpAny (model X.prog X.w) X.A (call (.ref C) us) (MkP X pins σ Q) X.xe s
structure CalleeE (P : Program) (w : World) (K : PySem.W.Frag) (mg : Str → Option Value) (x : Str) (C : Addr) (fl : List Str) : Prop where
  hm : mg x = some (.ref C)
  kp : PySem.W.keepIn K (.ref C) = true
  made : ExMk P w K mg C fl
def dRaise (Cl : Addr) (fl : List Str) (XD : DX) (t : DTA) : DTS := fun _ ρ => t ρ fun ds _ => ds.length = fl.length ∧ XD Cl (fl.zip ds)
section
variable {X : Cx} {c : C} {t : DTA} {e : Expr} {es : List Expr} {x : Str} {Cl : Addr} {fl : List Str} {p pos rpos : Pos} {XD : DX}
theorem zip_rep {K : PySem.W.Frag} {S : Src} {F : Hp} : ∀ (fl : List Str) {vs : List V} {ds : List D}, Reps K S F vs ds → ds.length = fl.length → (fl.zip vs).map (·.1) = (fl.zip ds).map (·.1) ∧ Reps K S F ((fl.zip vs).map (·.2)) ((fl.zip ds).map (·.2))
  | [], _, _, .nil, _ => ⟨rfl, .nil⟩
  | [], _, _, .cons _ _, h => by simp at h
  | _ :: _, _, _, .nil, h => by simp at h
  | f :: fl, _, _, .cons r rs, h => by
    obtain ⟨a, b⟩ := zip_rep fl rs (by simpa using h)
    exact ⟨by simp only [List.zip_cons_cons, List.map_cons, a], .cons r b⟩
theorem ds_raise (G : CalleeE X.prog X.w X.K X.mg x Cl fl) (lk : Lnk X c XD) (hr : Room 1 X.A) (hg : Gl X x) (ha : PA X (e :: es) (liftA c t)) (hcalm : X.calm = true := by rfl)
    (hdb : (x == ("__debug__" : Str)) = false := by decide) (he : starEach (e :: es) X.env = (false, eval e X.env) :: starEach es X.env := by rfl) (hpl : (backTo pos (starEach es X.env)).any (·.1) = false := by rfl) :
    PS X (.Raise (some (.Call (.Name x p) (e :: es) [] pos)) none rpos) (liftS c (dRaise Cl fl XD t)) := by
  obtain ⟨W, tk, lw⟩ := lk
  have mk : PMk X (.Call (.Name x p) (e :: es) [] pos) (fun σ H Q => liftA c t σ H fun vs H1 => vs.length = fl.length ∧ ∀ dx, H1 dx = none → Q (.ref Cl) (some dx) (upd H1 dx (.xd (fl.zip vs)))) := by
    intro pins s σ H Q I h
    refine wpAny_Call_Name_kw (ld_glob I hg G.hm (PySem.W.callWith_K (h₀ := X.base) I.ok.mod.kin G.kp (thn (ha.run pos pins s σ H _ I h) fun us s1 ⟨vs, H1, I1, r1, hl, q1⟩ => ⟨I1.kIn, ?_⟩) he hpl) hdb)
    exact G.made X pins σ H1 s1 us vs Q rfl rfl I1 hr r1 hl q1
  refine PS_imp (ps_raise hcalm tk mk) fun D σ H ⟨F, ρ, DD, s, h, k⟩ => ?_
  refine ⟨F, ρ, (fun ds ρ1 => ds.length = fl.length ∧ XD Cl (fl.zip ds)), s, h, fun vs H1 F1 ρ1 ds s1 st1 rv ⟨hl, hx⟩ => ⟨rv.length.trans hl, fun dx hdx => ?_⟩⟩
  have pe : PExt F1 H1 F1 (upd H1 dx (.xd (fl.zip vs))) := PExt.own s1.sub hdx
  obtain ⟨z1, z2⟩ := zip_rep fl rv hl
  exact lw Cl (some dx) (fl.zip ds) F1 _ σ (pe.sr s1).post (.inr ⟨dx, fl.zip vs, rfl, upd_same, z1, z2⟩) hx
end
section
open PySem.W
variable {P : Program} {w : World} {K : Frag} {mg : Str → Option Value} {C : Addr} {B newId initId : String} {bmB : List Value} {qual file : Str} {st : Stmt} {f a f2 a2 self : Str} {ar : Arg} {p0 p1 p2 p3 p4 q0 q1 q2 q3 r0 r1 r2 r3 : Pos}
/-- one field -/
theorem exMk1 (T : ExB K C B newId initId bmB) (D : ∃ fI cc cda doc pm ct an, ExI K C initId file qual (defArgs st) (defBody st) (defScope st) fI cc cda .none .none doc pm ct an)
    (hbody : defBody st = [.Expr (.Call (.Attribute (.Call (.Name "super" p0) [] [] p1) "__init__" p2) [] [] p3) p4, .Assign [.Attribute (.Name self q1) f q2] (.Name a q0) q3]) (Tx : IniTx (defScope st) (defArgs st) [self, a])
    (hbind : ∀ (doc pm ct : Value) (an : Option Addr) (cda cc : Addr) (e u : Value), bindArgs (ksFn "__init__" qual (defArgs st) (defBody st) (defScope st) .none .none doc pm an (.ref cda) ct cc) ⟨[e, u], []⟩ = pure [(self, e), (a, u)])
    (S : SupE qual (defScope st) p0 p1 p2 p3 p4) (hp1 : ((defArgs st).posonlyargs ++ (defArgs st).args).head? = some ar) (har : ar.arg = self) (ne : (a == self) = false) (nf : (self == a) = false) (ht : takerIn K C f = some none)
    (hs : ∀ L fI cda cc, swapsWith (.Name a q0) (some (.Attribute (.Name self q1) f q2)) q3.line (ksEnv qual (defScope st) L fI (.ref cda) cc) = pure false)
    (hfile : ((P.main.file : Str) == file) = true) (htop : (P.main.scope.names.lookup ("super" : Str)).isSome = false) (hsup : nsIn K mainGlobals "super" = some none) : ExMk P w K mg C [f] := by
  obtain ⟨fI, cc, cda, doc, pm, ct, an, D⟩ := D
  rw [hbody] at D hbind
  intro X pins σ H s us vs Q eP eK I hr r hl q
  subst eP
  match vs, us, r, hl, q with
  | [v], [u], .cons ru .nil, _, q =>
    obtain ⟨hp, g, dr, tk, os⟩ := s
    exact ex_call1 T D Tx eK I hr (hbind doc pm ct an cda cc · u) S hp1 har ne nf ht hs hfile htop hsup ru q
end
def dRaiseZ (Cl : Addr) (XD : DX) : DTS := fun _ _ => XD Cl []
end L2.DL
set_option Elab.async false
set_option linter.all false
set_option autoImplicit false
set_option maxRecDepth 100000
set_option maxHeartbeats 1000000
namespace L2.DL
open PySem PySem.Spec PyProof.Rows
abbrev AlY : Type := AlX × List FnC
def obsY (fa : List He.Fa) (fn : List He.DefD) (gs : List (PySem.W.Frag → Bool)) (xs : List ExD) (K : PySem.W.Frag) : AlY := (obsX fa fn gs K, xs.map (ExD.obs K))
def valY (fn : List He.DefD) (xs : List ExD) : AlY := (valX fn, xs.map ExD.val)
def SaysY (fa : List He.Fa) (fn : List He.DefD) (gs : List (PySem.W.Frag → Bool)) (xs : List ExD) (K : PySem.W.Frag) : Prop := obsY fa fn gs xs K = valY fn xs
def obsYG (n : Nat) (fa : List He.Fa) (fn : List He.DefD) (gs : List (PySem.W.Frag → Bool)) (xs : List ExD) (g : Addr → Option Obj) : AlY := obsY fa fn gs xs (He.frG g (PySem.cStatics :: He.asD g n))
def hookY (n : Nat) (fa : List He.Fa) (fn : List He.DefD) (gs : List (PySem.W.Frag → Bool)) (xs : List ExD) : PySem.W.Hook where
  α := AlY
  obs := fun s => obsYG n fa fn gs xs s.heap.get?
  val := fun _ => valY fn xs
  says := fun _ h => ∃ K : PySem.W.Frag, K.In h ∧ SaysY fa fn gs xs K
  of := fun _ _ e => ⟨_, He.frG_in, e⟩
  keeps := fun _ _ _ ⟨K, hK, c⟩ k => ⟨K, PySem.W.Frag.In.keeps hK k, c⟩
theorem obsYG_eq {n : Nat} {fa : List He.Fa} {fn : List He.DefD} {gs : List (PySem.W.Frag → Bool)} {xs : List ExD} {g : Addr → Option Obj} {s : Shared} (h : ∀ a, g a = s.heap.get? a) : obsYG n fa fn gs xs g = (hookY n fa fn gs xs).obs s := by
  have e : g = s.heap.get? := funext h
  rw [e] <;> rfl
section
variable {fa : List He.Fa} {fn : List He.DefD} {gs : List (PySem.W.Frag → Bool)} {xs : List ExD} {K : PySem.W.Frag}
theorem SaysY.x (c : SaysY fa fn gs xs K) : SaysX fa fn gs K := congrArg (fun z : AlY => z.1) c
theorem SaysY.ini (c : SaysY fa fn gs xs K) (i : Nat) {d : ExD} (h : xs[i]? = some d := by rfl) : d.obs K = d.val := by
  have e : xs.map (ExD.obs K) = xs.map ExD.val := congrArg (fun z : AlY => z.2) c
  have e2 : (xs.map (ExD.obs K))[i]? = (xs.map ExD.val)[i]? := by rw [e]
  rw [List.getElem?_map, List.getElem?_map, h] at e2
  exact Option.some.inj e2
end
def tkB (x f : Str) (K : PySem.W.Frag) : Bool := He.eqO (PySem.W.takerIn K (He.ga K x) f) (some none)
def noB (x : Str) (K : PySem.W.Frag) : Bool := He.eqO (PySem.W.nsIn K mainGlobals x) (some none)
end L2.DL
set_option Elab.async false
set_option linter.all false
set_option autoImplicit false
set_option maxRecDepth 100000
set_option maxHeartbeats 1000000
namespace L2.DL
open PySem PySem.Spec PyProof.Rows
end L2.DL
set_option Elab.async false
set_option linter.all false
set_option autoImplicit false
set_option maxRecDepth 100000
set_option maxHeartbeats 1000000
namespace L2.DL
open PySem PySem.Spec PyProof.Rows LamX
/-- a clause: the class, the word, the field -/
abbrev Cls : Type := Addr × Str × Str
/-- what the clauses make of what is raised -/
def xTold (l : List Cls) (Q : Res → Prop) : DX := fun C fds => ∃ q, q ∈ l ∧ C = q.1 ∧ ∃ d, fds.lookup q.2.2 = some d ∧ Q (.own [.str q.2.1, d])
/-- an owned slot is not seen by the lambda -/
def hideO : Sl → Sl
  | .o _ => .un
  | x => x
def dTold (w : Str) (l : List Cls) (tb : DX → DTE) : DTE := fun ρ Q => tb (xTold l fun r => Q r ρ) (ρ.map hideO) fun r _ => Q (.own [.str w, fz r]) ρ
end L2.DL
set_option Elab.async false
set_option linter.all false
set_option autoImplicit false
set_option maxRecDepth 100000
set_option maxHeartbeats 1000000
namespace L2.DL
open PySem PySem.Spec PyProof.Rows LamX
end L2.DL
set_option Elab.async false
set_option linter.all false
set_option autoImplicit false
set_option maxRecDepth 100000
set_option maxHeartbeats 1000000
namespace L2.DL
open PySem PySem.Spec PyProof.Rows LamX
end L2.DL
set_option Elab.async false
set_option linter.all false
set_option autoImplicit false
set_option maxRecDepth 100000
set_option maxHeartbeats 1000000
namespace L2.DL
open PySem PySem.Spec PyProof.Rows
def dLenSet (te : DTE) : DTE := fun ρ Q => te ρ fun r ρ1 => ∃ ns : List Int, (fz r = .lst (ns.map .int) ∨ fz r = .tup (ns.map .int)) ∧ ns.length < 64 ∧ Q (.v (.int (uset ns).length)) ρ1
theorem hid_u : hideO .un = .un := rfl
theorem hid_d {d : D} : hideO (.d d) = .d d := rfl
theorem hid_o {d : D} : hideO (.o d) = .un := rfl
end L2.DL
set_option Elab.async false
set_option linter.all false
set_option autoImplicit false
set_option maxRecDepth 100000
set_option maxHeartbeats 1000000
namespace L2.DL
open PySem PySem.Spec PyProof.Rows
def pyS : D → PyData
  | .bl b => .bool b
  | .int i => .int i
  | .str x => .str x
  | _ => .none
def isS : D → Bool
  | .non => true
  | .bl _ => true
  | .int _ => true
  | .str _ => true
  | _ => false
def pyK : Key → PyData
  | .inl i => .int i
  | .inr x => .str x
mutual
def pyW : D → PyData
  | .bl b => .bool b
  | .int i => .int i
  | .str x => .str x
  | .lst xs => .list (pyWs xs)
  | .tup xs => .tuple (pyWs xs)
  | .dct kvs => .dict (kvs.map fun p => (pyK p.1, pyS p.2))
  | _ => .none
def pyWs : List D → List PyData
  | [] => []
  | x :: xs => pyW x :: pyWs xs
end
mutual
def plainW : D → Bool
  | .non => true
  | .bl _ => true
  | .int _ => true
  | .str _ => true
  | .lst xs => plainWs xs
  | .tup xs => plainWs xs
  | .dct kvs => kvs.all fun p => isS p.2
  | _ => false
def plainWs : List D → Bool
  | [] => true
  | x :: xs => plainW x && plainWs xs
end
mutual
inductive RD (h : Heap) : Value → PyData → Prop
  | base {v : Value} {d : PyData} {as : List Addr} : Reads h v d as → (d.hasDict = true → sysModules ∉ as) → RD h v d
  | list {a : Addr} {o : Obj} {vs : Array Value} {n : Nat} {xs : List PyData} : h.get? a = some o → o.cls = .type "list" → o.data = .seq vs n → RDs h vs.toList xs → RD h (.ref a) (.list xs)
  | tuple {a : Addr} {o : Obj} {vs : Array Value} {n : Nat} {xs : List PyData} : h.get? a = some o → o.cls = .type "tuple" → o.data = .seq vs n → RDs h vs.toList xs → RD h (.ref a) (.tuple xs)
inductive RDs (h : Heap) : List Value → List PyData → Prop
  | nil : RDs h [] []
  | cons {v : Value} {vs : List Value} {d : PyData} {ds : List PyData} : RD h v d → RDs h vs ds → RDs h (v :: vs) (d :: ds)
end
section
variable {h : Heap} {P : Program} {w : World}
mutual
theorem RD.reads : ∀ {v : Value} {d : PyData}, RD h v d → ∃ as, Reads h v d as
  | _, _, .base r _ => ⟨_, r⟩
  | _, _, .list a b c r => let ⟨_, q⟩ := r.reads; ⟨_, .list a b c q⟩
  | _, _, .tuple a b c r => let ⟨_, q⟩ := r.reads; ⟨_, .tuple a b c q⟩
theorem RDs.reads : ∀ {vs : List Value} {ds : List PyData}, RDs h vs ds → ∃ as, ReadsAll h vs ds as
  | _, _, .nil => ⟨_, .nil⟩
  | _, _, .cons r t => let ⟨_, q⟩ := r.reads; let ⟨_, q2⟩ := t.reads; ⟨_, .cons q q2⟩
end
end
def ShowW (d : D) : Prop := plainW d = true ∧ (pyW d).showable = true ∧ (pyW d).depth ≤ 60 ∧ (pyW d).shown.length ≤ sizeLine
def dReprW (ds : List D) (Q : Res → Prop) : Prop := ∃ xs, ds = [.lst xs] ∧ ShowW (.lst xs) ∧ Q (.v (.str (pyW (.lst xs)).shown))
end L2.DL
set_option Elab.async false
set_option linter.all false
set_option autoImplicit false
set_option maxRecDepth 100000
set_option maxHeartbeats 1000000
namespace L2.DL
open PySem PySem.Spec PyProof.Rows PySem.SeqAt MeetsSeq
end L2.DL
set_option Elab.async false
set_option linter.all false
set_option autoImplicit false
set_option maxRecDepth 100000
set_option maxHeartbeats 1000000
namespace L2.DL
open PySem PySem.Spec PyProof.Rows
open PySem.Sem (wp)
def itAt (b : Bool) (h : Heap) (it l : Addr) (i : Nat) : Prop := match b with
  | true => h.IsTupleIter it l i
  | false => h.IsListIter it l i
def sqAt (b : Bool) (h : Heap) (l : Addr) (xs : Array Value) : Prop := match b with
  | true => h.IsTuple l xs
  | false => h.IsList l xs
theorem itAt.at {b : Bool} {h h' : Heap} {a l : Addr} {i : Nat} (x : itAt b h a l i) (e : ∀ o, h.get? a = some o → h'.get? a = some o) : itAt b h' a l i := by
  cases b with
  | true => exact Heap.IsTupleIter.at x e
  | false => exact Heap.IsListIter.at x e
theorem itAt.obj {b : Bool} {h : Heap} {a l : Addr} {i : Nat} (x : itAt b h a l i) : ∃ o c fs, h.get? a = some o ∧ o.cls = c ∧ o.data = .fields fs := by
  cases b with
  | true => obtain ⟨o, e, h1, h2⟩ := (show h.IsTupleIter a l i from x); exact ⟨o, _, _, e, h1, h2⟩
  | false => obtain ⟨o, e, h1, h2⟩ := (show h.IsListIter a l i from x); exact ⟨o, _, _, e, h1, h2⟩
theorem sqAt.at {b : Bool} {h h' : Heap} {l : Addr} {xs : Array Value} (x : sqAt b h l xs) (e : ∀ o, h.get? l = some o → h'.get? l = some o) : sqAt b h' l xs := by
  cases b with
  | true => obtain ⟨o, y, r⟩ := (show h.IsTuple l xs from x); exact ⟨o, e _ y, r⟩
  | false => obtain ⟨o, y, r⟩ := (show h.IsList l xs from x); exact ⟨o, e _ y, r⟩
theorem sqAt.there {b : Bool} {h : Heap} {l : Addr} {xs : Array Value} (x : sqAt b h l xs) : l < h.objs.size := by
  cases b with
  | true => obtain ⟨o, y, _⟩ := (show h.IsTuple l xs from x); exact Heap.lt_size y
  | false => obtain ⟨o, y, _⟩ := (show h.IsList l xs from x); exact Heap.lt_size y
section
variable {prog : Program} {w : World} {A : Around} {E : Value → Shared → Prop} {s : Shared}
theorem nextAt_item {b : Bool} {it l : Addr} {i : Nat} {xs : Array Value} {x : Value} {Q : Value → Shared → Prop} (hit : itAt b s.heap it l i) (hl : sqAt b s.heap l xs) (hx : xs[i]? = some x)
    (hQ : ∀ h', itAt b h' it l (i + 1) → Heap.SameBut it s.heap h' → Q x { s with heap := h' }) : wpAny (model prog w) A (Builtin.SmallTypes.nextOf (.ref it)) Q E s := by
  cases b with
  | true => exact RZ.nextOf_tuple_item hit hl hx hQ
  | false => exact wpAny_nextOf_list_item hit hl hx hQ
theorem nextAt_end {b : Bool} {it l : Addr} {i : Nat} {xs : Array Value} {Q : Value → Shared → Prop} (hh : A.handled = none) (hit : itAt b s.heap it l i) (hl : sqAt b s.heap l xs) (hx : xs[i]? = none)
    (hE : ∀ h' e, Heap.ExtBut it s.heap h' → (∃ o, h'.get? e = some o ∧ o.cls = .type "StopIteration") → E (.ref e) { s with heap := h' }) : wpAny (model prog w) A (Builtin.SmallTypes.nextOf (.ref it)) Q E s := by
  cases b with
  | true => exact RZ.nextOf_tuple_end hh hit hl hx hE
  | false => exact wpAny_nextOf_list_end hh hit hl hx hE
variable {b1 b2 : Bool}
theorem zipAt_item {z TI TO i1 i2 l1 l2 : Addr} {k1 k2 : Nat} {xs ys : Array Value} {x y a b : Value} {Q : Value → Shared → Prop} (D : ZipApart z TI TO i1 i2 l1 l2)
    (hz : IsZip s.heap z TI TO .none) (hTI : IsPair s.heap TI (.ref i1) (.ref i2)) (hTO : IsPair s.heap TO a b) (h1 : itAt b1 s.heap i1 l1 k1) (h2 : itAt b2 s.heap i2 l2 k2) (hl1 : sqAt b1 s.heap l1 xs) (hl2 : sqAt b2 s.heap l2 ys) (hx : xs[k1]? = some x) (hy : ys[k2]? = some y)
    (hQ : ∀ h', IsZip h' z TI TO (rawInt s.heap.objs.size) → IsPair h' TO x y → itAt b1 h' i1 l1 (k1 + 1) → itAt b2 h' i2 l2 (k2 + 1) → IsPair h' s.heap.objs.size x y → h'.objs.size = s.heap.objs.size + 1 →
      (∀ c o, c ≠ z → c ≠ TO → c ≠ i1 → c ≠ i2 → s.heap.get? c = some o → h'.get? c = some o) → Q (.ref s.heap.objs.size) { s with heap := h' }) :
    wpAny (model prog w) A (Builtin.«zip.__next__» ⟨[.ref z], []⟩) (fun fin s' => ∃ v, fin = .done (.ret v) ∧ Q v s') E s := by
  show wpAny _ _ (field (.ref z) 2 >>= _) _ _ _
  refine wpAny_bind (wpAny_field hz rfl (x := .bool false) rfl ?_)
  show wpAny _ _ (field (.ref z) 3 >>= _) _ _ _
  refine wpAny_bind (wpAny_field hz rfl (x := .ref TI) rfl (wpAny_bind (wpAny_seqItems hTI rfl ?_)))
  show wpAny _ _ (Builtin.SmallTypes.ownedTupleIsFree (.ref z) >>= _) _ _ _
  unfold Builtin.SmallTypes.ownedTupleIsFree
  refine wpAny_bind (wpAny_bind (wpAny_field hz rfl (x := .none) rfl (wpAny_pure ?_)))
  simp only [if_true]
  refine wpAny_bind (wpAny_rule (wpAny_bind (wpAny_field hz rfl (x := .ref TO) rfl ?_)))
  refine wpAny_bind (wpAny_setField_rec hz (by simp) fun h₁ hz₁ s1 => wpAny_bind ?_)
  replace hz₁ : IsZip h₁ z TI TO .ellipsis := hz₁
  simp only [List.zipIdx_cons, List.zipIdx_nil, List.forIn_cons, List.forIn_nil]
  refine wpAny_bind (wpAny_bind (wpAny_onRaise ?_))
  show wpAny _ _ (Builtin.SmallTypes.nextOf (.ref i1) >>= _) _ _ _
  have j1 : itAt b1 h₁ i1 l1 k1 := h1.at fun o e => s1.extBut _ _ D.i1z e
  have j2 : itAt b2 h₁ i2 l2 k2 := h2.at fun o e => s1.extBut _ _ D.i2z e
  have q1 : sqAt b1 h₁ l1 xs := hl1.at fun o e => s1.extBut _ _ D.l1z e
  have q2 : sqAt b2 h₁ l2 ys := hl2.at fun o e => s1.extBut _ _ D.l2z e
  refine wpAny_bind (nextAt_item j1 q1 hx fun h₂ n1 s2 => wpAny_pure ?_)
  have t2 : IsPair h₂ TO a b := s2.extBut _ _ D.TOi1 (s1.extBut _ _ D.TOz hTO)
  refine wpAny_bind (wpAny_seqItems t2 rfl (wpAny_bind (wpAny_updateSeq_pair t2 fun h₃ t3 s3 => ?_)))
  replace t3 : IsPair h₃ TO x b := t3
  refine wpAny_bind (wpAny_letGo (wpAny_pure ?_))
  refine wpAny_bind (wpAny_bind (wpAny_onRaise ?_))
  show wpAny _ _ (Builtin.SmallTypes.nextOf (.ref i2) >>= _) _ _ _
  have j3 : itAt b2 h₃ i2 l2 k2 := j2.at fun o e => s3.extBut _ _ D.TOi2.symm (s2.extBut _ _ D.i12.symm e)
  have q3 : sqAt b2 h₃ l2 ys := q2.at fun o e => s3.extBut _ _ D.l2TO (s2.extBut _ _ D.l2i1 e)
  refine wpAny_bind (nextAt_item j3 q3 hy fun h₄ n2 s4 => wpAny_pure ?_)
  have t4 : IsPair h₄ TO x b := s4.extBut _ _ D.TOi2 t3
  refine wpAny_bind (wpAny_seqItems t4 rfl (wpAny_bind (wpAny_updateSeq_pair t4 fun h₅ t5 s5 => ?_)))
  replace t5 : IsPair h₅ TO x y := t5
  refine wpAny_bind (wpAny_letGo (wpAny_pure (wpAny_pure ?_)))
  refine wpAny_bind (wpAny_seqItems t5 rfl (wpAny_bind (wpAny_newTuple ?_)))
  have z5 : h₅.objs.size = s.heap.objs.size := by rw [s5.1, s4.1, s3.1, s2.1, s1.1]
  have Z5 : IsZip h₅ z TI TO .ellipsis := s5.extBut _ _ D.TOz.symm (s4.extBut _ _ D.i2z.symm (s3.extBut _ _ D.TOz.symm (s2.extBut _ _ D.i1z.symm hz₁)))
  have n1' : itAt b1 h₅ i1 l1 (k1 + 1) := n1.at fun o e => s5.extBut _ _ D.TOi1.symm (s4.extBut _ _ D.i12 (s3.extBut _ _ D.TOi1.symm e))
  have n2' : itAt b2 h₅ i2 l2 (k2 + 1) := n2.at fun o e => s5.extBut _ _ D.TOi2.symm e
  have hzlt : z < h₅.objs.size := Heap.lt_size Z5
  show wpAny _ _ (Builtin.SmallTypes.ownedTupleHandOut (.ref z) (.ref h₅.objs.size) >>= _) _ _ _
  unfold Builtin.SmallTypes.ownedTupleHandOut
  have Z6 : IsZip (h₅.push { cls := .type "tuple", data := .seq #[x, y] }) z TI TO .ellipsis := Heap.get?_push_of_some _ Z5
  refine wpAny_bind (wpAny_bind (wpAny_setField_rec Z6 (by simp) fun h₇ Z7 s7 => ?_))
  replace Z7 : IsZip h₇ z TI TO (rawInt h₅.objs.size) := Z7
  refine wpAny_setField_rec Z7 (by simp) fun h₈ Z8 s8 => ?_
  replace Z8 : IsZip h₈ z TI TO (rawInt h₅.objs.size) := Z8
  have up : ∀ c o, c ≠ z → h₅.get? c = some o → h₈.get? c = some o := fun c o c1 e => s8.extBut _ _ c1 (s7.extBut _ _ c1 (Heap.get?_push_of_some _ e))
  have T8 : IsPair h₈ h₅.objs.size x y := s8.extBut _ _ (Nat.ne_of_gt hzlt) (s7.extBut _ _ (Nat.ne_of_gt hzlt) (Heap.get?_push_size _ rfl))
  have z8 : h₈.objs.size = h₅.objs.size + 1 := by rw [s8.1, s7.1, Heap.size_push]
  rw [z5] at Z8 T8 z8
  refine wpAny_pure ⟨_, rfl, ?_⟩
  show Q (.ref h₅.objs.size) _
  rw [z5]
  exact hQ h₈ Z8 (up _ _ D.TOz t5) (n1'.at fun o e => up _ o D.i1z e) (n2'.at fun o e => up _ o D.i2z e) T8 z8 fun c o c1 c2 c3 c4 e =>
    up c o c1 (s5.extBut _ _ c2 (s4.extBut _ _ c4 (s3.extBut _ _ c2 (s2.extBut _ _ c3 (s1.extBut _ _ c1 e)))))
theorem zipAt_end {z TI TO i1 i2 l1 l2 : Addr} {k1 k2 : Nat} {xs ys : Array Value} {a b : Value} {Q : Fin → Shared → Prop} (hh : A.handled = none) (D : ZipApart z TI TO i1 i2 l1 l2)
    (hz : IsZip s.heap z TI TO .none) (hTI : IsPair s.heap TI (.ref i1) (.ref i2)) (hTO : IsPair s.heap TO a b) (h1 : itAt b1 s.heap i1 l1 k1) (h2 : itAt b2 s.heap i2 l2 k2) (hl1 : sqAt b1 s.heap l1 xs) (hl2 : sqAt b2 s.heap l2 ys) (hend : xs[k1]? = none ∨ ys[k2]? = none)
    (hE : ∀ h' e, (∀ c o, c ≠ z → c ≠ TO → c ≠ i1 → c ≠ i2 → s.heap.get? c = some o → h'.get? c = some o) → (∃ o, h'.get? e = some o ∧ o.cls = .type "StopIteration") → E (.ref e) { s with heap := h' }) :
    wpAny (model prog w) A (Builtin.«zip.__next__» ⟨[.ref z], []⟩) Q E s := by
  show wpAny _ _ (field (.ref z) 2 >>= _) _ _ _
  refine wpAny_bind (wpAny_field hz rfl (x := .bool false) rfl ?_)
  show wpAny _ _ (field (.ref z) 3 >>= _) _ _ _
  refine wpAny_bind (wpAny_field hz rfl (x := .ref TI) rfl (wpAny_bind (wpAny_seqItems hTI rfl ?_)))
  show wpAny _ _ (Builtin.SmallTypes.ownedTupleIsFree (.ref z) >>= _) _ _ _
  unfold Builtin.SmallTypes.ownedTupleIsFree
  refine wpAny_bind (wpAny_bind (wpAny_field hz rfl (x := .none) rfl (wpAny_pure ?_)))
  simp only [if_true]
  refine wpAny_bind (wpAny_rule (wpAny_bind (wpAny_field hz rfl (x := .ref TO) rfl ?_)))
  refine wpAny_bind (wpAny_setField_rec hz (by simp) fun h₁ hz₁ s1 => wpAny_bind ?_)
  replace hz₁ : IsZip h₁ z TI TO .ellipsis := hz₁
  simp only [List.zipIdx_cons, List.zipIdx_nil, List.forIn_cons, List.forIn_nil]
  refine wpAny_bind (wpAny_bind (wpAny_onRaise ?_))
  show wpAny _ _ (Builtin.SmallTypes.nextOf (.ref i1) >>= _) _ _ _
  have j1 : itAt b1 h₁ i1 l1 k1 := h1.at fun o e => s1.extBut _ _ D.i1z e
  have j2 : itAt b2 h₁ i2 l2 k2 := h2.at fun o e => s1.extBut _ _ D.i2z e
  have q1 : sqAt b1 h₁ l1 xs := hl1.at fun o e => s1.extBut _ _ D.l1z e
  have q2 : sqAt b2 h₁ l2 ys := hl2.at fun o e => s1.extBut _ _ D.l2z e
  cases hx : xs[k1]? with
  | none =>
    refine wpAny_bind (nextAt_end hh j1 q1 hx fun h₂ e s2 he => ?_)
    obtain ⟨oe, hoe, hce⟩ := he
    have Z2 : IsZip h₂ z TI TO .ellipsis := s2 _ _ D.i1z.symm hz₁
    have hez : e ≠ z := fun x => by subst x; rw [Z2] at hoe; cases hoe; simp at hce
    exact wpAny_setField_rec Z2 (by simp) fun h₃ _ s3 => hE h₃ e (fun c o c1 _ c3 _ x => s3.extBut _ _ c1 (s2 _ _ c3 (s1.extBut _ _ c1 x))) ⟨oe, s3.extBut _ _ hez hoe, hce⟩
  | some x =>
    have hy : ys[k2]? = none := hend.elim (fun h => by rw [hx] at h; cases h) id
    refine wpAny_bind (nextAt_item j1 q1 hx fun h₂ n1 s2 => wpAny_pure ?_)
    have t2 : IsPair h₂ TO a b := s2.extBut _ _ D.TOi1 (s1.extBut _ _ D.TOz hTO)
    refine wpAny_bind (wpAny_seqItems t2 rfl (wpAny_bind (wpAny_updateSeq_pair t2 fun h₃ t3 s3 => ?_)))
    refine wpAny_bind (wpAny_letGo (wpAny_pure ?_))
    refine wpAny_bind (wpAny_bind (wpAny_onRaise ?_))
    show wpAny _ _ (Builtin.SmallTypes.nextOf (.ref i2) >>= _) _ _ _
    have j3 : itAt b2 h₃ i2 l2 k2 := j2.at fun o e => s3.extBut _ _ D.TOi2.symm (s2.extBut _ _ D.i12.symm e)
    have q3 : sqAt b2 h₃ l2 ys := q2.at fun o e => s3.extBut _ _ D.l2TO (s2.extBut _ _ D.l2i1 e)
    refine wpAny_bind (nextAt_end hh j3 q3 hy fun h₄ e s4 he => ?_)
    obtain ⟨oe, hoe, hce⟩ := he
    have Z4 : IsZip h₄ z TI TO .ellipsis := s4 _ _ D.i2z.symm (s3.extBut _ _ D.TOz.symm (s2.extBut _ _ D.i1z.symm hz₁))
    have hez : e ≠ z := fun x => by subst x; rw [Z4] at hoe; cases hoe; simp at hce
    exact wpAny_setField_rec Z4 (by simp) fun h₅ _ s5 => hE h₅ e (fun c o c1 c2 c3 c4 x => s5.extBut _ _ c1 (s4 _ _ c4 (s3.extBut _ _ c2 (s2.extBut _ _ c3 (s1.extBut _ _ c1 x))))) ⟨oe, s5.extBut _ _ hez hoe, hce⟩
theorem pyNext_zipAt {z TI TO i1 i2 l1 l2 : Addr} {k1 k2 : Nat} {xs ys : Array Value} {a b : Value} {Q : Option Value → Shared → Prop} (hh : A.handled = none) (D : ZipApart z TI TO i1 i2 l1 l2)
    (hz : IsZip s.heap z TI TO .none) (hTI : IsPair s.heap TI (.ref i1) (.ref i2)) (hTO : IsPair s.heap TO a b) (h1 : itAt b1 s.heap i1 l1 k1) (h2 : itAt b2 s.heap i2 l2 k2) (hl1 : sqAt b1 s.heap l1 xs) (hl2 : sqAt b2 s.heap l2 ys)
    (hQ : (∃ x y, xs[k1]? = some x ∧ ys[k2]? = some y ∧ ∀ h', IsZip h' z TI TO (rawInt s.heap.objs.size) → IsPair h' TO x y → itAt b1 h' i1 l1 (k1 + 1) → itAt b2 h' i2 l2 (k2 + 1) → IsPair h' s.heap.objs.size x y → h'.objs.size = s.heap.objs.size + 1 →
      (∀ c o, c ≠ z → c ≠ TO → c ≠ i1 → c ≠ i2 → s.heap.get? c = some o → h'.get? c = some o) → Q (some (.ref s.heap.objs.size)) { s with heap := h' }) ∨
      ((xs[k1]? = none ∨ ys[k2]? = none) ∧ ∀ h', (∀ c o, c ≠ z → c ≠ TO → c ≠ i1 → c ≠ i2 → s.heap.get? c = some o → h'.get? c = some o) → Q none { s with heap := h' })) :
    wpAny (model prog w) A (pyNext (.ref z)) Q E s := by
  have hT : s.TypeIs (.ref z) "zip" := ⟨_, hz, rfl⟩
  unfold pyNext
  rcases hQ with ⟨x, y, hx, hy, hQ⟩ | ⟨hend, hQ⟩
  · exact wpAny_bind (wpAny_attempt (wpAny_callSpecial?_slot (name := Str.ofString "__next__") hT F.slot_zip_next (wpAny_call_entry F.slot_zip_next hT F.entry_zip_next
      (zipAt_item D hz hTI hTO h1 h2 hl1 hl2 hx hy fun h' a1 a2 a3 a4 a5 a6 a7 => wpAny_pure (hQ h' a1 a2 a3 a4 a5 a6 a7)) (F.args_zip_next_1 _))))
  · refine wpAny_bind (wpAny_attempt (wpAny_callSpecial?_slot (name := Str.ofString "__next__") hT F.slot_zip_next (wpAny_call_entry F.slot_zip_next hT F.entry_zip_next (zipAt_end hh D hz hTI hTO h1 h2 hl1 hl2 hend fun h' e hk he => ?_) (F.args_zip_next_1 _))))
    obtain ⟨o, ho, hc⟩ := he
    exact wpAny_bind (wpAny_isInstance (T := "StopIteration") (b := true) ⟨o, ho, hc⟩ isSubtype_stop (wpAny_pure (hQ _ hk)))
end
def itO (b : Bool) (l : Addr) : Obj := match b with
  | true => { cls := .type "tuple_iterator", data := .fields #[.ref l, .int 0 0] }
  | false => { cls := .type "list_iterator", data := .fields #[.ref l, .int 0 0] }
abbrev zpH (b1 b2 : Bool) (h : Heap) (l1 l2 : Addr) : Heap := ((((h.push (itO b1 l1)).push (itO b2 l2)).push { cls := .type "tuple", data := .seq #[.ref h.objs.size, .ref (h.push (itO b1 l1)).objs.size] }).push { cls := .type "tuple", data := .seq #[.none, .none] })
abbrev zpH5 (b1 b2 : Bool) (h : Heap) (l1 l2 : Addr) : Heap := (zpH b1 b2 h l1 l2).push { cls := .type "zip", data := .fields #[.none, .bool false, .bool false, .ref ((h.push (itO b1 l1)).push (itO b2 l2)).objs.size,
  .ref (((h.push (itO b1 l1)).push (itO b2 l2)).push { cls := .type "tuple", data := .seq #[.ref h.objs.size, .ref (h.push (itO b1 l1)).objs.size] }).objs.size] }
theorem meets_zipAt (b1 b2 : Bool) (hb : b1 = !b2) (l1 l2 : Addr) (xs ys : Array Value) : Meets (Builtin.«zip.__new__» ⟨[.type "zip", .ref l1, .ref l2], []⟩) (fun _ R s => sqAt b1 s.heap l1 xs ∧ sqAt b2 s.heap l2 ys ∧ R (.ok (.ret (.ref (zpH b1 b2 s.heap l1 l2).objs.size))) { s with heap := zpH5 b1 b2 s.heap l1 l2 }) :=
  .of_wp fun prog w A R s h => by
    obtain ⟨hp, g, d, tk, os⟩ := s
    obtain ⟨hl1, hl2, h⟩ := h
    have hsub := sub_zip
    cases b2 <;> cases hb
    · have a1 : Heap.IsTuple (Shared.heap ⟨hp, g, d, tk, os⟩) l1 xs := hl1
      have a2 : Heap.IsList (Shared.heap ⟨hp.push { cls := .type "tuple_iterator", data := .fields #[.ref l1, .int 0 0] }, g, d, tk, os⟩) l2 ys := Heap.IsList.push hl2 _
      wp_walk using wpAny_pyIter_tuple a1, wpAny_pyIter_list a2
      exact ⟨_, rfl, h⟩
    · have a1 : Heap.IsList (Shared.heap ⟨hp, g, d, tk, os⟩) l1 xs := hl1
      have a2 : Heap.IsTuple (Shared.heap ⟨hp.push { cls := .type "list_iterator", data := .fields #[.ref l1, .int 0 0] }, g, d, tk, os⟩) l2 ys := Heap.IsTuple.push hl2 _
      wp_walk using wpAny_pyIter_list a1, wpAny_pyIter_tuple a2
      exact ⟨_, rfl, h⟩
theorem call_zipAt {prog : Program} {w : World} {A : Around} {E : Value → Shared → Prop} {s : Shared} (b1 b2 : Bool) (hb : b1 = !b2) {l1 l2 : Addr} {xs ys : Array Value} {Q : Value → Shared → Prop} (hl1 : sqAt b1 s.heap l1 xs) (hl2 : sqAt b2 s.heap l2 ys)
    (h : ∀ h', IsZip h' (s.heap.objs.size + 4) (s.heap.objs.size + 2) (s.heap.objs.size + 3) .none → IsPair h' (s.heap.objs.size + 2) (.ref s.heap.objs.size) (.ref (s.heap.objs.size + 1)) →
      IsPair h' (s.heap.objs.size + 3) .none .none → itAt b1 h' s.heap.objs.size l1 0 → itAt b2 h' (s.heap.objs.size + 1) l2 0 → h'.objs.size = s.heap.objs.size + 5 →
      (∀ c o, s.heap.get? c = some o → h'.get? c = some o) → Q (.ref (s.heap.objs.size + 4)) { s with heap := h' }) :
    wpAny (model prog w) A (call (.type "zip") [.ref l1, .ref l2]) Q E s := by
  refine callType_new F.called_zip (by decide) (F.typeCall_zip_2 _ _) (F.newCall_zip_2 _ _) (fun obj => F.args_object_init_3 obj _ _) F.entry_zip_new (meets_zipAt b1 b2 hb l1 l2 xs ys) ⟨hl1, hl2, ?_⟩
  delta zpH5 zpH
  show _ ∧ _
  generalize e1 : s.heap.push (itO b1 l1) = H1
  generalize e2 : H1.push (itO b2 l2) = H2
  have z1 : H1.objs.size = s.heap.objs.size + 1 := by rw [← e1]; exact Heap.size_push ..
  have z2 : H2.objs.size = s.heap.objs.size + 2 := by rw [← e2, Heap.size_push, z1]
  generalize e3 : H2.push { cls := .type "tuple", data := .seq #[.ref s.heap.objs.size, .ref H1.objs.size] } = H3
  have z3 : H3.objs.size = s.heap.objs.size + 3 := by rw [← e3, Heap.size_push, z2]
  generalize e4 : H3.push { cls := .type "tuple", data := .seq #[.none, .none] } = H4
  have z4 : H4.objs.size = s.heap.objs.size + 4 := by rw [← e4, Heap.size_push, z3]
  generalize e5 : H4.push { cls := .type "zip", data := .fields #[.none, .bool false, .bool false, .ref H2.objs.size, .ref H3.objs.size] } = H5
  have z5 : H5.objs.size = s.heap.objs.size + 5 := by rw [← e5, Heap.size_push, z4]
  have u5 : ∀ c o, H4.get? c = some o → H5.get? c = some o := fun c o q => by rw [← e5]; exact Heap.get?_push_of_some _ q
  have u4 : ∀ c o, H3.get? c = some o → H4.get? c = some o := fun c o q => by rw [← e4]; exact Heap.get?_push_of_some _ q
  have u3 : ∀ c o, H2.get? c = some o → H3.get? c = some o := fun c o q => by rw [← e3]; exact Heap.get?_push_of_some _ q
  have u2 : ∀ c o, H1.get? c = some o → H2.get? c = some o := fun c o q => by rw [← e2]; exact Heap.get?_push_of_some _ q
  have u1 : ∀ c o, s.heap.get? c = some o → H1.get? c = some o := fun c o q => by rw [← e1]; exact Heap.get?_push_of_some _ q
  have g5 : IsZip H5 (s.heap.objs.size + 4) (s.heap.objs.size + 2) (s.heap.objs.size + 3) .none := by
    have this := (congrArg (fun h : Heap => h.get? H4.objs.size) e5).symm.trans (Heap.get?_push_size _ rfl)
    rw [z4, z2, z3] at this
    exact this
  have g3 : IsPair H5 (s.heap.objs.size + 2) (.ref s.heap.objs.size) (.ref (s.heap.objs.size + 1)) := by
    have this := (congrArg (fun h : Heap => h.get? H2.objs.size) e3).symm.trans (Heap.get?_push_size _ rfl)
    rw [z2, z1] at this
    exact u5 _ _ (u4 _ _ this)
  have g4 : IsPair H5 (s.heap.objs.size + 3) .none .none := by
    have this := (congrArg (fun h : Heap => h.get? H3.objs.size) e4).symm.trans (Heap.get?_push_size _ rfl)
    rw [z3] at this
    exact u5 _ _ this
  have g1 : H5.get? s.heap.objs.size = some (itO b1 l1) := u5 _ _ (u4 _ _ (u3 _ _ (u2 _ _ (by rw [← e1]; exact Heap.get?_push_size _ (by cases b1 <;> rfl)))))
  have g2 : H5.get? (s.heap.objs.size + 1) = some (itO b2 l2) := by
    rw [← z1]
    exact u5 _ _ (u4 _ _ (u3 _ _ (by rw [← e2]; exact Heap.get?_push_size _ (by cases b2 <;> rfl))))
  have i1 : itAt b1 H5 s.heap.objs.size l1 0 := by cases b1 <;> exact ⟨_, g1, rfl, rfl⟩
  have i2 : itAt b2 H5 (s.heap.objs.size + 1) l2 0 := by cases b2 <;> exact ⟨_, g2, rfl, rfl⟩
  rw [z4]
  exact ⟨⟨_, g5, rfl⟩, h _ g5 g3 g4 i1 i2 z5 fun c o x => u5 _ _ (u4 _ _ (u3 _ _ (u2 _ _ (u1 _ _ x))))⟩
/-- a known list or tuple -/
def SqB (K : PySem.W.Frag) (b : Bool) (H : Hp) (a : Addr) (xs : List V) : Prop := match b with
  | true => SqT K H a xs
  | false => SqL K H a xs
theorem SqB.real {X : Cx} {pins : List (Addr × Obj)} {σ : L2.St} {H : Hp} {s : Shared} (I : Inv X pins σ H s) {b : Bool} {a : Addr} {xs : List V} (h : SqB X.K b H a xs) : ∃ us : List Value, Vals xs us ∧ sqAt b s.heap a us.toArray := by
  cases b with
  | true => obtain ⟨us, r, p, _⟩ := I.tuple h; exact ⟨us, r, p⟩
  | false => obtain ⟨us, r, p, _⟩ := I.list h; exact ⟨us, r, p.isList⟩
theorem SqB.inj {X : Cx} {pins : List (Addr × Obj)} {σ : L2.St} {H : Hp} {s : Shared} (I : Inv X pins σ H s) {b : Bool} {a : Addr} {xs ys : List V} (h : SqB X.K b H a xs) (h' : SqB X.K b H a ys) : xs = ys := by
  cases b with
  | true => exact I.tuple_inj h h'
  | false => exact I.list_inj h h'
def ItzB (K : PySem.W.Frag) (b1 b2 : Bool) (a b : Addr) : It :=
  ⟨fun i H => ∃ (xs ys : List V) (x y : V), SqB K b1 H a xs ∧ SqB K b2 H b ys ∧ xs[i]? = some x ∧ ys[i]? = some y,
    fun i H v H' => ∃ T x y, v = .ref T ∧ H T = none ∧ H' = upd H T (.tup [x, y]) ∧ (∀ xs, SqB K b1 H a xs → xs[i]? = some x) ∧ ∀ ys, SqB K b2 H b ys → ys[i]? = some y,
    fun i H => ∃ xs ys : List V, SqB K b1 H a xs ∧ SqB K b2 H b ys ∧ (xs.length ≤ i ∨ ys.length ≤ i)⟩
theorem turn_zipB {P : Program} {w : World} {K : PySem.W.Frag} {elts : List Expr} {kk : Nat} {tpos : Pos} {b1 b2 : Bool} {a b z TI TO i1 i2 : Addr} (D : ZipApart z TI TO i1 i2 a b) :
    Turn P w K (.Tuple elts kk tpos) (ItzB K b1 b2 a b) [z, TI, TO, i1, i2] z (fun i h => IsZip h z TI TO .none ∧ IsPair h TI (.ref i1) (.ref i2) ∧ (∃ x y, IsPair h TO x y) ∧ itAt b1 h i1 a i ∧ itAt b2 h i2 b i) where
  mem := by simp
  obj := fun i h st c hc => by
    obtain ⟨hz, hTI, ⟨x, y, hTO⟩, h1, h2⟩ := st
    obtain ⟨o1, _, _, e1, _, d1⟩ := h1.obj
    obtain ⟨o2, _, _, e2, _, d2⟩ := h2.obj
    simp only [List.mem_cons, List.not_mem_nil, or_false] at hc
    rcases hc with q | q | q | q | q
    · subst q; exact ⟨_, hz, fun v q => nomatch q⟩
    · subst q; exact ⟨_, hTI, fun v q => nomatch q⟩
    · subst q; exact ⟨_, hTO, fun v q => nomatch q⟩
    · subst q; exact ⟨o1, e1, fun v q => by rw [d1] at q; cases q⟩
    · subst q; exact ⟨o2, e2, fun v q => by rw [d2] at q; cases q⟩
  keep := fun i h h' st k => by
    obtain ⟨hz, hTI, ⟨x, y, hTO⟩, h1, h2⟩ := st
    exact ⟨k z (by simp) _ hz, k TI (by simp) _ hTI, ⟨x, y, k TO (by simp) _ hTO⟩, h1.at fun o q => k i1 (by simp) o q, h2.at fun o q => k i2 (by simp) o q⟩
  item := by
    intro X hP hw hK hc i pins s σ H E I hf st hg
    subst hP hw hK
    obtain ⟨hz, hTI, ⟨x0, y0, hTO⟩, h1, h2⟩ := st
    obtain ⟨xs, ys, x, y, hqx, hqy, hx, hy⟩ := hg
    obtain ⟨us, rv, p⟩ := hqx.real I
    obtain ⟨us2, rv2, p2⟩ := hqy.real I
    obtain ⟨u, hu, ru⟩ := rv.get hx
    obtain ⟨u2, hu2, ru2⟩ := rv2.get hy
    have lt : ∀ c, c ∈ [z, TI, TO, i1, i2] → c < s.heap.objs.size := fun c hcm => by
      obtain ⟨o1, _, _, e1, _⟩ := h1.obj
      obtain ⟨o2, _, _, e2, _⟩ := h2.obj
      simp only [List.mem_cons, List.not_mem_nil, or_false] at hcm
      rcases hcm with q | q | q | q | q
      · subst q; exact Heap.lt_size hz
      · subst q; exact Heap.lt_size hTI
      · subst q; exact Heap.lt_size hTO
      · subst q; exact Heap.lt_size e1
      · subst q; exact Heap.lt_size e2
    have hzl := lt z (by simp)
    refine pyNext_zipAt (I.ok.hd hc) D hz hTI hTO h1 h2 p p2 (.inl ⟨u, u2, by simpa using hu, by simpa using hu2, fun h' z' TO' h1' h2' hT hsz hk => ?_⟩)
    refine ⟨_, rfl, wpAny_letOwnedTupleGo_zip (s := { s with heap := h' }) z' fun h'' z'' sb => ?_⟩
    have hT2 : h''.get? s.heap.objs.size = some { cls := .type "tuple", data := .seq #[u, u2] } := (sb.2 _ (Nat.ne_of_gt hzl)).trans hT
    have new : ObjOk X.prog X.w (upd H s.heap.objs.size (.tup [x, y])) h'' s.heap.objs.size (.tup [x, y]) :=
      ⟨by show 2 ≤ sizeLine; decide, [u, u2], .cons ru (.cons ru2 .nil), ⟨_, hT2, rfl, _, rfl⟩⟩
    have out : ∀ {c}, c ∉ [z, TI, TO, i1, i2] → c ≠ z ∧ c ≠ TI ∧ c ≠ TO ∧ c ≠ i1 ∧ c ≠ i2 := fun {c} hb => by simpa using hb
    have I1 : Inv X pins σ (upd H s.heap.objs.size (.tup [x, y])) { s with heap := h'' } :=
      I.turnedNew (t' := s.toks) (ch := [z, TI, TO, i1, i2]) (fun c o hb q => let ⟨a1, _, a3, a4, a5⟩ := out hb; (sb.2 c a1).trans (hk c o a1 a3 a4 a5 q)) hf (Nat.le_refl _) new
    refine ⟨.ref s.heap.objs.size, _, I1, rfl, ⟨_, x, y, rfl, I.hok.fresh (Nat.le_refl _), rfl, fun l hl => by rw [hl.inj I hqx]; exact hx, fun l hl => by rw [hl.inj I hqy]; exact hy⟩, ⟨z'', ?_, ⟨u, u2, ?_⟩, ?_, ?_⟩, fun c hcm => ?_⟩
    · exact (sb.2 _ D.TIz).trans (hk _ _ D.TIz D.TITO D.TIi1 D.TIi2 hTI)
    · exact (sb.2 _ D.TOz).trans TO'
    · exact h1'.at fun o q => (sb.2 _ D.i1z).trans q
    · exact h2'.at fun o q => (sb.2 _ D.i2z).trans q
    · rw [upd_ne (Nat.ne_of_lt (lt c hcm))]
      exact (hf c hcm).1
  done := by
    intro X hP hw hK hc i pins s σ H E I hf st hg
    subst hP hw hK
    obtain ⟨hz, hTI, ⟨x0, y0, hTO⟩, h1, h2⟩ := st
    obtain ⟨xs, ys, hqx, hqy, hend⟩ := hg
    obtain ⟨us, rv, p⟩ := hqx.real I
    obtain ⟨us2, rv2, p2⟩ := hqy.real I
    have l1 := rv.length
    have l2 := rv2.length
    have he : us.toArray[i]? = none ∨ us2.toArray[i]? = none := hend.elim (fun q => .inl (by simp; omega)) fun q => .inr (by simp; omega)
    have out : ∀ {c}, c ∉ [z, TI, TO, i1, i2] → c ≠ z ∧ c ≠ TI ∧ c ≠ TO ∧ c ≠ i1 ∧ c ≠ i2 := fun {c} hb => by simpa using hb
    exact pyNext_zipAt (I.ok.hd hc) D hz hTI hTO h1 h2 p p2 (.inr ⟨he, fun h' hk => ⟨rfl, I.turnedL (t' := s.toks) (ch := [z, TI, TO, i1, i2]) (fun c o hb q => let ⟨a1, _, a3, a4, a5⟩ := out hb; hk c o a1 a3 a4 a5 q) hf⟩⟩)
  self := fun A i s Q E st h => wpAny_pyIter_zip st.1 h
def iZipB (K : PySem.W.Frag) (ta : TA) : TI := fun σ H R => ta σ H fun vs H1 => ∃ a b xs ys b1 b2, vs = [.ref a, .ref b] ∧ b1 = !b2 ∧ SqB K b1 H1 a xs ∧ SqB K b2 H1 b ys ∧ R (ItzB K b1 b2 a b) H1
theorem pi_zipB {X : Cx} {e e2 : Expr} {ta : TA} {p pos tpos : Pos} {elts : List Expr} {kk : Nat} (hg : Gl X "zip") (hm : X.mg "zip" = none) (ha : PA X [e, e2] ta)
    (hs : starEach [e, e2] X.env = (false, eval e X.env) :: starEach [e2] X.env := by rfl) (hpl : (backTo pos (starEach [e2] X.env)).any (·.1) = false := by rfl) :
    PI X (.Tuple elts kk tpos) (.Call (.Name "zip" p) [e, e2] [] pos) (iZipB X.K ta) := by
  refine ⟨fun pins s σ H R I h => ?_⟩
  refine Call_ (ld_blt I hg hm PyProof.Rows.boot_zip (PyProof.Rows.callWith_type1 (thn (ha.run pos pins s σ H _ I h) fun us s1 ⟨vs, H1, I1, r1, q1⟩ => ?_) hs hpl))
  obtain ⟨a, b, xs, ys, b1, b2, rfl, hb, hqx, hqy, q⟩ := q1
  obtain ⟨u, u2, rfl, ru, ru2⟩ : ∃ u u2, us = [u, u2] ∧ RelV (.ref a) u ∧ RelV (.ref b) u2 := by
    cases r1 with
    | cons r rr => cases rr with
      | cons r' rr => cases rr; exact ⟨_, _, rfl, r, r'⟩
  obtain rfl : u = Value.ref a := ru
  obtain rfl : u2 = Value.ref b := ru2
  obtain ⟨vs1, rv, p1⟩ := hqx.real I1
  obtain ⟨vs2, rv2, p2⟩ := hqy.real I1
  have fresh : ∀ c, c ∈ [s1.heap.objs.size + 4, s1.heap.objs.size + 2, s1.heap.objs.size + 3, s1.heap.objs.size, s1.heap.objs.size + 1] → FpOk X pins H1 c := fun c hcm => by
    have hle : s1.heap.objs.size ≤ c := by
      simp only [List.mem_cons, List.not_mem_nil, or_false] at hcm
      omega
    exact I1.fpOk hle (I1.hok.fresh hle)
  refine call_zipAt b1 b2 hb p1 p2 fun h' hz hTI hTO h1 h2 hsz hk => wpAny_pyIter_zip hz ?_
  have I2 : Inv X pins σ H1 { s1 with heap := h' } := I1.kept (t' := s1.toks) hk
  exact ⟨s1.heap.objs.size + 4, [s1.heap.objs.size + 4, s1.heap.objs.size + 2, s1.heap.objs.size + 3, s1.heap.objs.size, s1.heap.objs.size + 1], _, _, H1, rfl, I2, turn_zipB (PySem.W.ktu_apart s1.heap.objs.size a b p1.there p2.there), ⟨hz, hTI, ⟨_, _, hTO⟩, h1, h2⟩, fresh, q⟩
theorem walk_zipLT {K : PySem.W.Frag} {S : Src} {F1 : Hp} {a b : Addr} {vs ws : List V} {ds es : List D} (h : LstAt K F1 a vs) (r : Reps K S F1 vs ds) (h' : SqT K F1 b ws) (r' : Reps K S F1 ws es) : Walk K S (ItzB K false true a b) F1 (zipD ds es) where
  go := fun F H i d l1 l2 hd => by
    obtain ⟨x, y, hx, hy, rfl⟩ := zipD_get hd
    obtain ⟨v, hv, rv⟩ := r.get hx
    obtain ⟨w, hw, rw'⟩ := r'.get hy
    have hA : SqB K false H a vs := (l1.lst h).sq l2
    have hB : SqB K true H b ws := (l1.trans l2).seqT h'
    refine ⟨⟨vs, ws, v, w, hA, hB, hv, hw⟩, fun z H' q => ?_⟩
    obtain ⟨T, x1, y1, e1, hT, e2, f1, f2⟩ := q
    have g1 := f1 vs hA
    have g2 := f2 ws hB
    rw [hv] at g1; cases g1
    rw [hw] at g2; cases g2
    subst e1; subst e2
    have pe := PExt.new (o := .tup [v, w]) l2 hT
    exact ⟨_, pe, .tup upd_same (.cons ((rv.mono l1).mono pe.ff) (.cons ((rw'.mono l1).mono pe.ff) .nil))⟩
  stop := fun F H i l1 l2 hl => ⟨vs, ws, (l1.lst h).sq l2, (l1.trans l2).seqT h', by rw [r.length, r'.length]; exact zipD_len hl⟩
def dZipLT (t : DTA) : DTI := fun ρ Q => t ρ fun ds ρ1 => ∃ xs ys, ds = [.lst xs, .tup ys] ∧ Q (zipD xs ys) ρ1
theorem di_zipLT {X : Cx} {c : C} {e e2 : Expr} {t : DTA} {p pos tpos : Pos} {elts : List Expr} {kk : Nat} (hK : X.K = c.K) (hg : Gl X "zip") (hm : X.mg "zip" = none) (ha : PA X [e, e2] (liftA c t))
    (hs : starEach [e, e2] X.env = (false, eval e X.env) :: starEach [e2] X.env := by rfl) (hpl : (backTo pos (starEach [e2] X.env)).any (·.1) = false := by rfl) :
    PI X (.Tuple elts kk tpos) (.Call (.Name "zip" p) [e, e2] [] pos) (liftI c (dZipLT t)) :=
  PI_imp (pi_zipB hg hm ha hs hpl) fun σ H R ⟨F, ρ, QD, s, h, k⟩ =>
    ⟨F, ρ, _, s, h, fun vs H1 F1 ρ1 ds s1 st1 rv ⟨xs, ys, e, q⟩ => by
      subst e
      match rv with
      | .cons (.lst h1 r1) (.cons (.tup h2 r2) .nil) =>
        exact ⟨_, _, _, _, false, true, rfl, rfl, by rw [hK]; exact h1.sq s1.sub, by rw [hK]; exact s1.sub.seqT (.inl (.inl h2)), k _ H1 F1 ρ1 _ s1 st1 (by rw [hK]; exact walk_zipLT h1 r1 (.inl (.inl h2)) r2) q⟩⟩
end L2.DL
set_option Elab.async false
set_option linter.all false
set_option autoImplicit false
set_option maxRecDepth 100000
set_option maxHeartbeats 1000000
namespace L2.DL
open PySem PySem.Spec PyProof.Rows
section
variable {K : PySem.W.Frag}
def dMin3 (ds : List D) (Q : Res → Prop) : Prop := ∃ i j l : Int, ds = [.int i, .int j, .int l] ∧ Q (.v (.int (if l < (if j < i then j else i) then l else (if j < i then j else i))))
def dIsB (a b : D) (Q : Res → Prop) : Prop := ∃ x y : Bool, a = .bl x ∧ b = .bl y ∧ Q (.v (.bl (decide (x = y))))
def dNotB (a b : D) (Q : Res → Prop) : Prop := ∃ x y : Bool, a = .bl x ∧ b = .bl y ∧ Q (.v (.bl (!decide (x = y))))
end
section
variable {Q : Res → Prop} {i j l : Int} {a b : Bool}
theorem min3R : dMin3 [.int i, .int j, .int l] Q = Q (.v (.int (if l < (if j < i then j else i) then l else (if j < i then j else i)))) := propext ⟨fun ⟨_, _, _, e, q⟩ => by cases e; exact q, fun q => ⟨i, j, l, rfl, q⟩⟩
theorem isBR : dIsB (.bl a) (.bl b) Q = Q (.v (.bl (decide (a = b)))) := propext ⟨fun ⟨_, _, e1, e2, q⟩ => by cases e1; cases e2; exact q, fun q => ⟨a, b, rfl, rfl, q⟩⟩
theorem notBR : dNotB (.bl a) (.bl b) Q = Q (.v (.bl (!decide (a = b)))) := propext ⟨fun ⟨_, _, e1, e2, q⟩ => by cases e1; cases e2; exact q, fun q => ⟨a, b, rfl, rfl, q⟩⟩
end
end L2.DL
set_option Elab.async false
set_option linter.all false
set_option autoImplicit false
set_option maxRecDepth 100000
set_option maxHeartbeats 1000000
namespace L2.DL
open PySem PySem.Spec PyProof.Rows PySem.W
section
variable {prog : Program} {w : World} {A : Around} {E : Value → Shared → Prop} {s : Shared} {P : PySem.Fin → Shared → Prop} {a kS : Addr} {b : Bool} {vs : List Value} {e1 : Nat}
def IntAt (v : Value) (k : Int) : Prop := ∃ t, v = .int k t
theorem each_reads {h : Heap} : ∀ {ks : List Value} {kz : List Int}, EachIs IntAt ks kz → EachIs (fun v k => ∃ as, Reads h v k as) ks (kz.map PyData.int)
  | _, _, .nil => .nil
  | _, _, .cons ⟨t, e⟩ r => .cons ⟨[], by rw [e]; exact .int _ t⟩ (each_reads r)
theorem sort_end {keys : Array Value} {e : Nat} {kz : List Int} (nk : s.heap.get? kS = some (seqObj "list" keys e)) (na : s.heap.get? a = some (seqObj "list" #[] e1)) (hka : kS ≠ a) (hk : EachIs IntAt keys.toList kz) (hl : kz.length = vs.length) (hZ : vs.length ≤ sizeLine) (hu : A.units + 1 < cLine)
    (h : ∀ h' tk out c, (∀ x o, x ≠ a → x ≠ kS → s.heap.get? x = some o → h'.get? x = some o) → h'.get? a = some (seqObj "list" (List.toArray out) c) → KeyedOut b (kz.map PyData.int) vs out → P (.done (.ret .none)) { s with heap := h', toks := tk }) :
    wpAny (model prog w) A (ksk_end a b vs.toArray e1 (.ref kS) keys) P E s := by
  have hk' : EachIs (fun v k => ∃ as, Reads s.heap v k as) keys.toList (kz.map PyData.int) := each_reads hk
  have hal : AllAlike (kz.map PyData.int) := fun d hd d' hd' => by
    obtain ⟨i, _, rfl⟩ := List.mem_map.mp hd
    obtain ⟨j, _, rfl⟩ := List.mem_map.mp hd'
    rfl
  have hsk : Sortable (kz.map PyData.int) := .inr fun d hd => by
    obtain ⟨i, _, rfl⟩ := List.mem_map.mp hd
    exact ⟨fun z => (by cases z), fun xs z => (by cases z)⟩
  have hub : ∀ d, d ∈ kz.map PyData.int → A.units + d.depth < cLine := fun d hd => by
    obtain ⟨i, _, rfl⟩ := List.mem_map.mp hd
    simp only [PyData.depth]
    omega
  have hlk : keys.toList.length = (kz.map PyData.int).length := hk'.length
  rw [List.length_map, Array.length_toList] at hlk
  have kp : KeepsBut a (s.heap.update kS fun o => { o with data := .freed }) s.heap := fun x o hx e => by
    by_cases q : x = kS
    · subst q
      rw [TI.get?_update_freed] at e
      cases e
    · rwa [Heap.get?_update_other _ _ (Ne.symm q)] at e
  refine keyH_end (κ := dataKind s.heap (kz.map PyData.int)) kp (TI.get?_update_freed _ _) nk na hka (SortsAt.data hk' hal hsk hub) (by rw [hlk]; exact hl) hZ fun h' tk c k3 n3 => h h' tk _ c (fun x o hx hxk e => ?_) n3 ⟨s.heap, keys.toList, hal, rfl, hk'⟩
  exact k3 x o hx (by rw [Heap.get?_update_other _ _ (Ne.symm hxk)]; exact e)
theorem sort_rest {f : Value} {kz : List Int} (J : Nat → Shared → Prop) (hka : kS ≠ a) (hl : kz.length = vs.length) (hZ : vs.length ≤ sizeLine) (hu : A.units + 1 < cLine) (j0 : J 0 s) (nk : s.heap.get? kS = some (seqObj "list" #[] 0)) (na : s.heap.get? a = some (seqObj "list" #[] e1))
    (frame : ∀ i s1 h', J i s1 → (∀ x o, x ≠ kS → s1.heap.get? x = some o → h'.get? x = some o) → (∃ o, h'.get? kS = some o) → J i { s1 with heap := h' })
    (turn : ∀ i s1 v, J i s1 → vs[i]? = some v → wpAny (model prog w) A (call f [v]) (fun u s2 => IntAt u (kz.getD i 0) ∧ J (i + 1) s2 ∧ (∀ o, s1.heap.get? kS = some o → s2.heap.get? kS = some o) ∧ ∀ o, s1.heap.get? a = some o → s2.heap.get? a = some o) (fun _ _ => False) s1)
    (h : ∀ s1 h' tk out c, J vs.length s1 → (∀ x o, x ≠ a → x ≠ kS → s1.heap.get? x = some o → h'.get? x = some o) → h'.get? a = some (seqObj "list" (List.toArray out) c) → KeyedOut b (kz.map PyData.int) vs out → P (.done (.ret .none)) { s1 with heap := h', toks := tk }) :
    wpAny (model prog w) A (ksk_rest a f b vs.toArray e1 (.ref kS)) P E s := by
  unfold ksk_rest
  refine wpAny_bind (wpAny_rule ?_)
  first
    | rw [List.forIn_toArray]
    | (rw [← Array.forIn_toList]; simp only [List.toList_toArray])
    | rw [← Array.forIn_toList]
  refine wpAny_bind (ksk_fold (fun i s' => J i s' ∧ ∃ kA e, s'.heap.get? kS = some (seqObj "list" kA e) ∧ s'.heap.get? a = some (seqObj "list" #[] e1) ∧ EachIs IntAt kA.toList (kz.take i)) vs 0 s ⟨j0, #[], 0, nk, na, by rw [List.take_zero]; exact EachIs.nil⟩ ?step ?done)
  case step =>
    rintro j x s' hx ⟨hj, kA, e, nk', na', hk⟩
    simp only [Nat.zero_add] at hj hk ⊢
    have jl : j < vs.length := (List.getElem?_eq_some_iff.mp hx).1
    have hz : kA.size ≤ vs.length := by
      have h1 := hk.length
      rw [Array.length_toList, List.length_take] at h1
      omega
    refine wpAny_bind (wpAny_attempt (wpAny_mono (turn j s' x hj hx) (fun v s2 q => ?_) fun _ _ hF => hF.elim))
    obtain ⟨hv, j2, k2, a2⟩ := q
    try dsimp only
    have nk2 := k2 _ nk'
    have na2 := a2 _ na'
    have s1 := Heap.SameBut.update s2.heap kS (Obj.mapSeq (·.push v))
    obtain ⟨c2, hc2⟩ : ∃ c2, (s2.heap.update kS (Obj.mapSeq (·.push v))).get? kS = some (seqObj "list" (kA.push v) c2) := ⟨_, get?_update_seq nk2 (·.push v)⟩
    have ek : kz.take (j + 1) = kz.take j ++ [kz.getD j 0] := by
      rw [List.take_add_one, List.getElem?_eq_getElem (by omega), List.getD_eq_getElem?_getD, List.getElem?_eq_getElem (by omega)]
      rfl
    have ea : (kA.push v).toList = kA.toList ++ [v] := by simp
    refine wpAny_bind (listUpdate_at nk2 rfl ?_ (Nat.le_trans hz hZ) (Nat.le_trans (Nat.le_of_eq (Array.size_push ..)) (Nat.succ_le_succ (Nat.le_trans hz hZ))))
    refine wpAny_pure ⟨rfl, frame _ s2 _ j2 (fun y o hy ey => (s1.2 y hy).trans ey) ⟨_, hc2⟩, kA.push v, c2, hc2, (s1.2 a hka.symm).trans na2, ?_⟩
    rw [ea, ek]
    exact each_snoc hv hk
  case done =>
    rintro s' ⟨hj, kA, e, nk', na', hk⟩
    have e3 : kz.take (0 + vs.length) = kz := List.take_of_length_le (by omega)
    rw [e3] at hk
    rw [Nat.zero_add] at hj
    try dsimp only
    refine wpAny_bind (listItems_at nk' rfl ?_)
    exact sort_end nk' na' hka hk hl hZ hu fun h' tk out c k1 n1 ko => h s' h' tk out c hj k1 n1 ko
end
theorem hok_add {P : Program} {w : World} {H : Hp} {h : Heap} {a : Addr} {o : HO} (x : HOk P w H h) (hn : H a = none) (new : ObjOk P w (upd H a o) h a o) : HOk P w (upd H a o) h := fun b u e => by
  by_cases hb : b = a
  · subst hb; rw [upd_same] at e; cases e; exact new
  · rw [upd_ne hb] at e
    exact (x b u e).stay (fun c v _ q => q) (fun c q => by rw [upd_ne (ne_of_none q hn)]; exact q) fun c xs q => by rw [upd_ne (ne_of_none q hn)]; exact q
/-- the sorted values -/
def sortV (kz : List Int) (xs : List V) : List V := ((xs.zip kz).mergeSort fun p q => decide (p.2 ≤ q.2)).map (·.1)
def rSortMet (K : PySem.W.Frag) (g : Addr) (sp : Sp) : List V → List V → Hp → VK → Prop := fun vs zs H Q => ∃ (l q a0 : Addr) (xs : List V) (kz : List Int) (W : Nat → Hp → Prop), vs = [.ref l] ∧ zs = [.ref q] ∧ SqL K H l xs ∧ kz.length = xs.length ∧ W 0 H ∧
  (∀ i x H1, W i H1 → xs[i]? = some x → H1 q = some (.met g a0) ∧ sp [.ref a0, x] H1 (fun v H2 => v = .int (kz.getD i 0) ∧ W (i + 1) H2) (fun _ _ _ => False)) ∧
  ∀ H1, W xs.length H1 → ∀ p, H1 p = none → Q (.ref p) (upd H1 p (.lst (sortV kz xs)))
theorem vals_each {R : V × Int → Value → Prop} : ∀ {out : List Value} {bs : List (V × Int)}, EachIs (fun u (p : V × Int) => RelV p.1 u) out bs → Vals (bs.map (·.1)) out
  | _, _, .nil => .nil
  | _, _, .cons r t => .cons r (vals_each (R := R) t)
theorem each_vals : ∀ {xs : List V} {us : List Value} {kz : List Int}, Vals xs us → kz.length = xs.length → EachIs (fun u (p : V × Int) => RelV p.1 u) us (xs.zip kz)
  | _, _, [], .nil, _ => .nil
  | _, _, _ :: _, .nil, h => by cases h
  | _, _, [], .cons _ _, h => by cases h
  | _, _, k :: kz, .cons r t, h => .cons r (each_vals t (by simpa using h))
section
variable {X : Cx} {k : Nat} {g : Addr} {fd : FuncData} {ps : List Str} {sp : Sp}
theorem cr_sortMet (F : FnG X.prog X.w X.K X.mg X.base k g fd ps sp) (hb : L2.Binds X.K fd ps []) (hgd : X.A.guards = some []) (hr : Room (k + 2) X.A) : CallRK X (.builtin "sorted") [Str.ofString "key"] (rSortMet X.K g sp) := by
  intro pins s σ H vs zs us ws Q I r rz h
  obtain ⟨l, q, a0, xs, kz, W, rfl, rfl, hs, hlen, w0, turn, fin⟩ := h
  obtain rfl := Vals.ref1 r
  obtain ⟨w1, rfl, e1⟩ := vals1 rz
  obtain rfl : w1 = Value.ref q := e1
  obtain ⟨its, rv, hl, hz⟩ := I.list hs
  have il := rv.length
  have hZ : its.length ≤ sizeLine := by rw [← il]; exact hz
  refine sorted_of_sort hl.isList hZ (PyProof.Rows.ksk_s1 _ _) (fun _ => PyProof.Rows.ksk_l1 _ _) fun E' => ?_
  show wpAny _ _ (Builtin.«list.sort» ⟨[.ref (s.heap.objs.size + 1)], [(Str.ofString "key", .ref q)]⟩) _ _ _
  rw [ksk_t1]
  have g0 : s.heap.objs.size ≤ s.heap.objs.size + 1 := Nat.le_succ _
  generalize ea : s.heap.objs.size + 1 = a at g0
  have ho : (copyHeap s.heap its).get? a = some (seqObj "list" its.toArray 0) := by rw [← ea]; exact copyHeap_at s.heap its
  have ha : a < (copyHeap s.heap its).objs.size := Heap.lt_size ho
  obtain ⟨e1, ho1⟩ : ∃ e1, ((copyHeap s.heap its).update a (Obj.mapSeq fun _ => (#[] : Array Value))).get? a = some (seqObj "list" #[] e1) := ⟨_, get?_update_seq ho fun _ => #[]⟩
  unfold ksk_tree
  refine wpAny_bind (listItems_at ho rfl ?_)
  refine wpAny_bind (listUpdate_at ho rfl ?_ (by rw [List.size_toArray]; exact hZ) (Nat.zero_le _))
  refine wpAny_bind (seqEpoch_at ho1 rfl ?_)
  refine wpAny_bind (wpAny_newTuple ?_ (by show its.length ≤ _; exact hZ))
  refine wpAny_bind (wpAny_newList ?_ (Nat.zero_le _))
  refine wpAny_holding ?_
  have hz1 : (((copyHeap s.heap its).update a (Obj.mapSeq fun _ => (#[] : Array Value))).push (seqObj "tuple" its.toArray 0)).objs.size = (copyHeap s.heap its).objs.size + 1 := by rw [size_push', Heap.size_update]
  generalize ek : (((copyHeap s.heap its).update a (Obj.mapSeq fun _ => (#[] : Array Value))).push (seqObj "tuple" its.toArray 0)).objs.size = kS at hz1
  have na3 : ((((copyHeap s.heap its).update a (Obj.mapSeq fun _ => (#[] : Array Value))).push (seqObj "tuple" its.toArray 0)).push (seqObj "list" #[] 0)).get? a = some (seqObj "list" #[] e1) := Heap.get?_push_of_some _ (Heap.get?_push_of_some _ ho1)
  have nk3 : ((((copyHeap s.heap its).update a (Obj.mapSeq fun _ => (#[] : Array Value))).push (seqObj "tuple" its.toArray 0)).push (seqObj "list" #[] 0)).get? kS = some (seqObj "list" #[] 0) := by rw [← ek]; exact Heap.get?_push_size _ rfl
  have kept : ∀ b o, s.heap.get? b = some o → ((((copyHeap s.heap its).update a (Obj.mapSeq fun _ => (#[] : Array Value))).push (seqObj "tuple" its.toArray 0)).push (seqObj "list" #[] 0)).get? b = some o := fun b o e => by
    refine Heap.get?_push_of_some _ (Heap.get?_push_of_some _ ?_)
    rw [Heap.get?_update_other _ _ (Nat.ne_of_gt (Nat.lt_of_lt_of_le (Heap.lt_size e) g0))]
    exact copyHeap_old e
  have hka : kS ≠ a := by omega
  have leS : s.heap.objs.size ≤ kS := Nat.le_trans g0 (Nat.le_of_lt (Nat.lt_of_lt_of_le ha (by rw [hz1]; exact Nat.le_succ _)))
  generalize ((((copyHeap s.heap its).update a (Obj.mapSeq fun _ => (#[] : Array Value))).push (seqObj "tuple" its.toArray 0)).push (seqObj "list" #[] 0)) = h3 at na3 nk3 kept
  have fpA : FpOk X pins H a := I.fpOk g0 (I.hok.fresh g0)
  have fpK : FpOk X pins H kS := I.fpOk leS (I.hok.fresh leS)
  have nofr : ∀ f, s.heap.objs.size ≤ f → f ∉ frs X.stack := fun f hf z => by
    rcases List.mem_cons.mp (I.stkSub _ z) with e | e
    · have h1 := I.lt
      rw [← e] at h1
      exact Nat.lt_irrefl _ (Nat.lt_of_lt_of_le h1 hf)
    · exact absurd e (I.nofs hf)
  have newS : ∀ b o, s.heap.get? b = some o → b ≠ a ∧ b ≠ kS := fun b o e => ⟨Nat.ne_of_lt (Nat.lt_of_lt_of_le (Heap.lt_size e) g0), Nat.ne_of_lt (Nat.lt_of_lt_of_le (Heap.lt_size e) leS)⟩
  refine sort_rest (kS := kS) (kz := kz) (s := { s with heap := h3 }) (fun i s1 => ∃ H1, s1.os = s.os ∧ AllBare s1.gens ∧ Un (frs X.stack) [] H H1 s.heap s1.heap ∧ HOk X.prog X.w H1 s1.heap ∧ W i H1 ∧ H1 a = none ∧ H1 kS = none ∧ (∃ o, s1.heap.get? a = some o) ∧ ∃ o, s1.heap.get? kS = some o) hka (by rw [hlen, il]) hZ (by have := hu_of hr.in1.in1; exact this)
    ⟨H, rfl, I.bare, Un.kept kept, I.hok.kept kept, w0, fpA.1, fpK.1, ⟨_, na3⟩, ⟨_, nk3⟩⟩ nk3 na3 ?_ ?_ ?_
  · rintro i s1 h' ⟨H1, os, bare, un, hok, w1, n1, n2, ⟨oa, xa⟩, _⟩ k1 xk
    have I1 : Inv X pins σ H1 s1 := I.call' os un hok bare (fun b z => absurd z (by simp))
    have I2 := I1.turnedL (h' := h') (t' := s1.toks) (ch := [kS]) (fun b o hb q => k1 b o (by simpa using hb) q) (fun b hb => by rw [List.mem_singleton.mp hb]; exact ⟨n2, fpK.2⟩)
    exact ⟨H1, os, bare, ⟨fun b o e n hb hx => k1 b o (newS b o e).2 (un.keep b o e n hb hx), fun b o e n hb hx => (un.slot b o e n hb hx).imp fun sl q => k1 b _ (newS b o e).2 q, un.free, fun b o e hx => (un.there b o e hx).imp fun o' q => k1 b _ (newS b o e).2 q, un.tups, un.frzs, un.tbls⟩, I2.hok, w1, n1, n2, ⟨oa, k1 a oa hka.symm xa⟩, xk⟩
  · rintro i s1 v ⟨H1, os1, bare1, un1, hok1, w1, n1, n2, ⟨oa, xa⟩, ⟨ok, xk⟩⟩ hv
    have I1 : Inv X pins σ H1 s1 := I.call' os1 un1 hok1 bare1 (fun b z => absurd z (by simp))
    have hi : i < its.length := (List.getElem?_eq_some_iff.mp hv).1
    obtain ⟨x, hx⟩ : ∃ x, xs[i]? = some x := ⟨_, List.getElem?_eq_getElem (by omega)⟩
    obtain ⟨u, hu, ru⟩ := rv.get hx
    rw [hv] at hu
    cases hu
    obtain ⟨hm, hsp⟩ := turn i x H1 w1 hx
    have bt := hb s1 [.ref a0, v] I1.kIn (F.len _ _ _ _ hsp)
    rw [List.append_nil] at bt
    refine wpAny_call (codeAny_mono (call_met I1 hm (F.run X.A.in1.in1 X.stack s1 H1 ⟨[.ref a0, v], []⟩ [.ref a0, v] [.ref a0, x] _ _ hgd hr.in1.in1 I1.env0.in1.in1 bt (.cons rfl (.cons ru .nil)) hsp)) fun res s2 y => ?_)
    match res, y with
    | .error e, y => obtain ⟨_, _, _, _, _, _, _, _, _, _, _, _, hE⟩ := y; exact hE.elim
    | .ok .next, y => exact False.elim y
    | .ok .brk, y => exact False.elim y
    | .ok .cont, y => exact False.elim y
    | .ok (.ret u), y =>
      obtain ⟨v2, H2, os, bare, un, hok, r2, rfl, w2⟩ := (show CE X.stack X.prog X.w H1 s1 _ u s2 from y)
      have ka := un.keep a oa xa n1 (nofr a g0) (by simp)
      have kk := un.keep kS ok xk n2 (nofr kS leS) (by simp)
      exact ⟨r2, ⟨H2, os.trans os1, bare, un1.trans un, hok, w2, un.free a oa xa n1 (by simp), un.free kS ok xk n2 (by simp), ⟨oa, ka⟩, ⟨ok, kk⟩⟩, fun o e => by rw [xk] at e; cases e; exact kk, fun o e => by rw [xa] at e; cases e; exact ka⟩
  · rintro s1 h' tk out c ⟨H1, os1, bare1, un1, hok1, w1, n1, n2, ⟨oa, xa⟩, ⟨ok, xk⟩⟩ k1 n3 ko
    have I1 : Inv X pins σ H1 s1 := I.call' os1 un1 hok1 bare1 (fun b z => absurd z (by simp))
    have off : ∀ {b}, b ∉ [a, kS] → b ≠ a ∧ b ≠ kS := fun {b} hb => by simpa using hb
    have I2 := I1.turnedL (h' := h') (t' := tk) (ch := [a, kS]) (fun b o hb q => k1 b o (off hb).1 (off hb).2 q) (fun b hb => by
      rcases List.mem_cons.mp hb with e | e
      · rw [e]; exact ⟨n1, fpA.2⟩
      · rw [List.mem_singleton.mp e]; exact ⟨n2, fpK.2⟩)
    have ez : (xs.zip kz).map (fun p : V × Int => PyData.int p.2) = kz.map PyData.int := by
      have : (xs.zip kz).map Prod.snd = kz := by rw [List.map_snd_zip (by omega)]
      rw [← this, List.map_map, this]
      rfl
    have each := keyedOut_each (R := fun (u : Value) (p : V × Int) => RelV p.1 u) (bs := xs.zip kz) (fun p => PyData.int p.2) (by rw [ez]; exact ko) (each_vals rv hlen)
    rw [dataLe_int] at each
    have vals := vals_each (R := fun _ _ => True) each
    have hlo : (sortV kz xs).length ≤ sizeLine := by
      unfold sortV
      rw [List.length_map, List.length_mergeSort, List.length_zip]
      omega
    have new : ObjOk X.prog X.w (upd H1 a (.lst (sortV kz xs))) h' a (.lst (sortV kz xs)) := ⟨hlo, out, c, vals, n3⟩
    have hok := hok_add I2.hok n1 new
    refine ⟨rfl, .ref a, upd H1 a (.lst (sortV kz xs)), I.call' (ch := []) (s' := { s1 with heap := h', toks := tk }) os1 ?_ hok bare1 (fun b z => absurd z (by simp)), rfl, fin H1 (by rw [il]; exact w1) a n1⟩
    exact ⟨fun b o e n hb hx => k1 b o (newS b o e).1 (newS b o e).2 (un1.keep b o e n hb hx), fun b o e n hb hx => (un1.slot b o e n hb hx).imp fun sl q => k1 b _ (newS b o e).1 (newS b o e).2 q,
      fun b o e n hx => by rw [upd_ne (newS b o e).1]; exact un1.free b o e n hx, fun b o e hx => (un1.there b o e hx).imp fun o' q => k1 b _ (newS b o e).1 (newS b o e).2 q,
      fun b ys e => by rw [upd_ne (ne_of_none (un1.tups b ys e) n1)]; exact un1.tups b ys e, fun b o u e => by rw [upd_ne (ne_of_none (un1.frzs b o u e) n1)]; exact un1.frzs b o u e,
      fun b ps e => (un1.tbls b ps e).imp fun more q => by rw [upd_ne (ne_of_none q n1)]; exact q⟩
end
end L2.DL
set_option Elab.async false
set_option linter.all false
set_option autoImplicit false
set_option maxRecDepth 100000
set_option maxHeartbeats 1000000
namespace L2.DL
open PySem PySem.Spec PyProof.Rows
structure CalleeB (P : Program) (w : World) (K : PySem.W.Frag) (mg : Str → Option Value) (base : Heap) (k : Nat) (C : Addr) (m : Str) (sp : DSp) : Prop where
  cl : L2.Cls K C
  ex : ∃ (f : Addr) (fd : FuncData) (ps : List Str), BMeth K C m f ∧ FnG P w K mg base k f fd ps (spD K sp) ∧ L2.Binds K fd ps []
def tMet (to : TE) (C g : Addr) (m : Str) : TE := fun σ H Q => to σ H fun v H1 => ∃ a dx fs, v = .ref a ∧ H1 a = some (.ins C dx fs) ∧ fs.lookup m = none ∧ ∀ q, H1 q = none → Q (.ref q) (upd H1 q (.met g a))
theorem pe_met {X : Cx} {o : Expr} {to : TE} {C g : Addr} {m : Str} {pos : Pos} (ho : PE X o to) (c : L2.Cls X.K C) (k : BMeth X.K C m g) (hb : attributeBase o m X.env (eval o X.env) = eval o X.env) : PE X (.Attribute o m pos) (tMet to C g m) := by
  refine ⟨fun pins s σ H Q I h => ?_⟩
  refine attr_of hb (thn (ho.run pins s σ H _ I h) fun u s1 ⟨x, H1, I1, rx, a, dx, fs, ex, ea, l, q⟩ => ?_)
  subst ex
  exact op_getbound I1 ea c k l rx fun p hp => q p hp
def dSortBy (C : Addr) (m : Str) (sp : DSp) (te to : DTE) : DTE := fun ρ Q => te ρ fun r1 ρ1 => ∃ xs, fz r1 = .lst xs ∧ to ρ1 fun r2 ρ2 => ∃ fs, ∃ key : D → Int, fz r2 = .ins C fs ∧ fs.lookup m = none ∧
  (∀ d, d ∈ xs → ∀ R : Res → Prop, R (.v (.int (key d))) → sp [.ins C fs, d] R (fun _ _ => False)) ∧ Q (.own (xs.mergeSort fun a b => decide (key a ≤ key b))) ρ2
theorem reps_pairs {K : PySem.W.Frag} {S : Src} {F : Hp} : ∀ (l : List (V × D)), (∀ p, p ∈ l → Rep K S F p.1 p.2) → Reps K S F (l.map (·.1)) (l.map (·.2))
  | [], _ => .nil
  | p :: l, h => .cons (h p List.mem_cons_self) (reps_pairs l fun q hq => h q (List.mem_cons_of_mem _ hq))
theorem reps_zip {K : PySem.W.Frag} {S : Src} {F : Hp} : ∀ {vs : List V} {ds : List D}, Reps K S F vs ds → (∀ p, p ∈ vs.zip ds → Rep K S F p.1 p.2) ∧ (vs.zip ds).map (·.2) = ds ∧ ∀ key : D → Int, (vs.zip ds).map (fun p => (p.1, key p.2)) = vs.zip (ds.map key)
  | _, _, .nil => ⟨fun _ h => (nomatch h), rfl, fun _ => rfl⟩
  | _, _, .cons r t => by
    obtain ⟨a, b, c⟩ := reps_zip t
    refine ⟨fun p hp => ?_, ?_, fun key => ?_⟩
    · rw [List.zip_cons_cons] at hp
      rcases List.mem_cons.mp hp with e | e
      · rw [e]; exact r
      · exact a p e
    · rw [List.zip_cons_cons, List.map_cons, b]
    · rw [List.zip_cons_cons, List.map_cons, List.map_cons, List.zip_cons_cons, c key]
theorem reps_sorted {K : PySem.W.Frag} {S : Src} {F : Hp} {vs : List V} {ds : List D} (key : D → Int) (r : Reps K S F vs ds) : Reps K S F (sortV (ds.map key) vs) (ds.mergeSort fun a b => decide (key a ≤ key b)) := by
  obtain ⟨h1, h2, h3⟩ := reps_zip r
  have e1 : sortV (ds.map key) vs = ((vs.zip ds).mergeSort fun p q => decide (key p.2 ≤ key q.2)).map (·.1) := by
    unfold sortV
    rw [← h3 key, ← List.map_mergeSort (f := fun p : V × D => (p.1, key p.2)) (r := fun p q => decide (key p.2 ≤ key q.2)) (s := fun p q => decide (p.2 ≤ q.2)) (fun _ _ _ _ => rfl), List.map_map]
    rfl
  have e2 : ds.mergeSort (fun a b => decide (key a ≤ key b)) = ((vs.zip ds).mergeSort fun p q => decide (key p.2 ≤ key q.2)).map (·.2) := by
    rw [List.map_mergeSort (f := fun p : V × D => p.2) (r := fun p q => decide (key p.2 ≤ key q.2)) (s := fun a b => decide (key a ≤ key b)) (fun _ _ _ _ => rfl), h2]
  rw [e1, e2]
  exact reps_pairs _ fun p hp => h1 p ((List.mergeSort_perm _ _).mem_iff.mp hp)
section
variable {c : C} {X : Cx} {o e : Expr} {te to : DTE} {k : Nat} {m : Str} {sp : DSp} {Cl : Addr} {p pos apos kpos : Pos}
theorem de_sortBy (B : CalleeB X.prog X.w X.K X.mg X.base k Cl m sp) (hK : X.K = c.K) (hgd : X.A.guards = some []) (hr : Room (k + 2) X.A) (hg : Gl X "sorted") (hm : X.mg "sorted" = none) (he : PE X e (liftE c te)) (ho : PE X o (liftE c to)) (hb : attributeBase o m X.env (eval o X.env) = eval o X.env := by rfl)
    (hv : bootBuiltins "sorted" = some (.builtin "sorted") := by decide +kernel) (hdb : (("sorted" : Str) == ("__debug__" : Str)) = false := by decide) (hn : ("sorted" : Str) ≠ "__name__" := by decide)
    (s1 : backTo pos (starEach [e] X.env) = (false, eval e X.env) :: backTo pos (starEach [] X.env) := by rfl) (s2 : (backTo pos (starEach [e] X.env)).any (·.1) = false := by rfl)
    (s3 : (backToKw pos (keywordEach [⟨some "key", .Attribute o m apos, kpos⟩] X.env)).all (·.1.isSome) = true := by rfl) (s4 : (backToKw pos (keywordEach [⟨some "key", .Attribute o m apos, kpos⟩] X.env)).any (·.1.isNone) = false := by rfl)
    (s5 : (backToKw pos (keywordEach [⟨some "key", .Attribute o m apos, kpos⟩] X.env)).filterMap (·.1) = [Str.ofString "key"] := by rfl) (s6 : starEach [e] X.env = (false, eval e X.env) :: starEach [] X.env := by rfl) :
    PE X (.Call (.Name "sorted" p) [e] [⟨some "key", .Attribute o m apos, kpos⟩] pos) (liftE c (dSortBy Cl m sp te to)) := by
  obtain ⟨g, fd, ps, bm, F, hbd⟩ := B.ex
  refine PE_imp (pe_callBK (cr_sortMet F hbd hgd hr) hg hm hv (pa_cons (froze he) pa_nil s6) (pk_cons (pe_met (froze ho) B.cl bm hb) pk_nil) hn hdb s1 s2 s3 s4 s5) fun σ H Q ⟨F0, ρ, QD, sr, h, kk⟩ => ?_
  refine ⟨F0, ρ, (fun d ρ1 => ∃ xs, d = .lst xs ∧ to ρ1 fun r2 ρ2 => ∃ fs, ∃ key : D → Int, fz r2 = .ins Cl fs ∧ fs.lookup m = none ∧ (∀ d, d ∈ xs → ∀ R : Res → Prop, R (.v (.int (key d))) → sp [.ins Cl fs, d] R (fun _ _ => False)) ∧ QD (.own (xs.mergeSort fun a b => decide (key a ≤ key b))) ρ2), sr, h, fun v H1 F1 ρ1 d t1 st1 rv ⟨xs, hd, hto⟩ => ?_⟩
  subst hd
  refine ⟨F1, ρ1, (fun d2 ρ2 => ∃ fs, ∃ key : D → Int, d2 = .ins Cl fs ∧ fs.lookup m = none ∧ (∀ d, d ∈ xs → ∀ R : Res → Prop, R (.v (.int (key d))) → sp [.ins Cl fs, d] R (fun _ _ => False)) ∧ QD (.own (xs.mergeSort fun a b => decide (key a ≤ key b))) ρ2), t1, hto, fun v2 H2 F2 ρ2 d2 t2 st2 rv2 ⟨fs, key, hd2, hl, hsp, q⟩ => ?_⟩
  subst hd2
  cases rv with
  | lst h1 r1 =>
  rename_i l vs
  cases rv2 with
  | ins g1 g2 g3 =>
  rename_i a dx fv
  refine ⟨a, dx, fv, rfl, t2.sub _ _ g1, lookup_none g2 hl, fun qa hq => ?_⟩
  have pe0 : PExt F2 H2 F2 (upd H2 qa (.met g a)) := PExt.own t2.sub hq
  have t3 := pe0.sr t2
  have st3 := (st1.trans st2).trans pe0.stp
  have nS := t2.newS hq
  have nO := t2.newO hq
  have rlen := r1.length
  refine ⟨l, qa, a, vs, xs.map key, (fun _ H' => ∃ F', Le F2 F' ∧ SR c F' H' σ ρ2 ∧ Stp c σ F0 H ρ F' H' ρ2 ∧ H' qa = some (.met g a)), rfl, rfl, by rw [hK]; exact (st2.ff.lst h1).sq t3.sub, by rw [List.length_map]; exact rlen.symm, ⟨F2, Le.refl _, t3, st3, upd_same⟩, ?_, ?_⟩
  · rintro i x H3 ⟨F3, le, t4, st4, hm4⟩ hx
    refine ⟨hm4, ?_⟩
    have hi : i < vs.length := (List.getElem?_eq_some_iff.mp hx).1
    obtain ⟨d, hd⟩ : ∃ d, xs[i]? = some d := ⟨_, List.getElem?_eq_getElem (by omega)⟩
    obtain ⟨x', hx', rx⟩ := r1.get hd
    rw [hx] at hx'
    cases hx'
    have ek : (xs.map key).getD i 0 = key d := by rw [List.getD_eq_getElem?_getD, List.getElem?_map, hd]; rfl
    rw [ek, hK]
    refine ⟨c.S, F3, [.ins Cl fs, d], (fun r => r = .v (.int (key d))), _, t4.sub', t4.src, t4.srcF, .cons (.ins (le _ _ g1) g2 (Reps.mono le g3)) (.cons (rx.mono (st2.ff.trans le)) .nil), hsp d (List.mem_of_getElem? hd) _ rfl, fun v3 H4 F4 r pe rr qr => ?_, fun _ _ _ _ _ _ _ z => z.elim⟩
    subst qr
    have rv3 : Rep c.K c.S F4 v3 (.int (key d)) := rr
    cases rv3
    have stp := pe.stp t4
    exact ⟨rfl, F4, le.trans stp.ff, pe.sr t4, st4.trans stp, stp.hh qa _ (kn_of hm4 (fun _ z => by cases z)) nS nO⟩
  · rintro H3 ⟨F3, le, t4, st4, hm4⟩ p hp
    have pe : PExt F3 H3 F3 (upd H3 p (.lst (sortV (xs.map key) vs))) := PExt.own t4.sub hp
    exact kk (.ref p) _ F3 ρ2 (.own _) (pe.sr t4) (st4.trans pe.stp) ⟨p, _, rfl, upd_same, free_of t4.sub hp, .lst (reps_sorted key (Reps.mono (st2.ff.trans le) r1)), t4.newS hp, t4.newO hp, t4.newH hp⟩ (New.back st4 t4 (r := .own (xs.mergeSort fun a b => decide (key a ≤ key b))) ⟨p, rfl, kn_none hp⟩) q
end
def bmB (C m : Str) (K : PySem.W.Frag) : Bool := He.eqO (PySem.W.specialIn K (.ref (He.fAd K (C, some m))) "__get__") (some (some (.builtin "function.__get__"))) && (decide (PySem.W.takesIn K (.ref (He.fAd K (C, some m))) = some false) && PySem.W.fnIn K (He.fAd K (C, some m)))
theorem bm_ok {C m : Str} {K : PySem.W.Frag} (h : bmB C m K = true) (mt : Meth K (He.ga K C) m (He.fAd K (C, some m))) (hc : PySem.W.copiedNames.contains m = false := by decide) : BMeth K (He.ga K C) m (He.fAd K (C, some m)) := by
  unfold bmB at h
  simp only [Bool.and_eq_true] at h
  exact ⟨mt, He.eqO_ok h.1, of_decide_eq_true h.2.1, hc, h.2.2⟩
end L2.DL
set_option Elab.async false
set_option linter.all false
set_option autoImplicit false
set_option maxRecDepth 100000
set_option maxHeartbeats 4000000
namespace K78
open PySem PySem.Spec PyProof.Rows L2 L2.DL
def top (i : Nat) : Stmt := PySem.Challenge.pw_oddcrowds_k78_whole_places_by_voices.main.body.getD i (.Pass ⟨0, 0, 0, 0⟩)
abbrev s_l_source : Stmt := top 21
abbrev s_Standing_names : Stmt := inClass (top 15) 3
abbrev s_is_word : Stmt := top 10
abbrev s_Standing_has_name : Stmt := inClass (top 15) 4
abbrev s_Standing_person : Stmt := inClass (top 15) 5
abbrev s_Standing_place : Stmt := inClass (top 15) 6
abbrev s_Standing_line : Stmt := inClass (top 15) 10
abbrev s_Standing_voice : Stmt := inClass (top 15) 7
abbrev s_changes_by_sums : Stmt := top 17
abbrev s_places_by_voices : Stmt := top 19
abbrev s_is_integer : Stmt := top 9
abbrev s_is_row : Stmt := top 11
abbrev s_wrong_person : Stmt := top 13
abbrev s_wrong_people : Stmt := top 14
abbrev s_Standing_init : Stmt := inClass (top 15) 0
abbrev s_l_made : Stmt := top 26
abbrev s_l_pick : Stmt := top 22
abbrev s_l_mixed : Stmt := top 24
abbrev s_wished_voices : Stmt := top 18
abbrev s_l_at : Stmt := top 29
abbrev s_w_spots : Stmt := top 28
abbrev s_l_turned_voices : Stmt := top 30
abbrev s_l_fewest : Stmt := top 31
abbrev s_l_names : Stmt := top 25
abbrev s_l_of : Stmt := top 23
abbrev s_l_world : Stmt := top 27
abbrev s_law : Stmt := top 32
abbrev s_UnknownName_init : Stmt := inClass (top 5) 0
def fn : List He.DefD := [
  ⟨("_law_source", none), "_law_source", "_law_source", defArgs s_l_source, defBody s_l_source, defScope s_l_source, [], []⟩,
  ⟨("Standing", some "names"), "names", "Standing.names", defArgs s_Standing_names, defBody s_Standing_names, defScope s_Standing_names, [], []⟩,
  ⟨("is_word", none), "is_word", "is_word", defArgs s_is_word, defBody s_is_word, defScope s_is_word, [], []⟩,
  ⟨("Standing", some "has_name"), "has_name", "Standing.has_name", defArgs s_Standing_has_name, defBody s_Standing_has_name, defScope s_Standing_has_name, [], []⟩,
  ⟨("Standing", some "person"), "person", "Standing.person", defArgs s_Standing_person, defBody s_Standing_person, defScope s_Standing_person, [], []⟩,
  ⟨("Standing", some "place"), "place", "Standing.place", defArgs s_Standing_place, defBody s_Standing_place, defScope s_Standing_place, [], []⟩,
  ⟨("Standing", some "line"), "line", "Standing.line", defArgs s_Standing_line, defBody s_Standing_line, defScope s_Standing_line, [], []⟩,
  ⟨("Standing", some "voice"), "voice", "Standing.voice", defArgs s_Standing_voice, defBody s_Standing_voice, defScope s_Standing_voice, [], []⟩,
  ⟨("changes_by_sums", none), "changes_by_sums", "changes_by_sums", defArgs s_changes_by_sums, defBody s_changes_by_sums, defScope s_changes_by_sums, [], []⟩,
  ⟨("places_by_voices", none), "places_by_voices", "places_by_voices", defArgs s_places_by_voices, defBody s_places_by_voices, defScope s_places_by_voices, [], []⟩,
  ⟨("is_integer", none), "is_integer", "is_integer", defArgs s_is_integer, defBody s_is_integer, defScope s_is_integer, [], []⟩,
  ⟨("is_row", none), "is_row", "is_row", defArgs s_is_row, defBody s_is_row, defScope s_is_row, [], []⟩,
  ⟨("wrong_person", none), "wrong_person", "wrong_person", defArgs s_wrong_person, defBody s_wrong_person, defScope s_wrong_person, [], []⟩,
  ⟨("wrong_people", none), "wrong_people", "wrong_people", defArgs s_wrong_people, defBody s_wrong_people, defScope s_wrong_people, [], []⟩,
  ⟨("Standing", some "__init__"), "__init__", "Standing.__init__", defArgs s_Standing_init, defBody s_Standing_init, defScope s_Standing_init, [], []⟩,
  ⟨("_law_made", none), "_law_made", "_law_made", defArgs s_l_made, defBody s_l_made, defScope s_l_made, [], []⟩,
  ⟨("_law_pick", none), "_law_pick", "_law_pick", defArgs s_l_pick, defBody s_l_pick, defScope s_l_pick, [], []⟩,
  ⟨("_law_mixed", none), "_law_mixed", "_law_mixed", defArgs s_l_mixed, defBody s_l_mixed, defScope s_l_mixed, [], []⟩,
  ⟨("wished_voices", none), "wished_voices", "wished_voices", defArgs s_wished_voices, defBody s_wished_voices, defScope s_wished_voices, [], []⟩,
  ⟨("_law_at", none), "_law_at", "_law_at", defArgs s_l_at, defBody s_l_at, defScope s_l_at, [], []⟩,
  ⟨("_law_spots", none), "_law_spots", "_law_spots", defArgs s_w_spots, defBody s_w_spots, defScope s_w_spots, [], []⟩,
  ⟨("_law_turned_voices", none), "_law_turned_voices", "_law_turned_voices", defArgs s_l_turned_voices, defBody s_l_turned_voices, defScope s_l_turned_voices, [], []⟩,
  ⟨("_law_fewest", none), "_law_fewest", "_law_fewest", defArgs s_l_fewest, defBody s_l_fewest, defScope s_l_fewest, [], []⟩,
  ⟨("_law_names", none), "_law_names", "_law_names", defArgs s_l_names, defBody s_l_names, defScope s_l_names, [], []⟩,
  ⟨("_law_of", none), "_law_of", "_law_of", defArgs s_l_of, defBody s_l_of, defScope s_l_of, [], []⟩,
  ⟨("_law_world", none), "_law_world", "_law_world", defArgs s_l_world, defBody s_l_world, defScope s_l_world, [], []⟩,
  ⟨("law", none), "law", "law", defArgs s_law, defBody s_law, defScope s_law, [], []⟩]
def fa : List He.Fa := [.glo "_law_source", .glo "is_word", .glo "changes_by_sums", .glo "places_by_voices", .glo "is_integer", .glo "is_row", .glo "wrong_person", .glo "wrong_people", .glo "_law_made", .glo "_law_pick", .glo "_law_mixed", .glo "wished_voices", .glo "_law_at", .glo "_law_spots", .glo "_law_turned_voices", .glo "_law_fewest", .glo "_law_names", .glo "_law_of", .glo "_law_world", .glo "law", .glo "Standing", .cls "Standing", .mkr "Standing", .noat "Standing" "own_people", .glo "UnknownName", .meth "Standing" "names", .meth "Standing" "has_name", .meth "Standing" "person", .meth "Standing" "place", .meth "Standing" "line", .meth "Standing" "voice", .free "abs", .free "all", .free "bool", .free "enumerate", .free "int", .free "isinstance", .free "len", .free "list", .free "max", .free "min", .free "range", .free "repr", .free "sorted", .free "str", .free "sum", .free "tuple", .free "zip", .str "FIGURES" ("0123456789" : Str), .str "LETTERS" ("abcdefghijklmnopqrstuvwxyz" : Str)]
abbrev R : PySem.W.OpenRow := PySem.W.OpenLaw.row PySem.Challenge.rw_oddcrowds_k78_whole_places_by_voices
def gs : List (PySem.W.Frag → Bool) := [insB "Standing", exbB "UnknownName" [.type "LookupError", .type "Exception", .type "BaseException", .type "object"] "LookupError.__new__" "LookupError", exiB "UnknownName" "UnknownName.__init__" PySem.Challenge.pw_oddcrowds_k78_whole_places_by_voices.main.file "LookupError.__init__", tkB "UnknownName" "name", noB "super", bmB "Standing" "place"]
def xs : List ExD := [⟨"UnknownName", "UnknownName.__init__", defArgs s_UnknownName_init, defBody s_UnknownName_init, defScope s_UnknownName_init⟩]
abbrev hk : PySem.W.Hook := hookY 6 fa fn gs xs
def ob (s : PySem.W.SharedT) : AlY := obsYG 6 fa fn gs xs (HandSHeadRun.getT s)
theorem ob_eq (s : PySem.W.SharedT) : ob s = hk.obs s.abs := obsYG_eq (HandSHeadRun.getT_eq s)
def loose : List Str := (["_wall", "CrowdError", "BadStanding", "NameMissing", "UnknownName", "LETTERS", "FIGURES", "is_integer", "is_word", "is_row", "wrong_person", "wrong_people", "Standing", "changes_by_sums", "wished_voices", "places_by_voices", "_law_source", "_law_pick", "_law_of", "_law_mixed", "_law_names", "_law_made", "_law_world", "_law_spots", "_law_at", "_law_turned_voices", "_law_fewest"] : List Str)
theorem run (w : World) : HandSHeadRun.RunEq R (PySem.W.view R.prog [32]) hk ob 4000 loose w := by
  intro os
  kernel_rfl
end K78
set_option Elab.async false
set_option linter.all false
set_option autoImplicit false
set_option maxRecDepth 100000
set_option maxHeartbeats 1000000
namespace L2.DL
open PySem PySem.Spec PyProof.Rows
def scD : D → D → Option Bool
  | .int i, .int j => some (decide (i = j))
  | .str x, .str y => some (decide (x = y))
  | .bl a, .bl b => some (a == b)
  | .non, .non => some true
  | _, _ => none
def dEq2 (a b : D) (Q : Res → Prop) : Prop := (∃ r, scD a b = some r ∧ Q (.v (.bl r))) ∨ dEq a b Q
def dNe2 (a b : D) (Q : Res → Prop) : Prop := (∃ r, scD a b = some r ∧ Q (.v (.bl (!r)))) ∨ dNe a b Q
theorem sc_rep {K : PySem.W.Frag} {S : Src} {F : Hp} {x y : V} {a b : D} {r : Bool} (rx : Rep K S F x a) (ry : Rep K S F y b) (h : scD a b = some r) : scal x y = true ∧ decide (x = y) = r := by
  cases rx <;> cases ry <;> first | (cases h; done) | skip
  · cases h; exact ⟨rfl, rfl⟩
  · rename_i a b; cases h; cases a <;> cases b <;> exact ⟨rfl, rfl⟩
  · rename_i a b
    cases h
    refine ⟨rfl, ?_⟩
    by_cases e : a = b
    · subst e; simp
    · rw [decide_eq_false e, decide_eq_false fun z => e (V.int.inj z)]
  · rename_i a b
    cases h
    refine ⟨rfl, ?_⟩
    by_cases e : a = b
    · subst e; simp
    · rw [decide_eq_false e, decide_eq_false fun z => e (V.str.inj z)]
theorem od_eqS {K : PySem.W.Frag} : OpD K rEq (fun a b Q => ∃ r, scD a b = some r ∧ Q (.v (.bl r))) := by
  intro S F H x y d e QD Q s rx ry ⟨r, hr, q⟩ k
  obtain ⟨h1, h2⟩ := sc_rep rx ry hr
  exact ⟨h1, by rw [h2]; exact k _ H F (.v (.bl r)) (.refl s) (.bl _) q⟩
theorem od_neS {K : PySem.W.Frag} : OpD K rNe (fun a b Q => ∃ r, scD a b = some r ∧ Q (.v (.bl (!r)))) := by
  intro S F H x y d e QD Q s rx ry ⟨r, hr, q⟩ k
  obtain ⟨h1, h2⟩ := sc_rep rx ry hr
  exact ⟨h1, by rw [h2]; exact k _ H F (.v (.bl (!r))) (.refl s) (.bl _) q⟩
theorem od_eq2 {K : PySem.W.Frag} : OpD K (fun x y H Q => rEq x y H Q ∨ rEqD K x y H Q) dEq2 := OpD.or od_eqS od_eq
theorem od_ne2 {K : PySem.W.Frag} : OpD K (fun x y H Q => rNe x y H Q ∨ rNeD K x y H Q) dNe2 := OpD.or od_neS od_ne
theorem op_eq2 {X : Cx} (hu : X.A.units + 64 < cLine) : OpR X (compareOp .Eq) (fun x y H Q => rEq x y H Q ∨ rEqD X.K x y H Q) := op_eq.or (op_eqD hu)
theorem op_ne2 {X : Cx} (hu : X.A.units + 64 < cLine) : OpR X (compareOp .NotEq) (fun x y H Q => rNe x y H Q ∨ rNeD X.K x y H Q) := op_ne.or (op_neD hu)
theorem eq2_sc {a b : D} {r : Bool} {Q : Res → Prop} (h : scD a b = some r) (e : PyData.eqv (py a) (py b) = r) : dEq2 a b Q = Q (.v (.bl r)) := propext ⟨fun q => q.elim (fun ⟨r', e', q⟩ => by rw [h] at e'; cases e'; exact q) fun q => by rw [← e]; exact q.2, fun q => .inl ⟨r, h, q⟩⟩
theorem ne2_sc {a b : D} {r : Bool} {Q : Res → Prop} (h : scD a b = some r) (e : PyData.eqv (py a) (py b) = r) : dNe2 a b Q = Q (.v (.bl (!r))) := propext ⟨fun q => q.elim (fun ⟨r', e', q⟩ => by rw [h] at e'; cases e'; exact q) fun q => by rw [← e]; exact q.2, fun q => .inl ⟨r, h, q⟩⟩
def startN (n : Nat) (ds : List D) : Rho := ds.map Sl.d ++ List.replicate (n - ds.length) Sl.un
section
variable {Q : Res → Prop} {K : PySem.W.Frag} {i j : Int} {x y : Str} {a b : Bool} {xs : List D} {kds : List (Key × D)}
theorem eqII : dEq2 (.int i) (.int j) Q = Q (.v (.bl (decide (i = j)))) := eq2_sc rfl (by simp only [py]; unfold PyData.eqv; first | rfl | simp)
theorem neII : dNe2 (.int i) (.int j) Q = Q (.v (.bl (!decide (i = j)))) := ne2_sc rfl (by simp only [py]; unfold PyData.eqv; first | rfl | simp)
theorem eqSS : dEq2 (.str x) (.str y) Q = Q (.v (.bl (decide (x = y)))) := eq2_sc rfl (by simp only [py]; unfold PyData.eqv; first | rfl | simp)
theorem neSS : dNe2 (.str x) (.str y) Q = Q (.v (.bl (!decide (x = y)))) := ne2_sc rfl (by simp only [py]; unfold PyData.eqv; first | rfl | simp)
theorem eqBB : dEq2 (.bl a) (.bl b) Q = Q (.v (.bl (a == b))) := eq2_sc rfl (by simp only [py]; unfold PyData.eqv; first | rfl | (cases a <;> cases b <;> rfl))
theorem neBB : dNe2 (.bl a) (.bl b) Q = Q (.v (.bl (!(a == b)))) := ne2_sc rfl (by simp only [py]; unfold PyData.eqv; first | rfl | (cases a <;> cases b <;> rfl))
theorem eqLL {ys : List D} : dEq2 (.lst xs) (.lst ys) Q = dEq (.lst xs) (.lst ys) Q := propext ⟨fun h => h.elim (fun ⟨_, e, _⟩ => nomatch e) id, .inr⟩
theorem neLL {ys : List D} : dNe2 (.lst xs) (.lst ys) Q = dNe (.lst xs) (.lst ys) Q := propext ⟨fun h => h.elim (fun ⟨_, e, _⟩ => nomatch e) id, .inr⟩
theorem eqTT {ys : List D} : dEq2 (.tup xs) (.tup ys) Q = dEq (.tup xs) (.tup ys) Q := propext ⟨fun h => h.elim (fun ⟨_, e, _⟩ => nomatch e) id, .inr⟩
theorem neTT {ys : List D} : dNe2 (.tup xs) (.tup ys) Q = dNe (.tup xs) (.tup ys) Q := propext ⟨fun h => h.elim (fun ⟨_, e, _⟩ => nomatch e) id, .inr⟩
theorem isiE {d : D} {m n : String} {b : Bool} (h1 : tyD d = some m) (h2 : PySem.W.kitOne K (.type m) (.type n) = some b) : dIsi (K := K) [d, .ty n] Q = Q (.v (.bl b)) := by
  refine propext ⟨fun h => ?_, fun h => ⟨m, b, h1, h2, h⟩⟩
  obtain ⟨m', b', e1, e2, q⟩ := h
  rw [h1] at e1
  cases e1
  rw [h2] at e2
  cases e2
  exact q
theorem isi_ii : dIsi (K := K) [.int i, .ty "int"] Q = Q (.v (.bl true)) := isiE rfl rfl
theorem isi_ib : dIsi (K := K) [.int i, .ty "bool"] Q = Q (.v (.bl false)) := isiE rfl rfl
theorem isi_is : dIsi (K := K) [.int i, .ty "str"] Q = Q (.v (.bl false)) := isiE rfl rfl
theorem isi_il : dIsi (K := K) [.int i, .ty "list"] Q = Q (.v (.bl false)) := isiE rfl rfl
theorem isi_it : dIsi (K := K) [.int i, .ty "tuple"] Q = Q (.v (.bl false)) := isiE rfl rfl
theorem isi_bi : dIsi (K := K) [.bl a, .ty "int"] Q = Q (.v (.bl true)) := isiE rfl rfl
theorem isi_bb : dIsi (K := K) [.bl a, .ty "bool"] Q = Q (.v (.bl true)) := isiE rfl rfl
theorem isi_bs : dIsi (K := K) [.bl a, .ty "str"] Q = Q (.v (.bl false)) := isiE rfl rfl
theorem isi_bt : dIsi (K := K) [.bl a, .ty "tuple"] Q = Q (.v (.bl false)) := isiE rfl rfl
theorem isi_si : dIsi (K := K) [.str x, .ty "int"] Q = Q (.v (.bl false)) := isiE rfl rfl
theorem isi_sb : dIsi (K := K) [.str x, .ty "bool"] Q = Q (.v (.bl false)) := isiE rfl rfl
theorem isi_ss : dIsi (K := K) [.str x, .ty "str"] Q = Q (.v (.bl true)) := isiE rfl rfl
theorem isi_sl : dIsi (K := K) [.str x, .ty "list"] Q = Q (.v (.bl false)) := isiE rfl rfl
theorem isi_st : dIsi (K := K) [.str x, .ty "tuple"] Q = Q (.v (.bl false)) := isiE rfl rfl
theorem isi_ni : dIsi (K := K) [.non, .ty "int"] Q = Q (.v (.bl false)) := isiE rfl rfl
theorem isi_nb : dIsi (K := K) [.non, .ty "bool"] Q = Q (.v (.bl false)) := isiE rfl rfl
theorem isi_ns : dIsi (K := K) [.non, .ty "str"] Q = Q (.v (.bl false)) := isiE rfl rfl
theorem isi_nt : dIsi (K := K) [.non, .ty "tuple"] Q = Q (.v (.bl false)) := isiE rfl rfl
theorem isi_li : dIsi (K := K) [.lst xs, .ty "int"] Q = Q (.v (.bl false)) := isiE rfl rfl
theorem isi_lb : dIsi (K := K) [.lst xs, .ty "bool"] Q = Q (.v (.bl false)) := isiE rfl rfl
theorem isi_ls : dIsi (K := K) [.lst xs, .ty "str"] Q = Q (.v (.bl false)) := isiE rfl rfl
theorem isi_ll : dIsi (K := K) [.lst xs, .ty "list"] Q = Q (.v (.bl true)) := isiE rfl rfl
theorem isi_lt : dIsi (K := K) [.lst xs, .ty "tuple"] Q = Q (.v (.bl false)) := isiE rfl rfl
theorem isi_ti : dIsi (K := K) [.tup xs, .ty "int"] Q = Q (.v (.bl false)) := isiE rfl rfl
theorem isi_tb : dIsi (K := K) [.tup xs, .ty "bool"] Q = Q (.v (.bl false)) := isiE rfl rfl
theorem isi_ts : dIsi (K := K) [.tup xs, .ty "str"] Q = Q (.v (.bl false)) := isiE rfl rfl
theorem isi_tl : dIsi (K := K) [.tup xs, .ty "list"] Q = Q (.v (.bl false)) := isiE rfl rfl
theorem isi_tt : dIsi (K := K) [.tup xs, .ty "tuple"] Q = Q (.v (.bl true)) := isiE rfl rfl
theorem isi_di : dIsi (K := K) [.dct kds, .ty "int"] Q = Q (.v (.bl false)) := isiE rfl rfl
theorem isi_db : dIsi (K := K) [.dct kds, .ty "bool"] Q = Q (.v (.bl false)) := isiE rfl rfl
theorem isi_ds : dIsi (K := K) [.dct kds, .ty "str"] Q = Q (.v (.bl false)) := isiE rfl rfl
theorem isi_dt : dIsi (K := K) [.dct kds, .ty "tuple"] Q = Q (.v (.bl false)) := isiE rfl rfl
theorem isic_n {C : Addr} {n : String} : dIsiC K C [.non, .ty n] Q = dIsi (K := K) [.non, .ty n] Q := rfl
theorem isio_n {C : Addr} {R : Bool → Prop} : isiO C .non R = R false := propext ⟨fun h => h.2, fun h => ⟨rfl, h⟩⟩
theorem isic_b {C : Addr} {n : String} : dIsiC K C [.bl a, .ty n] Q = dIsi (K := K) [.bl a, .ty n] Q := rfl
theorem isio_b {C : Addr} {R : Bool → Prop} : isiO C (.bl a) R = R false := propext ⟨fun h => h.2, fun h => ⟨rfl, h⟩⟩
theorem isic_i {C : Addr} {n : String} : dIsiC K C [.int i, .ty n] Q = dIsi (K := K) [.int i, .ty n] Q := rfl
theorem isio_i {C : Addr} {R : Bool → Prop} : isiO C (.int i) R = R false := propext ⟨fun h => h.2, fun h => ⟨rfl, h⟩⟩
theorem isic_s {C : Addr} {n : String} : dIsiC K C [.str x, .ty n] Q = dIsi (K := K) [.str x, .ty n] Q := rfl
theorem isio_s {C : Addr} {R : Bool → Prop} : isiO C (.str x) R = R false := propext ⟨fun h => h.2, fun h => ⟨rfl, h⟩⟩
theorem isic_l {C : Addr} {n : String} : dIsiC K C [.lst xs, .ty n] Q = dIsi (K := K) [.lst xs, .ty n] Q := rfl
theorem isio_l {C : Addr} {R : Bool → Prop} : isiO C (.lst xs) R = R false := propext ⟨fun h => h.2, fun h => ⟨rfl, h⟩⟩
theorem isic_t {C : Addr} {n : String} : dIsiC K C [.tup xs, .ty n] Q = dIsi (K := K) [.tup xs, .ty n] Q := rfl
theorem isio_t {C : Addr} {R : Bool → Prop} : isiO C (.tup xs) R = R false := propext ⟨fun h => h.2, fun h => ⟨rfl, h⟩⟩
theorem isic_d {C : Addr} {n : String} : dIsiC K C [.dct kds, .ty n] Q = dIsi (K := K) [.dct kds, .ty n] Q := rfl
theorem isio_d {C : Addr} {R : Bool → Prop} : isiO C (.dct kds) R = R false := propext ⟨fun h => h.2, fun h => ⟨rfl, h⟩⟩
theorem isic_I {C : Addr} {fs : List (Str × D)} : dIsiC K C [.ins C fs, .ty "int"] Q = Q (.v (.bl false)) := propext ⟨fun h => h.2.2, fun h => ⟨rfl, by decide, h⟩⟩
theorem isic_S {C : Addr} {fs : List (Str × D)} : dIsiC K C [.ins C fs, .ty "str"] Q = Q (.v (.bl false)) := propext ⟨fun h => h.2.2, fun h => ⟨rfl, by decide, h⟩⟩
theorem isic_T {C : Addr} {fs : List (Str × D)} : dIsiC K C [.ins C fs, .ty "tuple"] Q = Q (.v (.bl false)) := propext ⟨fun h => h.2.2, fun h => ⟨rfl, by decide, h⟩⟩
theorem isic_L {C : Addr} {fs : List (Str × D)} : dIsiC K C [.ins C fs, .ty "list"] Q = Q (.v (.bl false)) := propext ⟨fun h => h.2.2, fun h => ⟨rfl, by decide, h⟩⟩
theorem isic_B {C : Addr} {fs : List (Str × D)} : dIsiC K C [.ins C fs, .ty "bool"] Q = Q (.v (.bl false)) := propext ⟨fun h => h.2.2, fun h => ⟨rfl, by decide, h⟩⟩
theorem isio_I {C : Addr} {fs : List (Str × D)} {R : Bool → Prop} : isiO C (.ins C fs) R = R true := propext ⟨fun h => h.2, fun h => ⟨rfl, h⟩⟩
theorem kit_ll {b : Bool} : (PySem.W.kitAny K (.type "list") [.type "list", .type "tuple"] = some b) = (true = b) := by
  rw [show PySem.W.kitAny K (.type "list") [.type "list", .type "tuple"] = some true from rfl]
  exact propext ⟨fun h => Option.some.inj h, fun h => by rw [h]⟩
theorem kit_lt {b : Bool} : (PySem.W.kitAny K (.type "tuple") [.type "list", .type "tuple"] = some b) = (true = b) := by
  rw [show PySem.W.kitAny K (.type "tuple") [.type "list", .type "tuple"] = some true from rfl]
  exact propext ⟨fun h => Option.some.inj h, fun h => by rw [h]⟩
theorem max2 : dMax2 [.int i, .int j] Q = Q (.v (.int (if j > i then j else i))) := propext ⟨fun ⟨a, b, e, q⟩ => by cases e; exact q, fun q => ⟨i, j, rfl, q⟩⟩
theorem min2 : dMin2 [.int i, .int j] Q = Q (.v (.int (if j < i then j else i))) := propext ⟨fun ⟨a, b, e, q⟩ => by cases e; exact q, fun q => ⟨i, j, rfl, q⟩⟩
end
section
variable {α : Type} {a b d : α} {l : List α}
theorem get1 : atI (a :: l) 0 = some a := by unfold atI ixN; simp
theorem get2b : atI [a, b] 1 = some b := rfl
theorem get3b : atI [a, b, d] 1 = some b := rfl
theorem get3c : atI [a, b, d] 2 = some d := rfl
end
theorem lenNil : ((0 : Nat) ≤ sizeLine) = True := by simp
theorem fz_v {d : D} : fz (.v d) = d := rfl
theorem fz_l {xs : List D} : fz (.ow (.lst xs)) = .lst xs := rfl
theorem fz_d {xs : List (Key × D)} : fz (.ow (.dct xs)) = .dct xs := rfl
theorem fz_i {C : Addr} {xs : List (Str × D)} : fz (.ow (.ins C xs)) = .ins C xs := rfl
theorem fz_m {p : Addr} {x : D} : fz (.ow (.me p x)) = x := rfl
theorem un_l {xs : List D} : unAt (.lst xs) = .lst xs := rfl
theorem un_d {xs : List (Key × D)} : unAt (.dct xs) = .dct xs := rfl
theorem un_i {C : Addr} {xs : List (Str × D)} : unAt (.ins C xs) = .ins C xs := rfl
theorem un_m {p : Addr} {x : D} : unAt (.me p x) = x := rfl
theorem sl_v {d : D} : toSl (.v d) = .d d := rfl
theorem sl_o {d : D} : toSl (.ow d) = .o d := rfl
theorem filter_tt {α : Type} {l : List α} : l.filter (fun _ => true) = l := List.filter_eq_self.mpr fun _ _ => rfl
theorem sizeL : sizeLine = 16777216 := rfl
theorem small {n m : Nat} (h : n ≤ m) (k : m ≤ 1000000 := by decide) : n ≤ sizeLine := by rw [sizeL]; omega
theorem small' {n m : Nat} (h : n ≤ m) (k : m ≤ 1000000 := by decide) : n < sizeLine := by rw [sizeL]; omega
theorem vd0 {Q : DQ} {x : D} {l : Rho} : dVar 0 (Sl.d x :: l) Q = Q (.v x) (Sl.d x :: l) := rfl
theorem vo0 {Q : DQ} {x : D} {l : Rho} : dVar 0 (Sl.o x :: l) Q = Q (.v (unAt x)) (Sl.d (unAt x) :: l) := rfl
theorem rd0 {E : DEnds} {x : D} {l : Rho} : dRetVar 0 E (Sl.d x :: l) = E.rt (.v x) := rfl
theorem ro0 {E : DEnds} {x : D} {l : Rho} : dRetVar 0 E (Sl.o x :: l) = E.rt (.ow x) := rfl
theorem vd1 {Q : DQ} {a0 : Sl} {x : D} {l : Rho} : dVar 1 (a0 :: Sl.d x :: l) Q = Q (.v x) (a0 :: Sl.d x :: l) := rfl
theorem vo1 {Q : DQ} {a0 : Sl} {x : D} {l : Rho} : dVar 1 (a0 :: Sl.o x :: l) Q = Q (.v (unAt x)) (a0 :: Sl.d (unAt x) :: l) := rfl
theorem rd1 {E : DEnds} {a0 : Sl} {x : D} {l : Rho} : dRetVar 1 E (a0 :: Sl.d x :: l) = E.rt (.v x) := rfl
theorem ro1 {E : DEnds} {a0 : Sl} {x : D} {l : Rho} : dRetVar 1 E (a0 :: Sl.o x :: l) = E.rt (.ow x) := rfl
theorem vd2 {Q : DQ} {a0 a1 : Sl} {x : D} {l : Rho} : dVar 2 (a0 :: a1 :: Sl.d x :: l) Q = Q (.v x) (a0 :: a1 :: Sl.d x :: l) := rfl
theorem vo2 {Q : DQ} {a0 a1 : Sl} {x : D} {l : Rho} : dVar 2 (a0 :: a1 :: Sl.o x :: l) Q = Q (.v (unAt x)) (a0 :: a1 :: Sl.d (unAt x) :: l) := rfl
theorem rd2 {E : DEnds} {a0 a1 : Sl} {x : D} {l : Rho} : dRetVar 2 E (a0 :: a1 :: Sl.d x :: l) = E.rt (.v x) := rfl
theorem ro2 {E : DEnds} {a0 a1 : Sl} {x : D} {l : Rho} : dRetVar 2 E (a0 :: a1 :: Sl.o x :: l) = E.rt (.ow x) := rfl
theorem vd3 {Q : DQ} {a0 a1 a2 : Sl} {x : D} {l : Rho} : dVar 3 (a0 :: a1 :: a2 :: Sl.d x :: l) Q = Q (.v x) (a0 :: a1 :: a2 :: Sl.d x :: l) := rfl
theorem vo3 {Q : DQ} {a0 a1 a2 : Sl} {x : D} {l : Rho} : dVar 3 (a0 :: a1 :: a2 :: Sl.o x :: l) Q = Q (.v (unAt x)) (a0 :: a1 :: a2 :: Sl.d (unAt x) :: l) := rfl
theorem rd3 {E : DEnds} {a0 a1 a2 : Sl} {x : D} {l : Rho} : dRetVar 3 E (a0 :: a1 :: a2 :: Sl.d x :: l) = E.rt (.v x) := rfl
theorem ro3 {E : DEnds} {a0 a1 a2 : Sl} {x : D} {l : Rho} : dRetVar 3 E (a0 :: a1 :: a2 :: Sl.o x :: l) = E.rt (.ow x) := rfl
theorem vd4 {Q : DQ} {a0 a1 a2 a3 : Sl} {x : D} {l : Rho} : dVar 4 (a0 :: a1 :: a2 :: a3 :: Sl.d x :: l) Q = Q (.v x) (a0 :: a1 :: a2 :: a3 :: Sl.d x :: l) := rfl
theorem vo4 {Q : DQ} {a0 a1 a2 a3 : Sl} {x : D} {l : Rho} : dVar 4 (a0 :: a1 :: a2 :: a3 :: Sl.o x :: l) Q = Q (.v (unAt x)) (a0 :: a1 :: a2 :: a3 :: Sl.d (unAt x) :: l) := rfl
theorem rd4 {E : DEnds} {a0 a1 a2 a3 : Sl} {x : D} {l : Rho} : dRetVar 4 E (a0 :: a1 :: a2 :: a3 :: Sl.d x :: l) = E.rt (.v x) := rfl
theorem ro4 {E : DEnds} {a0 a1 a2 a3 : Sl} {x : D} {l : Rho} : dRetVar 4 E (a0 :: a1 :: a2 :: a3 :: Sl.o x :: l) = E.rt (.ow x) := rfl
theorem vd5 {Q : DQ} {a0 a1 a2 a3 a4 : Sl} {x : D} {l : Rho} : dVar 5 (a0 :: a1 :: a2 :: a3 :: a4 :: Sl.d x :: l) Q = Q (.v x) (a0 :: a1 :: a2 :: a3 :: a4 :: Sl.d x :: l) := rfl
theorem vo5 {Q : DQ} {a0 a1 a2 a3 a4 : Sl} {x : D} {l : Rho} : dVar 5 (a0 :: a1 :: a2 :: a3 :: a4 :: Sl.o x :: l) Q = Q (.v (unAt x)) (a0 :: a1 :: a2 :: a3 :: a4 :: Sl.d (unAt x) :: l) := rfl
theorem rd5 {E : DEnds} {a0 a1 a2 a3 a4 : Sl} {x : D} {l : Rho} : dRetVar 5 E (a0 :: a1 :: a2 :: a3 :: a4 :: Sl.d x :: l) = E.rt (.v x) := rfl
theorem ro5 {E : DEnds} {a0 a1 a2 a3 a4 : Sl} {x : D} {l : Rho} : dRetVar 5 E (a0 :: a1 :: a2 :: a3 :: a4 :: Sl.o x :: l) = E.rt (.ow x) := rfl
theorem vd6 {Q : DQ} {a0 a1 a2 a3 a4 a5 : Sl} {x : D} {l : Rho} : dVar 6 (a0 :: a1 :: a2 :: a3 :: a4 :: a5 :: Sl.d x :: l) Q = Q (.v x) (a0 :: a1 :: a2 :: a3 :: a4 :: a5 :: Sl.d x :: l) := rfl
theorem vo6 {Q : DQ} {a0 a1 a2 a3 a4 a5 : Sl} {x : D} {l : Rho} : dVar 6 (a0 :: a1 :: a2 :: a3 :: a4 :: a5 :: Sl.o x :: l) Q = Q (.v (unAt x)) (a0 :: a1 :: a2 :: a3 :: a4 :: a5 :: Sl.d (unAt x) :: l) := rfl
theorem rd6 {E : DEnds} {a0 a1 a2 a3 a4 a5 : Sl} {x : D} {l : Rho} : dRetVar 6 E (a0 :: a1 :: a2 :: a3 :: a4 :: a5 :: Sl.d x :: l) = E.rt (.v x) := rfl
theorem ro6 {E : DEnds} {a0 a1 a2 a3 a4 a5 : Sl} {x : D} {l : Rho} : dRetVar 6 E (a0 :: a1 :: a2 :: a3 :: a4 :: a5 :: Sl.o x :: l) = E.rt (.ow x) := rfl
theorem vd7 {Q : DQ} {a0 a1 a2 a3 a4 a5 a6 : Sl} {x : D} {l : Rho} : dVar 7 (a0 :: a1 :: a2 :: a3 :: a4 :: a5 :: a6 :: Sl.d x :: l) Q = Q (.v x) (a0 :: a1 :: a2 :: a3 :: a4 :: a5 :: a6 :: Sl.d x :: l) := rfl
theorem vo7 {Q : DQ} {a0 a1 a2 a3 a4 a5 a6 : Sl} {x : D} {l : Rho} : dVar 7 (a0 :: a1 :: a2 :: a3 :: a4 :: a5 :: a6 :: Sl.o x :: l) Q = Q (.v (unAt x)) (a0 :: a1 :: a2 :: a3 :: a4 :: a5 :: a6 :: Sl.d (unAt x) :: l) := rfl
theorem rd7 {E : DEnds} {a0 a1 a2 a3 a4 a5 a6 : Sl} {x : D} {l : Rho} : dRetVar 7 E (a0 :: a1 :: a2 :: a3 :: a4 :: a5 :: a6 :: Sl.d x :: l) = E.rt (.v x) := rfl
theorem ro7 {E : DEnds} {a0 a1 a2 a3 a4 a5 a6 : Sl} {x : D} {l : Rho} : dRetVar 7 E (a0 :: a1 :: a2 :: a3 :: a4 :: a5 :: a6 :: Sl.o x :: l) = E.rt (.ow x) := rfl
theorem vd8 {Q : DQ} {a0 a1 a2 a3 a4 a5 a6 a7 : Sl} {x : D} {l : Rho} : dVar 8 (a0 :: a1 :: a2 :: a3 :: a4 :: a5 :: a6 :: a7 :: Sl.d x :: l) Q = Q (.v x) (a0 :: a1 :: a2 :: a3 :: a4 :: a5 :: a6 :: a7 :: Sl.d x :: l) := rfl
theorem vo8 {Q : DQ} {a0 a1 a2 a3 a4 a5 a6 a7 : Sl} {x : D} {l : Rho} : dVar 8 (a0 :: a1 :: a2 :: a3 :: a4 :: a5 :: a6 :: a7 :: Sl.o x :: l) Q = Q (.v (unAt x)) (a0 :: a1 :: a2 :: a3 :: a4 :: a5 :: a6 :: a7 :: Sl.d (unAt x) :: l) := rfl
theorem rd8 {E : DEnds} {a0 a1 a2 a3 a4 a5 a6 a7 : Sl} {x : D} {l : Rho} : dRetVar 8 E (a0 :: a1 :: a2 :: a3 :: a4 :: a5 :: a6 :: a7 :: Sl.d x :: l) = E.rt (.v x) := rfl
theorem ro8 {E : DEnds} {a0 a1 a2 a3 a4 a5 a6 a7 : Sl} {x : D} {l : Rho} : dRetVar 8 E (a0 :: a1 :: a2 :: a3 :: a4 :: a5 :: a6 :: a7 :: Sl.o x :: l) = E.rt (.ow x) := rfl
theorem vd9 {Q : DQ} {a0 a1 a2 a3 a4 a5 a6 a7 a8 : Sl} {x : D} {l : Rho} : dVar 9 (a0 :: a1 :: a2 :: a3 :: a4 :: a5 :: a6 :: a7 :: a8 :: Sl.d x :: l) Q = Q (.v x) (a0 :: a1 :: a2 :: a3 :: a4 :: a5 :: a6 :: a7 :: a8 :: Sl.d x :: l) := rfl
theorem vo9 {Q : DQ} {a0 a1 a2 a3 a4 a5 a6 a7 a8 : Sl} {x : D} {l : Rho} : dVar 9 (a0 :: a1 :: a2 :: a3 :: a4 :: a5 :: a6 :: a7 :: a8 :: Sl.o x :: l) Q = Q (.v (unAt x)) (a0 :: a1 :: a2 :: a3 :: a4 :: a5 :: a6 :: a7 :: a8 :: Sl.d (unAt x) :: l) := rfl
theorem rd9 {E : DEnds} {a0 a1 a2 a3 a4 a5 a6 a7 a8 : Sl} {x : D} {l : Rho} : dRetVar 9 E (a0 :: a1 :: a2 :: a3 :: a4 :: a5 :: a6 :: a7 :: a8 :: Sl.d x :: l) = E.rt (.v x) := rfl
theorem ro9 {E : DEnds} {a0 a1 a2 a3 a4 a5 a6 a7 a8 : Sl} {x : D} {l : Rho} : dRetVar 9 E (a0 :: a1 :: a2 :: a3 :: a4 :: a5 :: a6 :: a7 :: a8 :: Sl.o x :: l) = E.rt (.ow x) := rfl
theorem vd10 {Q : DQ} {a0 a1 a2 a3 a4 a5 a6 a7 a8 a9 : Sl} {x : D} {l : Rho} : dVar 10 (a0 :: a1 :: a2 :: a3 :: a4 :: a5 :: a6 :: a7 :: a8 :: a9 :: Sl.d x :: l) Q = Q (.v x) (a0 :: a1 :: a2 :: a3 :: a4 :: a5 :: a6 :: a7 :: a8 :: a9 :: Sl.d x :: l) := rfl
theorem vo10 {Q : DQ} {a0 a1 a2 a3 a4 a5 a6 a7 a8 a9 : Sl} {x : D} {l : Rho} : dVar 10 (a0 :: a1 :: a2 :: a3 :: a4 :: a5 :: a6 :: a7 :: a8 :: a9 :: Sl.o x :: l) Q = Q (.v (unAt x)) (a0 :: a1 :: a2 :: a3 :: a4 :: a5 :: a6 :: a7 :: a8 :: a9 :: Sl.d (unAt x) :: l) := rfl
theorem rd10 {E : DEnds} {a0 a1 a2 a3 a4 a5 a6 a7 a8 a9 : Sl} {x : D} {l : Rho} : dRetVar 10 E (a0 :: a1 :: a2 :: a3 :: a4 :: a5 :: a6 :: a7 :: a8 :: a9 :: Sl.d x :: l) = E.rt (.v x) := rfl
theorem ro10 {E : DEnds} {a0 a1 a2 a3 a4 a5 a6 a7 a8 a9 : Sl} {x : D} {l : Rho} : dRetVar 10 E (a0 :: a1 :: a2 :: a3 :: a4 :: a5 :: a6 :: a7 :: a8 :: a9 :: Sl.o x :: l) = E.rt (.ow x) := rfl
theorem vd11 {Q : DQ} {a0 a1 a2 a3 a4 a5 a6 a7 a8 a9 a10 : Sl} {x : D} {l : Rho} : dVar 11 (a0 :: a1 :: a2 :: a3 :: a4 :: a5 :: a6 :: a7 :: a8 :: a9 :: a10 :: Sl.d x :: l) Q = Q (.v x) (a0 :: a1 :: a2 :: a3 :: a4 :: a5 :: a6 :: a7 :: a8 :: a9 :: a10 :: Sl.d x :: l) := rfl
theorem vo11 {Q : DQ} {a0 a1 a2 a3 a4 a5 a6 a7 a8 a9 a10 : Sl} {x : D} {l : Rho} : dVar 11 (a0 :: a1 :: a2 :: a3 :: a4 :: a5 :: a6 :: a7 :: a8 :: a9 :: a10 :: Sl.o x :: l) Q = Q (.v (unAt x)) (a0 :: a1 :: a2 :: a3 :: a4 :: a5 :: a6 :: a7 :: a8 :: a9 :: a10 :: Sl.d (unAt x) :: l) := rfl
theorem rd11 {E : DEnds} {a0 a1 a2 a3 a4 a5 a6 a7 a8 a9 a10 : Sl} {x : D} {l : Rho} : dRetVar 11 E (a0 :: a1 :: a2 :: a3 :: a4 :: a5 :: a6 :: a7 :: a8 :: a9 :: a10 :: Sl.d x :: l) = E.rt (.v x) := rfl
theorem ro11 {E : DEnds} {a0 a1 a2 a3 a4 a5 a6 a7 a8 a9 a10 : Sl} {x : D} {l : Rho} : dRetVar 11 E (a0 :: a1 :: a2 :: a3 :: a4 :: a5 :: a6 :: a7 :: a8 :: a9 :: a10 :: Sl.o x :: l) = E.rt (.ow x) := rfl
theorem vd12 {Q : DQ} {a0 a1 a2 a3 a4 a5 a6 a7 a8 a9 a10 a11 : Sl} {x : D} {l : Rho} : dVar 12 (a0 :: a1 :: a2 :: a3 :: a4 :: a5 :: a6 :: a7 :: a8 :: a9 :: a10 :: a11 :: Sl.d x :: l) Q = Q (.v x) (a0 :: a1 :: a2 :: a3 :: a4 :: a5 :: a6 :: a7 :: a8 :: a9 :: a10 :: a11 :: Sl.d x :: l) := rfl
theorem vo12 {Q : DQ} {a0 a1 a2 a3 a4 a5 a6 a7 a8 a9 a10 a11 : Sl} {x : D} {l : Rho} : dVar 12 (a0 :: a1 :: a2 :: a3 :: a4 :: a5 :: a6 :: a7 :: a8 :: a9 :: a10 :: a11 :: Sl.o x :: l) Q = Q (.v (unAt x)) (a0 :: a1 :: a2 :: a3 :: a4 :: a5 :: a6 :: a7 :: a8 :: a9 :: a10 :: a11 :: Sl.d (unAt x) :: l) := rfl
theorem rd12 {E : DEnds} {a0 a1 a2 a3 a4 a5 a6 a7 a8 a9 a10 a11 : Sl} {x : D} {l : Rho} : dRetVar 12 E (a0 :: a1 :: a2 :: a3 :: a4 :: a5 :: a6 :: a7 :: a8 :: a9 :: a10 :: a11 :: Sl.d x :: l) = E.rt (.v x) := rfl
theorem ro12 {E : DEnds} {a0 a1 a2 a3 a4 a5 a6 a7 a8 a9 a10 a11 : Sl} {x : D} {l : Rho} : dRetVar 12 E (a0 :: a1 :: a2 :: a3 :: a4 :: a5 :: a6 :: a7 :: a8 :: a9 :: a10 :: a11 :: Sl.o x :: l) = E.rt (.ow x) := rfl
theorem vd13 {Q : DQ} {a0 a1 a2 a3 a4 a5 a6 a7 a8 a9 a10 a11 a12 : Sl} {x : D} {l : Rho} : dVar 13 (a0 :: a1 :: a2 :: a3 :: a4 :: a5 :: a6 :: a7 :: a8 :: a9 :: a10 :: a11 :: a12 :: Sl.d x :: l) Q = Q (.v x) (a0 :: a1 :: a2 :: a3 :: a4 :: a5 :: a6 :: a7 :: a8 :: a9 :: a10 :: a11 :: a12 :: Sl.d x :: l) := rfl
theorem vo13 {Q : DQ} {a0 a1 a2 a3 a4 a5 a6 a7 a8 a9 a10 a11 a12 : Sl} {x : D} {l : Rho} : dVar 13 (a0 :: a1 :: a2 :: a3 :: a4 :: a5 :: a6 :: a7 :: a8 :: a9 :: a10 :: a11 :: a12 :: Sl.o x :: l) Q = Q (.v (unAt x)) (a0 :: a1 :: a2 :: a3 :: a4 :: a5 :: a6 :: a7 :: a8 :: a9 :: a10 :: a11 :: a12 :: Sl.d (unAt x) :: l) := rfl
theorem rd13 {E : DEnds} {a0 a1 a2 a3 a4 a5 a6 a7 a8 a9 a10 a11 a12 : Sl} {x : D} {l : Rho} : dRetVar 13 E (a0 :: a1 :: a2 :: a3 :: a4 :: a5 :: a6 :: a7 :: a8 :: a9 :: a10 :: a11 :: a12 :: Sl.d x :: l) = E.rt (.v x) := rfl
theorem ro13 {E : DEnds} {a0 a1 a2 a3 a4 a5 a6 a7 a8 a9 a10 a11 a12 : Sl} {x : D} {l : Rho} : dRetVar 13 E (a0 :: a1 :: a2 :: a3 :: a4 :: a5 :: a6 :: a7 :: a8 :: a9 :: a10 :: a11 :: a12 :: Sl.o x :: l) = E.rt (.ow x) := rfl
theorem vd14 {Q : DQ} {a0 a1 a2 a3 a4 a5 a6 a7 a8 a9 a10 a11 a12 a13 : Sl} {x : D} {l : Rho} : dVar 14 (a0 :: a1 :: a2 :: a3 :: a4 :: a5 :: a6 :: a7 :: a8 :: a9 :: a10 :: a11 :: a12 :: a13 :: Sl.d x :: l) Q = Q (.v x) (a0 :: a1 :: a2 :: a3 :: a4 :: a5 :: a6 :: a7 :: a8 :: a9 :: a10 :: a11 :: a12 :: a13 :: Sl.d x :: l) := rfl
theorem vo14 {Q : DQ} {a0 a1 a2 a3 a4 a5 a6 a7 a8 a9 a10 a11 a12 a13 : Sl} {x : D} {l : Rho} : dVar 14 (a0 :: a1 :: a2 :: a3 :: a4 :: a5 :: a6 :: a7 :: a8 :: a9 :: a10 :: a11 :: a12 :: a13 :: Sl.o x :: l) Q = Q (.v (unAt x)) (a0 :: a1 :: a2 :: a3 :: a4 :: a5 :: a6 :: a7 :: a8 :: a9 :: a10 :: a11 :: a12 :: a13 :: Sl.d (unAt x) :: l) := rfl
theorem rd14 {E : DEnds} {a0 a1 a2 a3 a4 a5 a6 a7 a8 a9 a10 a11 a12 a13 : Sl} {x : D} {l : Rho} : dRetVar 14 E (a0 :: a1 :: a2 :: a3 :: a4 :: a5 :: a6 :: a7 :: a8 :: a9 :: a10 :: a11 :: a12 :: a13 :: Sl.d x :: l) = E.rt (.v x) := rfl
theorem ro14 {E : DEnds} {a0 a1 a2 a3 a4 a5 a6 a7 a8 a9 a10 a11 a12 a13 : Sl} {x : D} {l : Rho} : dRetVar 14 E (a0 :: a1 :: a2 :: a3 :: a4 :: a5 :: a6 :: a7 :: a8 :: a9 :: a10 :: a11 :: a12 :: a13 :: Sl.o x :: l) = E.rt (.ow x) := rfl
theorem vd15 {Q : DQ} {a0 a1 a2 a3 a4 a5 a6 a7 a8 a9 a10 a11 a12 a13 a14 : Sl} {x : D} {l : Rho} : dVar 15 (a0 :: a1 :: a2 :: a3 :: a4 :: a5 :: a6 :: a7 :: a8 :: a9 :: a10 :: a11 :: a12 :: a13 :: a14 :: Sl.d x :: l) Q = Q (.v x) (a0 :: a1 :: a2 :: a3 :: a4 :: a5 :: a6 :: a7 :: a8 :: a9 :: a10 :: a11 :: a12 :: a13 :: a14 :: Sl.d x :: l) := rfl
theorem vo15 {Q : DQ} {a0 a1 a2 a3 a4 a5 a6 a7 a8 a9 a10 a11 a12 a13 a14 : Sl} {x : D} {l : Rho} : dVar 15 (a0 :: a1 :: a2 :: a3 :: a4 :: a5 :: a6 :: a7 :: a8 :: a9 :: a10 :: a11 :: a12 :: a13 :: a14 :: Sl.o x :: l) Q = Q (.v (unAt x)) (a0 :: a1 :: a2 :: a3 :: a4 :: a5 :: a6 :: a7 :: a8 :: a9 :: a10 :: a11 :: a12 :: a13 :: a14 :: Sl.d (unAt x) :: l) := rfl
theorem rd15 {E : DEnds} {a0 a1 a2 a3 a4 a5 a6 a7 a8 a9 a10 a11 a12 a13 a14 : Sl} {x : D} {l : Rho} : dRetVar 15 E (a0 :: a1 :: a2 :: a3 :: a4 :: a5 :: a6 :: a7 :: a8 :: a9 :: a10 :: a11 :: a12 :: a13 :: a14 :: Sl.d x :: l) = E.rt (.v x) := rfl
theorem ro15 {E : DEnds} {a0 a1 a2 a3 a4 a5 a6 a7 a8 a9 a10 a11 a12 a13 a14 : Sl} {x : D} {l : Rho} : dRetVar 15 E (a0 :: a1 :: a2 :: a3 :: a4 :: a5 :: a6 :: a7 :: a8 :: a9 :: a10 :: a11 :: a12 :: a13 :: a14 :: Sl.o x :: l) = E.rt (.ow x) := rfl
theorem vd16 {Q : DQ} {a0 a1 a2 a3 a4 a5 a6 a7 a8 a9 a10 a11 a12 a13 a14 a15 : Sl} {x : D} {l : Rho} : dVar 16 (a0 :: a1 :: a2 :: a3 :: a4 :: a5 :: a6 :: a7 :: a8 :: a9 :: a10 :: a11 :: a12 :: a13 :: a14 :: a15 :: Sl.d x :: l) Q = Q (.v x) (a0 :: a1 :: a2 :: a3 :: a4 :: a5 :: a6 :: a7 :: a8 :: a9 :: a10 :: a11 :: a12 :: a13 :: a14 :: a15 :: Sl.d x :: l) := rfl
theorem vo16 {Q : DQ} {a0 a1 a2 a3 a4 a5 a6 a7 a8 a9 a10 a11 a12 a13 a14 a15 : Sl} {x : D} {l : Rho} : dVar 16 (a0 :: a1 :: a2 :: a3 :: a4 :: a5 :: a6 :: a7 :: a8 :: a9 :: a10 :: a11 :: a12 :: a13 :: a14 :: a15 :: Sl.o x :: l) Q = Q (.v (unAt x)) (a0 :: a1 :: a2 :: a3 :: a4 :: a5 :: a6 :: a7 :: a8 :: a9 :: a10 :: a11 :: a12 :: a13 :: a14 :: a15 :: Sl.d (unAt x) :: l) := rfl
theorem rd16 {E : DEnds} {a0 a1 a2 a3 a4 a5 a6 a7 a8 a9 a10 a11 a12 a13 a14 a15 : Sl} {x : D} {l : Rho} : dRetVar 16 E (a0 :: a1 :: a2 :: a3 :: a4 :: a5 :: a6 :: a7 :: a8 :: a9 :: a10 :: a11 :: a12 :: a13 :: a14 :: a15 :: Sl.d x :: l) = E.rt (.v x) := rfl
theorem ro16 {E : DEnds} {a0 a1 a2 a3 a4 a5 a6 a7 a8 a9 a10 a11 a12 a13 a14 a15 : Sl} {x : D} {l : Rho} : dRetVar 16 E (a0 :: a1 :: a2 :: a3 :: a4 :: a5 :: a6 :: a7 :: a8 :: a9 :: a10 :: a11 :: a12 :: a13 :: a14 :: a15 :: Sl.o x :: l) = E.rt (.ow x) := rfl
theorem vd17 {Q : DQ} {a0 a1 a2 a3 a4 a5 a6 a7 a8 a9 a10 a11 a12 a13 a14 a15 a16 : Sl} {x : D} {l : Rho} : dVar 17 (a0 :: a1 :: a2 :: a3 :: a4 :: a5 :: a6 :: a7 :: a8 :: a9 :: a10 :: a11 :: a12 :: a13 :: a14 :: a15 :: a16 :: Sl.d x :: l) Q = Q (.v x) (a0 :: a1 :: a2 :: a3 :: a4 :: a5 :: a6 :: a7 :: a8 :: a9 :: a10 :: a11 :: a12 :: a13 :: a14 :: a15 :: a16 :: Sl.d x :: l) := rfl
theorem vo17 {Q : DQ} {a0 a1 a2 a3 a4 a5 a6 a7 a8 a9 a10 a11 a12 a13 a14 a15 a16 : Sl} {x : D} {l : Rho} : dVar 17 (a0 :: a1 :: a2 :: a3 :: a4 :: a5 :: a6 :: a7 :: a8 :: a9 :: a10 :: a11 :: a12 :: a13 :: a14 :: a15 :: a16 :: Sl.o x :: l) Q = Q (.v (unAt x)) (a0 :: a1 :: a2 :: a3 :: a4 :: a5 :: a6 :: a7 :: a8 :: a9 :: a10 :: a11 :: a12 :: a13 :: a14 :: a15 :: a16 :: Sl.d (unAt x) :: l) := rfl
theorem rd17 {E : DEnds} {a0 a1 a2 a3 a4 a5 a6 a7 a8 a9 a10 a11 a12 a13 a14 a15 a16 : Sl} {x : D} {l : Rho} : dRetVar 17 E (a0 :: a1 :: a2 :: a3 :: a4 :: a5 :: a6 :: a7 :: a8 :: a9 :: a10 :: a11 :: a12 :: a13 :: a14 :: a15 :: a16 :: Sl.d x :: l) = E.rt (.v x) := rfl
theorem ro17 {E : DEnds} {a0 a1 a2 a3 a4 a5 a6 a7 a8 a9 a10 a11 a12 a13 a14 a15 a16 : Sl} {x : D} {l : Rho} : dRetVar 17 E (a0 :: a1 :: a2 :: a3 :: a4 :: a5 :: a6 :: a7 :: a8 :: a9 :: a10 :: a11 :: a12 :: a13 :: a14 :: a15 :: a16 :: Sl.o x :: l) = E.rt (.ow x) := rfl
theorem vd18 {Q : DQ} {a0 a1 a2 a3 a4 a5 a6 a7 a8 a9 a10 a11 a12 a13 a14 a15 a16 a17 : Sl} {x : D} {l : Rho} : dVar 18 (a0 :: a1 :: a2 :: a3 :: a4 :: a5 :: a6 :: a7 :: a8 :: a9 :: a10 :: a11 :: a12 :: a13 :: a14 :: a15 :: a16 :: a17 :: Sl.d x :: l) Q = Q (.v x) (a0 :: a1 :: a2 :: a3 :: a4 :: a5 :: a6 :: a7 :: a8 :: a9 :: a10 :: a11 :: a12 :: a13 :: a14 :: a15 :: a16 :: a17 :: Sl.d x :: l) := rfl
theorem vo18 {Q : DQ} {a0 a1 a2 a3 a4 a5 a6 a7 a8 a9 a10 a11 a12 a13 a14 a15 a16 a17 : Sl} {x : D} {l : Rho} : dVar 18 (a0 :: a1 :: a2 :: a3 :: a4 :: a5 :: a6 :: a7 :: a8 :: a9 :: a10 :: a11 :: a12 :: a13 :: a14 :: a15 :: a16 :: a17 :: Sl.o x :: l) Q = Q (.v (unAt x)) (a0 :: a1 :: a2 :: a3 :: a4 :: a5 :: a6 :: a7 :: a8 :: a9 :: a10 :: a11 :: a12 :: a13 :: a14 :: a15 :: a16 :: a17 :: Sl.d (unAt x) :: l) := rfl
theorem rd18 {E : DEnds} {a0 a1 a2 a3 a4 a5 a6 a7 a8 a9 a10 a11 a12 a13 a14 a15 a16 a17 : Sl} {x : D} {l : Rho} : dRetVar 18 E (a0 :: a1 :: a2 :: a3 :: a4 :: a5 :: a6 :: a7 :: a8 :: a9 :: a10 :: a11 :: a12 :: a13 :: a14 :: a15 :: a16 :: a17 :: Sl.d x :: l) = E.rt (.v x) := rfl
theorem ro18 {E : DEnds} {a0 a1 a2 a3 a4 a5 a6 a7 a8 a9 a10 a11 a12 a13 a14 a15 a16 a17 : Sl} {x : D} {l : Rho} : dRetVar 18 E (a0 :: a1 :: a2 :: a3 :: a4 :: a5 :: a6 :: a7 :: a8 :: a9 :: a10 :: a11 :: a12 :: a13 :: a14 :: a15 :: a16 :: a17 :: Sl.o x :: l) = E.rt (.ow x) := rfl
theorem vd19 {Q : DQ} {a0 a1 a2 a3 a4 a5 a6 a7 a8 a9 a10 a11 a12 a13 a14 a15 a16 a17 a18 : Sl} {x : D} {l : Rho} : dVar 19 (a0 :: a1 :: a2 :: a3 :: a4 :: a5 :: a6 :: a7 :: a8 :: a9 :: a10 :: a11 :: a12 :: a13 :: a14 :: a15 :: a16 :: a17 :: a18 :: Sl.d x :: l) Q = Q (.v x) (a0 :: a1 :: a2 :: a3 :: a4 :: a5 :: a6 :: a7 :: a8 :: a9 :: a10 :: a11 :: a12 :: a13 :: a14 :: a15 :: a16 :: a17 :: a18 :: Sl.d x :: l) := rfl
theorem vo19 {Q : DQ} {a0 a1 a2 a3 a4 a5 a6 a7 a8 a9 a10 a11 a12 a13 a14 a15 a16 a17 a18 : Sl} {x : D} {l : Rho} : dVar 19 (a0 :: a1 :: a2 :: a3 :: a4 :: a5 :: a6 :: a7 :: a8 :: a9 :: a10 :: a11 :: a12 :: a13 :: a14 :: a15 :: a16 :: a17 :: a18 :: Sl.o x :: l) Q = Q (.v (unAt x)) (a0 :: a1 :: a2 :: a3 :: a4 :: a5 :: a6 :: a7 :: a8 :: a9 :: a10 :: a11 :: a12 :: a13 :: a14 :: a15 :: a16 :: a17 :: a18 :: Sl.d (unAt x) :: l) := rfl
theorem rd19 {E : DEnds} {a0 a1 a2 a3 a4 a5 a6 a7 a8 a9 a10 a11 a12 a13 a14 a15 a16 a17 a18 : Sl} {x : D} {l : Rho} : dRetVar 19 E (a0 :: a1 :: a2 :: a3 :: a4 :: a5 :: a6 :: a7 :: a8 :: a9 :: a10 :: a11 :: a12 :: a13 :: a14 :: a15 :: a16 :: a17 :: a18 :: Sl.d x :: l) = E.rt (.v x) := rfl
theorem ro19 {E : DEnds} {a0 a1 a2 a3 a4 a5 a6 a7 a8 a9 a10 a11 a12 a13 a14 a15 a16 a17 a18 : Sl} {x : D} {l : Rho} : dRetVar 19 E (a0 :: a1 :: a2 :: a3 :: a4 :: a5 :: a6 :: a7 :: a8 :: a9 :: a10 :: a11 :: a12 :: a13 :: a14 :: a15 :: a16 :: a17 :: a18 :: Sl.o x :: l) = E.rt (.ow x) := rfl
theorem vd20 {Q : DQ} {a0 a1 a2 a3 a4 a5 a6 a7 a8 a9 a10 a11 a12 a13 a14 a15 a16 a17 a18 a19 : Sl} {x : D} {l : Rho} : dVar 20 (a0 :: a1 :: a2 :: a3 :: a4 :: a5 :: a6 :: a7 :: a8 :: a9 :: a10 :: a11 :: a12 :: a13 :: a14 :: a15 :: a16 :: a17 :: a18 :: a19 :: Sl.d x :: l) Q = Q (.v x) (a0 :: a1 :: a2 :: a3 :: a4 :: a5 :: a6 :: a7 :: a8 :: a9 :: a10 :: a11 :: a12 :: a13 :: a14 :: a15 :: a16 :: a17 :: a18 :: a19 :: Sl.d x :: l) := rfl
theorem vo20 {Q : DQ} {a0 a1 a2 a3 a4 a5 a6 a7 a8 a9 a10 a11 a12 a13 a14 a15 a16 a17 a18 a19 : Sl} {x : D} {l : Rho} : dVar 20 (a0 :: a1 :: a2 :: a3 :: a4 :: a5 :: a6 :: a7 :: a8 :: a9 :: a10 :: a11 :: a12 :: a13 :: a14 :: a15 :: a16 :: a17 :: a18 :: a19 :: Sl.o x :: l) Q = Q (.v (unAt x)) (a0 :: a1 :: a2 :: a3 :: a4 :: a5 :: a6 :: a7 :: a8 :: a9 :: a10 :: a11 :: a12 :: a13 :: a14 :: a15 :: a16 :: a17 :: a18 :: a19 :: Sl.d (unAt x) :: l) := rfl
theorem rd20 {E : DEnds} {a0 a1 a2 a3 a4 a5 a6 a7 a8 a9 a10 a11 a12 a13 a14 a15 a16 a17 a18 a19 : Sl} {x : D} {l : Rho} : dRetVar 20 E (a0 :: a1 :: a2 :: a3 :: a4 :: a5 :: a6 :: a7 :: a8 :: a9 :: a10 :: a11 :: a12 :: a13 :: a14 :: a15 :: a16 :: a17 :: a18 :: a19 :: Sl.d x :: l) = E.rt (.v x) := rfl
theorem ro20 {E : DEnds} {a0 a1 a2 a3 a4 a5 a6 a7 a8 a9 a10 a11 a12 a13 a14 a15 a16 a17 a18 a19 : Sl} {x : D} {l : Rho} : dRetVar 20 E (a0 :: a1 :: a2 :: a3 :: a4 :: a5 :: a6 :: a7 :: a8 :: a9 :: a10 :: a11 :: a12 :: a13 :: a14 :: a15 :: a16 :: a17 :: a18 :: a19 :: Sl.o x :: l) = E.rt (.ow x) := rfl
theorem vd21 {Q : DQ} {a0 a1 a2 a3 a4 a5 a6 a7 a8 a9 a10 a11 a12 a13 a14 a15 a16 a17 a18 a19 a20 : Sl} {x : D} {l : Rho} : dVar 21 (a0 :: a1 :: a2 :: a3 :: a4 :: a5 :: a6 :: a7 :: a8 :: a9 :: a10 :: a11 :: a12 :: a13 :: a14 :: a15 :: a16 :: a17 :: a18 :: a19 :: a20 :: Sl.d x :: l) Q = Q (.v x) (a0 :: a1 :: a2 :: a3 :: a4 :: a5 :: a6 :: a7 :: a8 :: a9 :: a10 :: a11 :: a12 :: a13 :: a14 :: a15 :: a16 :: a17 :: a18 :: a19 :: a20 :: Sl.d x :: l) := rfl
theorem vo21 {Q : DQ} {a0 a1 a2 a3 a4 a5 a6 a7 a8 a9 a10 a11 a12 a13 a14 a15 a16 a17 a18 a19 a20 : Sl} {x : D} {l : Rho} : dVar 21 (a0 :: a1 :: a2 :: a3 :: a4 :: a5 :: a6 :: a7 :: a8 :: a9 :: a10 :: a11 :: a12 :: a13 :: a14 :: a15 :: a16 :: a17 :: a18 :: a19 :: a20 :: Sl.o x :: l) Q = Q (.v (unAt x)) (a0 :: a1 :: a2 :: a3 :: a4 :: a5 :: a6 :: a7 :: a8 :: a9 :: a10 :: a11 :: a12 :: a13 :: a14 :: a15 :: a16 :: a17 :: a18 :: a19 :: a20 :: Sl.d (unAt x) :: l) := rfl
theorem rd21 {E : DEnds} {a0 a1 a2 a3 a4 a5 a6 a7 a8 a9 a10 a11 a12 a13 a14 a15 a16 a17 a18 a19 a20 : Sl} {x : D} {l : Rho} : dRetVar 21 E (a0 :: a1 :: a2 :: a3 :: a4 :: a5 :: a6 :: a7 :: a8 :: a9 :: a10 :: a11 :: a12 :: a13 :: a14 :: a15 :: a16 :: a17 :: a18 :: a19 :: a20 :: Sl.d x :: l) = E.rt (.v x) := rfl
theorem ro21 {E : DEnds} {a0 a1 a2 a3 a4 a5 a6 a7 a8 a9 a10 a11 a12 a13 a14 a15 a16 a17 a18 a19 a20 : Sl} {x : D} {l : Rho} : dRetVar 21 E (a0 :: a1 :: a2 :: a3 :: a4 :: a5 :: a6 :: a7 :: a8 :: a9 :: a10 :: a11 :: a12 :: a13 :: a14 :: a15 :: a16 :: a17 :: a18 :: a19 :: a20 :: Sl.o x :: l) = E.rt (.ow x) := rfl
theorem vd22 {Q : DQ} {a0 a1 a2 a3 a4 a5 a6 a7 a8 a9 a10 a11 a12 a13 a14 a15 a16 a17 a18 a19 a20 a21 : Sl} {x : D} {l : Rho} : dVar 22 (a0 :: a1 :: a2 :: a3 :: a4 :: a5 :: a6 :: a7 :: a8 :: a9 :: a10 :: a11 :: a12 :: a13 :: a14 :: a15 :: a16 :: a17 :: a18 :: a19 :: a20 :: a21 :: Sl.d x :: l) Q = Q (.v x) (a0 :: a1 :: a2 :: a3 :: a4 :: a5 :: a6 :: a7 :: a8 :: a9 :: a10 :: a11 :: a12 :: a13 :: a14 :: a15 :: a16 :: a17 :: a18 :: a19 :: a20 :: a21 :: Sl.d x :: l) := rfl
theorem vo22 {Q : DQ} {a0 a1 a2 a3 a4 a5 a6 a7 a8 a9 a10 a11 a12 a13 a14 a15 a16 a17 a18 a19 a20 a21 : Sl} {x : D} {l : Rho} : dVar 22 (a0 :: a1 :: a2 :: a3 :: a4 :: a5 :: a6 :: a7 :: a8 :: a9 :: a10 :: a11 :: a12 :: a13 :: a14 :: a15 :: a16 :: a17 :: a18 :: a19 :: a20 :: a21 :: Sl.o x :: l) Q = Q (.v (unAt x)) (a0 :: a1 :: a2 :: a3 :: a4 :: a5 :: a6 :: a7 :: a8 :: a9 :: a10 :: a11 :: a12 :: a13 :: a14 :: a15 :: a16 :: a17 :: a18 :: a19 :: a20 :: a21 :: Sl.d (unAt x) :: l) := rfl
theorem rd22 {E : DEnds} {a0 a1 a2 a3 a4 a5 a6 a7 a8 a9 a10 a11 a12 a13 a14 a15 a16 a17 a18 a19 a20 a21 : Sl} {x : D} {l : Rho} : dRetVar 22 E (a0 :: a1 :: a2 :: a3 :: a4 :: a5 :: a6 :: a7 :: a8 :: a9 :: a10 :: a11 :: a12 :: a13 :: a14 :: a15 :: a16 :: a17 :: a18 :: a19 :: a20 :: a21 :: Sl.d x :: l) = E.rt (.v x) := rfl
theorem ro22 {E : DEnds} {a0 a1 a2 a3 a4 a5 a6 a7 a8 a9 a10 a11 a12 a13 a14 a15 a16 a17 a18 a19 a20 a21 : Sl} {x : D} {l : Rho} : dRetVar 22 E (a0 :: a1 :: a2 :: a3 :: a4 :: a5 :: a6 :: a7 :: a8 :: a9 :: a10 :: a11 :: a12 :: a13 :: a14 :: a15 :: a16 :: a17 :: a18 :: a19 :: a20 :: a21 :: Sl.o x :: l) = E.rt (.ow x) := rfl
theorem vd23 {Q : DQ} {a0 a1 a2 a3 a4 a5 a6 a7 a8 a9 a10 a11 a12 a13 a14 a15 a16 a17 a18 a19 a20 a21 a22 : Sl} {x : D} {l : Rho} : dVar 23 (a0 :: a1 :: a2 :: a3 :: a4 :: a5 :: a6 :: a7 :: a8 :: a9 :: a10 :: a11 :: a12 :: a13 :: a14 :: a15 :: a16 :: a17 :: a18 :: a19 :: a20 :: a21 :: a22 :: Sl.d x :: l) Q = Q (.v x) (a0 :: a1 :: a2 :: a3 :: a4 :: a5 :: a6 :: a7 :: a8 :: a9 :: a10 :: a11 :: a12 :: a13 :: a14 :: a15 :: a16 :: a17 :: a18 :: a19 :: a20 :: a21 :: a22 :: Sl.d x :: l) := rfl
theorem vo23 {Q : DQ} {a0 a1 a2 a3 a4 a5 a6 a7 a8 a9 a10 a11 a12 a13 a14 a15 a16 a17 a18 a19 a20 a21 a22 : Sl} {x : D} {l : Rho} : dVar 23 (a0 :: a1 :: a2 :: a3 :: a4 :: a5 :: a6 :: a7 :: a8 :: a9 :: a10 :: a11 :: a12 :: a13 :: a14 :: a15 :: a16 :: a17 :: a18 :: a19 :: a20 :: a21 :: a22 :: Sl.o x :: l) Q = Q (.v (unAt x)) (a0 :: a1 :: a2 :: a3 :: a4 :: a5 :: a6 :: a7 :: a8 :: a9 :: a10 :: a11 :: a12 :: a13 :: a14 :: a15 :: a16 :: a17 :: a18 :: a19 :: a20 :: a21 :: a22 :: Sl.d (unAt x) :: l) := rfl
theorem rd23 {E : DEnds} {a0 a1 a2 a3 a4 a5 a6 a7 a8 a9 a10 a11 a12 a13 a14 a15 a16 a17 a18 a19 a20 a21 a22 : Sl} {x : D} {l : Rho} : dRetVar 23 E (a0 :: a1 :: a2 :: a3 :: a4 :: a5 :: a6 :: a7 :: a8 :: a9 :: a10 :: a11 :: a12 :: a13 :: a14 :: a15 :: a16 :: a17 :: a18 :: a19 :: a20 :: a21 :: a22 :: Sl.d x :: l) = E.rt (.v x) := rfl
theorem ro23 {E : DEnds} {a0 a1 a2 a3 a4 a5 a6 a7 a8 a9 a10 a11 a12 a13 a14 a15 a16 a17 a18 a19 a20 a21 a22 : Sl} {x : D} {l : Rho} : dRetVar 23 E (a0 :: a1 :: a2 :: a3 :: a4 :: a5 :: a6 :: a7 :: a8 :: a9 :: a10 :: a11 :: a12 :: a13 :: a14 :: a15 :: a16 :: a17 :: a18 :: a19 :: a20 :: a21 :: a22 :: Sl.o x :: l) = E.rt (.ow x) := rfl
theorem lk_people {α : Type} {d : α} : List.lookup ("people" : Str) [(("own_people" : Str), d)] = none := by rw [List.lookup_cons, show (("people" : Str) == ("own_people" : Str)) = false by decide +kernel] <;> rfl
theorem lk_names {α : Type} {d : α} : List.lookup ("names" : Str) [(("own_people" : Str), d)] = none := by rw [List.lookup_cons, show (("names" : Str) == ("own_people" : Str)) = false by decide +kernel] <;> rfl
theorem lk_has_name {α : Type} {d : α} : List.lookup ("has_name" : Str) [(("own_people" : Str), d)] = none := by rw [List.lookup_cons, show (("has_name" : Str) == ("own_people" : Str)) = false by decide +kernel] <;> rfl
theorem lk_person {α : Type} {d : α} : List.lookup ("person" : Str) [(("own_people" : Str), d)] = none := by rw [List.lookup_cons, show (("person" : Str) == ("own_people" : Str)) = false by decide +kernel] <;> rfl
theorem lk_place {α : Type} {d : α} : List.lookup ("place" : Str) [(("own_people" : Str), d)] = none := by rw [List.lookup_cons, show (("place" : Str) == ("own_people" : Str)) = false by decide +kernel] <;> rfl
theorem lk_voice {α : Type} {d : α} : List.lookup ("voice" : Str) [(("own_people" : Str), d)] = none := by rw [List.lookup_cons, show (("voice" : Str) == ("own_people" : Str)) = false by decide +kernel] <;> rfl
theorem lk_places {α : Type} {d : α} : List.lookup ("places" : Str) [(("own_people" : Str), d)] = none := by rw [List.lookup_cons, show (("places" : Str) == ("own_people" : Str)) = false by decide +kernel] <;> rfl
theorem lk_at {α : Type} {d : α} : List.lookup ("at" : Str) [(("own_people" : Str), d)] = none := by rw [List.lookup_cons, show (("at" : Str) == ("own_people" : Str)) = false by decide +kernel] <;> rfl
theorem lk_line {α : Type} {d : α} : List.lookup ("line" : Str) [(("own_people" : Str), d)] = none := by rw [List.lookup_cons, show (("line" : Str) == ("own_people" : Str)) = false by decide +kernel] <;> rfl
theorem lk_voices {α : Type} {d : α} : List.lookup ("voices" : Str) [(("own_people" : Str), d)] = none := by rw [List.lookup_cons, show (("voices" : Str) == ("own_people" : Str)) = false by decide +kernel] <;> rfl
theorem lk_is_together {α : Type} {d : α} : List.lookup ("is_together" : Str) [(("own_people" : Str), d)] = none := by rw [List.lookup_cons, show (("is_together" : Str) == ("own_people" : Str)) = false by decide +kernel] <;> rfl
theorem lk_own {α : Type} {d : α} : List.lookup ("own_people" : Str) [(("own_people" : Str), d)] = some d := by rw [List.lookup_cons, show (("own_people" : Str) == ("own_people" : Str)) = true by decide +kernel]
theorem lenL {Q : Res → Prop} {xs : List D} : dLen [.lst xs] Q = Q (.v (.int xs.length)) := rfl
theorem lenT {Q : Res → Prop} {xs : List D} : dLen [.tup xs] Q = Q (.v (.int xs.length)) := rfl
theorem lenS {Q : Res → Prop} {z : Str} : dLen [.str z] Q = (z.length ≤ sizeLine ∧ Q (.v (.int z.length))) := rfl
theorem ixL {Q : Res → Prop} {xs : List D} {i : Int} : dIx (.lst xs) (.int i) Q = (∃ d, atI xs i = some d ∧ Q (.v d)) := rfl
theorem ixT {Q : Res → Prop} {xs : List D} {i : Int} : dIx (.tup xs) (.int i) Q = (∃ d, atI xs i = some d ∧ Q (.v d)) := rfl
theorem ixS {Q : Res → Prop} {z : Str} {i : Int} : dIx (.str z) (.int i) Q = (∃ c, z.length ≤ sizeLine ∧ atI z.cps.toList i = some c ∧ Q (.v (.str ⟨#[c]⟩))) := rfl
theorem dcutL {Q : Res → Prop} {xs : List D} {a b : Option Int} : dCut (.lst xs) a b Q = Q (.own (cutD xs a b)) := rfl
theorem dcutS {Q : Res → Prop} {z : Str} {a b : Option Int} : dCut (.str z) a b Q = (z.length ≤ sizeLine ∧ Q (.v (.str (cutS z a b)))) := rfl
theorem addII {Q : Res → Prop} {i j : Int} : dAdd (.int i) (.int j) Q = Q (.v (.int (i + j))) := rfl
theorem addSS {Q : Res → Prop} {x y : Str} : dAdd (.str x) (.str y) Q = (x.length + y.length ≤ sizeLine ∧ Q (.v (.str (x ++ y)))) := rfl
theorem addLL {Q : Res → Prop} {xs ys : List D} : dAdd (.lst xs) (.lst ys) Q = (xs.length + ys.length ≤ sizeLine ∧ Q (.own (xs ++ ys))) := rfl
theorem int1i {Q : Res → Prop} {i : Int} : dInt1 [.int i] Q = Q (.v (.int i)) := rfl
theorem int1b {Q : Res → Prop} {b : Bool} : dInt1 [.bl b] Q = Q (.v (.int (if b then 1 else 0))) := rfl
theorem negI {Q : Res → Prop} {i : Int} : dNeg (.int i) Q = Q (.v (.int (-i))) := rfl
theorem reprL {Q : Res → Prop} {xs : List D} : dRepr [.lst xs] Q = (ShowOk (.lst xs) ∧ Q (.v (.str (py (.lst xs)).shown))) := propext ⟨fun ⟨ys, h⟩ => h.elim (fun ⟨e, a, b⟩ => by cases e; exact ⟨a, b⟩) (fun ⟨e, _⟩ => nomatch e), fun h => ⟨xs, .inl ⟨rfl, h⟩⟩⟩
theorem reprT {Q : Res → Prop} {xs : List D} : dRepr [.tup xs] Q = (ShowOk (.tup xs) ∧ Q (.v (.str (py (.tup xs)).shown))) := propext ⟨fun ⟨ys, h⟩ => h.elim (fun ⟨e, _⟩ => nomatch e) (fun ⟨e, a, b⟩ => by cases e; exact ⟨a, b⟩), fun h => ⟨xs, .inr ⟨rfl, h⟩⟩⟩
theorem absI {Q : Res → Prop} {i : Int} : dAbs [.int i] Q = Q (.v (.int (if i < 0 then -i else i))) := propext ⟨fun ⟨j, e, q⟩ => by cases e; exact q, fun q => ⟨i, rfl, q⟩⟩
theorem sc_n {b : Bool} {i : Int} {z : Str} : scal1 (.v .non) = true := rfl
theorem sc_b {b : Bool} {i : Int} {z : Str} : scal1 (.v (.bl b)) = true := rfl
theorem sc_i {b : Bool} {i : Int} {z : Str} : scal1 (.v (.int i)) = true := rfl
theorem sc_s {b : Bool} {i : Int} {z : Str} : scal1 (.v (.str z)) = true := rfl
theorem subI {Q : Res → Prop} {i j : Int} : dSub (.int i) (.int j) Q = (True ∧ Q (.v (.int (i - j)))) := rfl
theorem mulI {Q : Res → Prop} {i j : Int} : dMul (.int i) (.int j) Q = ((CMul i j ∨ CMulW i j) ∧ Q (.v (.int (i * j)))) := rfl
theorem fdvI {Q : Res → Prop} {i j : Int} : dFdv (.int i) (.int j) Q = (CDivW i j ∧ Q (.v (.int (i / j)))) := rfl
theorem modI {Q : Res → Prop} {i j : Int} : dMod (.int i) (.int j) Q = (0 < j ∧ Q (.v (.int (i % j)))) := rfl
theorem powI {Q : Res → Prop} {i j : Int} : dPow (.int i) (.int j) Q = (CPow i j ∧ Q (.v (.int (i ^ j.toNat)))) := rfl
theorem ltI {Q : Res → Prop} {i j : Int} : dLt (.int i) (.int j) Q = (True ∧ Q (.v (.bl (decide (i < j))))) := rfl
theorem leI {Q : Res → Prop} {i j : Int} : dLe (.int i) (.int j) Q = (True ∧ Q (.v (.bl (decide (i ≤ j))))) := rfl
theorem gtI {Q : Res → Prop} {i j : Int} : dGt (.int i) (.int j) Q = (True ∧ Q (.v (.bl (decide (j < i))))) := rfl
theorem geI {Q : Res → Prop} {i j : Int} : dGe (.int i) (.int j) Q = (True ∧ Q (.v (.bl (decide (j ≤ i))))) := rfl
theorem tr_n {b : Bool} {i : Int} {xs : List D} {kds : List (Key × D)} : truD .non = some false := rfl
theorem tr_b {b : Bool} {i : Int} {xs : List D} {kds : List (Key × D)} : truD (.bl b) = some b := rfl
theorem tr_i {b : Bool} {i : Int} {xs : List D} {kds : List (Key × D)} : truD (.int i) = some (i != 0) := rfl
theorem tr_l {b : Bool} {i : Int} {xs : List D} {kds : List (Key × D)} : truD (.lst xs) = some (!xs.isEmpty) := rfl
theorem tr_t {b : Bool} {i : Int} {xs : List D} {kds : List (Key × D)} : truD (.tup xs) = some (!xs.isEmpty) := rfl
theorem tr_d {b : Bool} {i : Int} {xs : List D} {kds : List (Key × D)} : truD (.dct kds) = some (!kds.isEmpty) := rfl
theorem ty_n {b : Bool} {i : Int} {z : Str} {xs : List D} {kds : List (Key × D)} : tyD .non = some "NoneType" := rfl
theorem ty_b {b : Bool} {i : Int} {z : Str} {xs : List D} {kds : List (Key × D)} : tyD (.bl b) = some "bool" := rfl
theorem ty_i {b : Bool} {i : Int} {z : Str} {xs : List D} {kds : List (Key × D)} : tyD (.int i) = some "int" := rfl
theorem ty_s {b : Bool} {i : Int} {z : Str} {xs : List D} {kds : List (Key × D)} : tyD (.str z) = some "str" := rfl
theorem ty_l {b : Bool} {i : Int} {z : Str} {xs : List D} {kds : List (Key × D)} : tyD (.lst xs) = some "list" := rfl
theorem ty_t {b : Bool} {i : Int} {z : Str} {xs : List D} {kds : List (Key × D)} : tyD (.tup xs) = some "tuple" := rfl
theorem ty_d {b : Bool} {i : Int} {z : Str} {xs : List D} {kds : List (Key × D)} : tyD (.dct kds) = some "dict" := rfl
theorem in_n {b : Bool} {i : Int} {z : Str} {xs : List D} {kds : List (Key × D)} : isN .non = true := rfl
theorem in_b {b : Bool} {i : Int} {z : Str} {xs : List D} {kds : List (Key × D)} : isN (.bl b) = false := rfl
theorem in_i {b : Bool} {i : Int} {z : Str} {xs : List D} {kds : List (Key × D)} : isN (.int i) = false := rfl
theorem in_s {b : Bool} {i : Int} {z : Str} {xs : List D} {kds : List (Key × D)} : isN (.str z) = false := rfl
theorem in_l {b : Bool} {i : Int} {z : Str} {xs : List D} {kds : List (Key × D)} : isN (.lst xs) = false := rfl
theorem in_t {b : Bool} {i : Int} {z : Str} {xs : List D} {kds : List (Key × D)} : isN (.tup xs) = false := rfl
theorem in_d {b : Bool} {i : Int} {z : Str} {xs : List D} {kds : List (Key × D)} : isN (.dct kds) = false := rfl
abbrev Pn : Type := Str × Int × Int
def pD (p : Pn) : D := .tup [.str p.1, .int p.2.1, .int p.2.2]
def ownD (ps : List Pn) : List (Key × D) := ps.map fun p => (.inr p.1, pD p)
def stD (C : Nm) (ps : List Pn) : D := .ins (C "Standing") [(("own_people" : Str), .dct (ownD ps))]
theorem pdT {p : Pn} {ds : List D} : (pD p = .tup ds) = ([.str p.1, .int p.2.1, .int p.2.2] = ds) := propext ⟨fun h => D.tup.inj h, fun h => congrArg D.tup h⟩
theorem pdI {p : Pn} {i : D} {Q : Res → Prop} : dIx (pD p) i Q = dIx (.tup [.str p.1, .int p.2.1, .int p.2.2]) i Q := rfl
theorem stI {C : Nm} {C' : Addr} {ps : List Pn} {fs : List (Str × D)} : (stD C ps = .ins C' fs) = (C "Standing" = C' ∧ [(("own_people" : Str), D.dct (ownD ps))] = fs) := propext ⟨fun h => by cases h; exact ⟨rfl, rfl⟩, fun ⟨h1, h2⟩ => by rw [← h1, ← h2]; rfl⟩
def LET : Str := "abcdefghijklmnopqrstuvwxyz"
def FIG : Str := "0123456789"
def isLet (c : Nat) : Bool := decide (c ∈ LET.cps.toList)
def isFig (c : Nat) : Bool := decide (c ∈ FIG.cps.toList)
theorem isLet_eq (c : Nat) : isLet c = decide (97 ≤ c ∧ c ≤ 122) := by
  have e : LET.cps.toList = List.range' 97 26 := by decide +kernel
  unfold isLet
  rw [e]
  simp only [List.mem_range'_1]
  congr 1
  apply propext
  omega
theorem isFig_eq (c : Nat) : isFig c = decide (48 ≤ c ∧ c ≤ 57) := by
  have e : FIG.cps.toList = List.range' 48 10 := by decide +kernel
  unfold isFig
  rw [e]
  simp only [List.mem_range'_1]
  congr 1
  apply propext
  omega
section
variable {c : Nat} {Q : Res → Prop}
theorem ins_eq {neg : Bool} {z : Str} : dInS neg (.str ⟨#[c]⟩) (.str z) Q = Q (.v (.bl (if neg then !decide (c ∈ z.cps.toList) else decide (c ∈ z.cps.toList)))) :=
  propext ⟨fun ⟨c', z', e1, e2, q⟩ => by cases e1; cases e2; exact q, fun q => ⟨c, z, rfl, rfl, q⟩⟩
theorem insLF : dInS false (.str ⟨#[c]⟩) (.str ("abcdefghijklmnopqrstuvwxyz" : Str)) Q = Q (.v (.bl (isLet c))) := ins_eq
theorem insLT : dInS true (.str ⟨#[c]⟩) (.str ("abcdefghijklmnopqrstuvwxyz" : Str)) Q = Q (.v (.bl (!isLet c))) := ins_eq
theorem insFF : dInS false (.str ⟨#[c]⟩) (.str ("0123456789" : Str)) Q = Q (.v (.bl (isFig c))) := ins_eq
theorem insFT : dInS true (.str ⟨#[c]⟩) (.str ("0123456789" : Str)) Q = Q (.v (.bl (!isFig c))) := ins_eq
end
/-- a word, by its signs -/
def isWordL (l : List Nat) : Bool := decide (1 ≤ l.length) && decide (l.length ≤ 12) && (match l with
  | c :: _ => isLet c
  | [] => false) && l.all fun c => isLet c || isFig c
def isWord (z : Str) : Bool := isWordL z.cps.toList
def isWordD : D → Bool
  | .str z => isWord z
  | _ => false
def isIntD : D → Bool
  | .int _ => true
  | _ => false
/-- a value that the judges of values take -/
def tyC (C : Nm) (d : D) : Prop := match d with
  | .ins C' _ => C' = C "Standing"
  | d => (tyD d).isSome = true
/-- people as a standing has them -/
structure Wf (ps : List Pn) : Prop where
  word : ∀ p, p ∈ ps → isWord p.1 = true
  nd : (ps.map (·.1)).Nodup
  voice : ∀ p, p ∈ ps → p.2.2 = 0 ∨ p.2.2 = 1
  few : ps.length ≤ 60
theorem word_len {z : Str} (h : isWord z = true) : z.length ≤ sizeLine := by
  unfold isWord isWordL at h
  simp only [Bool.and_eq_true, decide_eq_true_eq] at h
  exact small (m := 12) h.1.1.2
/-- neighbours -/
def pairs (l : List Int) : List (Int × Int) := l.zip l.tail
def prD (p : Int × Int) : D := .tup [.int p.1, .int p.2]
theorem prT {p : Int × Int} {ds : List D} : (prD p = .tup ds) = ([.int p.1, .int p.2] = ds) := propext ⟨fun h => D.tup.inj h, fun h => congrArg D.tup h⟩
theorem zipD_map {α β : Type} {f : α → D} {g : β → D} : ∀ {xs : List α} {ys : List β}, zipD (xs.map f) (ys.map g) = (xs.zip ys).map fun p => .tup [f p.1, g p.2]
  | [], _ => by simp [zipD]
  | _ :: _, [] => by simp [zipD]
  | x :: xs, y :: ys => by simp only [List.map_cons, zipD, List.zip_cons_cons, zipD_map (xs := xs) (ys := ys)]
def placesL (ps : List Pn) : List Int := uset (ps.map fun p => p.2.1)
def vAt (ps : List Pn) (x : Int) : Int := ((ps.filter fun p => decide (p.2.1 = x) && decide (p.2.2 = 1)).length : Nat)
abbrev Gap : Type := Int × Int × Bool
def kindS (k : Bool) : Str := if k then "odd" else "even"
def gapD (g : Gap) : D := .tup [.int g.1, .int g.2.1, .str (kindS g.2.2)]
theorem gdT {g : Gap} {ds : List D} : (gapD g = .tup ds) = ([.int g.1, .int g.2.1, .str (kindS g.2.2)] = ds) := propext ⟨fun h => D.tup.inj h, fun h => congrArg D.tup h⟩
end L2.DL
set_option Elab.async false
set_option linter.all false
set_option autoImplicit false
set_option maxRecDepth 100000
set_option maxHeartbeats 2000000
namespace L2.DL
open PySem PySem.Spec PyProof.Rows
local macro_rules | `(tactic| walk_at "ev") => `(tactic| simp only [dSeq, dNext, dSet, dPar, dPar3, dRet, dRetN, dDrop, dIfS, dBrk, dCnt, dApp, dFor, dItL, dItT, dRng1, dRng2, dZip, dEnum, dItS, dAsg, dAugI, dNever, dPutS, dNewD, dFldM, dFldS, dStar,
  dgName, dgTup, dgCons, dgNil, dOp, dUn, dC, dNil, dCons, dCB, dTup, dLst, dIf, dTst, dTru, dAnd, dOr, dNot, dAndV, dOrV, dNotV, dYes, dInR, dFld, dMeth, dCall, dDctIx, dGet2, dRaise, dRaiseZ, dDisp, dPNil, dPCons, dRepD, dTold, dLenSet, hid_u, hid_d, hid_o, dStep2, dSlV, dIxV, dSetV, dPopV, dLenV, dLcV, lstAt, Option.isSome_some, Option.isSome_none, dSl, dNoP, dPart, dLc, dDc, dSortSet, dSortSc, dListVals, dChain, dIsiT2, dCallB, dBor, dNilB, dCBB, dOneL,
  dIsN, dNotN, dStrI, dAbs, dIn, fz_v, fz_l, fz_d, fz_i, fz_m, un_l, un_d, un_i, un_m, sl_v, sl_o, dwipe, and_assoc, insLF, insLT, insFF, insFT, startD, startN, pdT, pdI, gdT, prT, stI, putFD, lendable, noKR, noK, noKs,
  vd0, vo0, rd0, ro0, vd1, vo1, rd1, ro1, vd2, vo2, rd2, ro2, vd3, vo3, rd3, ro3, vd4, vo4, rd4, ro4, vd5, vo5, rd5, ro5, vd6, vo6, rd6, ro6, vd7, vo7, rd7, ro7, vd8, vo8, rd8, ro8, vd9, vo9, rd9, ro9, vd10, vo10, rd10, ro10, vd11, vo11, rd11, ro11, vd12, vo12, rd12, ro12, vd13, vo13, rd13, ro13, vd14, vo14, rd14, ro14, vd15, vo15, rd15, ro15, vd16, vo16, rd16, ro16, vd17, vo17, rd17, ro17, vd18, vo18, rd18, ro18, vd19, vo19, rd19, ro19, vd20, vo20, rd20, ro20, vd21, vo21, rd21, ro21, vd22, vo22, rd22, ro22, vd23, vo23, rd23, ro23, lk_people, lk_names, lk_has_name, lk_person, lk_place, lk_voice, lk_places, lk_at, lk_line, lk_voices, lk_is_together, lk_own, lenL, lenT, lenS, ixL, ixT, ixS, dcutL, dcutS, addII, addSS, addLL, int1i, int1b, negI, reprL, reprT, absI, sc_n, sc_b, sc_i, sc_s, subI, mulI, fdvI, modI, powI, ltI, leI, gtI, geI, tr_n, tr_b, tr_i, tr_l, tr_t, tr_d, ty_n, ty_b, ty_i, ty_s, ty_l, ty_t, ty_d, in_n, in_b, in_i, in_s, in_l, in_t, in_d, eqII, neII, eqSS, neSS, eqBB, neBB, isic_n, isic_b, isic_i, isic_s, isic_l, isic_t, isic_d, isio_n, isio_b, isio_i, isio_s, isio_l, isio_t, isio_d, isic_I, isic_S, isic_T, isic_L, isic_B, isio_I, dIsiO, isi_ii, isi_ib, isi_is, isi_il, isi_bi, isi_bb, isi_bs, isi_si, isi_sb, isi_ss, isi_ni, isi_nb, isi_ns, isi_li, isi_lb, isi_ls, isi_ll, isi_ti, isi_tb, isi_ts, isi_tt, isi_di, isi_db, isi_ds, isi_lt, isi_tl, isi_bt, isi_nt, isi_dt, eqLL, neLL, eqTT, neTT, isi_sl, isi_st, isi_it, kit_ll, kit_lt, max2, min2, get1, get2b, get3b, get3c,
  List.map_cons, List.map_nil, List.length_cons, List.length_nil, List.replicate, List.append_nil, List.cons_append, List.nil_append, List.getElem?_cons_zero, List.getElem?_cons_succ, List.set_cons_zero, List.set_cons_succ, List.getElem?_nil, Nat.sub_zero, Nat.reduceAdd, Nat.reduceSub, Int.reduceLT, Int.reduceLE, Int.reduceNeg, Nat.zero_add,
  true_and, and_true, eq_self, Bool.true_or, Bool.or_true, Bool.false_or, Bool.or_false, Bool.true_and, Bool.and_true, Bool.false_and, Bool.and_false, exists_eq_left, exists_eq_left', exists_eq', exists_eq, Option.some.injEq, Res.v.injEq, D.bl.injEq, D.int.injEq, D.str.injEq, D.lst.injEq, D.tup.injEq, D.dct.injEq, D.ins.injEq, Sl.o.injEq, Sl.d.injEq, List.cons.injEq, reduceCtorEq, false_or, or_false, if_true, if_false, Bool.false_eq_true, Bool.not_true, Bool.not_false, ite_true, ite_false, decide_true, decide_false, and_self, List.isEmpty_nil, List.isEmpty_cons, exists_and_left, exists_const, lenNil])
def sp_is_integer (C : Nm) : DSp := fun ds Q X => ∃ d, ds = [d] ∧ tyC C d ∧ Q (.v (.bl (isIntD d)))
def sp_is_word (C : Nm) : DSp := fun ds Q X => ∃ d, ds = [d] ∧ tyC C d ∧ (∀ z, d = .str z → z.length ≤ sizeLine) ∧ Q (.v (.bl (isWordD d)))
def rowD (d : D) (n : Int) : Bool := match d with
  | .tup xs => decide ((xs.length : Int) = n)
  | _ => false
def sp_is_row (C : Nm) : DSp := fun ds Q X => ∃ d n, ds = [d, .int n] ∧ tyC C d ∧ Q (.v (.bl (rowD d n)))
def t_is_integer (K : PySem.W.Frag) (C : Nm) (XD : DX) : DTS := (dRet (dAndV (dCB (dIsiC K (C "Standing")) (dCons (dVar 0) (dCons (dC (.ty "int")) dNil))) (dNotV (dCB (dIsiC K (C "Standing")) (dCons (dVar 0) (dCons (dC (.ty "bool")) dNil))))))
def t_is_word (K : PySem.W.Frag) (C : Nm) (XD : DX) : DTS := (dSeq (dIfS (dOr (dNot (dTru (dCB (dIsiC K (C "Standing")) (dCons (dVar 0) (dCons (dC (.ty "str")) dNil))))) (dOr (dTst (dInR true (dCB dLen (dCons (dVar 0) dNil)) (dCons (dC (.int 1)) (dCons (dC (.int 13)) dNil)))) (dTst (dOp (dInS true) (dOp dIx (dVar 0) (dC (.int 0))) (dC (.str ("abcdefghijklmnopqrstuvwxyz" : Str))))))) (dRet (dC (.bl false))) dNext)
      (dRet (dCB dAll (dCons (dLc (dItS (dVar 0)) (dgName 1) dYes (dOrV (dOp (dInS false) (dVar 1) (dC (.str ("abcdefghijklmnopqrstuvwxyz" : Str)))) (dOp (dInS false) (dVar 1) (dC (.str ("0123456789" : Str))))) [1]) dNil))))
def t_is_row (K : PySem.W.Frag) (C : Nm) (XD : DX) : DTS := (dRet (dAndV (dCB (dIsiC K (C "Standing")) (dCons (dVar 0) (dCons (dC (.ty "tuple")) dNil))) (dOp dEq2 (dCB dLen (dCons (dVar 0) dNil)) (dVar 1))))
section
variable {K : PySem.W.Frag} {C : Nm} {XD : DX} {ds : List D} {QD : Res → Prop}
theorem pure_is_integer (h : sp_is_integer C ds QD XD) : t_is_integer K C XD { nx := fun _ => QD (.v .non), rt := QD } (startN 1 ds) := by
  obtain ⟨d, rfl, hd, q⟩ := h
  unfold t_is_integer
  walk_at "ev"
  cases d <;> first | (exact (Bool.noConfusion hd : False).elim) | (have hd2 : _ = C "Standing" := hd; subst hd2; walk_at "ev"; exact q) | (walk_at "ev"; exact q)
theorem pure_is_row (h : sp_is_row C ds QD XD) : t_is_row K C XD { nx := fun _ => QD (.v .non), rt := QD } (startN 2 ds) := by
  obtain ⟨d, n, rfl, hd, q⟩ := h
  unfold t_is_row
  walk_at "ev"
  cases d <;> first | (exact (Bool.noConfusion hd : False).elim) | (have hd2 : _ = C "Standing" := hd; subst hd2; walk_at "ev"; exact q) | (walk_at "ev"; exact q)
theorem pure_is_word (h : sp_is_word C ds QD XD) : t_is_word K C XD { nx := fun _ => QD (.v .non), rt := QD } (startN 2 ds) := by
  obtain ⟨d, rfl, hd, hz, q⟩ := h
  unfold t_is_word
  walk_at "ev"
  cases d <;> first | (exact (Bool.noConfusion hd : False).elim) | (have hd2 : _ = C "Standing" := hd; subst hd2) | skip
  all_goals walk_at "ev"
  all_goals first | exact q | skip
  rename_i z
  refine ⟨hz z rfl, ?_⟩
  have q : QD (.v (.bl (isWord z))) := q
  unfold isWord isWordL at q
  have len : z.length = z.cps.toList.length := rfl
  rw [len]
  generalize hl : z.cps.toList = l at q
  by_cases h1 : 1 ≤ l.length ∧ l.length ≤ 12
  · obtain ⟨c, r, rfl⟩ : ∃ c r, l = c :: r := by cases l with
      | nil => simp at h1
      | cons c r => exact ⟨c, r, rfl⟩
    have e1 : (!decide ((1 : Int) ≤ ((c :: r).length : Nat) ∧ (((c :: r).length : Nat) : Int) < 13)) = false := by
      rw [decide_eq_true (by omega)] <;> rfl
    rw [e1]
    walk_at "ev"
    refine ⟨by have := h1.2; simp only [List.length_cons] at this; rw [show sizeLine = 16777216 from rfl]; omega, ?_⟩
    cases hc : isLet c with
    | false =>
      simp only [hc, Bool.and_false, Bool.false_and] at q
      walk_at "ev"
      exact q
    | true =>
      simp only [hc, decide_eq_true h1.1, decide_eq_true h1.2, Bool.true_and] at q
      walk_at "ev"
      unfold signsD
      rw [hl]
      refine lcL_fun (fun ρ => ρ = [Sl.d (.str z), Sl.un]) (fun c => D.str ⟨#[c]⟩) (fun _ => true) (fun c => D.bl (isLet c || isFig c)) ?_ (c :: r) [] _ ?_ rfl ?_
      · rintro x ρ rfl K1 K2 h1 h2
        walk_at "ev"
        cases hx : isLet x with
        | true => walk_at "ev"; exact h1 rfl _ _ (by rw [hx]; rfl) rfl
        | false => walk_at "ev"; exact h1 rfl _ _ (by rw [hx]; rfl) rfl
      · simp only [List.length_cons, List.length_nil] at h1 ⊢; omega
      · rintro ρ rfl
        walk_at "ev"
        refine ⟨(c :: r).map fun c => isLet c || isFig c, ?_, ?_⟩
        · rw [filter_tt, List.map_map]; rfl
        · rw [List.all_map]
          exact q
  · have e1 : (!decide ((1 : Int) ≤ (l.length : Nat) ∧ ((l.length : Nat) : Int) < 13)) = true := by
      rw [decide_eq_false (by omega)] <;> rfl
    rw [e1]
    walk_at "ev"
    have e2 : (decide (1 ≤ l.length) && decide (l.length ≤ 12)) = false := by
      rw [Bool.and_eq_false_iff]
      by_cases h : 1 ≤ l.length
      · exact .inr (decide_eq_false fun z => h1 ⟨h, z⟩)
      · exact .inl (decide_eq_false h)
    rw [e2] at q
    exact q
end
def sp_wrong_person (C : Nm) : DSp := fun ds Q X => ∃ (p : Pn) (kds : List (Key × D)), ds = [pD p, .dct kds] ∧ isWord p.1 = true ∧ valD kds (.inr p.1) = none ∧ (p.2.2 = 0 ∨ p.2.2 = 1) ∧ Q (.v .non)
def sp_wrong_people (C : Nm) : DSp := fun ds Q X => ∃ (ps : List Pn), ds = [.lst (ps.map pD)] ∧ Wf ps ∧ Q (.v .non)
def sp_Standing (C : Nm) : DSp := fun ds Q X => ∃ (ps : List Pn), ds = [.lst (ps.map pD)] ∧ Wf ps ∧ Q (.v (stD C ps))
def t_wrong_person (K : PySem.W.Frag) (C : Nm) (XD : DX) : DTS := (dSeq (dIfS (dNot (dTru (dCall (sp_is_row C) XD (dCons (dVar 0) (dCons (dC (.int 3)) dNil))))) (dRet (dTup dNil)) dNext)
      (dSeq (dIfS (dOr (dNot (dTru (dCall (sp_is_word C) XD (dCons (dOp dIx (dVar 0) (dC (.int 0))) dNil)))) (dTst (dOp (dInDct false) (dOp dIx (dVar 0) (dC (.int 0))) (dVar 1)))) (dRet (dTup (dCons (dC (.int 0)) dNil))) dNext)
      (dSeq (dIfS (dNot (dTru (dCall (sp_is_integer C) XD (dCons (dOp dIx (dVar 0) (dC (.int 1))) dNil)))) (dRet (dTup (dCons (dC (.int 1)) dNil))) dNext)
      (dRet (dIf (dOr (dNot (dTru (dCall (sp_is_integer C) XD (dCons (dOp dIx (dVar 0) (dC (.int 2))) dNil)))) (dTst (dOp (dIn true) (dOp dIx (dVar 0) (dC (.int 2))) (dTup (dCons (dC (.int 0)) (dCons (dC (.int 1)) dNil)))))) (dTup (dCons (dC (.int 2)) dNil)) (dC .non))))))
def t_wrong_people (K : PySem.W.Frag) (C : Nm) (XD : DX) : DTS := (dSeq (dIfS (dNot (dTru (dIsiT2 K "list" "tuple" (dVar 0)))) (dRet (dTup dNil)) dNext)
      (dSeq (dSet 1 dNewD)
      (dSeq (dFor (dEnum (dCons (dVar 0) dNil)) (dgTup 2 (dgCons (dgName 2) (dgCons (dgName 3) dgNil))) (dSeq (dSet 4 (dCallB 1 false (sp_wrong_person C) XD (dCons (dVar 3) (dBor 1 (dNilB 1)))))
      (dSeq (dIfS (dTst (dOp dNotN (dVar 4) (dC .non))) (dRet (dTup (dCons (dVar 2) (dStar (dVar 4) dNil)))) dNext)
      (dPutS 1 (dOp dIx (dVar 3) (dC (.int 0))) (dC (.bl true))))))
      (dRet (dC .non)))))
def t_Standing_init (K : PySem.W.Frag) (C : Nm) (XD : DX) : DTS := (dSeq (dSet 2 (dCall (sp_wrong_people C) XD (dCons (dVar 1) dNil)))
      (dSeq (dIfS (dTst (dOp dNotN (dVar 2) (dC .non))) dNever dNext)
      (dFldM (C ("Standing" : Str)) ("own_people" : Str) 0 (dDc (dItL (dVar 1)) (dgName 3) dYes (dOp dIx (dVar 3) (dC (.int 0))) (dVar 3) [3]))))
section
variable {K : PySem.W.Frag} {C : Nm} {XD : DX} {ds : List D} {QD : Res → Prop}
theorem pure_wrong_person (h : sp_wrong_person C ds QD XD) : t_wrong_person K C XD { nx := fun _ => QD (.v .non), rt := QD } (startN 2 ds) := by
  obtain ⟨⟨n, x, v⟩, kds, rfl, hw, hn, hv, q⟩ := h
  simp only at hw hn hv
  unfold t_wrong_person
  walk_at "ev"
  refine ⟨_, _, rfl, rfl, ?_⟩
  walk_at "ev"
  rw [show (!rowD (pD (n, x, v)) 3) = false from rfl]
  walk_at "ev"
  refine ⟨_, rfl, rfl, fun z e => by cases e; exact word_len hw, ?_⟩
  have e : isWordD (D.str n) = true := hw
  rw [e]
  walk_at "ev"
  refine ⟨kds, .inr n, rfl, rfl, ?_⟩
  rw [hn]
  walk_at "ev"
  refine ⟨_, rfl, rfl, ?_⟩
  rw [show isIntD (D.int x) = true from rfl]
  walk_at "ev"
  refine ⟨_, rfl, rfl, ?_⟩
  rw [show isIntD (D.int v) = true from rfl]
  walk_at "ev"
  refine ⟨small (m := 2) (Nat.le_refl _), rfl, rfl, ?_⟩
  have e : inD (D.int v) [D.int 0, D.int 1] = true := by rcases hv with rfl | rfl <;> rfl
  simp only [fz_v, e]
  walk_at "ev"
  exact q
end
end L2.DL
set_option Elab.async false
set_option linter.all false
set_option autoImplicit false
set_option maxRecDepth 100000
set_option maxHeartbeats 2000000
namespace L2.DL
open PySem PySem.Spec PyProof.Rows
local macro_rules | `(tactic| walk_at "ev") => `(tactic| simp only [dSeq, dNext, dSet, dPar, dPar3, dRet, dRetN, dDrop, dIfS, dBrk, dCnt, dApp, dFor, dItL, dItT, dRng1, dRng2, dZip, dEnum, dItS, dAsg, dAugI, dNever, dPutS, dNewD, dFldM, dFldS, dStar,
  dgName, dgTup, dgCons, dgNil, dOp, dUn, dC, dNil, dCons, dCB, dTup, dLst, dIf, dTst, dTru, dAnd, dOr, dNot, dAndV, dOrV, dNotV, dYes, dInR, dFld, dMeth, dCall, dDctIx, dGet2, dRaise, dRaiseZ, dDisp, dPNil, dPCons, dRepD, dTold, dLenSet, hid_u, hid_d, hid_o, dStep2, dSlV, dIxV, dSetV, dPopV, dLenV, dLcV, lstAt, Option.isSome_some, Option.isSome_none, dSl, dNoP, dPart, dLc, dDc, dSortSet, dSortSc, dListVals, dChain, dIsiT2, dCallB, dBor, dNilB, dCBB, dOneL,
  dIsN, dNotN, dStrI, dAbs, dIn, fz_v, fz_l, fz_d, fz_i, fz_m, un_l, un_d, un_i, un_m, sl_v, sl_o, dwipe, and_assoc, insLF, insLT, insFF, insFT, startD, startN, pdT, pdI, gdT, prT, stI, putFD, lendable, noKR, noK, noKs,
  vd0, vo0, rd0, ro0, vd1, vo1, rd1, ro1, vd2, vo2, rd2, ro2, vd3, vo3, rd3, ro3, vd4, vo4, rd4, ro4, vd5, vo5, rd5, ro5, vd6, vo6, rd6, ro6, vd7, vo7, rd7, ro7, vd8, vo8, rd8, ro8, vd9, vo9, rd9, ro9, vd10, vo10, rd10, ro10, vd11, vo11, rd11, ro11, vd12, vo12, rd12, ro12, vd13, vo13, rd13, ro13, vd14, vo14, rd14, ro14, vd15, vo15, rd15, ro15, vd16, vo16, rd16, ro16, vd17, vo17, rd17, ro17, vd18, vo18, rd18, ro18, vd19, vo19, rd19, ro19, vd20, vo20, rd20, ro20, vd21, vo21, rd21, ro21, vd22, vo22, rd22, ro22, vd23, vo23, rd23, ro23, lk_people, lk_names, lk_has_name, lk_person, lk_place, lk_voice, lk_places, lk_at, lk_line, lk_voices, lk_is_together, lk_own, lenL, lenT, lenS, ixL, ixT, ixS, dcutL, dcutS, addII, addSS, addLL, int1i, int1b, negI, reprL, reprT, absI, sc_n, sc_b, sc_i, sc_s, subI, mulI, fdvI, modI, powI, ltI, leI, gtI, geI, tr_n, tr_b, tr_i, tr_l, tr_t, tr_d, ty_n, ty_b, ty_i, ty_s, ty_l, ty_t, ty_d, in_n, in_b, in_i, in_s, in_l, in_t, in_d, eqII, neII, eqSS, neSS, eqBB, neBB, isic_n, isic_b, isic_i, isic_s, isic_l, isic_t, isic_d, isio_n, isio_b, isio_i, isio_s, isio_l, isio_t, isio_d, isic_I, isic_S, isic_T, isic_L, isic_B, isio_I, dIsiO, isi_ii, isi_ib, isi_is, isi_il, isi_bi, isi_bb, isi_bs, isi_si, isi_sb, isi_ss, isi_ni, isi_nb, isi_ns, isi_li, isi_lb, isi_ls, isi_ll, isi_ti, isi_tb, isi_ts, isi_tt, isi_di, isi_db, isi_ds, isi_lt, isi_tl, isi_bt, isi_nt, isi_dt, eqLL, neLL, eqTT, neTT, isi_sl, isi_st, isi_it, kit_ll, kit_lt, max2, min2, get1, get2b, get3b, get3c,
  List.map_cons, List.map_nil, List.length_cons, List.length_nil, List.replicate, List.append_nil, List.cons_append, List.nil_append, List.getElem?_cons_zero, List.getElem?_cons_succ, List.set_cons_zero, List.set_cons_succ, List.getElem?_nil, Nat.sub_zero, Nat.reduceAdd, Nat.reduceSub, Int.reduceLT, Int.reduceLE, Int.reduceNeg, Nat.zero_add,
  true_and, and_true, eq_self, Bool.true_or, Bool.or_true, Bool.false_or, Bool.or_false, Bool.true_and, Bool.and_true, Bool.false_and, Bool.and_false, exists_eq_left, exists_eq_left', exists_eq', exists_eq, Option.some.injEq, Res.v.injEq, D.bl.injEq, D.int.injEq, D.str.injEq, D.lst.injEq, D.tup.injEq, D.dct.injEq, D.ins.injEq, Sl.o.injEq, Sl.d.injEq, List.cons.injEq, reduceCtorEq, false_or, or_false, if_true, if_false, Bool.false_eq_true, Bool.not_true, Bool.not_false, ite_true, ite_false, decide_true, decide_false, and_self, List.isEmpty_nil, List.isEmpty_cons, exists_and_left, exists_const, lenNil])
theorem loop_rng {g : DTG} {tb : DTS} {E : DEnds} (lo : Int) (n : Nat) (J : Nat → Rho → Prop)
    (step : ∀ (k : Nat) ρ, k < n → J k ρ → ∀ E' : DEnds, (∀ ρ', J (k + 1) ρ' → E'.nx ρ') → (∀ ρ', J (k + 1) ρ' → E'.ct ρ') → (∀ ρ', E.nx ρ' → E'.bk ρ') → E'.rt = E.rt → g (.int (lo + (k : Nat))) ρ fun ρ2 => tb E' ρ2)
    (fin : ∀ ρ, J n ρ → E.nx ρ) (ρ : Rho) (h : J 0 ρ) : dLoop g tb E (rngD lo n) ρ := by
  unfold rngD
  refine loop_inv (fun i : Nat => D.int (lo + (i : Nat))) (fun rest ρ => ∃ k, k ≤ n ∧ rest = (List.range n).drop k ∧ J k ρ) ?_ ?_ _ _ ⟨0, Nat.zero_le _, rfl, h⟩
  · rintro x xs ρ ⟨k, hk, e, j⟩ E' h1 h2 h3 h4
    have hlt : k < n := by
      have := congrArg List.length e
      rw [List.length_cons, List.length_drop, List.length_range] at this
      omega
    have e2 : (List.range n).drop k = k :: (List.range n).drop (k + 1) := by
      rw [List.drop_eq_getElem_cons (by rw [List.length_range]; exact hlt), List.getElem_range]
    rw [e2] at e
    injection e with ex exs
    subst ex; subst exs
    exact step x ρ hlt j E' (fun ρ' j' => h1 ρ' ⟨x + 1, hlt, rfl, j'⟩) (fun ρ' j' => h2 ρ' ⟨x + 1, hlt, rfl, j'⟩) h3 h4
  · rintro ρ ⟨k, hk, e, j⟩
    have : k = n := by
      have := congrArg List.length e
      rw [List.length_nil, List.length_drop, List.length_range] at this
      omega
    subst this
    exact fin ρ j
theorem valD_none {kds : List (Key × D)} {k : Key} (h : ∀ kv, kv ∈ kds → kv.1 ≠ k) : valD kds k = none := by
  unfold valD
  rw [List.find?_eq_none.mpr fun kv hkv => by simpa using h kv hkv] <;> rfl
theorem putD_new {kds : List (Key × D)} {k : Key} {d : D} (h : ∀ kv, kv ∈ kds → kv.1 ≠ k) : putD kds k d = kds ++ [(k, d)] := by
  unfold putD
  rw [if_neg]
  rw [List.any_eq_true]
  rintro ⟨kv, h1, h2⟩
  exact h kv h1 (of_decide_eq_true h2)
/-- a dict comprehension whose keys are unlike -/
theorem dcL_new {α : Type} {g : DTG} {tk tv : DTE} {vs : List Nat} {Q : DQ} (J : Rho → Prop) (inj : α → D) (kf : α → Key) (vf : α → D)
    (step : ∀ (x : α) ρ, J ρ → ∀ (K1 : Res → Res → Rho → Prop), (∀ r1 r2 ρ5, keyOf (fz r1) = some (kf x) → fz r2 = vf x → J (dwipe ρ5 vs) → K1 r1 r2 ρ5) → g (inj x) ρ fun ρ2 => tk ρ2 fun r1 ρ4 => tv ρ4 fun r2 ρ5 => K1 r1 r2 ρ5) :
    ∀ (xs : List α) (acc : List (Key × D)) (ρ : Rho), acc.length + xs.length ≤ 1000000 → (acc.map (·.1) ++ xs.map kf).Nodup → J ρ → (∀ ρ', J ρ' → Q (.ow (.dct (acc ++ xs.map fun x => (kf x, vf x)))) ρ') → dDcL g dYes tk tv vs Q (xs.map inj) acc ρ
  | [], acc, ρ, _, _, j, q => by
    have := q ρ j
    simp only [List.map_nil, List.append_nil] at this
    exact this
  | x :: xs, acc, ρ, hl, nd, j, q => by
    rw [List.length_cons] at hl
    have hz : (1000000 : Nat) < sizeLine := by decide
    refine step x ρ j _ (fun r1 r2 ρ5 e1 e2 j5 => ⟨kf x, e1, by omega, ?_⟩)
    have fresh : ∀ kv, kv ∈ acc → kv.1 ≠ kf x := fun kv hkv e => by
      rw [List.nodup_append] at nd
      exact nd.2.2 kv.1 (List.mem_map_of_mem hkv) (kf x) (by simp) e
    rw [putD_new fresh, e2]
    refine dcL_new J inj kf vf step xs _ _ (by rw [List.length_append]; show acc.length + 1 + xs.length ≤ _; omega) ?_ j5 fun ρ' j' => ?_
    · rw [List.map_append]
      simpa using nd
    · have := q ρ' j'
      rw [List.map_cons] at this
      rw [List.append_assoc]
      exact this
def enumL {α : Type} : Nat → List α → List (Nat × α)
  | _, [] => []
  | n, x :: xs => (n, x) :: enumL (n + 1) xs
theorem enumD_map {α : Type} {f : α → D} : ∀ {xs : List α} {n : Nat}, enumD n (xs.map f) = (enumL n xs).map fun p => .tup [.int (p.1 : Nat), f p.2]
  | [], _ => rfl
  | x :: xs, n => by simp only [List.map_cons, enumD, enumL, enumD_map (xs := xs) (n := n + 1)]
theorem enumL_snd {α : Type} : ∀ {xs : List α} {n : Nat}, (enumL n xs).map (·.2) = xs
  | [], _ => rfl
  | x :: xs, n => by simp only [List.map_cons, enumL, enumL_snd (xs := xs) (n := n + 1)]
section
variable {K : PySem.W.Frag} {C : Nm} {XD : DX} {ds : List D} {QD : Res → Prop}
theorem pure_wrong_people (h : sp_wrong_people C ds QD XD) : t_wrong_people K C XD { nx := fun _ => QD (.v .non), rt := QD } (startN 5 ds) := by
  obtain ⟨ps, rfl, hw, q⟩ := h
  unfold t_wrong_people
  walk_at "ev"
  rw [enumD_map]
  refine loop_inv (fun p : Nat × Pn => D.tup [.int (p.1 : Nat), pD p.2]) (fun rest ρ => ∃ (seen : List Pn) (a b d : Sl), ρ = [Sl.d (.lst (ps.map pD)), Sl.o (.dct (seen.map fun p => (.inr p.1, .bl true))), a, b, d] ∧ seen ++ rest.map (·.2) = ps) ?_ ?_ _ _ ⟨[], _, _, _, rfl, by rw [enumL_snd]; rfl⟩
  · rintro ⟨k, p⟩ rest ρ ⟨seen, a, b, d, rfl, e⟩ E' h1 h2 h3 h4
    walk_at "ev"
    have hp : p ∈ ps := by rw [← e]; simp
    have nd := hw.nd
    rw [← e] at nd
    simp only [List.map_cons, List.map_append] at nd
    have fresh : ∀ kv, kv ∈ (seen.map fun p : Pn => ((.inr p.1, .bl true) : Key × D)) → kv.1 ≠ .inr p.1 := fun kv hkv z => by
      obtain ⟨s, hs, rfl⟩ := List.mem_map.mp hkv
      rw [List.nodup_append] at nd
      exact nd.2.2 s.1 (List.mem_map_of_mem hs) p.1 (by simp) (Sum.inr.inj z)
    refine ⟨p, _, rfl, hw.word p hp, valD_none fresh, hw.voice p hp, rfl, ?_⟩
    walk_at "ev"
    refine ⟨_, rfl, small' (m := 60) ?_, ?_⟩
    · have := hw.few
      rw [← e] at this
      simp only [List.length_append, List.length_map] at this ⊢
      omega
    · rw [putD_new fresh]
      exact h1 _ ⟨seen ++ [p], _, _, _, by rw [List.map_append]; rfl, by rw [← e]; simp⟩
  · rintro ρ ⟨seen, a, b, d, rfl, e⟩
    walk_at "ev"
    exact q
theorem pure_Standing_init {y : Addr} (h : sp_Standing C ds QD XD) : t_Standing_init K C XD { nx := fun ρ => ∃ fs, ρ[0]? = some (Sl.o (.me y (.ins (C "Standing") fs))) ∧ QD (.v (.ins (C "Standing") fs)), rt := fun _ => False } (Sl.o (.me y (.ins (C "Standing") [])) :: startN 3 ds) := by
  obtain ⟨ps, rfl, hw, q⟩ := h
  unfold t_Standing_init
  walk_at "ev"
  refine ⟨ps, rfl, hw, ?_⟩
  walk_at "ev"
  refine dcL_new (fun ρ => ρ = [Sl.o (.me y (.ins (C "Standing") [])), Sl.d (.lst (ps.map pD)), Sl.d .non, Sl.un]) pD (fun p => .inr p.1) pD ?_ ps [] _ (by have := hw.few; simp only [List.length_nil]; omega) ?_ rfl ?_
  · rintro p ρ rfl K1 h1
    walk_at "ev"
    exact h1 _ _ _ rfl rfl rfl
  · rw [List.map_nil, List.nil_append]
    have := hw.nd
    rw [List.nodup_iff_pairwise_ne, List.pairwise_map] at this ⊢
    exact this.imp fun h z => h (Sum.inr.inj z)
  · rintro ρ rfl
    walk_at "ev"
    exact ⟨y, [], rfl, by decide, _, rfl, q⟩
end
def sp_l_pick (C : Nm) : DSp := fun ds Q X => ∃ n : Int, ds = [.src, .int n] ∧ n < 2 ^ 200 ∧ ∀ k : Int, 0 ≤ k → (k < n ∨ k = 0) → Q (.v (.int k))
def sp_l_of (C : Nm) : DSp := fun ds Q X => ∃ xs : List D, ds = [.src, .lst xs] ∧ 0 < xs.length ∧ xs.length ≤ 1000000 ∧ ∀ d, d ∈ xs → Q (.v d)
def t_l_pick (K : PySem.W.Frag) (C : Nm) (XD : DX) : DTS := (dSeq (dFeed 0 1)
      (dSeq (dSet 2 (dSrcG 0 limL))
      (dSeq (dIfS (dOr (dTst (dOp dLt (dVar 1) (dC (.int 2)))) (dTst (dOp dGt (dVar 2) (dC (.int 1))))) (dSeq (dSrcP 0 limL (dOp dFdv (dVar 2) (dCB dMax2 (dCons (dC (.int 1)) (dCons (dVar 1) dNil)))))
      (dRet (dOp dMod (dCB dInt1 (dCons (dVar 2) dNil)) (dCB dMax2 (dCons (dC (.int 1)) (dCons (dVar 1) dNil)))))) dNext)
      (dSeq (dSrcP 0 limL (dOp dAdd (dSrcG 0 limL) (dC (.int 1))))
      (dSeq (dSet 3 (dOp dMod (dCB dInt1 (dCons (dOp dAdd (dSrcG 0 limM) (dOp dMul (dSrcG 0 limL) (dC (.int 104729)))) dNil)) (dC (.int 998244353))))
      (dSeq (dSet 3 (dOp dMod (dCB dInt1 (dCons (dOp dAdd (dOp dMul (dVar 3) (dVar 3)) (dOp dMul (dSrcG 0 limL) (dC (.int 17)))) dNil)) (dC (.int 2147483647))))
      (dSeq (dSrcP 0 limM (dVar 3))
      (dRet (dOp dMod (dCB dInt1 (dCons (dOp dFdv (dVar 3) (dC (.int 16))) dNil)) (dVar 1))))))))))
def t_l_of (K : PySem.W.Frag) (C : Nm) (XD : DX) : DTS := (dRet (dOp dIx (dVar 1) (dCall (sp_l_pick C) XD (dCons (dVar 0) (dCons (dCB dLen (dCons (dVar 1) dNil)) dNil)))))
section
variable {K : PySem.W.Frag} {C : Nm} {XD : DX} {ds : List D} {QD : Res → Prop}
theorem pure_l_pick (h : sp_l_pick C ds QD XD) : t_l_pick K C XD { nx := fun _ => QD (.v .non), rt := QD } (startN 4 ds) := by
  obtain ⟨n, rfl, hn, q⟩ := h
  unfold t_l_pick
  walk_at "ev"
  refine ⟨rfl, ⟨n, rfl⟩, ?_⟩
  walk_at "ev"
  refine ⟨rfl, fun l l0 _ => ?_⟩
  walk_at "ev"
  have em : ∀ m : Int, (if n > 1 then n else 1) = m → 0 < m ∧ m < 2 ^ 200 ∧ (m = n ∨ (m = 1 ∧ n ≤ 1)) := fun m e => by
    split at e <;> omega
  generalize hm : (if n > 1 then n else 1) = m
  obtain ⟨m0, m1, m2⟩ := em m hm
  have div : CDivW l m := wide_div (b := 200) m0 (by omega) (by decide) (by decide)
  have rest : ∀ E : DEnds, E.rt = QD → (dSeq (dSrcP 0 limL (dOp dFdv (dVar 2) (dCB dMax2 (dCons (dC (D.int 1)) (dCons (dVar 1) dNil))))) (dRet (dOp dMod (dCB dInt1 (dCons (dVar 2) dNil)) (dCB dMax2 (dCons (dC (D.int 1)) (dCons (dVar 1) dNil)))))) E [Sl.d D.src, Sl.d (D.int n), Sl.d (D.int l), Sl.un] := fun E e => by
    walk_at "ev"
    unfold dSrcP
    walk_at "ev"
    rw [hm, e]
    refine ⟨div, Int.ediv_nonneg l0 (Int.le_of_lt m0), trivial, m0, q _ (Int.emod_nonneg _ (Int.ne_of_gt m0)) ?_⟩
    have := Int.emod_lt_of_pos l m0
    have := Int.emod_nonneg l (Int.ne_of_gt m0)
    omega
  by_cases h1 : n < 2
  · rw [decide_eq_true h1]
    walk_at "ev"
    exact rest _ rfl
  · rw [decide_eq_false h1]
    walk_at "ev"
    by_cases h2 : 1 < l
    · rw [decide_eq_true h2]
      walk_at "ev"
      exact rest _ rfl
    · rw [decide_eq_false h2]
      walk_at "ev"
      refine ⟨rfl, fun t t0 _ => ?_⟩
      walk_at "ev"
      refine ⟨by omega, trivial, rfl, fun x x0 xl => ?_⟩
      walk_at "ev"
      refine ⟨rfl, fun t' t0' _ => ?_⟩
      walk_at "ev"
      refine ⟨.inl (.inr ⟨by decide, by decide⟩), ?_⟩
      generalize hy : (x + t' * 104729) % 998244353 = y
      have y0 : 0 ≤ y := by rw [← hy]; exact Int.emod_nonneg _ (by decide)
      have y1 : y < 998244353 := by rw [← hy]; exact Int.emod_lt_of_pos _ (by decide)
      refine ⟨.inl (.inr ⟨by omega, by omega⟩), rfl, fun t2 _ _ => ?_⟩
      walk_at "ev"
      refine ⟨.inl (.inr ⟨by decide, by decide⟩), ?_⟩
      generalize hz : (y * y + t2 * 17) % 2147483647 = z
      have z0 : 0 ≤ z := by rw [← hz]; exact Int.emod_nonneg _ (by decide)
      have z1 : z < 2147483647 := by rw [← hz]; exact Int.emod_lt_of_pos _ (by decide)
      unfold dSrcP
      walk_at "ev"
      have n0 : 0 < n := by omega
      refine ⟨z0, (show z < 4294967296 by omega), wide_div (b := 5) (by decide) (by decide) (by decide) (by decide), n0, q _ (Int.emod_nonneg _ (Int.ne_of_gt n0)) (.inl (Int.emod_lt_of_pos _ n0))⟩
theorem pure_l_of (h : sp_l_of C ds QD XD) : t_l_of K C XD { nx := fun _ => QD (.v .non), rt := QD } (startN 2 ds) := by
  obtain ⟨xs, rfl, h0, hn, q⟩ := h
  unfold t_l_of
  walk_at "ev"
  refine ⟨xs.length, rfl, by omega, fun k k0 k1 => ?_⟩
  walk_at "ev"
  have k2 : k.toNat < xs.length := by omega
  refine ⟨xs[k.toNat], ?_, q _ (List.getElem_mem k2)⟩
  have := atI_nat (xs := xs) (j := k.toNat) (v := xs[k.toNat]) (List.getElem?_eq_getElem k2)
  rwa [Int.toNat_of_nonneg k0] at this
end
end L2.DL
set_option Elab.async false
set_option linter.all false
set_option autoImplicit false
set_option maxRecDepth 100000
set_option maxHeartbeats 2000000
namespace L2.DL
open PySem PySem.Spec PyProof.Rows
def strC (z : Str) : Bool := z.cps.toList.all fun c => decide (c < 0x110000)
structure Sh (n w : Nat) (d : D) : Prop where
  pl : plain d = true
  lay : (py d).canLay0 = true
  lv : (py d).leavesShort 50 = true
  sho : (py d).showable = true
  dep : (py d).depth ≤ n
  wt : (py d).weight ≤ w
structure Shs (n w : Nat) (ds : List D) : Prop where
  pl : plains ds = true
  lay : PyData.canLayAll0 (pys ds) = true
  lv : PyData.leavesShortAll 50 (pys ds) = true
  sho : PyData.showableAll (pys ds) = true
  dep : PyData.depthAll (pys ds) ≤ n
  wt : PyData.weightAll (pys ds) ≤ w
section
variable {n w n' w' : Nat} {d : D} {ds : List D}
theorem Sh.mono (h : Sh n w d) (hn : n ≤ n') (hw : w ≤ w') : Sh n' w' d := ⟨h.pl, h.lay, h.lv, h.sho, Nat.le_trans h.dep hn, Nat.le_trans h.wt hw⟩
theorem Shs.mono (h : Shs n w ds) (hn : n ≤ n') (hw : w ≤ w') : Shs n' w' ds := ⟨h.pl, h.lay, h.lv, h.sho, Nat.le_trans h.dep hn, Nat.le_trans h.wt hw⟩
theorem Sh.non : Sh 0 0 .non := ⟨rfl, rfl, rfl, rfl, by simp only [py, PyData.depth]; omega, by simp only [py, PyData.weight]; omega⟩
theorem Sh.bl {b : Bool} : Sh 0 0 (.bl b) := ⟨rfl, rfl, rfl, rfl, by simp only [py, PyData.depth]; omega, by simp only [py, PyData.weight]; omega⟩
theorem Sh.int {i : Int} (h : i.natAbs < 10 ^ 45) : Sh 0 150 (.int i) := by
  have lg : i.natAbs ≠ 0 → i.natAbs.log2 < 150 := fun z => (Nat.log2_lt z).mpr (Nat.lt_trans h (by decide))
  refine ⟨rfl, rfl, ?_, ?_, by simp only [py, PyData.depth]; omega, ?_⟩
  · simp only [py, PyData.leavesShort, decide_eq_true_eq]
    have e := int_text_length_le10 (k := 45) (by decide) h
    show (Str.ofString (toString i)).length ≤ 50
    rw [PySem.ofString_length]
    omega
  · simp only [py, PyData.showable, decide_eq_true_eq]
    by_cases z : i.natAbs = 0
    · rw [z]; decide
    · have := lg z; omega
  · simp only [py, PyData.weight]
    split
    · omega
    · rename_i z
      have : i.natAbs ≠ 0 := fun y => z (by have : i = 0 := by omega
                                            subst this; rfl)
      have := lg this
      omega
theorem Sh.str {z : Str} (h : strC z = true) (hl : z.length ≤ w) : Sh 0 w (.str z) := by
  have h' : ∀ c ∈ z.cps.toList, c < 0x110000 := by simpa only [strC, List.all_eq_true, decide_eq_true_eq] using h
  refine ⟨rfl, ?_, ?_, rfl, by simp only [py, PyData.depth]; omega, hl⟩
  · simp only [py, PyData.canLay0, PyData.strOk]
    rw [Array.all_eq_true_iff_forall_mem]
    intro c hc
    exact decide_eq_true (h' c (Array.mem_toList_iff.mpr hc))
  · simp only [py, PyData.leavesShort, List.all_eq_true, decide_eq_true_eq]
    intro c hc
    have := h' c hc
    have e : (16 : Nat) ^ 8 = 4294967296 := by decide
    omega
theorem Shs.nil : Shs 0 0 [] := ⟨rfl, rfl, rfl, rfl, by simp only [pys, PyData.depthAll]; omega, by simp only [pys, PyData.weightAll]; omega⟩
theorem Shs.cons (h : Sh n w d) (t : Shs n w' ds) : Shs n (w + 1 + w') (d :: ds) :=
  ⟨by simp only [plains, h.pl, t.pl, Bool.and_self], by simp only [pys, PyData.canLayAll0, h.lay, t.lay, Bool.and_self], by simp only [pys, PyData.leavesShortAll, h.lv, t.lv, Bool.and_self], by simp only [pys, PyData.showableAll, h.sho, t.sho, Bool.and_self],
   by simp only [pys, PyData.depthAll]; have := h.dep; have := t.dep; omega, by simp only [pys, PyData.weightAll]; have := h.wt; have := t.wt; omega⟩
theorem Shs.map {α : Type} {f : α → D} : ∀ {l : List α}, (∀ x, x ∈ l → Sh n w (f x)) → Shs n (l.length * (w + 1)) (l.map f)
  | [], _ => Shs.nil.mono (Nat.zero_le _) (Nat.zero_le _)
  | x :: l, h => by
    have := Shs.cons (h x List.mem_cons_self) (Shs.map (l := l) fun y hy => h y (List.mem_cons_of_mem _ hy))
    refine this.mono (Nat.le_refl _) ?_
    rw [List.length_cons, Nat.add_mul, Nat.one_mul, Nat.add_comm]
    exact Nat.le_refl _
theorem Shs.lst (h : Shs n w ds) : Sh (n + 1) w (.lst ds) :=
  ⟨by simp only [plain]; exact h.pl, by simp only [py, PyData.canLay0]; exact h.lay, by simp only [py, PyData.leavesShort]; exact h.lv, by simp only [py, PyData.showable]; exact h.sho, by simp only [py, PyData.depth]; have := h.dep; omega, by simp only [py, PyData.weight]; exact h.wt⟩
theorem Shs.tup (h : Shs n w ds) : Sh (n + 1) w (.tup ds) :=
  ⟨by simp only [plain]; exact h.pl, by simp only [py, PyData.canLay0]; exact h.lay, by simp only [py, PyData.leavesShort]; exact h.lv, by simp only [py, PyData.showable]; exact h.sho, by simp only [py, PyData.depth]; have := h.dep; omega, by simp only [py, PyData.weight]; exact h.wt⟩
theorem Sh.show (h : Sh n w d) (hn : n ≤ 60 := by decide) (hw : w ≤ 300000 := by decide) : ShowOk d := by
  refine ⟨h.pl, h.sho, PyData.hasDict_of_canLay _ h.lay, Nat.le_trans h.dep hn, ?_⟩
  have := PyData.shown_le 50 (by decide) _ h.lv
  have := h.wt
  rw [sizeL]
  omega
theorem Sh.shaped (h : Sh n w d) (hn : n ≤ 60) : SeqAt.shaped (py d) = true := by
  unfold SeqAt.shaped
  rw [h.lay, decide_eq_true (Nat.le_trans h.dep (Nat.le_trans hn (by decide)))]
  rfl
end
theorem eqOk {n w m v : Nat} {a b : D} (h : Sh n w a) (k : Sh m v b) (hn : n ≤ 60 := by decide) (hm : m ≤ 60 := by decide) : EqOk a b := ⟨h.pl, k.pl, h.shaped hn, k.shaped hm⟩
end L2.DL
set_option Elab.async false
set_option linter.all false
set_option autoImplicit false
set_option maxRecDepth 100000
set_option maxHeartbeats 2000000
namespace L2.DL
open PySem PySem.Spec PyProof.Rows
local macro_rules | `(tactic| walk_at "ev") => `(tactic| simp only [dSeq, dNext, dSet, dPar, dPar3, dRet, dRetN, dDrop, dIfS, dBrk, dCnt, dApp, dFor, dItL, dItT, dRng1, dRng2, dZip, dEnum, dItS, dAsg, dAugI, dNever, dPutS, dNewD, dFldM, dFldS, dStar,
  dgName, dgTup, dgCons, dgNil, dOp, dUn, dC, dNil, dCons, dCB, dTup, dLst, dIf, dTst, dTru, dAnd, dOr, dNot, dAndV, dOrV, dNotV, dYes, dInR, dFld, dMeth, dCall, dDctIx, dGet2, dRaise, dRaiseZ, dDisp, dPNil, dPCons, dRepD, dTold, dLenSet, hid_u, hid_d, hid_o, dStep2, dSlV, dIxV, dSetV, dPopV, dLenV, dLcV, lstAt, Option.isSome_some, Option.isSome_none, dSl, dNoP, dPart, dLc, dDc, dSortSet, dSortSc, dListVals, dChain, dIsiT2, dCallB, dBor, dNilB, dCBB, dOneL,
  dIsN, dNotN, dStrI, dAbs, dIn, fz_v, fz_l, fz_d, fz_i, fz_m, un_l, un_d, un_i, un_m, sl_v, sl_o, dwipe, and_assoc, insLF, insLT, insFF, insFT, startD, startN, pdT, pdI, gdT, prT, stI, putFD, lendable, noKR, noK, noKs,
  vd0, vo0, rd0, ro0, vd1, vo1, rd1, ro1, vd2, vo2, rd2, ro2, vd3, vo3, rd3, ro3, vd4, vo4, rd4, ro4, vd5, vo5, rd5, ro5, vd6, vo6, rd6, ro6, vd7, vo7, rd7, ro7, vd8, vo8, rd8, ro8, vd9, vo9, rd9, ro9, vd10, vo10, rd10, ro10, vd11, vo11, rd11, ro11, vd12, vo12, rd12, ro12, vd13, vo13, rd13, ro13, vd14, vo14, rd14, ro14, vd15, vo15, rd15, ro15, vd16, vo16, rd16, ro16, vd17, vo17, rd17, ro17, vd18, vo18, rd18, ro18, vd19, vo19, rd19, ro19, vd20, vo20, rd20, ro20, vd21, vo21, rd21, ro21, vd22, vo22, rd22, ro22, vd23, vo23, rd23, ro23, lk_people, lk_names, lk_has_name, lk_person, lk_place, lk_voice, lk_places, lk_at, lk_line, lk_voices, lk_is_together, lk_own, lenL, lenT, lenS, ixL, ixT, ixS, dcutL, dcutS, addII, addSS, addLL, int1i, int1b, negI, reprL, reprT, absI, sc_n, sc_b, sc_i, sc_s, subI, mulI, fdvI, modI, powI, ltI, leI, gtI, geI, tr_n, tr_b, tr_i, tr_l, tr_t, tr_d, ty_n, ty_b, ty_i, ty_s, ty_l, ty_t, ty_d, in_n, in_b, in_i, in_s, in_l, in_t, in_d, eqII, neII, eqSS, neSS, eqBB, neBB, isic_n, isic_b, isic_i, isic_s, isic_l, isic_t, isic_d, isio_n, isio_b, isio_i, isio_s, isio_l, isio_t, isio_d, isic_I, isic_S, isic_T, isic_L, isic_B, isio_I, dIsiO, isi_ii, isi_ib, isi_is, isi_il, isi_bi, isi_bb, isi_bs, isi_si, isi_sb, isi_ss, isi_ni, isi_nb, isi_ns, isi_li, isi_lb, isi_ls, isi_ll, isi_ti, isi_tb, isi_ts, isi_tt, isi_di, isi_db, isi_ds, isi_lt, isi_tl, isi_bt, isi_nt, isi_dt, eqLL, neLL, eqTT, neTT, isi_sl, isi_st, isi_it, kit_ll, kit_lt, max2, min2, get1, get2b, get3b, get3c,
  List.map_cons, List.map_nil, List.length_cons, List.length_nil, List.replicate, List.append_nil, List.cons_append, List.nil_append, List.getElem?_cons_zero, List.getElem?_cons_succ, List.set_cons_zero, List.set_cons_succ, List.getElem?_nil, Nat.sub_zero, Nat.reduceAdd, Nat.reduceSub, Int.reduceLT, Int.reduceLE, Int.reduceNeg, Nat.zero_add,
  true_and, and_true, eq_self, Bool.true_or, Bool.or_true, Bool.false_or, Bool.or_false, Bool.true_and, Bool.and_true, Bool.false_and, Bool.and_false, exists_eq_left, exists_eq_left', exists_eq', exists_eq, Option.some.injEq, Res.v.injEq, D.bl.injEq, D.int.injEq, D.str.injEq, D.lst.injEq, D.tup.injEq, D.dct.injEq, D.ins.injEq, Sl.o.injEq, Sl.d.injEq, List.cons.injEq, reduceCtorEq, false_or, or_false, if_true, if_false, Bool.false_eq_true, Bool.not_true, Bool.not_false, ite_true, ite_false, decide_true, decide_false, and_self, List.isEmpty_nil, List.isEmpty_cons, exists_and_left, exists_const, lenNil])
def dgL (m : Int) : List Nat := [48 + (m / 10).toNat, 48 + (m % 10).toNat]
def tailOk (l : List Nat) : Prop := l = [] ∨ l = [107] ∨ l = List.replicate 9 107
def NameAt (s : Int) (k : Nat) (z : Str) : Prop := ∃ c tl, z.cps.toList = c :: (dgL ((s + 37 * (k : Int)) % 100) ++ tl) ∧ isLet c = true ∧ tailOk tl
def NameOk (z : Str) : Prop := ∃ c a b tl, z.cps.toList = c :: a :: b :: tl ∧ isLet c = true ∧ isFig a = true ∧ isFig b = true ∧ tailOk tl
theorem NameAt.ok {s : Int} {k : Nat} {z : Str} (h : NameAt s k z) : NameOk z := by
  obtain ⟨c, tl, e, hc, ht⟩ := h
  have m0 := Int.emod_nonneg (s + 37 * (k : Int)) (show (100 : Int) ≠ 0 by decide)
  have m1 := Int.emod_lt_of_pos (s + 37 * (k : Int)) (show (0 : Int) < 100 by decide)
  refine ⟨c, _, _, tl, e, hc, ?_, ?_, ht⟩
  · rw [isFig_eq]; exact decide_eq_true (by omega)
  · rw [isFig_eq]; exact decide_eq_true (by omega)
theorem NameAt.ne {s : Int} {i j : Nat} {y z : Str} (h : NameAt s i y) (k : NameAt s j z) (hij : i < j) (hj : j < 100) : y ≠ z := by
  rintro rfl
  obtain ⟨c, tl, e, _⟩ := h
  obtain ⟨c', tl', e', _⟩ := k
  rw [e] at e'
  simp only [dgL, List.cons_append, List.cons.injEq, List.nil_append] at e'
  omega
theorem NameOk.word {z : Str} (h : NameOk z) : isWord z = true := by
  obtain ⟨c, a, b, tl, e, hc, ha, hb, ht⟩ := h
  unfold isWord isWordL
  rw [e]
  simp only [hc, List.all_cons, ha, hb, Bool.or_true, Bool.true_or, Bool.true_and, List.length_cons]
  rcases ht with rfl | rfl | rfl
  · rfl
  · rw [show ([107] : List Nat).all (fun c => isLet c || isFig c) = true by decide +kernel]; rfl
  · rw [show (List.replicate 9 107).all (fun c => isLet c || isFig c) = true by decide +kernel]; rfl
theorem let_at {k : Int} (h0 : 0 ≤ k) (h1 : k < 26) : atI ("abcdefghijklmnopqrstuvwxyz" : Str).cps.toList k = some (97 + k.toNat) ∧ isLet (97 + k.toNat) = true := by
  have key : ∀ i : Fin 26, ("abcdefghijklmnopqrstuvwxyz" : Str).cps.toList[i.val]? = some (97 + i.val) := by decide +kernel
  have hk : k.toNat < 26 := by omega
  have := atI_nat (key ⟨k.toNat, hk⟩)
  rw [Int.toNat_of_nonneg h0] at this
  exact ⟨this, by rw [isLet_eq]; exact decide_eq_true (by omega)⟩
theorem dig_text {m : Int} (h0 : 0 ≤ m) (h1 : m < 100) : (cutS (Str.ofString (toString (100 + m))) (some 1) none).cps.toList = dgL m := by
  have key : ∀ i : Fin 100, (cutS (Str.ofString (toString (100 + (i.val : Int)))) (some 1) none).cps.toList = dgL (i.val : Int) := by decide +kernel
  have hk : m.toNat < 100 := by omega
  have := key ⟨m.toNat, hk⟩
  simp only [Int.toNat_of_nonneg h0] at this
  exact this
theorem str_app {x y : Str} : (x ++ y).cps.toList = x.cps.toList ++ y.cps.toList := by
  show (x.cps ++ y.cps).toList = _
  rw [Array.toList_append]
theorem str_len {x : Str} : x.length = x.cps.toList.length := rfl
def sp_l_names (C : Nm) : DSp := fun ds Q X => ∃ n : Int, ds = [.src, .int n] ∧ 0 ≤ n ∧ n < 100 ∧ ∀ zs : List Str, zs.length = n.toNat → (∀ z, z ∈ zs → NameOk z) → zs.Nodup → Q (.own (zs.map .str))
def t_l_names (K : PySem.W.Frag) (C : Nm) (XD : DX) : DTS := (dSeq (dPar3 2 3 4 (dCall (sp_l_pick C) XD (dCons (dVar 0) (dCons (dC (.int 100)) dNil))) (dLst dNil) (dLst (dCons (dC (.str ("" : Str))) (dCons (dC (.str ("" : Str))) (dCons (dC (.str ("" : Str))) (dCons (dC (.str ("k" : Str))) (dCons (dC (.str ("kkkkkkkkk" : Str))) dNil)))))))
      (dSeq (dFor (dRng1 (dCons (dVar 1) dNil)) (dgName 5) (dSeq (dSet 6 (dOp dIx (dC (.str ("abcdefghijklmnopqrstuvwxyz" : Str))) (dCall (sp_l_pick C) XD (dCons (dVar 0) (dCons (dC (.int 26)) dNil)))))
      (dApp 3 (dOp dAdd (dOp dAdd (dVar 6) (dSl (dCB dStrI (dCons (dOp dAdd (dC (.int 100)) (dOp dMod (dCB dInt1 (dCons (dOp dAdd (dVar 2) (dOp dMul (dC (.int 37)) (dVar 5))) dNil)) (dC (.int 100)))) dNil)) (dPart (dC (.int 1))) dNoP)) (dOp dIx (dVar 4) (dCall (sp_l_pick C) XD (dCons (dVar 0) (dCons (dC (.int 5)) dNil))))))))
      (dRetVar 3)))
section
variable {K : PySem.W.Frag} {C : Nm} {XD : DX} {ds : List D} {QD : Res → Prop}
theorem pure_l_names (h : sp_l_names C ds QD XD) : t_l_names K C XD { nx := fun _ => QD (.v .non), rt := QD } (startN 7 ds) := by
  obtain ⟨n, rfl, hn0, hn, q⟩ := h
  unfold t_l_names
  walk_at "ev"
  refine ⟨100, rfl, by decide, fun s s0 s1 => ?_⟩
  walk_at "ev"
  refine ⟨by decide, by omega, by omega, ?_⟩
  refine loop_rng 0 n.toNat (fun k ρ => ∃ (zs : List Str) (tl a b : Sl), ρ = [Sl.d .src, Sl.d (.int n), Sl.d (.int s), Sl.o (.lst (zs.map .str)), tl, a, b] ∧ (tl = Sl.o (.lst [.str ("" : Str), .str ("" : Str), .str ("" : Str), .str ("k" : Str), .str ("kkkkkkkkk" : Str)]) ∨ tl = Sl.d (.lst [.str ("" : Str), .str ("" : Str), .str ("" : Str), .str ("k" : Str), .str ("kkkkkkkkk" : Str)])) ∧
    zs.length = k ∧ (∀ (i : Nat) z, zs[i]? = some z → NameAt s i z)) ?_ ?_ _ ⟨[], _, _, _, rfl, .inl rfl, rfl, fun i z e => by simp at e⟩
  · rintro k ρ hk ⟨zs, tl, a, b, rfl, htl, hl, hz⟩ E' h1 h2 h3 h4
    walk_at "ev"
    refine ⟨26, rfl, by decide, fun j j0 j1 => ?_⟩
    walk_at "ev"
    obtain ⟨hj, hlet⟩ := let_at j0 (by omega)
    refine ⟨by decide, _, hj, ?_⟩
    generalize hm : (s + 37 * (0 + (k : Int))) % 100 = m
    have m0 : 0 ≤ m := by rw [← hm]; exact Int.emod_nonneg _ (by decide)
    have m1 : m < 100 := by rw [← hm]; exact Int.emod_lt_of_pos _ (by decide)
    have hm2 : (s + 37 * (k : Int)) % 100 = m := by rw [← hm, Int.zero_add]
    have tlen : (Str.ofString (toString (100 + m))).length ≤ 4 := by
      rw [PySem.ofString_length]
      exact int_text_length_le10 (k := 3) (by decide) (by omega)
    have dig := dig_text m0 m1
    generalize hx : cutS (Str.ofString (toString (100 + m))) (some 1) none = x at dig
    have xlen : x.length = 2 := by rw [str_len, dig]; rfl
    refine ⟨.inl (.inl ⟨by decide, by decide⟩), ?_, small (m := 4) tlen, by rw [xlen]; exact (show 1 + 2 ≤ sizeLine by decide), ?_⟩
    · have : (100 + m).natAbs ≠ 0 := by omega
      exact Nat.lt_trans ((Nat.log2_lt this).mpr (show (100 + m).natAbs < 2 ^ 8 by omega)) (by decide)
    have fin : ∀ (u : Sl) (tt : Str), tailOk tt.cps.toList → (tl = u ∨ True) → (u = Sl.d (.lst [.str ("" : Str), .str ("" : Str), .str ("" : Str), .str ("k" : Str), .str ("kkkkkkkkk" : Str)])) →
        ({ cps := #[97 + j.toNat] } ++ x : Str).length + tt.length ≤ sizeLine ∧ (zs.map D.str).length < sizeLine ∧ E'.nx [Sl.d .src, Sl.d (.int n), Sl.d (.int s), Sl.o (.lst (zs.map .str ++ [.str ({ cps := #[97 + j.toNat] } ++ x ++ tt)])), u, Sl.d (.int (0 + (k : Int))), Sl.d (.str ⟨#[97 + j.toNat]⟩)] := fun u tt htt _ hu => by
      have e1 : ({ cps := #[97 + j.toNat] } ++ x : Str).cps.toList = (97 + j.toNat) :: dgL m := by rw [str_app, dig]; rfl
      have tlen2 : tt.cps.toList.length ≤ 9 := by rcases htt with h | h | h <;> rw [h] <;> decide
      refine ⟨?_, small' (m := 100) (by rw [List.length_map]; omega), h1 _ ⟨zs ++ [{ cps := #[97 + j.toNat] } ++ x ++ tt], u, _, _, by rw [List.map_append]; rfl, .inr hu, by rw [List.length_append, hl]; rfl, fun i z hi => ?_⟩⟩
      · rw [str_len, e1, str_len]
        simp only [List.length_cons, dgL, List.length_nil]
        exact small (m := 12) (by omega)
      · by_cases hi2 : i < zs.length
        · rw [List.getElem?_append_left hi2] at hi
          exact hz i z hi
        · rw [List.getElem?_append_right (by omega)] at hi
          have hi3 : i - zs.length = 0 := by
            have := (List.getElem?_eq_some_iff.mp hi).1
            simp only [List.length_singleton] at this
            omega
          rw [hi3] at hi
          cases hi
          have : i = k := by omega
          subst this
          exact ⟨97 + j.toNat, tt.cps.toList, by rw [str_app, e1, hm2]; rfl, hlet, htt⟩
    rcases htl with rfl | rfl
    all_goals
      walk_at "ev"
      refine ⟨5, rfl, by decide, fun i i0 i1 => ?_⟩
      walk_at "ev"
      rcases (show i = 0 ∨ i = 1 ∨ i = 2 ∨ i = 3 ∨ i = 4 by omega) with rfl | rfl | rfl | rfl | rfl
      · exact ⟨_, rfl, by walk_at "ev"; exact fin _ _ (.inl rfl) (.inr trivial) rfl⟩
      · exact ⟨_, rfl, by walk_at "ev"; exact fin _ _ (.inl rfl) (.inr trivial) rfl⟩
      · exact ⟨_, rfl, by walk_at "ev"; exact fin _ _ (.inl rfl) (.inr trivial) rfl⟩
      · exact ⟨_, rfl, by walk_at "ev"; exact fin _ _ (.inr (.inl rfl)) (.inr trivial) rfl⟩
      · exact ⟨_, rfl, by walk_at "ev"; exact fin _ _ (.inr (.inr (by decide +kernel))) (.inr trivial) rfl⟩
  · rintro ρ ⟨zs, tl, a, b, rfl, htl, hl, hz⟩
    walk_at "ev"
    refine q zs hl (fun z hz2 => ?_) ?_
    · obtain ⟨i, hi⟩ := List.getElem?_of_mem hz2
      exact (hz i z hi).ok
    · rw [List.nodup_iff_pairwise_ne, List.pairwise_iff_getElem]
      intro i j hi hj hij
      exact (hz i _ (List.getElem?_eq_getElem hi)).ne (hz j _ (List.getElem?_eq_getElem hj)) hij (by omega)
end
end L2.DL
set_option Elab.async false
set_option linter.all false
set_option autoImplicit false
set_option maxRecDepth 100000
set_option maxHeartbeats 2000000
namespace L2.DL
open PySem PySem.Spec PyProof.Rows
local macro_rules | `(tactic| walk_at "ev") => `(tactic| simp only [dSeq, dNext, dSet, dPar, dPar3, dRet, dRetN, dDrop, dIfS, dBrk, dCnt, dApp, dFor, dItL, dItT, dRng1, dRng2, dZip, dEnum, dItS, dAsg, dAugI, dNever, dPutS, dNewD, dFldM, dFldS, dStar,
  dgName, dgTup, dgCons, dgNil, dOp, dUn, dC, dNil, dCons, dCB, dTup, dLst, dIf, dTst, dTru, dAnd, dOr, dNot, dAndV, dOrV, dNotV, dYes, dInR, dFld, dMeth, dCall, dDctIx, dGet2, dRaise, dRaiseZ, dDisp, dPNil, dPCons, dRepD, dTold, dLenSet, hid_u, hid_d, hid_o, dStep2, dSlV, dIxV, dSetV, dPopV, dLenV, dLcV, lstAt, Option.isSome_some, Option.isSome_none, dSl, dNoP, dPart, dLc, dDc, dSortSet, dSortSc, dListVals, dChain, dIsiT2, dCallB, dBor, dNilB, dCBB, dOneL,
  dIsN, dNotN, dStrI, dAbs, dIn, fz_v, fz_l, fz_d, fz_i, fz_m, un_l, un_d, un_i, un_m, sl_v, sl_o, dwipe, and_assoc, insLF, insLT, insFF, insFT, startD, startN, pdT, pdI, gdT, prT, stI, putFD, lendable, noKR, noK, noKs,
  vd0, vo0, rd0, ro0, vd1, vo1, rd1, ro1, vd2, vo2, rd2, ro2, vd3, vo3, rd3, ro3, vd4, vo4, rd4, ro4, vd5, vo5, rd5, ro5, vd6, vo6, rd6, ro6, vd7, vo7, rd7, ro7, vd8, vo8, rd8, ro8, vd9, vo9, rd9, ro9, vd10, vo10, rd10, ro10, vd11, vo11, rd11, ro11, vd12, vo12, rd12, ro12, vd13, vo13, rd13, ro13, vd14, vo14, rd14, ro14, vd15, vo15, rd15, ro15, vd16, vo16, rd16, ro16, vd17, vo17, rd17, ro17, vd18, vo18, rd18, ro18, vd19, vo19, rd19, ro19, vd20, vo20, rd20, ro20, vd21, vo21, rd21, ro21, vd22, vo22, rd22, ro22, vd23, vo23, rd23, ro23, lk_people, lk_names, lk_has_name, lk_person, lk_place, lk_voice, lk_places, lk_at, lk_line, lk_voices, lk_is_together, lk_own, lenL, lenT, lenS, ixL, ixT, ixS, dcutL, dcutS, addII, addSS, addLL, int1i, int1b, negI, reprL, reprT, absI, sc_n, sc_b, sc_i, sc_s, subI, mulI, fdvI, modI, powI, ltI, leI, gtI, geI, tr_n, tr_b, tr_i, tr_l, tr_t, tr_d, ty_n, ty_b, ty_i, ty_s, ty_l, ty_t, ty_d, in_n, in_b, in_i, in_s, in_l, in_t, in_d, eqII, neII, eqSS, neSS, eqBB, neBB, isic_n, isic_b, isic_i, isic_s, isic_l, isic_t, isic_d, isio_n, isio_b, isio_i, isio_s, isio_l, isio_t, isio_d, isic_I, isic_S, isic_T, isic_L, isic_B, isio_I, dIsiO, isi_ii, isi_ib, isi_is, isi_il, isi_bi, isi_bb, isi_bs, isi_si, isi_sb, isi_ss, isi_ni, isi_nb, isi_ns, isi_li, isi_lb, isi_ls, isi_ll, isi_ti, isi_tb, isi_ts, isi_tt, isi_di, isi_db, isi_ds, isi_lt, isi_tl, isi_bt, isi_nt, isi_dt, eqLL, neLL, eqTT, neTT, isi_sl, isi_st, isi_it, kit_ll, kit_lt, max2, min2, get1, get2b, get3b, get3c,
  List.map_cons, List.map_nil, List.length_cons, List.length_nil, List.replicate, List.append_nil, List.cons_append, List.nil_append, List.getElem?_cons_zero, List.getElem?_cons_succ, List.set_cons_zero, List.set_cons_succ, List.getElem?_nil, Nat.sub_zero, Nat.reduceAdd, Nat.reduceSub, Int.reduceLT, Int.reduceLE, Int.reduceNeg, Nat.zero_add,
  true_and, and_true, eq_self, Bool.true_or, Bool.or_true, Bool.false_or, Bool.or_false, Bool.true_and, Bool.and_true, Bool.false_and, Bool.and_false, exists_eq_left, exists_eq_left', exists_eq', exists_eq, Option.some.injEq, Res.v.injEq, D.bl.injEq, D.int.injEq, D.str.injEq, D.lst.injEq, D.tup.injEq, D.dct.injEq, D.ins.injEq, Sl.o.injEq, Sl.d.injEq, List.cons.injEq, reduceCtorEq, false_or, or_false, if_true, if_false, Bool.false_eq_true, Bool.not_true, Bool.not_false, ite_true, ite_false, decide_true, decide_false, and_self, List.isEmpty_nil, List.isEmpty_cons, exists_and_left, exists_const, lenNil])
theorem All2.mem {α β : Type} {P : α → β → Prop} : ∀ {as : List α} {bs : List β}, All2 P as bs → ∀ b, b ∈ bs → ∃ a, a ∈ as ∧ P a b
  | _, _, .nil, b, h => by cases h
  | _, _, .cons p t, b, h => by
    rcases List.mem_cons.mp h with rfl | h
    · exact ⟨_, List.mem_cons_self, p⟩
    · obtain ⟨a, ha, q⟩ := t.mem b h
      exact ⟨a, List.mem_cons_of_mem _ ha, q⟩
/-- drawn people on integers from lo to hi -/
structure Drawn (lo hi : Int) (ps : List Pn) : Prop where
  name : ∀ p, p ∈ ps → NameOk p.1
  nd : (ps.map (·.1)).Nodup
  voice : ∀ p, p ∈ ps → p.2.2 = 0 ∨ p.2.2 = 1
  lo : ∀ p, p ∈ ps → lo ≤ p.2.1
  hi : ∀ p, p ∈ ps → p.2.1 ≤ hi
theorem Drawn.wf {lo hi : Int} {ps : List Pn} (h : Drawn lo hi ps) (few : ps.length ≤ 60) : Wf ps := ⟨fun p hp => (h.name p hp).word, h.nd, h.voice, few⟩
theorem Drawn.mono {lo hi lo' hi' : Int} {ps : List Pn} (h : Drawn lo hi ps) (a : lo' ≤ lo) (b : hi ≤ hi') : Drawn lo' hi' ps := ⟨h.name, h.nd, h.voice, fun p hp => Int.le_trans a (h.lo p hp), fun p hp => Int.le_trans (h.hi p hp) b⟩
/-- voices at a place or further left -/
def cntLe (ps : List Pn) (x : Int) : Int := ((ps.filter fun p => decide (p.2.1 ≤ x) && decide (p.2.2 = 1)).length : Nat)
end L2.DL
set_option Elab.async false
set_option linter.all false
set_option autoImplicit false
set_option maxRecDepth 100000
set_option maxHeartbeats 2000000
namespace L2.DL
open PySem PySem.Spec PyProof.Rows
local macro_rules | `(tactic| walk_at "ev") => `(tactic| simp only [dSeq, dNext, dSet, dPar, dPar3, dRet, dRetN, dDrop, dIfS, dBrk, dCnt, dApp, dFor, dItL, dItT, dRng1, dRng2, dZip, dEnum, dItS, dAsg, dAugI, dNever, dPutS, dNewD, dFldM, dFldS, dStar,
  dgName, dgTup, dgCons, dgNil, dOp, dUn, dC, dNil, dCons, dCB, dTup, dLst, dIf, dTst, dTru, dAnd, dOr, dNot, dAndV, dOrV, dNotV, dYes, dInR, dFld, dMeth, dCall, dDctIx, dGet2, dRaise, dRaiseZ, dDisp, dPNil, dPCons, dRepD, dTold, dLenSet, hid_u, hid_d, hid_o, dStep2, dSlV, dIxV, dSetV, dPopV, dLenV, dLcV, lstAt, Option.isSome_some, Option.isSome_none, dSl, dNoP, dPart, dLc, dDc, dSortSet, dSortSc, dListVals, dChain, dIsiT2, dCallB, dBor, dNilB, dCBB, dOneL,
  dIsN, dNotN, dStrI, dAbs, dIn, fz_v, fz_l, fz_d, fz_i, fz_m, un_l, un_d, un_i, un_m, sl_v, sl_o, dwipe, and_assoc, insLF, insLT, insFF, insFT, startD, startN, pdT, pdI, gdT, prT, stI, putFD, lendable, noKR, noK, noKs,
  vd0, vo0, rd0, ro0, vd1, vo1, rd1, ro1, vd2, vo2, rd2, ro2, vd3, vo3, rd3, ro3, vd4, vo4, rd4, ro4, vd5, vo5, rd5, ro5, vd6, vo6, rd6, ro6, vd7, vo7, rd7, ro7, vd8, vo8, rd8, ro8, vd9, vo9, rd9, ro9, vd10, vo10, rd10, ro10, vd11, vo11, rd11, ro11, vd12, vo12, rd12, ro12, vd13, vo13, rd13, ro13, vd14, vo14, rd14, ro14, vd15, vo15, rd15, ro15, vd16, vo16, rd16, ro16, vd17, vo17, rd17, ro17, vd18, vo18, rd18, ro18, vd19, vo19, rd19, ro19, vd20, vo20, rd20, ro20, vd21, vo21, rd21, ro21, vd22, vo22, rd22, ro22, vd23, vo23, rd23, ro23, lk_people, lk_names, lk_has_name, lk_person, lk_place, lk_voice, lk_places, lk_at, lk_line, lk_voices, lk_is_together, lk_own, lenL, lenT, lenS, ixL, ixT, ixS, dcutL, dcutS, addII, addSS, addLL, int1i, int1b, negI, reprL, reprT, absI, sc_n, sc_b, sc_i, sc_s, subI, mulI, fdvI, modI, powI, ltI, leI, gtI, geI, tr_n, tr_b, tr_i, tr_l, tr_t, tr_d, ty_n, ty_b, ty_i, ty_s, ty_l, ty_t, ty_d, in_n, in_b, in_i, in_s, in_l, in_t, in_d, eqII, neII, eqSS, neSS, eqBB, neBB, isic_n, isic_b, isic_i, isic_s, isic_l, isic_t, isic_d, isio_n, isio_b, isio_i, isio_s, isio_l, isio_t, isio_d, isic_I, isic_S, isic_T, isic_L, isic_B, isio_I, dIsiO, isi_ii, isi_ib, isi_is, isi_il, isi_bi, isi_bb, isi_bs, isi_si, isi_sb, isi_ss, isi_ni, isi_nb, isi_ns, isi_li, isi_lb, isi_ls, isi_ll, isi_ti, isi_tb, isi_ts, isi_tt, isi_di, isi_db, isi_ds, isi_lt, isi_tl, isi_bt, isi_nt, isi_dt, eqLL, neLL, eqTT, neTT, isi_sl, isi_st, isi_it, kit_ll, kit_lt, max2, min2, get1, get2b, get3b, get3c,
  List.map_cons, List.map_nil, List.length_cons, List.length_nil, List.replicate, List.append_nil, List.cons_append, List.nil_append, List.getElem?_cons_zero, List.getElem?_cons_succ, List.set_cons_zero, List.set_cons_succ, List.getElem?_nil, Nat.sub_zero, Nat.reduceAdd, Nat.reduceSub, Int.reduceLT, Int.reduceLE, Int.reduceNeg, Nat.zero_add,
  true_and, and_true, eq_self, Bool.true_or, Bool.or_true, Bool.false_or, Bool.or_false, Bool.true_and, Bool.and_true, Bool.false_and, Bool.and_false, exists_eq_left, exists_eq_left', exists_eq', exists_eq, Option.some.injEq, Res.v.injEq, D.bl.injEq, D.int.injEq, D.str.injEq, D.lst.injEq, D.tup.injEq, D.dct.injEq, D.ins.injEq, Sl.o.injEq, Sl.d.injEq, List.cons.injEq, reduceCtorEq, false_or, or_false, if_true, if_false, Bool.false_eq_true, Bool.not_true, Bool.not_false, ite_true, ite_false, decide_true, decide_false, and_self, List.isEmpty_nil, List.isEmpty_cons, exists_and_left, exists_const, lenNil])
end L2.DL
set_option Elab.async false
set_option linter.all false
set_option autoImplicit false
set_option maxRecDepth 100000
set_option maxHeartbeats 1000000
namespace L2.DL
open PySem PySem.Spec PyProof.Rows
def sgnB (b : Bool) : Int := if b then 1 else -1
def oddAt (ps : List Pn) (x : Int) : Bool := decide (cntLe ps x % 2 = 1)
/-- the height n steps right of y -/
def hN (ps : List Pn) (y : Int) : Nat → Int
  | 0 => 0
  | n + 1 => hN ps y n + sgnB (oddAt ps (y + n))
end L2.DL
set_option Elab.async false
set_option linter.all false
set_option autoImplicit false
set_option maxRecDepth 100000
set_option maxHeartbeats 2000000
namespace L2.DL
open PySem PySem.Spec PyProof.Rows
local macro_rules | `(tactic| walk_at "ev") => `(tactic| simp only [dSeq, dNext, dSet, dPar, dPar3, dRet, dRetN, dDrop, dIfS, dBrk, dCnt, dApp, dFor, dItL, dItT, dRng1, dRng2, dZip, dEnum, dItS, dAsg, dAugI, dNever, dPutS, dNewD, dFldM, dFldS, dStar,
  dgName, dgTup, dgCons, dgNil, dOp, dUn, dC, dNil, dCons, dCB, dTup, dLst, dIf, dTst, dTru, dAnd, dOr, dNot, dAndV, dOrV, dNotV, dYes, dInR, dFld, dMeth, dCall, dDctIx, dGet2, dRaise, dRaiseZ, dDisp, dPNil, dPCons, dRepD, dTold, dLenSet, hid_u, hid_d, hid_o, dStep2, dSlV, dIxV, dSetV, dPopV, dLenV, dLcV, lstAt, Option.isSome_some, Option.isSome_none, dSl, dNoP, dPart, dLc, dDc, dSortSet, dSortSc, dListVals, dChain, dIsiT2, dCallB, dBor, dNilB, dCBB, dOneL,
  dIsN, dNotN, dStrI, dAbs, dIn, fz_v, fz_l, fz_d, fz_i, fz_m, un_l, un_d, un_i, un_m, sl_v, sl_o, dwipe, and_assoc, insLF, insLT, insFF, insFT, startD, startN, pdT, pdI, gdT, prT, stI, putFD, lendable, noKR, noK, noKs,
  vd0, vo0, rd0, ro0, vd1, vo1, rd1, ro1, vd2, vo2, rd2, ro2, vd3, vo3, rd3, ro3, vd4, vo4, rd4, ro4, vd5, vo5, rd5, ro5, vd6, vo6, rd6, ro6, vd7, vo7, rd7, ro7, vd8, vo8, rd8, ro8, vd9, vo9, rd9, ro9, vd10, vo10, rd10, ro10, vd11, vo11, rd11, ro11, vd12, vo12, rd12, ro12, vd13, vo13, rd13, ro13, vd14, vo14, rd14, ro14, vd15, vo15, rd15, ro15, vd16, vo16, rd16, ro16, vd17, vo17, rd17, ro17, vd18, vo18, rd18, ro18, vd19, vo19, rd19, ro19, vd20, vo20, rd20, ro20, vd21, vo21, rd21, ro21, vd22, vo22, rd22, ro22, vd23, vo23, rd23, ro23, lk_people, lk_names, lk_has_name, lk_person, lk_place, lk_voice, lk_places, lk_at, lk_line, lk_voices, lk_is_together, lk_own, lenL, lenT, lenS, ixL, ixT, ixS, dcutL, dcutS, addII, addSS, addLL, int1i, int1b, negI, reprL, reprT, absI, sc_n, sc_b, sc_i, sc_s, subI, mulI, fdvI, modI, powI, ltI, leI, gtI, geI, tr_n, tr_b, tr_i, tr_l, tr_t, tr_d, ty_n, ty_b, ty_i, ty_s, ty_l, ty_t, ty_d, in_n, in_b, in_i, in_s, in_l, in_t, in_d, eqII, neII, eqSS, neSS, eqBB, neBB, isic_n, isic_b, isic_i, isic_s, isic_l, isic_t, isic_d, isio_n, isio_b, isio_i, isio_s, isio_l, isio_t, isio_d, isic_I, isic_S, isic_T, isic_L, isic_B, isio_I, dIsiO, isi_ii, isi_ib, isi_is, isi_il, isi_bi, isi_bb, isi_bs, isi_si, isi_sb, isi_ss, isi_ni, isi_nb, isi_ns, isi_li, isi_lb, isi_ls, isi_ll, isi_ti, isi_tb, isi_ts, isi_tt, isi_di, isi_db, isi_ds, isi_lt, isi_tl, isi_bt, isi_nt, isi_dt, eqLL, neLL, eqTT, neTT, isi_sl, isi_st, isi_it, kit_ll, kit_lt, max2, min2, get1, get2b, get3b, get3c,
  List.map_cons, List.map_nil, List.length_cons, List.length_nil, List.replicate, List.append_nil, List.cons_append, List.nil_append, List.getElem?_cons_zero, List.getElem?_cons_succ, List.set_cons_zero, List.set_cons_succ, List.getElem?_nil, Nat.sub_zero, Nat.reduceAdd, Nat.reduceSub, Int.reduceLT, Int.reduceLE, Int.reduceNeg, Nat.zero_add,
  true_and, and_true, eq_self, Bool.true_or, Bool.or_true, Bool.false_or, Bool.or_false, Bool.true_and, Bool.and_true, Bool.false_and, Bool.and_false, exists_eq_left, exists_eq_left', exists_eq', exists_eq, Option.some.injEq, Res.v.injEq, D.bl.injEq, D.int.injEq, D.str.injEq, D.lst.injEq, D.tup.injEq, D.dct.injEq, D.ins.injEq, Sl.o.injEq, Sl.d.injEq, List.cons.injEq, reduceCtorEq, false_or, or_false, if_true, if_false, Bool.false_eq_true, Bool.not_true, Bool.not_false, ite_true, ite_false, decide_true, decide_false, and_self, List.isEmpty_nil, List.isEmpty_cons, exists_and_left, exists_const, lenNil])
end L2.DL
set_option Elab.async false
set_option linter.all false
set_option autoImplicit false
set_option maxRecDepth 100000
set_option maxHeartbeats 1000000
namespace L2.DL
open PySem PySem.Spec PyProof.Rows
end L2.DL
set_option Elab.async false
set_option linter.all false
set_option autoImplicit false
set_option maxRecDepth 100000
set_option maxHeartbeats 2000000
namespace L2.DL
open PySem PySem.Spec PyProof.Rows
mutual
def nb : D → Bool
  | .non => true
  | .int _ => true
  | .str _ => true
  | .lst xs => nbs xs
  | .tup xs => nbs xs
  | _ => false
def nbs : List D → Bool
  | [] => true
  | x :: xs => nb x && nbs xs
end
end L2.DL
set_option Elab.async false
set_option linter.all false
set_option autoImplicit false
set_option maxRecDepth 100000
set_option maxHeartbeats 2000000
namespace L2.DL
open PySem PySem.Spec PyProof.Rows
local macro_rules | `(tactic| walk_at "ev") => `(tactic| simp only [dSeq, dNext, dSet, dPar, dPar3, dRet, dRetN, dDrop, dIfS, dBrk, dCnt, dApp, dFor, dItL, dItT, dRng1, dRng2, dZip, dEnum, dItS, dAsg, dAugI, dNever, dPutS, dNewD, dFldM, dFldS, dStar,
  dgName, dgTup, dgCons, dgNil, dOp, dUn, dC, dNil, dCons, dCB, dTup, dLst, dIf, dTst, dTru, dAnd, dOr, dNot, dAndV, dOrV, dNotV, dYes, dInR, dFld, dMeth, dCall, dDctIx, dGet2, dRaise, dRaiseZ, dDisp, dPNil, dPCons, dRepD, dTold, dLenSet, hid_u, hid_d, hid_o, dStep2, dSlV, dIxV, dSetV, dPopV, dLenV, dLcV, lstAt, Option.isSome_some, Option.isSome_none, dSl, dNoP, dPart, dLc, dDc, dSortSet, dSortSc, dListVals, dChain, dIsiT2, dCallB, dBor, dNilB, dCBB, dOneL,
  dIsN, dNotN, dStrI, dAbs, dIn, fz_v, fz_l, fz_d, fz_i, fz_m, un_l, un_d, un_i, un_m, sl_v, sl_o, dwipe, and_assoc, insLF, insLT, insFF, insFT, startD, startN, pdT, pdI, gdT, prT, stI, putFD, lendable, noKR, noK, noKs,
  vd0, vo0, rd0, ro0, vd1, vo1, rd1, ro1, vd2, vo2, rd2, ro2, vd3, vo3, rd3, ro3, vd4, vo4, rd4, ro4, vd5, vo5, rd5, ro5, vd6, vo6, rd6, ro6, vd7, vo7, rd7, ro7, vd8, vo8, rd8, ro8, vd9, vo9, rd9, ro9, vd10, vo10, rd10, ro10, vd11, vo11, rd11, ro11, vd12, vo12, rd12, ro12, vd13, vo13, rd13, ro13, vd14, vo14, rd14, ro14, vd15, vo15, rd15, ro15, vd16, vo16, rd16, ro16, vd17, vo17, rd17, ro17, vd18, vo18, rd18, ro18, vd19, vo19, rd19, ro19, vd20, vo20, rd20, ro20, vd21, vo21, rd21, ro21, vd22, vo22, rd22, ro22, vd23, vo23, rd23, ro23, lk_people, lk_names, lk_has_name, lk_person, lk_place, lk_voice, lk_places, lk_at, lk_line, lk_voices, lk_is_together, lk_own, lenL, lenT, lenS, ixL, ixT, ixS, dcutL, dcutS, addII, addSS, addLL, int1i, int1b, negI, reprL, reprT, absI, sc_n, sc_b, sc_i, sc_s, subI, mulI, fdvI, modI, powI, ltI, leI, gtI, geI, tr_n, tr_b, tr_i, tr_l, tr_t, tr_d, ty_n, ty_b, ty_i, ty_s, ty_l, ty_t, ty_d, in_n, in_b, in_i, in_s, in_l, in_t, in_d, eqII, neII, eqSS, neSS, eqBB, neBB, isic_n, isic_b, isic_i, isic_s, isic_l, isic_t, isic_d, isio_n, isio_b, isio_i, isio_s, isio_l, isio_t, isio_d, isic_I, isic_S, isic_T, isic_L, isic_B, isio_I, dIsiO, isi_ii, isi_ib, isi_is, isi_il, isi_bi, isi_bb, isi_bs, isi_si, isi_sb, isi_ss, isi_ni, isi_nb, isi_ns, isi_li, isi_lb, isi_ls, isi_ll, isi_ti, isi_tb, isi_ts, isi_tt, isi_di, isi_db, isi_ds, isi_lt, isi_tl, isi_bt, isi_nt, isi_dt, eqLL, neLL, eqTT, neTT, isi_sl, isi_st, isi_it, kit_ll, kit_lt, max2, min2, get1, get2b, get3b, get3c,
  List.map_cons, List.map_nil, List.length_cons, List.length_nil, List.replicate, List.append_nil, List.cons_append, List.nil_append, List.getElem?_cons_zero, List.getElem?_cons_succ, List.set_cons_zero, List.set_cons_succ, List.getElem?_nil, Nat.sub_zero, Nat.reduceAdd, Nat.reduceSub, Int.reduceLT, Int.reduceLE, Int.reduceNeg, Nat.zero_add,
  true_and, and_true, eq_self, Bool.true_or, Bool.or_true, Bool.false_or, Bool.or_false, Bool.true_and, Bool.and_true, Bool.false_and, Bool.and_false, exists_eq_left, exists_eq_left', exists_eq', exists_eq, Option.some.injEq, Res.v.injEq, D.bl.injEq, D.int.injEq, D.str.injEq, D.lst.injEq, D.tup.injEq, D.dct.injEq, D.ins.injEq, Sl.o.injEq, Sl.d.injEq, List.cons.injEq, reduceCtorEq, false_or, or_false, if_true, if_false, Bool.false_eq_true, Bool.not_true, Bool.not_false, ite_true, ite_false, decide_true, decide_false, and_self, List.isEmpty_nil, List.isEmpty_cons, exists_and_left, exists_const, lenNil])
end L2.DL
set_option Elab.async false
set_option linter.all false
set_option autoImplicit false
set_option maxRecDepth 100000
set_option maxHeartbeats 1000000
namespace L2.DL
open PySem PySem.Spec PyProof.Rows
end L2.DL
set_option Elab.async false
set_option linter.all false
set_option autoImplicit false
set_option maxRecDepth 100000
set_option maxHeartbeats 1000000
namespace L2.DL
open PySem PySem.Spec PyProof.Rows
/-- a block cut in two -/
theorem seq_of {A B : DTS} {E : DEnds} {ρ : Rho} (Good : Rho → Prop) (h : ∀ N : Rho → Prop, (∀ ρ', Good ρ' → N ρ') → A { E with nx := N } ρ) (hB : ∀ ρ', Good ρ' → B E ρ') : dSeq A B E ρ := h (B E) hB
end L2.DL
set_option Elab.async false
set_option linter.all false
set_option autoImplicit false
set_option maxRecDepth 100000
set_option maxHeartbeats 2000000
namespace L2.DL
open PySem PySem.Spec PyProof.Rows
local macro_rules | `(tactic| walk_at "ev") => `(tactic| simp only [dSeq, dNext, dSet, dPar, dPar3, dRet, dRetN, dDrop, dIfS, dBrk, dCnt, dApp, dFor, dItL, dItT, dRng1, dRng2, dZip, dEnum, dItS, dAsg, dAugI, dNever, dPutS, dNewD, dFldM, dFldS, dStar,
  dgName, dgTup, dgCons, dgNil, dOp, dUn, dC, dNil, dCons, dCB, dTup, dLst, dIf, dTst, dTru, dAnd, dOr, dNot, dAndV, dOrV, dNotV, dYes, dInR, dFld, dMeth, dCall, dDctIx, dGet2, dRaise, dRaiseZ, dDisp, dPNil, dPCons, dRepD, dTold, dLenSet, hid_u, hid_d, hid_o, dStep2, dSlV, dIxV, dSetV, dPopV, dLenV, dLcV, lstAt, Option.isSome_some, Option.isSome_none, dSl, dNoP, dPart, dLc, dDc, dSortSet, dSortSc, dListVals, dChain, dIsiT2, dCallB, dBor, dNilB, dCBB, dOneL,
  dIsN, dNotN, dStrI, dAbs, dIn, fz_v, fz_l, fz_d, fz_i, fz_m, un_l, un_d, un_i, un_m, sl_v, sl_o, dwipe, and_assoc, insLF, insLT, insFF, insFT, startD, startN, pdT, pdI, gdT, prT, stI, putFD, lendable, noKR, noK, noKs,
  vd0, vo0, rd0, ro0, vd1, vo1, rd1, ro1, vd2, vo2, rd2, ro2, vd3, vo3, rd3, ro3, vd4, vo4, rd4, ro4, vd5, vo5, rd5, ro5, vd6, vo6, rd6, ro6, vd7, vo7, rd7, ro7, vd8, vo8, rd8, ro8, vd9, vo9, rd9, ro9, vd10, vo10, rd10, ro10, vd11, vo11, rd11, ro11, vd12, vo12, rd12, ro12, vd13, vo13, rd13, ro13, vd14, vo14, rd14, ro14, vd15, vo15, rd15, ro15, vd16, vo16, rd16, ro16, vd17, vo17, rd17, ro17, vd18, vo18, rd18, ro18, vd19, vo19, rd19, ro19, vd20, vo20, rd20, ro20, vd21, vo21, rd21, ro21, vd22, vo22, rd22, ro22, vd23, vo23, rd23, ro23, lk_people, lk_names, lk_has_name, lk_person, lk_place, lk_voice, lk_places, lk_at, lk_line, lk_voices, lk_is_together, lk_own, lenL, lenT, lenS, ixL, ixT, ixS, dcutL, dcutS, addII, addSS, addLL, int1i, int1b, negI, reprL, reprT, absI, sc_n, sc_b, sc_i, sc_s, subI, mulI, fdvI, modI, powI, ltI, leI, gtI, geI, tr_n, tr_b, tr_i, tr_l, tr_t, tr_d, ty_n, ty_b, ty_i, ty_s, ty_l, ty_t, ty_d, in_n, in_b, in_i, in_s, in_l, in_t, in_d, eqII, neII, eqSS, neSS, eqBB, neBB, isic_n, isic_b, isic_i, isic_s, isic_l, isic_t, isic_d, isio_n, isio_b, isio_i, isio_s, isio_l, isio_t, isio_d, isic_I, isic_S, isic_T, isic_L, isic_B, isio_I, dIsiO, isi_ii, isi_ib, isi_is, isi_il, isi_bi, isi_bb, isi_bs, isi_si, isi_sb, isi_ss, isi_ni, isi_nb, isi_ns, isi_li, isi_lb, isi_ls, isi_ll, isi_ti, isi_tb, isi_ts, isi_tt, isi_di, isi_db, isi_ds, isi_lt, isi_tl, isi_bt, isi_nt, isi_dt, eqLL, neLL, eqTT, neTT, isi_sl, isi_st, isi_it, kit_ll, kit_lt, max2, min2, get1, get2b, get3b, get3c,
  List.map_cons, List.map_nil, List.length_cons, List.length_nil, List.replicate, List.append_nil, List.cons_append, List.nil_append, List.getElem?_cons_zero, List.getElem?_cons_succ, List.set_cons_zero, List.set_cons_succ, List.getElem?_nil, Nat.sub_zero, Nat.reduceAdd, Nat.reduceSub, Int.reduceLT, Int.reduceLE, Int.reduceNeg, Nat.zero_add,
  true_and, and_true, eq_self, Bool.true_or, Bool.or_true, Bool.false_or, Bool.or_false, Bool.true_and, Bool.and_true, Bool.false_and, Bool.and_false, exists_eq_left, exists_eq_left', exists_eq', exists_eq, Option.some.injEq, Res.v.injEq, D.bl.injEq, D.int.injEq, D.str.injEq, D.lst.injEq, D.tup.injEq, D.dct.injEq, D.ins.injEq, Sl.o.injEq, Sl.d.injEq, List.cons.injEq, reduceCtorEq, false_or, or_false, if_true, if_false, Bool.false_eq_true, Bool.not_true, Bool.not_false, ite_true, ite_false, decide_true, decide_false, and_self, List.isEmpty_nil, List.isEmpty_cons, exists_and_left, exists_const, lenNil])
def altsum : List Int → Int
  | [] => 0
  | x :: r => x - altsum r
theorem alt_sum : ∀ l : List Int, (alt l).sum - (alt (l.drop 1)).sum = altsum l
  | [] => rfl
  | x :: r => by
    have ih := alt_sum r
    rw [alt_cons, List.sum_cons]
    simp only [altsum, List.drop_succ_cons, List.drop_zero]
    omega
end L2.DL
set_option Elab.async false
set_option linter.all false
set_option autoImplicit false
set_option maxRecDepth 100000
set_option maxHeartbeats 2000000
namespace L2.DL
open PySem PySem.Spec PyProof.Rows
local macro_rules | `(tactic| walk_at "ev") => `(tactic| simp only [dSeq, dNext, dSet, dPar, dPar3, dRet, dRetN, dDrop, dIfS, dBrk, dCnt, dApp, dFor, dItL, dItT, dRng1, dRng2, dZip, dEnum, dItS, dAsg, dAugI, dNever, dPutS, dNewD, dFldM, dFldS, dStar,
  dgName, dgTup, dgCons, dgNil, dOp, dUn, dC, dNil, dCons, dCB, dTup, dLst, dIf, dTst, dTru, dAnd, dOr, dNot, dAndV, dOrV, dNotV, dYes, dInR, dFld, dMeth, dCall, dDctIx, dGet2, dRaise, dRaiseZ, dDisp, dPNil, dPCons, dRepD, dTold, dLenSet, hid_u, hid_d, hid_o, dStep2, dSlV, dIxV, dSetV, dPopV, dLenV, dLcV, lstAt, Option.isSome_some, Option.isSome_none, dSl, dNoP, dPart, dLc, dDc, dSortSet, dSortSc, dListVals, dChain, dIsiT2, dCallB, dBor, dNilB, dCBB, dOneL,
  dIsN, dNotN, dStrI, dAbs, dIn, fz_v, fz_l, fz_d, fz_i, fz_m, un_l, un_d, un_i, un_m, sl_v, sl_o, dwipe, and_assoc, insLF, insLT, insFF, insFT, startD, startN, pdT, pdI, gdT, prT, stI, putFD, lendable, noKR, noK, noKs,
  vd0, vo0, rd0, ro0, vd1, vo1, rd1, ro1, vd2, vo2, rd2, ro2, vd3, vo3, rd3, ro3, vd4, vo4, rd4, ro4, vd5, vo5, rd5, ro5, vd6, vo6, rd6, ro6, vd7, vo7, rd7, ro7, vd8, vo8, rd8, ro8, vd9, vo9, rd9, ro9, vd10, vo10, rd10, ro10, vd11, vo11, rd11, ro11, vd12, vo12, rd12, ro12, vd13, vo13, rd13, ro13, vd14, vo14, rd14, ro14, vd15, vo15, rd15, ro15, vd16, vo16, rd16, ro16, vd17, vo17, rd17, ro17, vd18, vo18, rd18, ro18, vd19, vo19, rd19, ro19, vd20, vo20, rd20, ro20, vd21, vo21, rd21, ro21, vd22, vo22, rd22, ro22, vd23, vo23, rd23, ro23, lk_people, lk_names, lk_has_name, lk_person, lk_place, lk_voice, lk_places, lk_at, lk_line, lk_voices, lk_is_together, lk_own, lenL, lenT, lenS, ixL, ixT, ixS, dcutL, dcutS, addII, addSS, addLL, int1i, int1b, negI, reprL, reprT, absI, sc_n, sc_b, sc_i, sc_s, subI, mulI, fdvI, modI, powI, ltI, leI, gtI, geI, tr_n, tr_b, tr_i, tr_l, tr_t, tr_d, ty_n, ty_b, ty_i, ty_s, ty_l, ty_t, ty_d, in_n, in_b, in_i, in_s, in_l, in_t, in_d, eqII, neII, eqSS, neSS, eqBB, neBB, isic_n, isic_b, isic_i, isic_s, isic_l, isic_t, isic_d, isio_n, isio_b, isio_i, isio_s, isio_l, isio_t, isio_d, isic_I, isic_S, isic_T, isic_L, isic_B, isio_I, dIsiO, isi_ii, isi_ib, isi_is, isi_il, isi_bi, isi_bb, isi_bs, isi_si, isi_sb, isi_ss, isi_ni, isi_nb, isi_ns, isi_li, isi_lb, isi_ls, isi_ll, isi_ti, isi_tb, isi_ts, isi_tt, isi_di, isi_db, isi_ds, isi_lt, isi_tl, isi_bt, isi_nt, isi_dt, eqLL, neLL, eqTT, neTT, isi_sl, isi_st, isi_it, kit_ll, kit_lt, max2, min2, get1, get2b, get3b, get3c,
  List.map_cons, List.map_nil, List.length_cons, List.length_nil, List.replicate, List.append_nil, List.cons_append, List.nil_append, List.getElem?_cons_zero, List.getElem?_cons_succ, List.set_cons_zero, List.set_cons_succ, List.getElem?_nil, Nat.sub_zero, Nat.reduceAdd, Nat.reduceSub, Int.reduceLT, Int.reduceLE, Int.reduceNeg, Nat.zero_add,
  true_and, and_true, eq_self, Bool.true_or, Bool.or_true, Bool.false_or, Bool.or_false, Bool.true_and, Bool.and_true, Bool.false_and, Bool.and_false, exists_eq_left, exists_eq_left', exists_eq', exists_eq, Option.some.injEq, Res.v.injEq, D.bl.injEq, D.int.injEq, D.str.injEq, D.lst.injEq, D.tup.injEq, D.dct.injEq, D.ins.injEq, Sl.o.injEq, Sl.d.injEq, List.cons.injEq, reduceCtorEq, false_or, or_false, if_true, if_false, Bool.false_eq_true, Bool.not_true, Bool.not_false, ite_true, ite_false, decide_true, decide_false, and_self, List.isEmpty_nil, List.isEmpty_cons, exists_and_left, exists_const, lenNil])
end L2.DL
set_option Elab.async false
set_option linter.all false
set_option autoImplicit false
set_option maxRecDepth 100000
set_option maxHeartbeats 2000000
namespace L2.DL
open PySem PySem.Spec PyProof.Rows
local macro_rules | `(tactic| walk_at "ev") => `(tactic| simp only [dSeq, dNext, dSet, dPar, dPar3, dRet, dRetN, dDrop, dIfS, dBrk, dCnt, dApp, dFor, dItL, dItT, dRng1, dRng2, dZip, dEnum, dItS, dAsg, dAugI, dNever, dPutS, dNewD, dFldM, dFldS, dStar,
  dgName, dgTup, dgCons, dgNil, dOp, dUn, dC, dNil, dCons, dCB, dTup, dLst, dIf, dTst, dTru, dAnd, dOr, dNot, dAndV, dOrV, dNotV, dYes, dInR, dFld, dMeth, dCall, dDctIx, dGet2, dRaise, dRaiseZ, dDisp, dPNil, dPCons, dRepD, dTold, dLenSet, hid_u, hid_d, hid_o, dStep2, dSlV, dIxV, dSetV, dPopV, dLenV, dLcV, lstAt, Option.isSome_some, Option.isSome_none, dSl, dNoP, dPart, dLc, dDc, dSortSet, dSortSc, dListVals, dChain, dIsiT2, dCallB, dBor, dNilB, dCBB, dOneL,
  dIsN, dNotN, dStrI, dAbs, dIn, fz_v, fz_l, fz_d, fz_i, fz_m, un_l, un_d, un_i, un_m, sl_v, sl_o, dwipe, and_assoc, insLF, insLT, insFF, insFT, startD, startN, pdT, pdI, gdT, prT, stI, putFD, lendable, noKR, noK, noKs,
  vd0, vo0, rd0, ro0, vd1, vo1, rd1, ro1, vd2, vo2, rd2, ro2, vd3, vo3, rd3, ro3, vd4, vo4, rd4, ro4, vd5, vo5, rd5, ro5, vd6, vo6, rd6, ro6, vd7, vo7, rd7, ro7, vd8, vo8, rd8, ro8, vd9, vo9, rd9, ro9, vd10, vo10, rd10, ro10, vd11, vo11, rd11, ro11, vd12, vo12, rd12, ro12, vd13, vo13, rd13, ro13, vd14, vo14, rd14, ro14, vd15, vo15, rd15, ro15, vd16, vo16, rd16, ro16, vd17, vo17, rd17, ro17, vd18, vo18, rd18, ro18, vd19, vo19, rd19, ro19, vd20, vo20, rd20, ro20, vd21, vo21, rd21, ro21, vd22, vo22, rd22, ro22, vd23, vo23, rd23, ro23, lk_people, lk_names, lk_has_name, lk_person, lk_place, lk_voice, lk_places, lk_at, lk_line, lk_voices, lk_is_together, lk_own, lenL, lenT, lenS, ixL, ixT, ixS, dcutL, dcutS, addII, addSS, addLL, int1i, int1b, negI, reprL, reprT, absI, sc_n, sc_b, sc_i, sc_s, subI, mulI, fdvI, modI, powI, ltI, leI, gtI, geI, tr_n, tr_b, tr_i, tr_l, tr_t, tr_d, ty_n, ty_b, ty_i, ty_s, ty_l, ty_t, ty_d, in_n, in_b, in_i, in_s, in_l, in_t, in_d, eqII, neII, eqSS, neSS, eqBB, neBB, isic_n, isic_b, isic_i, isic_s, isic_l, isic_t, isic_d, isio_n, isio_b, isio_i, isio_s, isio_l, isio_t, isio_d, isic_I, isic_S, isic_T, isic_L, isic_B, isio_I, dIsiO, isi_ii, isi_ib, isi_is, isi_il, isi_bi, isi_bb, isi_bs, isi_si, isi_sb, isi_ss, isi_ni, isi_nb, isi_ns, isi_li, isi_lb, isi_ls, isi_ll, isi_ti, isi_tb, isi_ts, isi_tt, isi_di, isi_db, isi_ds, isi_lt, isi_tl, isi_bt, isi_nt, isi_dt, eqLL, neLL, eqTT, neTT, isi_sl, isi_st, isi_it, kit_ll, kit_lt, max2, min2, get1, get2b, get3b, get3c,
  List.map_cons, List.map_nil, List.length_cons, List.length_nil, List.replicate, List.append_nil, List.cons_append, List.nil_append, List.getElem?_cons_zero, List.getElem?_cons_succ, List.set_cons_zero, List.set_cons_succ, List.getElem?_nil, Nat.sub_zero, Nat.reduceAdd, Nat.reduceSub, Int.reduceLT, Int.reduceLE, Int.reduceNeg, Nat.zero_add,
  true_and, and_true, eq_self, Bool.true_or, Bool.or_true, Bool.false_or, Bool.or_false, Bool.true_and, Bool.and_true, Bool.false_and, Bool.and_false, exists_eq_left, exists_eq_left', exists_eq', exists_eq, Option.some.injEq, Res.v.injEq, D.bl.injEq, D.int.injEq, D.str.injEq, D.lst.injEq, D.tup.injEq, D.dct.injEq, D.ins.injEq, Sl.o.injEq, Sl.d.injEq, List.cons.injEq, reduceCtorEq, false_or, or_false, if_true, if_false, Bool.false_eq_true, Bool.not_true, Bool.not_false, ite_true, ite_false, decide_true, decide_false, and_self, List.isEmpty_nil, List.isEmpty_cons, exists_and_left, exists_const, lenNil])
def findS (ps : List Pn) (z : Str) : Option Pn := ps.find? fun p => decide (p.1 = z)
def findD (ps : List Pn) (d : D) : Option Pn := match d with
  | .str z => findS ps z
  | _ => none
theorem val_own {ps : List Pn} {z : Str} : valD (ownD ps) (.inr z) = (findS ps z).map pD := by
  unfold valD ownD findS
  induction ps with
  | nil => rfl
  | cons p ps ih =>
    rw [List.map_cons, List.find?_cons, List.find?_cons]
    by_cases h : p.1 = z
    · rw [decide_eq_true h, decide_eq_true (show (Sum.inr p.1 : Key) = .inr z by rw [h])]; rfl
    · rw [decide_eq_false h, decide_eq_false (show ¬ (Sum.inr p.1 : Key) = .inr z from fun e => h (Sum.inr.inj e))]; exact ih
theorem find_mem {ps : List Pn} {p : Pn} (hw : (ps.map (·.1)).Nodup) (h : p ∈ ps) : findS ps p.1 = some p := by
  unfold findS
  induction ps with
  | nil => cases h
  | cons q ps ih =>
    rw [List.find?_cons]
    rw [List.map_cons, List.nodup_cons] at hw
    rcases List.mem_cons.mp h with rfl | h
    · rw [decide_eq_true rfl]
    · have : q.1 ≠ p.1 := fun e => hw.1 (e ▸ List.mem_map_of_mem h)
      rw [decide_eq_false this]
      exact ih hw.2 h
theorem find_none {ps : List Pn} {z : Str} : findS ps z = none ↔ z ∉ ps.map (·.1) := by
  unfold findS
  rw [List.find?_eq_none]
  constructor
  · intro h hm
    obtain ⟨p, hp, e⟩ := List.mem_map.mp hm
    exact h p hp (decide_eq_true e)
  · intro h p hp e
    exact h (List.mem_map.mpr ⟨p, hp, of_decide_eq_true e⟩)
/-- what may be asked as a name -/
def Nmd (C : Nm) (d : D) : Prop := tyC C d ∧ ∀ z, d = .str z → z.length ≤ sizeLine
theorem Nmd.word {C : Nm} {z : Str} (h : isWord z = true) : Nmd C (.str z) := ⟨rfl, fun y e => by cases e; exact word_len h⟩
def sp_Standing_has_name (C : Nm) : DSp := fun ds Q X => ∃ ps d, ds = [stD C ps, d] ∧ Wf ps ∧ Nmd C d ∧ Q (.v (.bl (findD ps d).isSome))
def sp_Standing_person (C : Nm) : DSp := fun ds Q X => ∃ ps d, ds = [stD C ps, d] ∧ Wf ps ∧ Nmd C d ∧ (∀ p, findD ps d = some p → Q (.v (pD p))) ∧ (findD ps d = none → X (C "UnknownName") [(("name" : Str), d)])
def sp_Standing_place (C : Nm) : DSp := fun ds Q X => ∃ ps d, ds = [stD C ps, d] ∧ Wf ps ∧ Nmd C d ∧ (∀ p, findD ps d = some p → Q (.v (.int p.2.1))) ∧ (findD ps d = none → X (C "UnknownName") [(("name" : Str), d)])
def sp_Standing_voice (C : Nm) : DSp := fun ds Q X => ∃ ps d, ds = [stD C ps, d] ∧ Wf ps ∧ Nmd C d ∧ (∀ p, findD ps d = some p → Q (.v (.int p.2.2))) ∧ (findD ps d = none → X (C "UnknownName") [(("name" : Str), d)])
set_option backward.match.sparseCases false in
def isPl (d : D) (p : Pn) : Bool := match d with
  | .int x => decide (p.2.1 = x)
  | _ => false
def togL (ps : List Pn) : Bool := decide ((placesL ps).length < 2)
def t_Standing_has_name (K : PySem.W.Frag) (C : Nm) (XD : DX) : DTS := (dRet (dAndV (dCall (sp_is_word C) XD (dCons (dVar 1) dNil)) (dOp (dInDct false) (dVar 1) (dFld (C ("Standing" : Str)) ("own_people" : Str) (dVar 0)))))
def t_Standing_person (K : PySem.W.Frag) (C : Nm) (XD : DX) : DTS := (dSeq (dIfS (dNot (dTru (dMeth (C ("Standing" : Str)) ("has_name" : Str) (sp_Standing_has_name C) XD (dVar 0) (dCons (dVar 1) dNil)))) (dRaise (C ("UnknownName" : Str)) [("name" : Str)] XD (dCons (dVar 1) dNil)) dNext)
      (dRet (dDctIx (dFld (C ("Standing" : Str)) ("own_people" : Str) (dVar 0)) (dVar 1))))
def t_Standing_place (K : PySem.W.Frag) (C : Nm) (XD : DX) : DTS := (dRet (dOp dIx (dMeth (C ("Standing" : Str)) ("person" : Str) (sp_Standing_person C) XD (dVar 0) (dCons (dVar 1) dNil)) (dC (.int 1))))
def t_Standing_voice (K : PySem.W.Frag) (C : Nm) (XD : DX) : DTS := (dRet (dOp dIx (dMeth (C ("Standing" : Str)) ("person" : Str) (sp_Standing_person C) XD (dVar 0) (dCons (dVar 1) dNil)) (dC (.int 2))))
section
variable {K : PySem.W.Frag} {C : Nm} {XD : DX} {ds : List D} {QD : Res → Prop}
theorem find_word {ps : List Pn} {d : D} (hw : Wf ps) (h : isWordD d = false) : findD ps d = none := by
  cases d with
  | str z =>
    show findS ps z = none
    rw [find_none]
    intro hm
    obtain ⟨p, hp, e⟩ := List.mem_map.mp hm
    have := hw.word p hp
    rw [e] at this
    have h : isWord z = false := h
    rw [this] at h
    cases h
  | _ => rfl
theorem pure_Standing_has_name (h : sp_Standing_has_name C ds QD XD) : t_Standing_has_name K C XD { nx := fun _ => QD (.v .non), rt := QD } (startN 2 ds) := by
  obtain ⟨ps, d, rfl, hw, hd, q⟩ := h
  unfold t_Standing_has_name
  walk_at "ev"
  refine ⟨d, rfl, hd.1, hd.2, ?_⟩
  cases hi : isWordD d with
  | false =>
    walk_at "ev"
    rw [find_word hw hi] at q
    exact q
  | true =>
    cases d with
    | str z =>
      walk_at "ev"
      refine ⟨ownD ps, .inr z, rfl, rfl, ?_⟩
      rw [val_own]
      have q : QD (.v (.bl (findS ps z).isSome)) := q
      cases e : findS ps z with
      | none => rw [e] at q; exact q
      | some p => rw [e] at q; exact q
    | _ => cases hi
theorem pure_Standing_person (h : sp_Standing_person C ds QD XD) : t_Standing_person K C XD { nx := fun _ => QD (.v .non), rt := QD } (startN 2 ds) := by
  obtain ⟨ps, d, rfl, hw, hd, q, r⟩ := h
  unfold t_Standing_person
  walk_at "ev"
  refine ⟨ps, d, rfl, hw, hd, ?_⟩
  cases e : findD ps d with
  | none =>
    walk_at "ev"
    exact r e
  | some p =>
    walk_at "ev"
    cases d with
    | str z =>
      have e : findS ps z = some p := e
      refine ⟨.inr z, rfl, pD p, ?_, q p e⟩
      rw [val_own, e]
      rfl
    | _ => cases e
theorem pure_Standing_place (h : sp_Standing_place C ds QD XD) : t_Standing_place K C XD { nx := fun _ => QD (.v .non), rt := QD } (startN 2 ds) := by
  obtain ⟨ps, d, rfl, hw, hd, q, r⟩ := h
  unfold t_Standing_place
  walk_at "ev"
  refine ⟨ps, d, rfl, hw, hd, fun p hp => ?_, r⟩
  walk_at "ev"
  exact q p hp
theorem pure_Standing_voice (h : sp_Standing_voice C ds QD XD) : t_Standing_voice K C XD { nx := fun _ => QD (.v .non), rt := QD } (startN 2 ds) := by
  obtain ⟨ps, d, rfl, hw, hd, q, r⟩ := h
  unfold t_Standing_voice
  walk_at "ev"
  refine ⟨ps, d, rfl, hw, hd, fun p hp => ?_, r⟩
  walk_at "ev"
  exact q p hp
end
def oddC (ps : List Pn) (x : Int) : Bool := decide (vAt ps x % 2 = 1)
/-- the people behind so many calls of the crowd at a place -/
def drP (x n : Int) (p : Pn) : Pn := (p.1, if p.2.1 < x then min x (p.2.1 + n) else max x (p.2.1 - n), p.2.2)
def drawnL (ps : List Pn) (x n : Int) : List Pn := ps.map (drP x n)
theorem Wf.drawn {ps : List Pn} (h : Wf ps) (x n : Int) : Wf (drawnL ps x n) where
  word := fun p hp => by obtain ⟨q, hq, rfl⟩ := List.mem_map.mp hp; exact h.word q hq
  nd := by
    have : (drawnL ps x n).map (·.1) = ps.map (·.1) := by unfold drawnL; rw [List.map_map]; rfl
    rw [this]; exact h.nd
  voice := fun p hp => by obtain ⟨q, hq, rfl⟩ := List.mem_map.mp hp; exact h.voice q hq
  few := by unfold drawnL; rw [List.length_map]; exact h.few
def canC (ps : List Pn) (x : Int) : Bool := oddC ps x && !togL ps
def firstAt (ps : List Pn) (x : Int) : Str := ((ps.filter (isPl (.int x))).map (·.1)).headD ("" : Str)
end L2.DL
set_option Elab.async false
set_option linter.all false
set_option autoImplicit false
set_option maxRecDepth 100000
set_option maxHeartbeats 2000000
namespace L2.DL
open PySem PySem.Spec PyProof.Rows
local macro_rules | `(tactic| walk_at "ev") => `(tactic| simp only [dSeq, dNext, dSet, dPar, dPar3, dRet, dRetN, dDrop, dIfS, dBrk, dCnt, dApp, dFor, dItL, dItT, dRng1, dRng2, dZip, dEnum, dItS, dAsg, dAugI, dNever, dPutS, dNewD, dFldM, dFldS, dStar,
  dgName, dgTup, dgCons, dgNil, dOp, dUn, dC, dNil, dCons, dCB, dTup, dLst, dIf, dTst, dTru, dAnd, dOr, dNot, dAndV, dOrV, dNotV, dYes, dInR, dFld, dMeth, dCall, dDctIx, dGet2, dRaise, dRaiseZ, dDisp, dPNil, dPCons, dRepD, dTold, dLenSet, hid_u, hid_d, hid_o, dStep2, dSlV, dIxV, dSetV, dPopV, dLenV, dLcV, lstAt, Option.isSome_some, Option.isSome_none, dSl, dNoP, dPart, dLc, dDc, dSortSet, dSortSc, dListVals, dChain, dIsiT2, dCallB, dBor, dNilB, dCBB, dOneL,
  dIsN, dNotN, dStrI, dAbs, dIn, fz_v, fz_l, fz_d, fz_i, fz_m, un_l, un_d, un_i, un_m, sl_v, sl_o, dwipe, and_assoc, insLF, insLT, insFF, insFT, startD, startN, pdT, pdI, gdT, prT, stI, putFD, lendable, noKR, noK, noKs,
  vd0, vo0, rd0, ro0, vd1, vo1, rd1, ro1, vd2, vo2, rd2, ro2, vd3, vo3, rd3, ro3, vd4, vo4, rd4, ro4, vd5, vo5, rd5, ro5, vd6, vo6, rd6, ro6, vd7, vo7, rd7, ro7, vd8, vo8, rd8, ro8, vd9, vo9, rd9, ro9, vd10, vo10, rd10, ro10, vd11, vo11, rd11, ro11, vd12, vo12, rd12, ro12, vd13, vo13, rd13, ro13, vd14, vo14, rd14, ro14, vd15, vo15, rd15, ro15, vd16, vo16, rd16, ro16, vd17, vo17, rd17, ro17, vd18, vo18, rd18, ro18, vd19, vo19, rd19, ro19, vd20, vo20, rd20, ro20, vd21, vo21, rd21, ro21, vd22, vo22, rd22, ro22, vd23, vo23, rd23, ro23, lk_people, lk_names, lk_has_name, lk_person, lk_place, lk_voice, lk_places, lk_at, lk_line, lk_voices, lk_is_together, lk_own, lenL, lenT, lenS, ixL, ixT, ixS, dcutL, dcutS, addII, addSS, addLL, int1i, int1b, negI, reprL, reprT, absI, sc_n, sc_b, sc_i, sc_s, subI, mulI, fdvI, modI, powI, ltI, leI, gtI, geI, tr_n, tr_b, tr_i, tr_l, tr_t, tr_d, ty_n, ty_b, ty_i, ty_s, ty_l, ty_t, ty_d, in_n, in_b, in_i, in_s, in_l, in_t, in_d, eqII, neII, eqSS, neSS, eqBB, neBB, isic_n, isic_b, isic_i, isic_s, isic_l, isic_t, isic_d, isio_n, isio_b, isio_i, isio_s, isio_l, isio_t, isio_d, isic_I, isic_S, isic_T, isic_L, isic_B, isio_I, dIsiO, isi_ii, isi_ib, isi_is, isi_il, isi_bi, isi_bb, isi_bs, isi_si, isi_sb, isi_ss, isi_ni, isi_nb, isi_ns, isi_li, isi_lb, isi_ls, isi_ll, isi_ti, isi_tb, isi_ts, isi_tt, isi_di, isi_db, isi_ds, isi_lt, isi_tl, isi_bt, isi_nt, isi_dt, eqLL, neLL, eqTT, neTT, isi_sl, isi_st, isi_it, kit_ll, kit_lt, max2, min2, get1, get2b, get3b, get3c,
  List.map_cons, List.map_nil, List.length_cons, List.length_nil, List.replicate, List.append_nil, List.cons_append, List.nil_append, List.getElem?_cons_zero, List.getElem?_cons_succ, List.set_cons_zero, List.set_cons_succ, List.getElem?_nil, Nat.sub_zero, Nat.reduceAdd, Nat.reduceSub, Int.reduceLT, Int.reduceLE, Int.reduceNeg, Nat.zero_add,
  true_and, and_true, eq_self, Bool.true_or, Bool.or_true, Bool.false_or, Bool.or_false, Bool.true_and, Bool.and_true, Bool.false_and, Bool.and_false, exists_eq_left, exists_eq_left', exists_eq', exists_eq, Option.some.injEq, Res.v.injEq, D.bl.injEq, D.int.injEq, D.str.injEq, D.lst.injEq, D.tup.injEq, D.dct.injEq, D.ins.injEq, Sl.o.injEq, Sl.d.injEq, List.cons.injEq, reduceCtorEq, false_or, or_false, if_true, if_false, Bool.false_eq_true, Bool.not_true, Bool.not_false, ite_true, ite_false, decide_true, decide_false, and_self, List.isEmpty_nil, List.isEmpty_cons, exists_and_left, exists_const, lenNil])
theorem merge_new : ∀ (kds acc : List (Key × D)), (acc.map (·.1) ++ kds.map (·.1)).Nodup → kds.foldl (fun acc kv => putD acc kv.1 kv.2) acc = acc ++ kds
  | [], acc, _ => by simp
  | (k, d) :: r, acc, h => by
    have h1 : (acc.any fun kv => decide (kv.1 = k)) = false := by
      rw [List.any_eq_false]
      intro kv hk
      have := (List.nodup_append.mp h).2.2 kv.1 (List.mem_map.mpr ⟨kv, hk, rfl⟩) k (by simp)
      simpa using this
    have e : putD acc k d = acc ++ [(k, d)] := by unfold putD; rw [if_neg (by rw [h1]; simp)]
    rw [List.foldl_cons, e, merge_new r _ (by simpa using h), List.append_assoc]
    rfl
def wD (C : Nm) (ps : List Pn) : D := .dct [(.inr ("people" : Str), .lst (ps.map pD)), (.inr ("standing" : Str), stD C ps)]
theorem merge2 {a b : D} : mergeD [] [((.inr ("people" : Str) : Key), a), (.inr ("standing" : Str), b)] = [((.inr ("people" : Str) : Key), a), (.inr ("standing" : Str), b)] := by
  unfold mergeD
  rw [merge_new _ _ (by simp only [List.map_nil, List.map_cons, List.nil_append]; decide +kernel)]
  rfl
theorem wd_p {a b : D} : valD [((.inr ("people" : Str) : Key), a), (.inr ("standing" : Str), b)] (.inr ("people" : Str)) = some a := rfl
theorem wd_s {a b : D} : valD [((.inr ("people" : Str) : Key), a), (.inr ("standing" : Str), b)] (.inr ("standing" : Str)) = some b := rfl
theorem erase_map {α β : Type} (f : α → β) : ∀ (l : List α) (j : Nat), (l.map f).eraseIdx j = (l.eraseIdx j).map f
  | [], _ => by simp
  | _ :: _, 0 => rfl
  | x :: l, j + 1 => by simp only [List.map_cons, List.eraseIdx_cons_succ, erase_map f l j]
theorem perm_erase {α : Type} {x : α} : ∀ {l : List α} {j : Nat}, l[j]? = some x → (x :: l.eraseIdx j).Perm l
  | [], _, h => by simp at h
  | y :: l, 0, h => by
    simp only [List.getElem?_cons_zero, Option.some.injEq] at h
    subst h
    exact List.Perm.refl _
  | y :: l, j + 1, h => by
    simp only [List.getElem?_cons_succ] at h
    exact (List.Perm.swap y x _).trans ((perm_erase h).cons y)
theorem perm_sum {l m : List Int} (h : l.Perm m) : l.sum = m.sum := by
  induction h with
  | nil => rfl
  | cons x _ ih => rw [List.sum_cons, List.sum_cons, ih]
  | swap x y l => simp only [List.sum_cons]; omega
  | trans _ _ a b => rw [a, b]
theorem ix_nat {n : Nat} {k : Int} (h0 : 0 ≤ k) (h1 : k < n) : ixN n k = some k.toNat := by
  unfold ixN
  rw [if_pos h0, if_pos h1]
theorem ix_last {n : Nat} (h : 1 ≤ n) : ixN n (-1) = some (n - 1) := by
  unfold ixN
  rw [if_neg (by decide), if_pos (by omega)]
  exact congrArg some (by omega)
theorem at_lastA {α : Type} {l : List α} {x : α} : atI (l ++ [x]) (-1) = some x := by
  unfold atI
  rw [ix_last (by rw [List.length_append, List.length_singleton]; omega)]
  simp
theorem set_last {α : Type} {l : List α} {x y : α} {n : Nat} (h : n = l.length) : (l ++ [x]).set n y = l ++ [y] := by
  subst h
  rw [List.set_append_right _ _ (Nat.le_refl _), Nat.sub_self]
  rfl
theorem Wf.perm {ps qs : List Pn} (h : Wf ps) (p : qs.Perm ps) : Wf qs := ⟨fun a ha => h.word a (p.mem_iff.mp ha), (p.map (·.1)).nodup_iff.mpr h.nd, fun a ha => h.voice a (p.mem_iff.mp ha), by rw [p.length_eq]; exact h.few⟩
theorem Drawn.perm {lo hi : Int} {ps qs : List Pn} (h : Drawn lo hi ps) (p : qs.Perm ps) : Drawn lo hi qs := ⟨fun a ha => h.name a (p.mem_iff.mp ha), (p.map (·.1)).nodup_iff.mpr h.nd, fun a ha => h.voice a (p.mem_iff.mp ha), fun a ha => h.lo a (p.mem_iff.mp ha), fun a ha => h.hi a (p.mem_iff.mp ha)⟩
def voS (ps : List Pn) : Int := (ps.map fun p => p.2.2).sum
def sp_l_made (C : Nm) : DSp := fun ds Q X => ∃ ps : List Pn, ds = [.lst (ps.map pD)] ∧ Wf ps ∧ Q (.ow (wD C ps))
def sp_l_mixed (C : Nm) : DSp := fun ds Q X => ∃ (α : Type) (inj : α → D) (xs : List α), ds = [.src, .lst (xs.map inj)] ∧ xs.length ≤ 100000 ∧ ∀ ys : List α, ys.Perm xs → Q (.own (ys.map inj))
def sp_l_world (C : Nm) : DSp := fun ds Q X => ∃ most far par : Int, ds = [.src, .int most, .int far, .int par] ∧ 1 ≤ most ∧ most ≤ 60 ∧ 1 ≤ far ∧ far ≤ 10 ^ 40 ∧ 0 ≤ par ∧ ∀ ps : List Pn, 1 ≤ ps.length → (ps.length : Int) ≤ most → Drawn (-10) (10 + (far + 2) * 60) ps → (par < 2 → voS ps % 2 = par) → (∃ c : Int, ∀ p, p ∈ ps → c ≤ p.2.1 ∧ p.2.1 ≤ c + max 2 far * (most - 1)) → Q (.ow (wD C ps))
def sp_w_spots (C : Nm) : DSp := fun ds Q X => ∃ ps : List Pn, ds = [wD C ps] ∧ ps.length ≤ 60 ∧ Q (.v (.tup (ps.map fun p => .int p.2.1)))
def t_l_made (K : PySem.W.Frag) (C : Nm) (XD : DX) : DTS := (dRet (dDisp (dPCons (.inr ("people" : Str)) (dLc (dItL (dVar 0)) (dgName 1) dYes (dCB dTupOf (dCons (dVar 1) dNil)) [1]) (dPCons (.inr ("standing" : Str)) (dCall (sp_Standing C) XD (dCons (dVar 0) dNil)) dPNil))))
def t_l_mixed (K : PySem.W.Frag) (C : Nm) (XD : DX) : DTS := (dSeq (dSet 2 (dCB dListOf (dCons (dVar 1) dNil)))
      (dRet (dLc (dRng1 (dCons (dLenV 2) dNil)) (dgName 3) dYes (dPopV 2 (dCall (sp_l_pick C) XNo (dCons (dVar 0) (dCons (dLenV 2) dNil)))) [3])))
def t_l_world (K : PySem.W.Frag) (C : Nm) (XD : DX) : DTS := (dSeq (dPar 4 5 (dOp dSub (dCall (sp_l_pick C) XD (dCons (dVar 0) (dCons (dC (.int 21)) dNil))) (dC (.int 10))) (dLst dNil))
      (dSeq (dFor (dItL (dCall (sp_l_names C) XD (dCons (dVar 0) (dCons (dOp dAdd (dC (.int 1)) (dCall (sp_l_pick C) XD (dCons (dVar 0) (dCons (dVar 1) dNil)))) dNil)))) (dgName 6) (dSeq (dApp 5 (dTup (dCons (dVar 6) (dCons (dVar 4) (dCons (dCB dInt1 (dCons (dOp dGt (dCall (sp_l_pick C) XD (dCons (dVar 0) (dCons (dC (.int 4)) dNil))) (dC (.int 0))) dNil)) dNil)))))
      (dSet 4 (dOp dAdd (dVar 4) (dCall (sp_l_of C) XD (dCons (dVar 0) (dCons (dLst (dCons (dC (.int 0)) (dCons (dC (.int 1)) (dCons (dC (.int 1)) (dCons (dC (.int 2)) (dCons (dOp dAdd (dC (.int 1)) (dCall (sp_l_pick C) XD (dCons (dVar 0) (dCons (dVar 2) dNil)))) dNil)))))) dNil)))))))
      (dSeq (dIfS (dAnd (dTst (dOp dLt (dVar 3) (dC (.int 2)))) (dTst (dOp dNe2 (dOp dMod (dCB dInt1 (dCons (dCB dSum (dCons (dLcV 5 (dgName 7) dYes (dOp dIx (dVar 7) (dC (.int 2))) [7]) dNil)) dNil)) (dC (.int 2))) (dVar 3)))) (dSetV 5 (dUn dNeg (dC (.int 1))) (dTup (dCons (dOp dIx (dIxV 5 (dUn dNeg (dC (.int 1)))) (dC (.int 0))) (dCons (dOp dIx (dIxV 5 (dUn dNeg (dC (.int 1)))) (dC (.int 1))) (dCons (dOp dSub (dC (.int 1)) (dOp dIx (dIxV 5 (dUn dNeg (dC (.int 1)))) (dC (.int 2)))) dNil))))) dNext)
      (dRet (dCall (sp_l_made C) XD (dCons (dCall (sp_l_mixed C) XD (dCons (dVar 0) (dCons (dVar 5) dNil))) dNil))))))
def t_w_spots (K : PySem.W.Frag) (C : Nm) (XD : DX) : DTS := (dRet (dCB dTupOf (dCons (dLc (dItL (dDctIx (dVar 0) (dC (.str ("people" : Str))))) (dgName 1) dYes (dOp dIx (dVar 1) (dC (.int 1))) [1]) dNil)))
section
variable {K : PySem.W.Frag} {C : Nm} {XD : DX} {ds : List D} {QD : Res → Prop}
theorem pure_l_made (h : sp_l_made C ds QD XD) : t_l_made K C XD { nx := fun _ => QD (.v .non), rt := QD } (startN 2 ds) := by
  obtain ⟨ps, rfl, hw, q⟩ := h
  unfold t_l_made
  walk_at "ev"
  have few := hw.few
  refine lcL_fun (fun ρ => ρ = [Sl.d (.lst (ps.map pD)), Sl.un]) pD (fun _ => true) pD ?_ ps [] _ (by rw [List.length_nil]; omega) rfl ?_
  · rintro p ρ rfl K1 K2 h1 h2
    walk_at "ev"
    exact ⟨_, .inr rfl, h1 rfl _ _ rfl rfl⟩
  · rintro ρ rfl
    rw [filter_tt]
    walk_at "ev"
    refine ⟨ps, rfl, hw, ?_⟩
    show QD (.ow (.dct (mergeD [] [((.inr ("people" : Str) : Key), .lst (ps.map pD)), (.inr ("standing" : Str), stD C ps)])))
    rw [merge2]
    exact q
theorem pure_l_mixed (h : sp_l_mixed C ds QD XD) : t_l_mixed K C XD { nx := fun _ => QD (.v .non), rt := QD } (startN 4 ds) := by
  obtain ⟨α, inj, xs, rfl, few, q⟩ := h
  unfold t_l_mixed
  walk_at "ev"
  refine ⟨_, .inl rfl, ?_⟩
  walk_at "ev"
  rw [List.length_map]
  refine ⟨by omega, by omega, ?_⟩
  unfold rngD
  refine lcL_inv (fun (l : List Nat) acc ρ => ∃ (ys zs : List α), acc = ys.map inj ∧ ρ = [Sl.d .src, Sl.d (.lst (xs.map inj)), Sl.o (.lst (zs.map inj)), Sl.un] ∧ zs.length = l.length ∧ ys.length + zs.length = xs.length ∧ (ys ++ zs).Perm xs) (fun i : Nat => D.int (0 + (i : Int))) ?_ ?_ ?_ _ _ _ ⟨[], xs, rfl, rfl, by rw [List.length_range]; omega, by simp, List.Perm.refl _⟩
  · rintro l acc ρ ⟨ys, zs, rfl, rfl, h1, h2, h3⟩
    rw [List.length_map]; omega
  · rintro i rest acc ρ ⟨ys, zs, rfl, rfl, h1, h2, h3⟩ K1 K2 g1 g2
    rw [List.length_cons] at h1
    walk_at "ev"
    rw [List.length_map]
    refine ⟨zs.length, rfl, by omega, fun k k0 k1 => ?_⟩
    have k2 : k < (zs.length : Int) := by omega
    have k3 : k.toNat < zs.length := by omega
    refine ⟨k, rfl, small (m := 100000) (by omega), k.toNat, ix_nat k0 k2, inj zs[k.toNat], by rw [List.getElem?_map, List.getElem?_eq_getElem k3]; rfl, g1 _ _ ⟨ys ++ [zs[k.toNat]], zs.eraseIdx k.toNat, by rw [List.map_append]; rfl, by rw [erase_map]; rfl, ?_, ?_, ?_⟩⟩
    · rw [List.length_eraseIdx, if_pos k3]; omega
    · rw [List.length_eraseIdx, if_pos k3, List.length_append, List.length_singleton]; omega
    · rw [List.append_assoc]
      exact ((perm_erase (List.getElem?_eq_getElem k3)).append_left ys).trans h3
  · rintro acc ρ ⟨ys, zs, rfl, rfl, h1, h2, h3⟩
    have : zs = [] := List.eq_nil_of_length_eq_zero h1
    subst this
    rw [List.append_nil] at h3
    exact q ys h3
theorem pure_w_spots (h : sp_w_spots C ds QD XD) : t_w_spots K C XD { nx := fun _ => QD (.v .non), rt := QD } (startN 2 ds) := by
  obtain ⟨ps, rfl, few, q⟩ := h
  unfold t_w_spots
  walk_at "ev"
  refine ⟨_, rfl, _, rfl, _, wd_p, _, rfl, ?_⟩
  refine lcL_fun (fun ρ => ρ = [Sl.d (wD C ps), Sl.un]) pD (fun _ => true) (fun p => D.int p.2.1) ?_ ps [] _ (by rw [List.length_nil]; omega) rfl ?_
  · rintro p ρ rfl K1 K2 h1 h2
    walk_at "ev"
    exact h1 rfl _ _ rfl rfl
  · rintro ρ rfl
    rw [filter_tt]
    walk_at "ev"
    exact ⟨_, .inl rfl, q⟩
theorem pure_l_world (h : sp_l_world C ds QD XD) : t_l_world K C XD { nx := fun _ => QD (.v .non), rt := QD } (startN 8 ds) := by
  obtain ⟨most, far, par, rfl, m0, m1, f0, f1, p0, q⟩ := h
  unfold t_l_world
  walk_at "ev"
  refine ⟨21, rfl, by decide, fun x x0 x1 => ?_⟩
  walk_at "ev"
  refine ⟨most, rfl, by omega, fun k k0 k1 => ?_⟩
  walk_at "ev"
  refine ⟨1 + k, rfl, by omega, by omega, fun zs hl hz nd => ?_⟩
  walk_at "ev"
  obtain ⟨M, hM, M2, Mf⟩ : ∃ M : Int, max 2 far = M ∧ 2 ≤ M ∧ far ≤ M := ⟨_, rfl, by omega, by omega⟩
  refine loop_inv D.str (fun rest ρ => ∃ (ps : List Pn) (y : Int) (a : Sl), ρ = [Sl.d .src, Sl.d (.int most), Sl.d (.int far), Sl.d (.int par), Sl.d (.int y), Sl.o (.lst (ps.map pD)), a, Sl.un] ∧ ps.map (·.1) ++ rest = zs ∧ -10 ≤ y ∧ y ≤ 10 + (far + 2) * (ps.length : Int) ∧ (∀ p, p ∈ ps → (p.2.2 = 0 ∨ p.2.2 = 1) ∧ -10 ≤ p.2.1 ∧ p.2.1 ≤ 10 + (far + 2) * 60) ∧ (x - 10 ≤ y ∧ y ≤ x - 10 + M * (ps.length : Int)) ∧ ∀ p, p ∈ ps → x - 10 ≤ p.2.1 ∧ p.2.1 ≤ x - 10 + M * (most - 1)) ?_ ?_ _ _ ⟨[], x - 10, _, rfl, rfl, by omega, by simp only [List.length_nil, Int.natCast_zero, Int.mul_zero]; omega, (fun p hp => nomatch hp), ⟨by omega, by simp only [List.length_nil, Int.natCast_zero, Int.mul_zero]; omega⟩, fun p hp => nomatch hp⟩
  · rintro z rest ρ ⟨ps, y, a, rfl, ee, y0, y1, hp, hy, hc⟩ E' h1 h2 h3 h4
    walk_at "ev"
    refine ⟨4, rfl, by decide, fun v v0 v1 => ?_⟩
    walk_at "ev"
    refine ⟨by decide, small' (m := 60) (by have := congrArg List.length ee; rw [List.length_append, List.length_cons] at this; simp only [List.length_map] at this ⊢; omega), far, rfl, by omega, fun j j0 j1 => ?_⟩
    walk_at "ev"
    refine ⟨by decide, [D.int 0, D.int 1, D.int 1, D.int 2, D.int (1 + j)], rfl, Nat.succ_pos _, (show 5 ≤ 1000000 by decide), fun d hd => ?_⟩
    obtain ⟨e, rfl, e0, e1, eM⟩ : ∃ e : Int, d = .int e ∧ 0 ≤ e ∧ e ≤ far + 2 ∧ e ≤ M := by
      simp only [List.mem_cons, List.not_mem_nil, or_false] at hd
      rcases hd with rfl | rfl | rfl | rfl | rfl
      · exact ⟨_, rfl, by omega, by omega, by omega⟩
      · exact ⟨_, rfl, by omega, by omega, by omega⟩
      · exact ⟨_, rfl, by omega, by omega, by omega⟩
      · exact ⟨_, rfl, by omega, by omega, by omega⟩
      · exact ⟨_, rfl, by omega, by omega, by omega⟩
    show E'.nx [Sl.d D.src, Sl.d (D.int most), Sl.d (D.int far), Sl.d (D.int par), Sl.d (.int (y + e)), Sl.o (D.lst (List.map pD ps ++ [D.tup [D.str z, D.int y, D.int (if decide (0 < v) = true then 1 else 0)]])), Sl.d (D.str z), Sl.un]
    have len : ps.length + 1 ≤ 60 := by
      have := congrArg List.length ee
      rw [List.length_append, List.length_map, List.length_cons] at this
      omega
    have capM : M * (ps.length : Int) ≤ M * (most - 1) := Int.mul_le_mul_of_nonneg_left (by have := congrArg List.length ee; rw [List.length_append, List.length_map, List.length_cons] at this; omega) (by omega)
    have cap : (far + 2) * (ps.length : Int) ≤ (far + 2) * 60 := Int.mul_le_mul_of_nonneg_left (by omega) (by omega)
    refine h1 _ ⟨ps ++ [(z, y, if decide (0 < v) = true then 1 else 0)], y + e, Sl.d (D.str z), by rw [List.map_append]; rfl, by rw [← ee, List.map_append, List.append_assoc]; rfl, by omega, ?_, (fun p hpp => ?_), ⟨by omega, ?_⟩, fun p hpp => ?_⟩
    · rw [List.length_append, List.length_singleton, Int.natCast_add, Int.mul_add]
      simp only [Int.natCast_one, Int.mul_one]
      omega
    · rcases List.mem_append.mp hpp with h | h
      · exact hp p h
      · rw [List.mem_singleton.mp h]
        refine ⟨?_, y0, by show y ≤ _; omega⟩
        show (if decide (0 < v) = true then (1 : Int) else 0) = 0 ∨ (if decide (0 < v) = true then (1 : Int) else 0) = 1
        split <;> simp
    · rw [List.length_append, List.length_singleton, Int.natCast_add, Int.mul_add]
      simp only [Int.natCast_one, Int.mul_one]
      omega
    · rcases List.mem_append.mp hpp with h | h
      · exact hc p h
      · rw [List.mem_singleton.mp h]
        exact ⟨hy.1, by show y ≤ _; omega⟩
  · rintro ρ ⟨ps, y, a, rfl, ee, y0, y1, hp, hy, hc⟩
    rw [List.append_nil] at ee
    have len : ps.length = zs.length := by rw [← ee, List.length_map]
    walk_at "ev"
    have fin : ∀ qs : List Pn, qs.map (·.1) = zs → (∀ p, p ∈ qs → (p.2.2 = 0 ∨ p.2.2 = 1) ∧ -10 ≤ p.2.1 ∧ p.2.1 ≤ 10 + (far + 2) * 60) → (par < 2 → voS qs % 2 = par) → (∀ p, p ∈ qs → x - 10 ≤ p.2.1 ∧ p.2.1 ≤ x - 10 + M * (most - 1)) → sp_l_mixed C [D.src, D.lst (List.map pD qs)] (fun r => sp_l_made C [fz r] (fun r => QD r) XD) XD := fun qs e2 hq hpar hc => by
      have len2 : qs.length = zs.length := by rw [← e2, List.length_map]
      have dr : Drawn (-10) (10 + (far + 2) * 60) qs := ⟨fun p hpp => hz _ (by rw [← e2]; exact List.mem_map_of_mem hpp), by rw [e2]; exact nd, fun p hpp => (hq p hpp).1, fun p hpp => (hq p hpp).2.1, fun p hpp => (hq p hpp).2.2⟩
      refine ⟨Pn, pD, qs, rfl, by omega, fun ys hy => ?_⟩
      have yl := hy.length_eq
      refine ⟨ys, rfl, (dr.perm hy).wf (by omega), q ys (by omega) (by omega) (dr.perm hy) (fun h => ?_) ⟨x - 10, fun p hp => by rw [hM]; exact hc p (hy.mem_iff.mp hp)⟩⟩
      unfold voS at hpar ⊢
      rw [perm_sum (hy.map fun p : Pn => p.2.2)]
      exact hpar h
    by_cases h2 : par < 2
    · rw [decide_eq_true h2, if_pos rfl]
      refine lcP_fun (fun ρ => ρ = [Sl.d D.src, Sl.d (D.int most), Sl.d (D.int far), Sl.d (D.int par), Sl.d (D.int y), Sl.o (D.lst (List.map pD ps)), a, Sl.un]) pD (fun _ => true) (fun p => D.int p.2.2) (by rintro ρ rfl; rfl) ?_ ps [] _ (by rw [List.length_nil]; omega) rfl ?_
      · rintro p ρ rfl K1 K2 g1 g2
        walk_at "ev"
        exact g1 rfl _ _ rfl rfl
      · rintro ρ rfl
        rw [filter_tt]
        walk_at "ev"
        refine ⟨ps.map fun p => p.2.2, by rw [List.map_map]; rfl, ?_⟩
        rw [show (ps.map fun p => p.2.2).sum = voS ps from rfl]
        walk_at "ev"
        by_cases h3 : voS ps % 2 = par
        · rw [decide_eq_true h3]
          walk_at "ev"
          exact fin ps ee hp (fun _ => h3) hc
        · rw [decide_eq_false h3]
          obtain ⟨is, l, rfl⟩ : ∃ is l, ps = is ++ [l] := ⟨ps.dropLast, ps.getLast (by rintro rfl; simp only [List.length_nil] at len; omega), (List.dropLast_concat_getLast _).symm⟩
          rw [List.map_append, List.map_cons, List.map_nil]
          walk_at "ev"
          refine ⟨_, at_lastA, ?_⟩
          walk_at "ev"
          refine ⟨_, at_lastA, ?_⟩
          walk_at "ev"
          refine ⟨_, at_lastA, ?_⟩
          walk_at "ev"
          refine ⟨small (m := 3) (Nat.le_refl _), _, ix_last (by rw [List.length_append, List.length_singleton]; omega), ?_⟩
          rw [set_last (by rw [List.length_append, List.length_singleton]; rfl)]
          have hl := hp l (List.mem_append_right _ List.mem_cons_self)
          have e4 : voS (is ++ [l]) = voS is + l.2.2 := by unfold voS; rw [List.map_append, List.sum_append]; simp
          have e5 : voS (is ++ [(l.1, l.2.1, 1 - l.2.2)]) = voS is + (1 - l.2.2) := by unfold voS; rw [List.map_append, List.sum_append]; simp
          have := fin (is ++ [(l.1, l.2.1, 1 - l.2.2)]) (by rw [← ee, List.map_append, List.map_append]; rfl) (fun p hpp => by
            rcases List.mem_append.mp hpp with h | h
            · exact hp p (List.mem_append_left _ h)
            · rw [List.mem_singleton.mp h]
              exact ⟨by show 1 - l.2.2 = 0 ∨ 1 - l.2.2 = 1; omega, hl.2⟩) (fun _ => by omega) (fun p hpp => by
            rcases List.mem_append.mp hpp with h | h
            · exact hc p (List.mem_append_left _ h)
            · rw [List.mem_singleton.mp h]
              exact hc l (List.mem_append_right _ List.mem_cons_self))
          rw [List.map_append] at this
          exact this
    · rw [decide_eq_false h2, if_neg (by simp)]
      exact fin ps ee hp (fun h => absurd h h2) hc
end
end L2.DL
set_option Elab.async false
set_option linter.all false
set_option autoImplicit false
set_option maxRecDepth 100000
set_option maxHeartbeats 1000000
namespace L2.DL
open PySem PySem.Spec PyProof.Rows
def mvP (f : Int → Int) (p : Pn) : Pn := (p.1, f p.2.1, p.2.2)
set_option backward.match.sparseCases false in
mutual
def nc : D → Bool
  | .non => true
  | .bl _ => true
  | .int _ => true
  | .str _ => true
  | .lst xs => ncs xs
  | .tup xs => ncs xs
  | _ => false
def ncs : List D → Bool
  | [] => true
  | x :: xs => nc x && ncs xs
end
mutual
theorem eqv_self : ∀ (a : D), nc a = true → PyData.eqv (py a) (py a) = true
  | .non, _ => by simp [py, PyData.eqv]
  | .bl b, _ => by cases b <;> simp [py, PyData.eqv]
  | .int i, _ => by simp [py, PyData.eqv]
  | .str x, _ => by simp [py, PyData.eqv]
  | .lst xs, h => by simp only [py, PyData.eqv]; exact eqvs_self xs (by simpa only [nc] using h)
  | .tup xs, h => by simp only [py, PyData.eqv]; exact eqvs_self xs (by simpa only [nc] using h)
  | .dct _, h => by simp [nc] at h
  | .ins _ _, h => by simp [nc] at h
  | .iset _, h => by simp [nc] at h
  | .src, h => by simp [nc] at h
  | .ty _, h => by simp [nc] at h
  | .me _ _, h => by simp [nc] at h
theorem eqvs_self : ∀ (as : List D), ncs as = true → PyData.eqvAll (pys as) (pys as) = true
  | [], _ => by simp [pys, PyData.eqvAll]
  | a :: as, h => by
    simp only [ncs, Bool.and_eq_true] at h
    simp only [pys, PyData.eqvAll, Bool.and_eq_true]
    exact ⟨eqv_self a h.1, eqvs_self as h.2⟩
end
theorem eqSelf {d : D} {n w : Nat} {Q : Res → Prop} (h : nc d = true) (k : Sh n w d) (hn : n ≤ 60 := by decide) : dEq d d Q = Q (.v (.bl true)) := by
  unfold dEq
  rw [eqv_self d h]
  exact propext ⟨fun h => h.2, fun h => ⟨eqOk k k hn hn, h⟩⟩
end L2.DL
set_option Elab.async false
set_option linter.all false
set_option autoImplicit false
set_option maxRecDepth 100000
set_option maxHeartbeats 1000000
namespace L2.DL
open PySem PySem.Spec PyProof.Rows
end L2.DL
set_option Elab.async false
set_option linter.all false
set_option autoImplicit false
set_option maxRecDepth 100000
set_option maxHeartbeats 2000000
namespace L2.DL
open PySem PySem.Spec PyProof.Rows
local macro_rules | `(tactic| walk_at "ev") => `(tactic| simp only [dSeq, dNext, dSet, dPar, dPar3, dRet, dRetN, dDrop, dIfS, dBrk, dCnt, dApp, dFor, dItL, dItT, dRng1, dRng2, dZip, dEnum, dItS, dAsg, dAugI, dNever, dPutS, dNewD, dFldM, dFldS, dStar,
  dgName, dgTup, dgCons, dgNil, dOp, dUn, dC, dNil, dCons, dCB, dTup, dLst, dIf, dTst, dTru, dAnd, dOr, dNot, dAndV, dOrV, dNotV, dYes, dInR, dFld, dMeth, dCall, dDctIx, dGet2, dRaise, dRaiseZ, dDisp, dPNil, dPCons, dRepD, dTold, dLenSet, hid_u, hid_d, hid_o, dStep2, dSlV, dIxV, dSetV, dPopV, dLenV, dLcV, lstAt, Option.isSome_some, Option.isSome_none, dSl, dNoP, dPart, dLc, dDc, dSortSet, dSortSc, dListVals, dChain, dIsiT2, dCallB, dBor, dNilB, dCBB, dOneL,
  dIsN, dNotN, dStrI, dAbs, dIn, fz_v, fz_l, fz_d, fz_i, fz_m, un_l, un_d, un_i, un_m, sl_v, sl_o, dwipe, and_assoc, insLF, insLT, insFF, insFT, startD, startN, pdT, pdI, gdT, prT, stI, putFD, lendable, noKR, noK, noKs,
  vd0, vo0, rd0, ro0, vd1, vo1, rd1, ro1, vd2, vo2, rd2, ro2, vd3, vo3, rd3, ro3, vd4, vo4, rd4, ro4, vd5, vo5, rd5, ro5, vd6, vo6, rd6, ro6, vd7, vo7, rd7, ro7, vd8, vo8, rd8, ro8, vd9, vo9, rd9, ro9, vd10, vo10, rd10, ro10, vd11, vo11, rd11, ro11, vd12, vo12, rd12, ro12, vd13, vo13, rd13, ro13, vd14, vo14, rd14, ro14, vd15, vo15, rd15, ro15, vd16, vo16, rd16, ro16, vd17, vo17, rd17, ro17, vd18, vo18, rd18, ro18, vd19, vo19, rd19, ro19, vd20, vo20, rd20, ro20, vd21, vo21, rd21, ro21, vd22, vo22, rd22, ro22, vd23, vo23, rd23, ro23, lk_people, lk_names, lk_has_name, lk_person, lk_place, lk_voice, lk_places, lk_at, lk_line, lk_voices, lk_is_together, lk_own, lenL, lenT, lenS, ixL, ixT, ixS, dcutL, dcutS, addII, addSS, addLL, int1i, int1b, negI, reprL, reprT, absI, sc_n, sc_b, sc_i, sc_s, subI, mulI, fdvI, modI, powI, ltI, leI, gtI, geI, tr_n, tr_b, tr_i, tr_l, tr_t, tr_d, ty_n, ty_b, ty_i, ty_s, ty_l, ty_t, ty_d, in_n, in_b, in_i, in_s, in_l, in_t, in_d, eqII, neII, eqSS, neSS, eqBB, neBB, isic_n, isic_b, isic_i, isic_s, isic_l, isic_t, isic_d, isio_n, isio_b, isio_i, isio_s, isio_l, isio_t, isio_d, isic_I, isic_S, isic_T, isic_L, isic_B, isio_I, dIsiO, isi_ii, isi_ib, isi_is, isi_il, isi_bi, isi_bb, isi_bs, isi_si, isi_sb, isi_ss, isi_ni, isi_nb, isi_ns, isi_li, isi_lb, isi_ls, isi_ll, isi_ti, isi_tb, isi_ts, isi_tt, isi_di, isi_db, isi_ds, isi_lt, isi_tl, isi_bt, isi_nt, isi_dt, eqLL, neLL, eqTT, neTT, isi_sl, isi_st, isi_it, kit_ll, kit_lt, max2, min2, get1, get2b, get3b, get3c,
  List.map_cons, List.map_nil, List.length_cons, List.length_nil, List.replicate, List.append_nil, List.cons_append, List.nil_append, List.getElem?_cons_zero, List.getElem?_cons_succ, List.set_cons_zero, List.set_cons_succ, List.getElem?_nil, Nat.sub_zero, Nat.reduceAdd, Nat.reduceSub, Int.reduceLT, Int.reduceLE, Int.reduceNeg, Nat.zero_add,
  true_and, and_true, eq_self, Bool.true_or, Bool.or_true, Bool.false_or, Bool.or_false, Bool.true_and, Bool.and_true, Bool.false_and, Bool.and_false, exists_eq_left, exists_eq_left', exists_eq', exists_eq, Option.some.injEq, Res.v.injEq, D.bl.injEq, D.int.injEq, D.str.injEq, D.lst.injEq, D.tup.injEq, D.dct.injEq, D.ins.injEq, Sl.o.injEq, Sl.d.injEq, List.cons.injEq, reduceCtorEq, false_or, or_false, if_true, if_false, Bool.false_eq_true, Bool.not_true, Bool.not_false, ite_true, ite_false, decide_true, decide_false, and_self, List.isEmpty_nil, List.isEmpty_cons, exists_and_left, exists_const, lenNil])
def sameV (ps qs : List Pn) : Prop := ps.map (fun p => p.2.2) = qs.map (fun p => p.2.2)
theorem sameV.len {ps qs : List Pn} (h : sameV ps qs) : ps.length = qs.length := by
  have := congrArg List.length (show ps.map (fun p => p.2.2) = qs.map (fun p => p.2.2) from h)
  rwa [List.length_map, List.length_map] at this
theorem sameV.sum {ps qs : List Pn} (h : sameV ps qs) : voS ps = voS qs := congrArg List.sum h
def Near (B : Int) (ps : List Pn) : Prop := ∀ p, p ∈ ps → -B ≤ p.2.1 ∧ p.2.1 ≤ B
end L2.DL
set_option Elab.async false
set_option linter.all false
set_option autoImplicit false
set_option maxRecDepth 100000
set_option maxHeartbeats 2000000
namespace L2.DL
open PySem PySem.Spec PyProof.Rows
local macro_rules | `(tactic| walk_at "ev") => `(tactic| simp only [dSeq, dNext, dSet, dPar, dPar3, dRet, dRetN, dDrop, dIfS, dBrk, dCnt, dApp, dFor, dItL, dItT, dRng1, dRng2, dZip, dEnum, dItS, dAsg, dAugI, dNever, dPutS, dNewD, dFldM, dFldS, dStar,
  dgName, dgTup, dgCons, dgNil, dOp, dUn, dC, dNil, dCons, dCB, dTup, dLst, dIf, dTst, dTru, dAnd, dOr, dNot, dAndV, dOrV, dNotV, dYes, dInR, dFld, dMeth, dCall, dDctIx, dGet2, dRaise, dRaiseZ, dDisp, dPNil, dPCons, dRepD, dTold, dLenSet, hid_u, hid_d, hid_o, dStep2, dSlV, dIxV, dSetV, dPopV, dLenV, dLcV, lstAt, Option.isSome_some, Option.isSome_none, dSl, dNoP, dPart, dLc, dDc, dSortSet, dSortSc, dListVals, dChain, dIsiT2, dCallB, dBor, dNilB, dCBB, dOneL,
  dIsN, dNotN, dStrI, dAbs, dIn, fz_v, fz_l, fz_d, fz_i, fz_m, un_l, un_d, un_i, un_m, sl_v, sl_o, dwipe, and_assoc, insLF, insLT, insFF, insFT, startD, startN, pdT, pdI, gdT, prT, stI, putFD, lendable, noKR, noK, noKs,
  vd0, vo0, rd0, ro0, vd1, vo1, rd1, ro1, vd2, vo2, rd2, ro2, vd3, vo3, rd3, ro3, vd4, vo4, rd4, ro4, vd5, vo5, rd5, ro5, vd6, vo6, rd6, ro6, vd7, vo7, rd7, ro7, vd8, vo8, rd8, ro8, vd9, vo9, rd9, ro9, vd10, vo10, rd10, ro10, vd11, vo11, rd11, ro11, vd12, vo12, rd12, ro12, vd13, vo13, rd13, ro13, vd14, vo14, rd14, ro14, vd15, vo15, rd15, ro15, vd16, vo16, rd16, ro16, vd17, vo17, rd17, ro17, vd18, vo18, rd18, ro18, vd19, vo19, rd19, ro19, vd20, vo20, rd20, ro20, vd21, vo21, rd21, ro21, vd22, vo22, rd22, ro22, vd23, vo23, rd23, ro23, lk_people, lk_names, lk_has_name, lk_person, lk_place, lk_voice, lk_places, lk_at, lk_line, lk_voices, lk_is_together, lk_own, lenL, lenT, lenS, ixL, ixT, ixS, dcutL, dcutS, addII, addSS, addLL, int1i, int1b, negI, reprL, reprT, absI, sc_n, sc_b, sc_i, sc_s, subI, mulI, fdvI, modI, powI, ltI, leI, gtI, geI, tr_n, tr_b, tr_i, tr_l, tr_t, tr_d, ty_n, ty_b, ty_i, ty_s, ty_l, ty_t, ty_d, in_n, in_b, in_i, in_s, in_l, in_t, in_d, eqII, neII, eqSS, neSS, eqBB, neBB, isic_n, isic_b, isic_i, isic_s, isic_l, isic_t, isic_d, isio_n, isio_b, isio_i, isio_s, isio_l, isio_t, isio_d, isic_I, isic_S, isic_T, isic_L, isic_B, isio_I, dIsiO, isi_ii, isi_ib, isi_is, isi_il, isi_bi, isi_bb, isi_bs, isi_si, isi_sb, isi_ss, isi_ni, isi_nb, isi_ns, isi_li, isi_lb, isi_ls, isi_ll, isi_ti, isi_tb, isi_ts, isi_tt, isi_di, isi_db, isi_ds, isi_lt, isi_tl, isi_bt, isi_nt, isi_dt, eqLL, neLL, eqTT, neTT, isi_sl, isi_st, isi_it, kit_ll, kit_lt, max2, min2, get1, get2b, get3b, get3c,
  List.map_cons, List.map_nil, List.length_cons, List.length_nil, List.replicate, List.append_nil, List.cons_append, List.nil_append, List.getElem?_cons_zero, List.getElem?_cons_succ, List.set_cons_zero, List.set_cons_succ, List.getElem?_nil, Nat.sub_zero, Nat.reduceAdd, Nat.reduceSub, Int.reduceLT, Int.reduceLE, Int.reduceNeg, Nat.zero_add,
  true_and, and_true, eq_self, Bool.true_or, Bool.or_true, Bool.false_or, Bool.or_false, Bool.true_and, Bool.and_true, Bool.false_and, Bool.and_false, exists_eq_left, exists_eq_left', exists_eq', exists_eq, Option.some.injEq, Res.v.injEq, D.bl.injEq, D.int.injEq, D.str.injEq, D.lst.injEq, D.tup.injEq, D.dct.injEq, D.ins.injEq, Sl.o.injEq, Sl.d.injEq, List.cons.injEq, reduceCtorEq, false_or, or_false, if_true, if_false, Bool.false_eq_true, Bool.not_true, Bool.not_false, ite_true, ite_false, decide_true, decide_false, and_self, List.isEmpty_nil, List.isEmpty_cons, exists_and_left, exists_const, lenNil])
end L2.DL
set_option Elab.async false
set_option linter.all false
set_option autoImplicit false
set_option maxRecDepth 100000
set_option maxHeartbeats 1000000
namespace L2.DL
open PySem PySem.Spec PyProof.Rows
theorem altsum_app : ∀ l m : List Int, altsum (l ++ m) = altsum l + (if l.length % 2 = 0 then altsum m else -altsum m)
  | [], m => by simp [altsum]
  | x :: l, m => by
    have ih := altsum_app l m
    rw [List.cons_append]
    simp only [altsum, List.length_cons]
    rw [ih]
    by_cases h : l.length % 2 = 0
    · rw [if_pos h, if_neg (by omega)]; omega
    · rw [if_neg h, if_pos (by omega)]; omega
theorem altsum_rev : ∀ l : List Int, altsum l.reverse = if l.length % 2 = 0 then -altsum l else altsum l
  | [] => rfl
  | x :: l => by
    have ih := altsum_rev l
    rw [List.reverse_cons, altsum_app, ih, List.length_reverse, List.length_cons]
    simp only [altsum]
    by_cases h : l.length % 2 = 0
    · rw [if_pos h, if_pos h, if_neg (by omega)]; omega
    · rw [if_neg h, if_neg h, if_pos (by omega)]; omega
theorem altsum_neg : ∀ l : List Int, altsum (l.map fun x => -x) = -altsum l
  | [] => rfl
  | x :: l => by
    rw [List.map_cons]
    simp only [altsum]
    rw [altsum_neg l]
    omega
end L2.DL
set_option Elab.async false
set_option linter.all false
set_option autoImplicit false
set_option maxRecDepth 100000
set_option maxHeartbeats 2000000
namespace L2.DL
open PySem PySem.Spec PyProof.Rows
local macro_rules | `(tactic| walk_at "ev") => `(tactic| simp only [dSeq, dNext, dSet, dPar, dPar3, dRet, dRetN, dDrop, dIfS, dBrk, dCnt, dApp, dFor, dItL, dItT, dRng1, dRng2, dZip, dEnum, dItS, dAsg, dAugI, dNever, dPutS, dNewD, dFldM, dFldS, dStar,
  dgName, dgTup, dgCons, dgNil, dOp, dUn, dC, dNil, dCons, dCB, dTup, dLst, dIf, dTst, dTru, dAnd, dOr, dNot, dAndV, dOrV, dNotV, dYes, dInR, dFld, dMeth, dCall, dDctIx, dGet2, dRaise, dRaiseZ, dDisp, dPNil, dPCons, dRepD, dTold, dLenSet, hid_u, hid_d, hid_o, dStep2, dSlV, dIxV, dSetV, dPopV, dLenV, dLcV, lstAt, Option.isSome_some, Option.isSome_none, dSl, dNoP, dPart, dLc, dDc, dSortSet, dSortSc, dListVals, dChain, dIsiT2, dCallB, dBor, dNilB, dCBB, dOneL,
  dIsN, dNotN, dStrI, dAbs, dIn, fz_v, fz_l, fz_d, fz_i, fz_m, un_l, un_d, un_i, un_m, sl_v, sl_o, dwipe, and_assoc, insLF, insLT, insFF, insFT, startD, startN, pdT, pdI, gdT, prT, stI, putFD, lendable, noKR, noK, noKs,
  vd0, vo0, rd0, ro0, vd1, vo1, rd1, ro1, vd2, vo2, rd2, ro2, vd3, vo3, rd3, ro3, vd4, vo4, rd4, ro4, vd5, vo5, rd5, ro5, vd6, vo6, rd6, ro6, vd7, vo7, rd7, ro7, vd8, vo8, rd8, ro8, vd9, vo9, rd9, ro9, vd10, vo10, rd10, ro10, vd11, vo11, rd11, ro11, vd12, vo12, rd12, ro12, vd13, vo13, rd13, ro13, vd14, vo14, rd14, ro14, vd15, vo15, rd15, ro15, vd16, vo16, rd16, ro16, vd17, vo17, rd17, ro17, vd18, vo18, rd18, ro18, vd19, vo19, rd19, ro19, vd20, vo20, rd20, ro20, vd21, vo21, rd21, ro21, vd22, vo22, rd22, ro22, vd23, vo23, rd23, ro23, lk_people, lk_names, lk_has_name, lk_person, lk_place, lk_voice, lk_places, lk_at, lk_line, lk_voices, lk_is_together, lk_own, lenL, lenT, lenS, ixL, ixT, ixS, dcutL, dcutS, addII, addSS, addLL, int1i, int1b, negI, reprL, reprT, absI, sc_n, sc_b, sc_i, sc_s, subI, mulI, fdvI, modI, powI, ltI, leI, gtI, geI, tr_n, tr_b, tr_i, tr_l, tr_t, tr_d, ty_n, ty_b, ty_i, ty_s, ty_l, ty_t, ty_d, in_n, in_b, in_i, in_s, in_l, in_t, in_d, eqII, neII, eqSS, neSS, eqBB, neBB, isic_n, isic_b, isic_i, isic_s, isic_l, isic_t, isic_d, isio_n, isio_b, isio_i, isio_s, isio_l, isio_t, isio_d, isic_I, isic_S, isic_T, isic_L, isic_B, isio_I, dIsiO, isi_ii, isi_ib, isi_is, isi_il, isi_bi, isi_bb, isi_bs, isi_si, isi_sb, isi_ss, isi_ni, isi_nb, isi_ns, isi_li, isi_lb, isi_ls, isi_ll, isi_ti, isi_tb, isi_ts, isi_tt, isi_di, isi_db, isi_ds, isi_lt, isi_tl, isi_bt, isi_nt, isi_dt, eqLL, neLL, eqTT, neTT, isi_sl, isi_st, isi_it, kit_ll, kit_lt, max2, min2, get1, get2b, get3b, get3c,
  List.map_cons, List.map_nil, List.length_cons, List.length_nil, List.replicate, List.append_nil, List.cons_append, List.nil_append, List.getElem?_cons_zero, List.getElem?_cons_succ, List.set_cons_zero, List.set_cons_succ, List.getElem?_nil, Nat.sub_zero, Nat.reduceAdd, Nat.reduceSub, Int.reduceLT, Int.reduceLE, Int.reduceNeg, Nat.zero_add,
  true_and, and_true, eq_self, Bool.true_or, Bool.or_true, Bool.false_or, Bool.or_false, Bool.true_and, Bool.and_true, Bool.false_and, Bool.and_false, exists_eq_left, exists_eq_left', exists_eq', exists_eq, Option.some.injEq, Res.v.injEq, D.bl.injEq, D.int.injEq, D.str.injEq, D.lst.injEq, D.tup.injEq, D.dct.injEq, D.ins.injEq, Sl.o.injEq, Sl.d.injEq, List.cons.injEq, reduceCtorEq, false_or, or_false, if_true, if_false, Bool.false_eq_true, Bool.not_true, Bool.not_false, ite_true, ite_false, decide_true, decide_false, and_self, List.isEmpty_nil, List.isEmpty_cons, exists_and_left, exists_const, lenNil])
end L2.DL
set_option Elab.async false
set_option linter.all false
set_option autoImplicit false
set_option maxRecDepth 100000
set_option maxHeartbeats 2000000
namespace L2.DL
open PySem PySem.Spec PyProof.Rows
local macro_rules | `(tactic| walk_at "ev") => `(tactic| simp only [dSeq, dNext, dSet, dPar, dPar3, dRet, dRetN, dDrop, dIfS, dBrk, dCnt, dApp, dFor, dItL, dItT, dRng1, dRng2, dZip, dEnum, dItS, dAsg, dAugI, dNever, dPutS, dNewD, dFldM, dFldS, dStar,
  dgName, dgTup, dgCons, dgNil, dOp, dUn, dC, dNil, dCons, dCB, dTup, dLst, dIf, dTst, dTru, dAnd, dOr, dNot, dAndV, dOrV, dNotV, dYes, dInR, dFld, dMeth, dCall, dDctIx, dGet2, dRaise, dRaiseZ, dDisp, dPNil, dPCons, dRepD, dTold, dLenSet, hid_u, hid_d, hid_o, dStep2, dSlV, dIxV, dSetV, dPopV, dLenV, dLcV, lstAt, Option.isSome_some, Option.isSome_none, dSl, dNoP, dPart, dLc, dDc, dSortSet, dSortSc, dListVals, dChain, dIsiT2, dCallB, dBor, dNilB, dCBB, dOneL,
  dIsN, dNotN, dStrI, dAbs, dIn, fz_v, fz_l, fz_d, fz_i, fz_m, un_l, un_d, un_i, un_m, sl_v, sl_o, dwipe, and_assoc, insLF, insLT, insFF, insFT, startD, startN, pdT, pdI, gdT, prT, stI, putFD, lendable, noKR, noK, noKs,
  vd0, vo0, rd0, ro0, vd1, vo1, rd1, ro1, vd2, vo2, rd2, ro2, vd3, vo3, rd3, ro3, vd4, vo4, rd4, ro4, vd5, vo5, rd5, ro5, vd6, vo6, rd6, ro6, vd7, vo7, rd7, ro7, vd8, vo8, rd8, ro8, vd9, vo9, rd9, ro9, vd10, vo10, rd10, ro10, vd11, vo11, rd11, ro11, vd12, vo12, rd12, ro12, vd13, vo13, rd13, ro13, vd14, vo14, rd14, ro14, vd15, vo15, rd15, ro15, vd16, vo16, rd16, ro16, vd17, vo17, rd17, ro17, vd18, vo18, rd18, ro18, vd19, vo19, rd19, ro19, vd20, vo20, rd20, ro20, vd21, vo21, rd21, ro21, vd22, vo22, rd22, ro22, vd23, vo23, rd23, ro23, lk_people, lk_names, lk_has_name, lk_person, lk_place, lk_voice, lk_places, lk_at, lk_line, lk_voices, lk_is_together, lk_own, lenL, lenT, lenS, ixL, ixT, ixS, dcutL, dcutS, addII, addSS, addLL, int1i, int1b, negI, reprL, reprT, absI, sc_n, sc_b, sc_i, sc_s, subI, mulI, fdvI, modI, powI, ltI, leI, gtI, geI, tr_n, tr_b, tr_i, tr_l, tr_t, tr_d, ty_n, ty_b, ty_i, ty_s, ty_l, ty_t, ty_d, in_n, in_b, in_i, in_s, in_l, in_t, in_d, eqII, neII, eqSS, neSS, eqBB, neBB, isic_n, isic_b, isic_i, isic_s, isic_l, isic_t, isic_d, isio_n, isio_b, isio_i, isio_s, isio_l, isio_t, isio_d, isic_I, isic_S, isic_T, isic_L, isic_B, isio_I, dIsiO, isi_ii, isi_ib, isi_is, isi_il, isi_bi, isi_bb, isi_bs, isi_si, isi_sb, isi_ss, isi_ni, isi_nb, isi_ns, isi_li, isi_lb, isi_ls, isi_ll, isi_ti, isi_tb, isi_ts, isi_tt, isi_di, isi_db, isi_ds, isi_lt, isi_tl, isi_bt, isi_nt, isi_dt, eqLL, neLL, eqTT, neTT, isi_sl, isi_st, isi_it, kit_ll, kit_lt, max2, min2, get1, get2b, get3b, get3c,
  List.map_cons, List.map_nil, List.length_cons, List.length_nil, List.replicate, List.append_nil, List.cons_append, List.nil_append, List.getElem?_cons_zero, List.getElem?_cons_succ, List.set_cons_zero, List.set_cons_succ, List.getElem?_nil, Nat.sub_zero, Nat.reduceAdd, Nat.reduceSub, Int.reduceLT, Int.reduceLE, Int.reduceNeg, Nat.zero_add,
  true_and, and_true, eq_self, Bool.true_or, Bool.or_true, Bool.false_or, Bool.or_false, Bool.true_and, Bool.and_true, Bool.false_and, Bool.and_false, exists_eq_left, exists_eq_left', exists_eq', exists_eq, Option.some.injEq, Res.v.injEq, D.bl.injEq, D.int.injEq, D.str.injEq, D.lst.injEq, D.tup.injEq, D.dct.injEq, D.ins.injEq, Sl.o.injEq, Sl.d.injEq, List.cons.injEq, reduceCtorEq, false_or, or_false, if_true, if_false, Bool.false_eq_true, Bool.not_true, Bool.not_false, ite_true, ite_false, decide_true, decide_false, and_self, List.isEmpty_nil, List.isEmpty_cons, exists_and_left, exists_const, lenNil])
instance {d : D} : Decidable (ShowW d) := inferInstanceAs (Decidable (_ ∧ _ ∧ _ ∧ _))
end L2.DL
set_option Elab.async false
set_option linter.all false
set_option autoImplicit false
set_option maxRecDepth 100000
set_option maxHeartbeats 1000000
namespace L2.DL
open PySem PySem.Spec PyProof.Rows
section
variable {Q : Res → Prop} {xs : List D} {d : D}
theorem reprWL : dReprW [.lst xs] Q = (ShowW (.lst xs) ∧ Q (.v (.str (pyW (.lst xs)).shown))) := propext ⟨fun ⟨ys, e, h⟩ => by cases e; exact h, fun h => ⟨xs, rfl, h⟩⟩
theorem reprAA : dReprA [d] Q = (ShowOk d ∧ Q (.v (.str (py d).shown))) := propext ⟨fun ⟨ys, e, h⟩ => by cases e; exact h, fun h => ⟨d, rfl, h⟩⟩
end
end L2.DL
set_option Elab.async false
set_option linter.all false
set_option autoImplicit false
set_option maxRecDepth 100000
set_option maxHeartbeats 1000000
namespace L2.DL
open PySem PySem.Spec PyProof.Rows
def dOrI (t u : DTI) : DTI := fun ρ Q => t ρ Q ∨ u ρ Q
theorem di_or {X : Cx} {c : C} {tg e : Expr} {t u : DTI} (h1 : PI X tg e (liftI c t)) (h2 : PI X tg e (liftI c u)) : PI X tg e (liftI c (dOrI t u)) :=
  ⟨fun pins s σ H R I ⟨F, ρ, QD, s1, h, k⟩ => h.elim (fun h => h1.run pins s σ H R I ⟨F, ρ, QD, s1, h, k⟩) fun h => h2.run pins s σ H R I ⟨F, ρ, QD, s1, h, k⟩⟩
end L2.DL
set_option Elab.async false
set_option linter.all false
set_option autoImplicit false
set_option maxRecDepth 100000
set_option maxHeartbeats 2000000
namespace L2.DL
open PySem PySem.Spec PyProof.Rows
local macro_rules | `(tactic| walk_at "ev") => `(tactic| simp only [dSeq, dNext, dSet, dPar, dPar3, dRet, dRetN, dDrop, dIfS, dBrk, dCnt, dApp, dFor, dItL, dItT, dRng1, dRng2, dZip, dEnum, dItS, dAsg, dAugI, dNever, dPutS, dNewD, dFldM, dFldS, dStar,
  dgName, dgTup, dgCons, dgNil, dOp, dUn, dC, dNil, dCons, dCB, dTup, dLst, dIf, dTst, dTru, dAnd, dOr, dNot, dAndV, dOrV, dNotV, dYes, dInR, dFld, dMeth, dCall, dDctIx, dGet2, dRaise, dRaiseZ, dDisp, dPNil, dPCons, dRepD, dTold, dLenSet, hid_u, hid_d, hid_o, dStep2, dSlV, dIxV, dSetV, dPopV, dLenV, dLcV, lstAt, Option.isSome_some, Option.isSome_none, dSl, dNoP, dPart, dLc, dDc, dSortSet, dSortSc, dListVals, dChain, dIsiT2, dCallB, dBor, dNilB, dCBB, dOneL,
  dIsN, dNotN, dStrI, dAbs, dIn, fz_v, fz_l, fz_d, fz_i, fz_m, un_l, un_d, un_i, un_m, sl_v, sl_o, dwipe, and_assoc, insLF, insLT, insFF, insFT, startD, startN, pdT, pdI, gdT, prT, stI, putFD, lendable, noKR, noK, noKs,
  vd0, vo0, rd0, ro0, vd1, vo1, rd1, ro1, vd2, vo2, rd2, ro2, vd3, vo3, rd3, ro3, vd4, vo4, rd4, ro4, vd5, vo5, rd5, ro5, vd6, vo6, rd6, ro6, vd7, vo7, rd7, ro7, vd8, vo8, rd8, ro8, vd9, vo9, rd9, ro9, vd10, vo10, rd10, ro10, vd11, vo11, rd11, ro11, vd12, vo12, rd12, ro12, vd13, vo13, rd13, ro13, vd14, vo14, rd14, ro14, vd15, vo15, rd15, ro15, vd16, vo16, rd16, ro16, vd17, vo17, rd17, ro17, vd18, vo18, rd18, ro18, vd19, vo19, rd19, ro19, vd20, vo20, rd20, ro20, vd21, vo21, rd21, ro21, vd22, vo22, rd22, ro22, vd23, vo23, rd23, ro23, lk_people, lk_names, lk_has_name, lk_person, lk_place, lk_voice, lk_places, lk_at, lk_line, lk_voices, lk_is_together, lk_own, lenL, lenT, lenS, ixL, ixT, ixS, dcutL, dcutS, addII, addSS, addLL, int1i, int1b, negI, reprL, reprT, absI, sc_n, sc_b, sc_i, sc_s, subI, mulI, fdvI, modI, powI, ltI, leI, gtI, geI, tr_n, tr_b, tr_i, tr_l, tr_t, tr_d, ty_n, ty_b, ty_i, ty_s, ty_l, ty_t, ty_d, in_n, in_b, in_i, in_s, in_l, in_t, in_d, eqII, neII, eqSS, neSS, eqBB, neBB, isic_n, isic_b, isic_i, isic_s, isic_l, isic_t, isic_d, isio_n, isio_b, isio_i, isio_s, isio_l, isio_t, isio_d, isic_I, isic_S, isic_T, isic_L, isic_B, isio_I, dIsiO, isi_ii, isi_ib, isi_is, isi_il, isi_bi, isi_bb, isi_bs, isi_si, isi_sb, isi_ss, isi_ni, isi_nb, isi_ns, isi_li, isi_lb, isi_ls, isi_ll, isi_ti, isi_tb, isi_ts, isi_tt, isi_di, isi_db, isi_ds, isi_lt, isi_tl, isi_bt, isi_nt, isi_dt, eqLL, neLL, eqTT, neTT, isi_sl, isi_st, isi_it, kit_ll, kit_lt, max2, min2, get1, get2b, get3b, get3c,
  List.map_cons, List.map_nil, List.length_cons, List.length_nil, List.replicate, List.append_nil, List.cons_append, List.nil_append, List.getElem?_cons_zero, List.getElem?_cons_succ, List.set_cons_zero, List.set_cons_succ, List.getElem?_nil, Nat.sub_zero, Nat.reduceAdd, Nat.reduceSub, Int.reduceLT, Int.reduceLE, Int.reduceNeg, Nat.zero_add,
  true_and, and_true, eq_self, Bool.true_or, Bool.or_true, Bool.false_or, Bool.or_false, Bool.true_and, Bool.and_true, Bool.false_and, Bool.and_false, exists_eq_left, exists_eq_left', exists_eq', exists_eq, Option.some.injEq, Res.v.injEq, D.bl.injEq, D.int.injEq, D.str.injEq, D.lst.injEq, D.tup.injEq, D.dct.injEq, D.ins.injEq, Sl.o.injEq, Sl.d.injEq, List.cons.injEq, reduceCtorEq, false_or, or_false, if_true, if_false, Bool.false_eq_true, Bool.not_true, Bool.not_false, ite_true, ite_false, decide_true, decide_false, and_self, List.isEmpty_nil, List.isEmpty_cons, exists_and_left, exists_const, lenNil, reprWL, reprAA, dZipLT])
def tiD (xs : List Int) : D := .tup (xs.map D.int)
def plcs (ps : List Pn) : List Int := ps.map fun p => p.2.1
theorem plcs_len (ps : List Pn) : (plcs ps).length = ps.length := List.length_map ..
def putP (ps : List Pn) (xs : List Int) : List Pn := (ps.zip xs).map fun q => (q.1.1, q.2, q.1.2.2)
theorem put_names : ∀ {ps : List Pn} {xs : List Int}, xs.length = ps.length → (putP ps xs).map (·.1) = ps.map (·.1)
  | [], [], _ => rfl
  | [], _ :: _, h => by cases h
  | _ :: _, [], h => by cases h
  | p :: ps, x :: xs, h => by
    have := put_names (ps := ps) (xs := xs) (by simpa using h)
    unfold putP at this ⊢
    rw [List.zip_cons_cons, List.map_cons, List.map_cons, List.map_cons, this]
theorem mem_put {ps : List Pn} {xs : List Int} {p : Pn} (h : p ∈ putP ps xs) : ∃ q x, q ∈ ps ∧ x ∈ xs ∧ p = (q.1, x, q.2.2) := by
  obtain ⟨⟨q, x⟩, hq, rfl⟩ := List.mem_map.mp h
  have := List.of_mem_zip hq
  exact ⟨q, x, this.1, this.2, rfl⟩
theorem Wf.put {ps : List Pn} (h : Wf ps) {xs : List Int} (hl : xs.length = ps.length) : Wf (putP ps xs) where
  word := fun p hp => by obtain ⟨q, x, hq, _, rfl⟩ := mem_put hp; exact h.word q hq
  nd := by rw [put_names hl]; exact h.nd
  voice := fun p hp => by obtain ⟨q, x, hq, _, rfl⟩ := mem_put hp; exact h.voice q hq
  few := by
    have : (putP ps xs).length = ps.length := by
      unfold putP; rw [List.length_map, List.length_zip, hl]; exact Nat.min_self _
    rw [this]; exact h.few
/-- nearer to x by n -/
def nrF (x n y : Int) : Int := if y < x then min x (y + n) else max x (y - n)
theorem drawn_nr (ps : List Pn) (x n : Int) : drawnL ps x n = ps.map (mvP (nrF x n)) := rfl
def sp_l_at (C : Nm) : DSp := fun ds Q X => ∃ ps xs, (ds = [wD C ps, tiD xs] ∨ ds = [wD C ps, .lst (xs.map .int)]) ∧ Wf ps ∧ xs.length = ps.length ∧ Q (.ow (wD C (putP ps xs)))
def t_l_at (K : PySem.W.Frag) (C : Nm) (XD : DX) : DTS := (dRet (dCall (sp_l_made C) XD (dCons (dLc (dOrI (dZipLT (dCons (dDctIx (dVar 0) (dC (.str ("people" : Str)))) (dCons (dVar 1) dNil))) (dZip (dCons (dDctIx (dVar 0) (dC (.str ("people" : Str)))) (dCons (dVar 1) dNil)))) (dgTup 2 (dgCons (dgName 2) (dgCons (dgName 3) dgNil))) dYes (dTup (dCons (dOp dIx (dVar 2) (dC (.int 0))) (dCons (dVar 3) (dCons (dOp dIx (dVar 2) (dC (.int 2))) dNil)))) [2, 3]) dNil)))
section
variable {K : PySem.W.Frag} {C : Nm} {XD : DX} {ds : List D} {QD : Res → Prop}
theorem pure_l_at (h : sp_l_at C ds QD XD) : t_l_at K C XD { nx := fun _ => QD (.v .non), rt := QD } (startN 4 ds) := by
  obtain ⟨ps, xs, hd, hw, hl, q⟩ := h
  have few := hw.few
  have fin : ∀ d : D, ∀ Q : DQ, (∀ ρ', Q (.own ((ps.zip xs).map fun q => pD (q.1.1, q.2, q.1.2.2))) ρ') → dLcL (dgTup 2 (dgCons (dgName 2) (dgCons (dgName 3) dgNil))) dYes (dTup (dCons (dOp dIx (dVar 2) (dC (.int 0))) (dCons (dVar 3) (dCons (dOp dIx (dVar 2) (dC (.int 2))) dNil)))) [2, 3] Q (zipD (ps.map pD) (xs.map D.int)) [] [Sl.d (wD C ps), Sl.d d, Sl.un, Sl.un] := fun d Q hQ => by
    rw [show zipD (ps.map pD) (xs.map D.int) = (ps.zip xs).map (fun q => D.tup [pD q.1, .int q.2]) from zipD_map]
    refine lcL_fun (fun ρ => ρ = [Sl.d (wD C ps), Sl.d d, Sl.un, Sl.un]) (fun q : Pn × Int => D.tup [pD q.1, .int q.2]) (fun _ => true) (fun q => pD (q.1.1, q.2, q.1.2.2)) ?_ (ps.zip xs) [] _ (by rw [List.length_nil, List.length_zip]; omega) rfl ?_
    · rintro p ρ rfl K1 K2 h1 h2
      walk_at "ev"
      exact ⟨by decide, h1 rfl _ _ rfl rfl⟩
    · rintro ρ rfl
      rw [filter_tt]
      exact hQ _
  have made : ∀ ρ' : Rho, (fun (r : Res) (_ : Rho) => sp_l_made C [fz r] (fun r => QD r) XD) (.own ((ps.zip xs).map fun q => pD (q.1.1, q.2, q.1.2.2))) ρ' := fun _ => ⟨putP ps xs, by unfold putP; rw [List.map_map]; rfl, hw.put hl, q⟩
  rcases hd with rfl | rfl
  · unfold t_l_at
    walk_at "ev"
    refine Or.inl ?_
    walk_at "ev"
    refine ⟨_, rfl, _, rfl, _, wd_p, _, rfl, xs.map D.int, rfl, ?_⟩
    exact fin _ _ made
  · unfold t_l_at
    walk_at "ev"
    refine Or.inr ?_
    walk_at "ev"
    exact ⟨_, rfl, _, rfl, _, wd_p, _, rfl, fin _ _ made⟩
end
end L2.DL
set_option Elab.async false
set_option linter.all false
set_option autoImplicit false
set_option maxRecDepth 100000
set_option maxHeartbeats 1000000
namespace L2.DL
open PySem PySem.Spec PyProof.Rows
theorem nr_zero (x y : Int) : nrF x 0 y = y := by unfold nrF; split <;> omega
theorem nr_self (x n : Int) (h : 0 ≤ n) : nrF x n x = x := by unfold nrF; rw [if_neg (by omega)]; omega
theorem nr_add (x a b y : Int) (ha : 0 ≤ a) (hb : 0 ≤ b) : nrF x b (nrF x a y) = nrF x (a + b) y := by unfold nrF; split <;> split <;> omega
theorem drawn_zero (ps : List Pn) (x : Int) : drawnL ps x 0 = ps := by
  rw [drawn_nr]
  refine (List.map_congr_left fun p _ => ?_).trans (List.map_id ps)
  show (p.1, nrF x 0 p.2.1, p.2.2) = p
  rw [nr_zero]
theorem drawn_add (ps : List Pn) (x a b : Int) (ha : 0 ≤ a) (hb : 0 ≤ b) : drawnL (drawnL ps x a) x b = drawnL ps x (a + b) := by
  rw [drawn_nr, drawn_nr, drawn_nr, List.map_map]
  refine List.map_congr_left fun p _ => ?_
  show (p.1, nrF x b (nrF x a p.2.1), p.2.2) = (p.1, nrF x (a + b) p.2.1, p.2.2)
  rw [nr_add x a b _ ha hb]
theorem plcs_drawn (ps : List Pn) (x n : Int) : plcs (drawnL ps x n) = (plcs ps).map (nrF x n) := by
  unfold plcs
  rw [drawn_nr, List.map_map, List.map_map]
  rfl
/-- so many calls of the crowd at x, one after the other -/
def callable (ps : List Pn) (x : Int) (n : Nat) : Prop := ∀ i : Nat, i < n → canC (drawnL ps x i) x = true
instance (ps : List Pn) (x : Int) (n : Nat) : Decidable (callable ps x n) := inferInstanceAs (Decidable (∀ i : Nat, i < n → _))
theorem callable.mono {ps : List Pn} {x : Int} {n m : Nat} (h : callable ps x n) (l : m ≤ n) : callable ps x m := fun i hi => h i (Nat.lt_of_lt_of_le hi l)
/-- how far the nearest stands who stands elsewhere -/
def IsNear (ps : List Pn) (x m : Int) : Prop := (∃ y, y ∈ plcs ps ∧ y ≠ x ∧ m = (if x - y < 0 then -(x - y) else x - y)) ∧ ∀ y, y ∈ plcs ps → y ≠ x → m ≤ (if x - y < 0 then -(x - y) else x - y)
theorem IsNear.pos {ps : List Pn} {x m : Int} (h : IsNear ps x m) : 0 < m := by
  obtain ⟨⟨y, _, hy, rfl⟩, _⟩ := h
  split <;> omega
theorem mem_plcs {ps : List Pn} {x : Int} : x ∈ plcs ps ↔ x ∈ placesL ps := by
  unfold placesL
  rw [mem_uset]
  exact Iff.rfl
theorem tog_iff {ps : List Pn} : togL ps = false ↔ ∃ a b, a ∈ plcs ps ∧ b ∈ plcs ps ∧ a ≠ b := by
  unfold togL
  rw [decide_eq_false_iff_not]
  constructor
  · intro h
    have h1 : 1 < (placesL ps).length := by omega
    have h0 : 0 < (placesL ps).length := by omega
    refine ⟨(placesL ps)[0], (placesL ps)[1], mem_plcs.mpr (List.getElem_mem h0), mem_plcs.mpr (List.getElem_mem h1), ?_⟩
    have := List.pairwise_iff_getElem.mp (show (placesL ps).Pairwise (· < ·) from uset_lt) 0 1 h0 h1 (by decide)
    omega
  · rintro ⟨a, b, ha, hb, hab⟩ h
    have ha := mem_plcs.mp ha
    have hb := mem_plcs.mp hb
    match e : placesL ps, h with
    | [], _ => rw [e] at ha; cases ha
    | [c], _ =>
      rw [e] at ha hb
      exact hab ((List.mem_singleton.mp ha).trans (List.mem_singleton.mp hb).symm)
theorem away_of {ps : List Pn} {x : Int} (h : togL ps = false) : ∃ y, y ∈ plcs ps ∧ y ≠ x := by
  obtain ⟨a, b, ha, hb, hab⟩ := tog_iff.mp h
  by_cases e : a = x
  · exact ⟨b, hb, fun z => hab (e.trans z.symm)⟩
  · exact ⟨a, ha, e⟩
theorem can_tog {ps : List Pn} {x : Int} (h : canC ps x = true) : togL ps = false := by
  unfold canC at h
  rw [Bool.and_eq_true] at h
  cases e : togL ps with
  | true => rw [e] at h; exact absurd h.2 (by decide)
  | false => rfl
end L2.DL
set_option Elab.async false
set_option linter.all false
set_option autoImplicit false
set_option maxRecDepth 100000
set_option maxHeartbeats 1000000
namespace L2.DL
open PySem PySem.W PySem.Spec PyProof.Rows
end L2.DL
set_option Elab.async false
set_option linter.all false
set_option autoImplicit false
set_option maxRecDepth 100000
set_option maxHeartbeats 1000000
namespace L2.DL
open PySem PySem.Spec PyProof.Rows
end L2.DL
set_option Elab.async false
set_option linter.all false
set_option autoImplicit false
set_option maxRecDepth 100000
set_option maxHeartbeats 1000000
namespace L2.DL
open PySem PySem.Spec PyProof.Rows LamX
end L2.DL
set_option Elab.async false
set_option linter.all false
set_option autoImplicit false
set_option maxRecDepth 100000
set_option maxHeartbeats 1000000
namespace L2.DL
open PySem PySem.Spec PyProof.Rows
end L2.DL
set_option Elab.async false
set_option linter.all false
set_option autoImplicit false
set_option maxRecDepth 100000
set_option maxHeartbeats 1000000
namespace L2.DL
open PySem PySem.Spec PyProof.Rows
section
variable {X : Cx} {e : Expr}
def intsR (a b : Int) : List Int := (List.range (b - a).toNat).map fun i => a + (i : Nat)
end
end L2.DL
set_option Elab.async false
set_option linter.all false
set_option autoImplicit false
set_option maxRecDepth 100000
set_option maxHeartbeats 1000000
namespace L2.DL
open PySem PySem.Spec PyProof.Rows
def dLrg (a b : D) (Q : Res → Prop) : Prop := ∃ i j : Int, a = .int i ∧ b = .int j ∧ (j - i).toNat ≤ 2 ^ 24 ∧ Q (.own ((intsR i j).map .int))
section
variable {c : C} {X : Cx} {a b : Expr} {ta tb : DTE} {pos p1 p2 ps : Pos}
def dLrg1 (a : D) (Q : Res → Prop) : Prop := ∃ j : Int, a = .int j ∧ (j - 0).toNat ≤ 2 ^ 24 ∧ Q (.own ((intsR 0 j).map .int))
end
section
variable {Q : Res → Prop} {i j : Int}
theorem lrgR : dLrg (.int i) (.int j) Q = ((j - i).toNat ≤ 2 ^ 24 ∧ Q (.own ((intsR i j).map .int))) := propext ⟨fun ⟨_, _, e1, e2, h⟩ => by cases e1; cases e2; exact h, fun h => ⟨i, j, rfl, rfl, h⟩⟩
theorem lrg1R : dLrg1 (.int j) Q = ((j - 0).toNat ≤ 2 ^ 24 ∧ Q (.own ((intsR 0 j).map .int))) := propext ⟨fun ⟨_, e1, h⟩ => by cases e1; exact h, fun h => ⟨j, rfl, h⟩⟩
end
end L2.DL
set_option Elab.async false
set_option linter.all false
set_option autoImplicit false
set_option maxRecDepth 100000
set_option maxHeartbeats 1000000
namespace L2.DL
open PySem PySem.Spec PyProof.Rows
set_option backward.match.sparseCases false in
def tagD : D → Nat
  | .non => 0
  | .bl _ => 1
  | .int _ => 2
  | .str _ => 3
  | .ty _ => 5
  | _ => 4
set_option backward.match.sparseCases false in
mutual
def apD (x : List Nat) : D → Bool
  | .lst ys => !decide (ys.map tagD = x) && apDs x ys
  | .tup ys => apDs x ys
  | .dct _ => false
  | .dcT _ => false
  | .dcL _ => false
  | .dcI _ => false
  | .ins _ _ => false
  | _ => true
def apDs (x : List Nat) : List D → Bool
  | [] => true
  | y :: ys => apD x y && apDs x ys
end
set_option backward.match.sparseCases false in
def apR (x : List Nat) : Res → Bool
  | .v d => apD x d
  | .ow (.lst ys) => apDs x ys
  | .ow _ => false
def dCallBL (i : Nat) (sp : DSp) (XD : DX) (t : DTA) : DTE := fun ρ Q => t ρ fun ds ρ1 => ∃ xs, ρ1[i]? = some (Sl.o (.lst xs)) ∧ sp ds (fun r => apR (xs.map tagD) r = true ∧ Q r ρ1) XD
end L2.DL
set_option Elab.async false
set_option linter.all false
set_option autoImplicit false
set_option maxRecDepth 100000
set_option maxHeartbeats 1000000
namespace L2.DL
open PySem PySem.Spec PyProof.Rows
section
variable {X : Cx} {pins : List (Addr × Obj)} {σ : L2.St} {H : Hp} {s : Shared}
theorem DpAll.at {vs : List V} {ds : List PyData} {K : PySem.W.Frag} (h : DpAll K H vs ds) : vs.length = ds.length ∧ ∀ (i : Nat) (v : V), vs[i]? = some v → ∃ d, ds[i]? = some d ∧ Dp K H v d := by
  induction ds generalizing vs with
  | nil => cases h; exact ⟨rfl, fun i v e => by simp at e⟩
  | cons d ds ih =>
    cases h with
    | cons h1 h2 =>
      obtain ⟨a, b⟩ := ih h2
      refine ⟨by simp [a], fun i v e => ?_⟩
      cases i with
      | zero => cases e; exact ⟨d, rfl, h1⟩
      | succ i => exact b i v (by simpa using e)
end
end L2.DL
set_option Elab.async false
set_option linter.all false
set_option autoImplicit false
set_option maxRecDepth 100000
set_option maxHeartbeats 1000000
namespace L2.DL
open PySem PySem.Spec PyProof.Rows
end L2.DL
set_option Elab.async false
set_option linter.all false
set_option autoImplicit false
set_option maxRecDepth 100000
set_option maxHeartbeats 2000000
namespace L2.DL
open PySem PySem.Spec PyProof.Rows
local macro_rules | `(tactic| walk_at "ev") => `(tactic| simp only [dSeq, dNext, dSet, dPar, dPar3, dRet, dRetN, dDrop, dIfS, dBrk, dCnt, dApp, dFor, dItL, dItT, dRng1, dRng2, dZip, dEnum, dItS, dAsg, dAugI, dNever, dPutS, dNewD, dFldM, dFldS, dStar,
  dgName, dgTup, dgCons, dgNil, dOp, dUn, dC, dNil, dCons, dCB, dTup, dLst, dIf, dTst, dTru, dAnd, dOr, dNot, dAndV, dOrV, dNotV, dYes, dInR, dFld, dMeth, dCall, dDctIx, dGet2, dRaise, dRaiseZ, dDisp, dPNil, dPCons, dRepD, dTold, dLenSet, hid_u, hid_d, hid_o, dStep2, dSlV, dIxV, dSetV, dPopV, dLenV, dLcV, lstAt, Option.isSome_some, Option.isSome_none, dSl, dNoP, dPart, dLc, dDc, dSortSet, dSortSc, dListVals, dChain, dIsiT2, dCallB, dBor, dNilB, dCBB, dOneL,
  dIsN, dNotN, dStrI, dAbs, dIn, fz_v, fz_l, fz_d, fz_i, fz_m, un_l, un_d, un_i, un_m, sl_v, sl_o, dwipe, and_assoc, insLF, insLT, insFF, insFT, startD, startN, pdT, pdI, gdT, prT, stI, putFD, lendable, noKR, noK, noKs,
  vd0, vo0, rd0, ro0, vd1, vo1, rd1, ro1, vd2, vo2, rd2, ro2, vd3, vo3, rd3, ro3, vd4, vo4, rd4, ro4, vd5, vo5, rd5, ro5, vd6, vo6, rd6, ro6, vd7, vo7, rd7, ro7, vd8, vo8, rd8, ro8, vd9, vo9, rd9, ro9, vd10, vo10, rd10, ro10, vd11, vo11, rd11, ro11, vd12, vo12, rd12, ro12, vd13, vo13, rd13, ro13, vd14, vo14, rd14, ro14, vd15, vo15, rd15, ro15, vd16, vo16, rd16, ro16, vd17, vo17, rd17, ro17, vd18, vo18, rd18, ro18, vd19, vo19, rd19, ro19, vd20, vo20, rd20, ro20, vd21, vo21, rd21, ro21, vd22, vo22, rd22, ro22, vd23, vo23, rd23, ro23, lk_people, lk_names, lk_has_name, lk_person, lk_place, lk_voice, lk_places, lk_at, lk_line, lk_voices, lk_is_together, lk_own, lenL, lenT, lenS, ixL, ixT, ixS, dcutL, dcutS, addII, addSS, addLL, int1i, int1b, negI, reprL, reprT, absI, sc_n, sc_b, sc_i, sc_s, subI, mulI, fdvI, modI, powI, ltI, leI, gtI, geI, tr_n, tr_b, tr_i, tr_l, tr_t, tr_d, ty_n, ty_b, ty_i, ty_s, ty_l, ty_t, ty_d, in_n, in_b, in_i, in_s, in_l, in_t, in_d, eqII, neII, eqSS, neSS, eqBB, neBB, isic_n, isic_b, isic_i, isic_s, isic_l, isic_t, isic_d, isio_n, isio_b, isio_i, isio_s, isio_l, isio_t, isio_d, isic_I, isic_S, isic_T, isic_L, isic_B, isio_I, dIsiO, isi_ii, isi_ib, isi_is, isi_il, isi_bi, isi_bb, isi_bs, isi_si, isi_sb, isi_ss, isi_ni, isi_nb, isi_ns, isi_li, isi_lb, isi_ls, isi_ll, isi_ti, isi_tb, isi_ts, isi_tt, isi_di, isi_db, isi_ds, isi_lt, isi_tl, isi_bt, isi_nt, isi_dt, eqLL, neLL, eqTT, neTT, isi_sl, isi_st, isi_it, kit_ll, kit_lt, max2, min2, get1, get2b, get3b, get3c,
  List.map_cons, List.map_nil, List.length_cons, List.length_nil, List.replicate, List.append_nil, List.cons_append, List.nil_append, List.getElem?_cons_zero, List.getElem?_cons_succ, List.set_cons_zero, List.set_cons_succ, List.getElem?_nil, Nat.sub_zero, Nat.reduceAdd, Nat.reduceSub, Int.reduceLT, Int.reduceLE, Int.reduceNeg, Nat.zero_add,
  true_and, and_true, eq_self, Bool.true_or, Bool.or_true, Bool.false_or, Bool.or_false, Bool.true_and, Bool.and_true, Bool.false_and, Bool.and_false, exists_eq_left, exists_eq_left', exists_eq', exists_eq, Option.some.injEq, Res.v.injEq, D.bl.injEq, D.int.injEq, D.str.injEq, D.lst.injEq, D.tup.injEq, D.dct.injEq, D.ins.injEq, Sl.o.injEq, Sl.d.injEq, List.cons.injEq, reduceCtorEq, false_or, or_false, if_true, if_false, Bool.false_eq_true, Bool.not_true, Bool.not_false, ite_true, ite_false, decide_true, decide_false, and_self, List.isEmpty_nil, List.isEmpty_cons, exists_and_left, exists_const, lenNil, reprWL, reprAA, dZipLT])
end L2.DL
set_option Elab.async false
set_option linter.all false
set_option autoImplicit false
set_option maxRecDepth 100000
set_option maxHeartbeats 2000000
namespace L2.DL
open PySem PySem.Spec PyProof.Rows
local macro_rules | `(tactic| walk_at "ev") => `(tactic| simp only [dSeq, dNext, dSet, dPar, dPar3, dRet, dRetN, dDrop, dIfS, dBrk, dCnt, dApp, dFor, dItL, dItT, dRng1, dRng2, dZip, dEnum, dItS, dAsg, dAugI, dNever, dPutS, dNewD, dFldM, dFldS, dStar,
  dgName, dgTup, dgCons, dgNil, dOp, dUn, dC, dNil, dCons, dCB, dTup, dLst, dIf, dTst, dTru, dAnd, dOr, dNot, dAndV, dOrV, dNotV, dYes, dInR, dFld, dMeth, dCall, dDctIx, dGet2, dRaise, dRaiseZ, dDisp, dPNil, dPCons, dRepD, dTold, dLenSet, hid_u, hid_d, hid_o, dStep2, dSlV, dIxV, dSetV, dPopV, dLenV, dLcV, lstAt, Option.isSome_some, Option.isSome_none, dSl, dNoP, dPart, dLc, dDc, dSortSet, dSortSc, dListVals, dChain, dIsiT2, dCallB, dBor, dNilB, dCBB, dOneL,
  dIsN, dNotN, dStrI, dAbs, dIn, fz_v, fz_l, fz_d, fz_i, fz_m, un_l, un_d, un_i, un_m, sl_v, sl_o, dwipe, and_assoc, insLF, insLT, insFF, insFT, startD, startN, pdT, pdI, gdT, prT, stI, putFD, lendable, noKR, noK, noKs,
  vd0, vo0, rd0, ro0, vd1, vo1, rd1, ro1, vd2, vo2, rd2, ro2, vd3, vo3, rd3, ro3, vd4, vo4, rd4, ro4, vd5, vo5, rd5, ro5, vd6, vo6, rd6, ro6, vd7, vo7, rd7, ro7, vd8, vo8, rd8, ro8, vd9, vo9, rd9, ro9, vd10, vo10, rd10, ro10, vd11, vo11, rd11, ro11, vd12, vo12, rd12, ro12, vd13, vo13, rd13, ro13, vd14, vo14, rd14, ro14, vd15, vo15, rd15, ro15, vd16, vo16, rd16, ro16, vd17, vo17, rd17, ro17, vd18, vo18, rd18, ro18, vd19, vo19, rd19, ro19, vd20, vo20, rd20, ro20, vd21, vo21, rd21, ro21, vd22, vo22, rd22, ro22, vd23, vo23, rd23, ro23, lk_people, lk_names, lk_has_name, lk_person, lk_place, lk_voice, lk_places, lk_at, lk_line, lk_voices, lk_is_together, lk_own, lenL, lenT, lenS, ixL, ixT, ixS, dcutL, dcutS, addII, addSS, addLL, int1i, int1b, negI, reprL, reprT, absI, sc_n, sc_b, sc_i, sc_s, subI, mulI, fdvI, modI, powI, ltI, leI, gtI, geI, tr_n, tr_b, tr_i, tr_l, tr_t, tr_d, ty_n, ty_b, ty_i, ty_s, ty_l, ty_t, ty_d, in_n, in_b, in_i, in_s, in_l, in_t, in_d, eqII, neII, eqSS, neSS, eqBB, neBB, isic_n, isic_b, isic_i, isic_s, isic_l, isic_t, isic_d, isio_n, isio_b, isio_i, isio_s, isio_l, isio_t, isio_d, isic_I, isic_S, isic_T, isic_L, isic_B, isio_I, dIsiO, isi_ii, isi_ib, isi_is, isi_il, isi_bi, isi_bb, isi_bs, isi_si, isi_sb, isi_ss, isi_ni, isi_nb, isi_ns, isi_li, isi_lb, isi_ls, isi_ll, isi_ti, isi_tb, isi_ts, isi_tt, isi_di, isi_db, isi_ds, isi_lt, isi_tl, isi_bt, isi_nt, isi_dt, eqLL, neLL, eqTT, neTT, isi_sl, isi_st, isi_it, kit_ll, kit_lt, max2, min2, get1, get2b, get3b, get3c,
  List.map_cons, List.map_nil, List.length_cons, List.length_nil, List.replicate, List.append_nil, List.cons_append, List.nil_append, List.getElem?_cons_zero, List.getElem?_cons_succ, List.set_cons_zero, List.set_cons_succ, List.getElem?_nil, Nat.sub_zero, Nat.reduceAdd, Nat.reduceSub, Int.reduceLT, Int.reduceLE, Int.reduceNeg, Nat.zero_add,
  true_and, and_true, eq_self, Bool.true_or, Bool.or_true, Bool.false_or, Bool.or_false, Bool.true_and, Bool.and_true, Bool.false_and, Bool.and_false, exists_eq_left, exists_eq_left', exists_eq', exists_eq, Option.some.injEq, Res.v.injEq, D.bl.injEq, D.int.injEq, D.str.injEq, D.lst.injEq, D.tup.injEq, D.dct.injEq, D.ins.injEq, Sl.o.injEq, Sl.d.injEq, List.cons.injEq, reduceCtorEq, false_or, or_false, if_true, if_false, Bool.false_eq_true, Bool.not_true, Bool.not_false, ite_true, ite_false, decide_true, decide_false, and_self, List.isEmpty_nil, List.isEmpty_cons, exists_and_left, exists_const, lenNil, reprWL, reprAA, dZipLT])
theorem sameV.drawn {ps qs : List Pn} (h : sameV ps qs) (x n : Int) : sameV ps (drawnL qs x n) := by
  unfold sameV at h ⊢
  rw [h]
  unfold drawnL
  rw [List.map_map]
  rfl
end L2.DL
set_option Elab.async false
set_option linter.all false
set_option autoImplicit false
set_option maxRecDepth 100000
set_option maxHeartbeats 1000000
namespace L2.DL
open PySem PySem.Spec PyProof.Rows
def wtD (b : Bool × Int) : D := .tup [.str (kindS b.1), .int b.2]
theorem wtT {p : Bool × Int} {ds : List D} : (wtD p = .tup ds) = ([.str (kindS p.1), .int p.2] = ds) := propext ⟨fun h => D.tup.inj h, fun h => congrArg D.tup h⟩
theorem wtI {p : Bool × Int} {i : D} {Q : Res → Prop} : dIx (wtD p) i Q = dIx (.tup [.str (kindS p.1), .int p.2]) i Q := rfl
/-- a stretch: its kind, its width, the first person at its left end -/
abbrev Pc : Type := Bool × Int × Str
def pcD (p : Pc) : D := .tup [.str (kindS p.1), .int p.2.1, .str p.2.2]
theorem pcT {p : Pc} {ds : List D} : (pcD p = .tup ds) = ([.str (kindS p.1), .int p.2.1, .str p.2.2] = ds) := propext ⟨fun h => D.tup.inj h, fun h => congrArg D.tup h⟩
theorem pcI {p : Pc} {i : D} {Q : Res → Prop} : dIx (pcD p) i Q = dIx (.tup [.str (kindS p.1), .int p.2.1, .str p.2.2]) i Q := rfl
abbrev Rw : Type := Str × Int
def sp_Standing_names (C : Nm) : DSp := fun ds Q X => ∃ ps, ds = [stD C ps] ∧ Wf ps ∧ Q (.own (ps.map fun p => .str p.1))
/-- the people in line order -/
def lineL (ps : List Pn) : List Pn := ps.mergeSort fun p q => decide (p.2.1 ≤ q.2.1)
theorem line_perm (ps : List Pn) : (lineL ps).Perm ps := List.mergeSort_perm _ _
theorem line_srt (ps : List Pn) : (lineL ps).Pairwise fun p q => p.2.1 ≤ q.2.1 := by
  have := List.pairwise_mergeSort (le := fun p q : Pn => decide (p.2.1 ≤ q.2.1)) (fun a b c h1 h2 => by simp only [decide_eq_true_eq] at *; omega) (fun a b => by simp only [Bool.or_eq_true, decide_eq_true_eq]; omega) ps
  exact this.imp fun h => of_decide_eq_true h
def sp_Standing_line (C : Nm) : DSp := fun ds Q X => ∃ ps, ds = [stD C ps] ∧ Wf ps ∧ Q (.own ((lineL ps).map fun p => .str p.1))
def minI : Int → List Int → Int
  | a, [] => a
  | a, b :: t => minI (min a b) t
def mvF (pl t z : Int) : Int := z + t * ((if z < pl then 1 else 0) - (if pl < z then 1 else 0))
def nearR (pl : Int) (xs : List Int) : List Int := (xs.filter fun z => decide (z ≠ pl)).map fun z => if z - pl < 0 then -(z - pl) else z - pl
def sideR (pl : Int) (xs : List Int) : Nat := (if xs.any (fun z => decide (z < pl)) then 1 else 0) + (if xs.all (fun z => decide (z ≤ pl)) then 1 else 0)
def shUp (sh : List Int) (s : Nat) (t : Int) : List Int := sh.take s ++ [sh.getD s 0 + t] ++ sh.drop (s + 1)
def runRow (k : Nat) : Nat → Int → List Pn → List Int → Option (List Pn × List Int)
  | 0, _, _, _ => none
  | f + 1, left, qs, sh => if left ≤ 0 then some (qs, sh) else
      if nearR ((plcs qs).getD k 0) (plcs qs) = [] ∨ oddC qs ((plcs qs).getD k 0) = false then none else
        runRow k f (left - minI left (nearR ((plcs qs).getD k 0) (plcs qs))) (qs.map (mvP (mvF ((plcs qs).getD k 0) (minI left (nearR ((plcs qs).getD k 0) (plcs qs))))))
          (shUp sh (sideR ((plcs qs).getD k 0) (plcs qs)) (minI left (nearR ((plcs qs).getD k 0) (plcs qs))))
def idxS (z : Str) : List Str → Option Nat
  | [] => none
  | y :: ys => if y = z then some 0 else (idxS z ys).map (· + 1)
def runAll (ns : List Str) : List Rw → List Pn → List Int → Option (List Pn × List Int)
  | [], qs, sh => some (qs, sh)
  | (n, x) :: rs, qs, sh => if 1 ≤ x then (match idxS n ns with
      | some j => (match runRow j 1000 x qs sh with
        | some (q2, s2) => runAll ns rs q2 s2
        | none => none)
      | none => none) else none
theorem minI_spec : ∀ (l : List Int) (a : Int), minI a l ∈ a :: l ∧ ∀ y, y ∈ a :: l → minI a l ≤ y
  | [], a => ⟨List.mem_cons_self, fun y h => by rw [List.mem_singleton.mp h]; exact Int.le_refl _⟩
  | b :: t, a => by
    obtain ⟨h1, h2⟩ := minI_spec t (min a b)
    unfold minI
    refine ⟨?_, fun y hy => ?_⟩
    · rcases List.mem_cons.mp h1 with h | h
      · rw [h]
        rcases Int.le_total a b with c | c
        · rw [Int.min_eq_left c]; exact List.mem_cons_self
        · rw [Int.min_eq_right c]; exact List.mem_cons_of_mem _ List.mem_cons_self
      · exact List.mem_cons_of_mem _ (List.mem_cons_of_mem _ h)
    · have h0 := h2 (min a b) List.mem_cons_self
      rcases List.mem_cons.mp hy with rfl | hy
      · omega
      · rcases List.mem_cons.mp hy with rfl | hy
        · omega
        · exact h2 y (List.mem_cons_of_mem _ hy)
end L2.DL
set_option Elab.async false
set_option linter.all false
set_option autoImplicit false
set_option maxRecDepth 100000
set_option maxHeartbeats 1000000
namespace L2.DL
open PySem PySem.Spec PyProof.Rows LamX
inductive GA where
  | non | bl (b : Bool) | int (i : Int) | str (x : Str) | fld (f : Str)
inductive GE where
  | one (a : GA) | lst (l : List GA) | tup (l : List GA)
def gaD (fds : List (Str × D)) : GA → Option D
  | .non => some .non
  | .bl b => some (.bl b)
  | .int i => some (.int i)
  | .str x => some (.str x)
  | .fld f => fds.lookup f
def gasD (fds : List (Str × D)) : List GA → Option (List D)
  | [] => some []
  | a :: l => match gaD fds a, gasD fds l with
    | some d, some r => some (d :: r)
    | _, _ => none
def geD (fds : List (Str × D)) : GE → Option Res
  | .one a => (gaD fds a).map .v
  | .lst l => (gasD fds l).map Res.own
  | .tup l => (gasD fds l).map fun ds => .v (.tup ds)
section
variable {c : C} {F H : Hp} {σ : L2.St} {ρ : Rho}
def GE.few : GE → Prop
  | .one _ => True
  | .lst l => l.length ≤ 100
  | .tup l => l.length ≤ 100
end
end L2.DL
set_option Elab.async false
set_option linter.all false
set_option autoImplicit false
set_option maxRecDepth 100000
set_option maxHeartbeats 1000000
namespace L2.DL
open PySem PySem.Spec PyProof.Rows LamX
inductive TSh where
  | drop | ret | retL (w : Str) | ret1 | set (i : Nat)
/-- over data -/
def dSh (sh : TSh) (E : DEnds) (ρ : Rho) (r : Res) : Prop := match sh with
  | .drop => E.nx ρ
  | .ret => E.rt r
  | .retL w => E.rt (.own [.str w, fz r])
  | .ret1 => E.rt (.own [fz r])
  | .set i => E.nx (ρ.set i (toSl r))
inductive DCl where
  | ge (cl : Addr) (nm : Bool) (g : GE)
  | blk (cl : Addr) (th : DTS)
def DCl.cl : DCl → Addr
  | .ge cl _ _ => cl
  | .blk cl _ => cl
def DCl.run (fds : List (Str × D)) (E : DEnds) (ρ : Rho) : DCl → Prop
  | .ge _ _ g => ∃ r, geD fds g = some r ∧ E.rt r
  | .blk _ th => th E ρ
def dTryG (sh : TSh) (sp : DSp) (t : DTA) (l : List DCl) : DTS := fun E ρ => t ρ fun ds ρ1 => sp ds (fun r => dSh sh E ρ1 r) fun C fds => ∃ q, q ∈ l ∧ C = q.cl ∧ q.run fds E ρ1
abbrev TCl : Type := Addr × GE
/-- what is made of the lambda's value; for an expression statement: what is returned behind the try -/
inductive TWr where
  | lw (w : Str) | l1 | id | dr (g : GE)
def xTG (l : List TCl) (Q : Res → Prop) : DX := fun C fds => ∃ q, q ∈ l ∧ C = q.1 ∧ ∃ r, geD fds q.2 = some r ∧ Q r
def wrD (wr : TWr) (Q : Res → Prop) (r : Res) : Prop := match wr with
  | .lw w => Q (.own [.str w, fz r])
  | .l1 => Q (.own [fz r])
  | .id => Q (.v (fz r))
  | .dr g => ∃ r', geD [] g = some r' ∧ Q r'
def dToldG (wr : TWr) (l : List TCl) (tb : DX → DTE) : DTE := fun ρ Q => tb (xTG l fun r => Q r ρ) (ρ.map hideO) fun r _ => wrD wr (fun r' => Q r' ρ) r
end L2.DL
set_option Elab.async false
set_option linter.all false
set_option autoImplicit false
set_option maxRecDepth 100000
set_option maxHeartbeats 1000000
namespace L2.DL
open PySem PySem.Spec PyProof.Rows LamX
end L2.DL
set_option Elab.async false
set_option linter.all false
set_option autoImplicit false
set_option maxRecDepth 100000
set_option maxHeartbeats 1000000
namespace L2.DL
open PySem PySem.Spec PyProof.Rows
def dReprX (ds : List D) (Q : Res → Prop) : Prop := ∃ d, ds = [d] ∧ ShowW d ∧ Q (.v (.str (pyW d).shown))
theorem reprXX {d : D} {Q : Res → Prop} : dReprX [d] Q = (ShowW d ∧ Q (.v (.str (pyW d).shown))) := propext ⟨fun ⟨ys, e, h⟩ => by cases e; exact h, fun h => ⟨d, rfl, h⟩⟩
end L2.DL
set_option Elab.async false
set_option linter.all false
set_option autoImplicit false
set_option maxRecDepth 100000
set_option maxHeartbeats 1000000
namespace L2.DL
open PySem PySem.Spec PyProof.Rows
structure Z3It (h : Heap) (N l1 l2 l3 : Nat) (k : Nat) : Prop where
  a : h.IsListIter N l1 k
  b : h.IsListIter (N + 1) l2 k
  c : h.IsListIter (N + 2) l3 k
  t : IsTupOf3 h (N + 3) (.ref N) (.ref (N + 1)) (.ref (N + 2))
theorem Z3It.at {h h' : Heap} {N l1 l2 l3 : Nat} {k : Nat} (x : Z3It h N l1 l2 l3 k) (e : ∀ (c : Nat) o, N ≤ c → c ≤ N + 3 → h.get? c = some o → h'.get? c = some o) : Z3It h' N l1 l2 l3 k :=
  ⟨x.a.at fun o q => e _ o (Nat.le_refl _) (by first | omega | (show @Ne Nat _ _; omega)) q, x.b.at fun o q => e _ o (by first | omega | (show @Ne Nat _ _; omega)) (by first | omega | (show @Ne Nat _ _; omega)) q, x.c.at fun o q => e _ o (by first | omega | (show @Ne Nat _ _; omega)) (by first | omega | (show @Ne Nat _ _; omega)) q, e _ _ (by first | omega | (show @Ne Nat _ _; omega)) (by first | omega | (show @Ne Nat _ _; omega)) x.t⟩
section
variable {prog : Program} {w : World} {A : Around} {E : Value → Shared → Prop} {s : Shared} {N T l1 l2 l3 : Nat} {f : Bool} {oT : Obj} {k : Nat} {xs ys us : Array Value}
/-- how a zip of three lists stands: nothing given out yet, or the tuple T given out last and kept -/
def Z3St (h : Heap) (N l1 l2 l3 S : Nat) (k : Nat) : Prop :=
  Z3It h N l1 l2 l3 k ∧ ((IsZip h (N + 5) (N + 3) (N + 4) .none ∧ ∃ a b c, IsTupOf3 h (N + 4) a b c) ∨ ∃ T f oT, IsZipHeld h (N + 5) (N + 3) (N + 4) T f ∧ h.get? T = some oT ∧ N + 5 < T ∧ T ≠ S)
theorem Z3St.keep {h h' : Heap} {S : Nat} (x : Z3St h N l1 l2 l3 S k) (hS : N + 5 < S) (e : ∀ (c : Nat) o, c ≠ S → h.get? c = some o → h'.get? c = some o) : Z3St h' N l1 l2 l3 S k := by
  obtain ⟨i, r⟩ := x
  refine ⟨i.at fun c o _ h2 q => e c o (by first | omega | (show @Ne Nat _ _; omega)) q, ?_⟩
  rcases r with ⟨z, a, b, c, t⟩ | ⟨T, f, oT, z, t, h1, h2⟩
  · exact .inl ⟨e _ _ (by first | omega | (show @Ne Nat _ _; omega)) z, a, b, c, e _ _ (by first | omega | (show @Ne Nat _ _; omega)) t⟩
  · exact .inr ⟨T, f, oT, e _ _ (by first | omega | (show @Ne Nat _ _; omega)) z, e _ _ h2 t, h1, h2⟩
end
/-- the tuples laid so far -/
structure Z3G (xs ys us : Array Value) (lo : Nat) (h : Heap) (as : List Nat) : Prop where
  rise : as.Pairwise (· < ·)
  above : ∀ a ∈ as, lo < a
  tups : ∀ (j : Nat) (a : Nat), as[j]? = some a → ∃ x y u, xs[j]? = some x ∧ ys[j]? = some y ∧ us[j]? = some u ∧ IsTupOf3 h a x y u
theorem Z3G.there {xs ys us : Array Value} {lo : Nat} {h : Heap} {as : List Nat} (g : Z3G xs ys us lo h as) {a : Nat} (ha : a ∈ as) : a < h.objs.size := by
  obtain ⟨j, hj⟩ := List.mem_iff_getElem?.mp ha
  obtain ⟨_, _, _, _, _, _, e⟩ := g.tups j a hj
  exact Heap.lt_size e
theorem Z3G.low {xs ys us : Array Value} {lo lo' : Nat} {h : Heap} {as : List Nat} (g : Z3G xs ys us lo h as) (hl : lo' ≤ lo) : Z3G xs ys us lo' h as := ⟨g.rise, fun a ha => Nat.lt_of_le_of_lt hl (g.above a ha), g.tups⟩
theorem Un.new {fs ex : List Nat} {H H' : Hp} {h h' : Heap} (k : ∀ b u, h.get? b = some u → h'.get? b = some u) (e : ∀ b, b < h.objs.size → H' b = H b) (lt : ∀ b u, H b = some u → b < h.objs.size) : Un fs ex H H' h h' where
  keep := fun b u q _ _ _ => k b u q
  slot := fun b u q _ _ _ => ⟨u.slots, k b u q⟩
  free := fun b u q n _ => by rw [e b (Heap.lt_size q)]; exact n
  there := fun b u q _ => ⟨u, k b u q⟩
  tups := fun b xs q => by rw [e b (lt b _ q)]; exact q
  frzs := fun b o u q => by rw [e b (lt b _ q)]; exact q
  tbls := fun b ps q => ⟨#[], by rw [e b (lt b _ q), q]; simp⟩
def tri3 : List D → List D → List D → List D
  | x :: xs, y :: ys, u :: us => .tup [x, y, u] :: tri3 xs ys us
  | _, _, _ => []
def dLz3 (ds : List D) (Q : Res → Prop) : Prop := ∃ xs ys us, ds = [.lst xs, .lst ys, .lst us] ∧ Q (.own (tri3 xs ys us))
theorem lz3R {xs ys us : List D} {Q : Res → Prop} : dLz3 [.lst xs, .lst ys, .lst us] Q = Q (.own (tri3 xs ys us)) := propext ⟨fun ⟨_, _, _, e, h⟩ => by cases e; exact h, fun h => ⟨xs, ys, us, rfl, h⟩⟩
def dFz (t : DTE) : DTE := fun ρ Q => t ρ fun r ρ' => Q (.v (fz r)) ρ'
theorem fzR {t : DTE} {ρ : Rho} {Q : Res → Rho → Prop} : dFz t ρ Q = t ρ fun r ρ' => Q (.v (fz r)) ρ' := rfl
end L2.DL
set_option Elab.async false
set_option linter.all false
set_option autoImplicit false
set_option maxRecDepth 100000
set_option maxHeartbeats 1000000
namespace L2.DL
open PySem PySem.Spec PyProof.Rows
end L2.DL
set_option Elab.async false
set_option linter.all false
set_option autoImplicit false
set_option maxRecDepth 100000
set_option maxHeartbeats 1000000
namespace L2.DL
open PySem PySem.Spec PyProof.Rows
/-- what a class with an own == must have -/
structure EqM (K : PySem.W.Frag) (C f : Addr) : Prop where
  eq : PySem.W.findIn K (.ref C) "__eq__" = some (some (.ref f))
  fn : PySem.W.isFn K (.ref f) = true
  ne : PySem.W.findIn K (.ref C) "__ne__" = some (some (.builtin "object.__ne__"))
  ob : PySem.W.subIn K (.ref C) (.type "object") = some true
structure CalleeQ (P : Program) (w : World) (K : PySem.W.Frag) (mg : Str → Option Value) (base : Heap) (k : Nat) (C : Addr) (sp : DSp) : Prop where
  ex : ∃ (f : Addr) (fd : FuncData) (ps : List Str), EqM K C f ∧ FnG P w K mg base k f fd ps (spD K sp) ∧ Binds K fd ps []
theorem CalleeQ.mono {P : Program} {w : World} {K : PySem.W.Frag} {mg : Str → Option Value} {base : Heap} {j k : Nat} {C : Addr} {sp : DSp} (G : CalleeQ P w K mg base j C sp) (h : j ≤ k) : CalleeQ P w K mg base k C sp :=
  let ⟨f, fd, ps, a, b, d⟩ := G.ex
  ⟨f, fd, ps, a, b.mono h, d⟩
def dEqO (C : Addr) (neg : Bool) (sp : DSp) (XD : DX) (ta tb : DTE) : DTE := fun ρ Q => ta ρ fun r1 ρ1 => tb ρ1 fun r2 ρ2 => ∃ fs gs, fz r1 = .ins C fs ∧ fz r2 = .ins C gs ∧ sp [.ins C fs, .ins C gs] (fun r => ∃ b, r = .v (.bl b) ∧ Q (.v (.bl (neg != b))) ρ2) XD
end L2.DL
set_option Elab.async false
set_option linter.all false
set_option autoImplicit false
set_option maxRecDepth 100000
set_option maxHeartbeats 1000000
namespace L2.DL
open PySem PySem.Spec PyProof.Rows
/-- the values of some expressions, each a new list -/
def dOwnL : List DTE → Rho → (List D → Rho → Prop) → Prop
  | [], ρ, Q => Q [] ρ
  | t :: ts, ρ, Q => t ρ fun r ρ1 => ∃ ys, r = .ow (.lst ys) ∧ dOwnL ts ρ1 fun ds ρ2 => Q (.lst ys :: ds) ρ2
inductive AloneL (c : C) (σ : L2.St) (Hb F H : Hp) (ρ : Rho) : List Addr → List D → Prop
  | nil : AloneL c σ Hb F H ρ [] []
  | cons {p : Addr} {ps : List Addr} {ys dss : List D} {vs : List V} : kn Hb p = none → p ∉ ps → H p = some (.lst vs) → F p = none → Reps c.K c.S F vs ys → ¬ inS c.S p → ¬ Own σ ρ p → kn c.H0 p = none → AloneL c σ Hb F H ρ ps dss → AloneL c σ Hb F H ρ (p :: ps) (.lst ys :: dss)
section
variable {c : C} {σ : L2.St} {Hb F H F' H' : Hp} {ρ ρ' : Rho} {X : Cx}
theorem AloneL.len {ps : List Addr} {dss : List D} (h : AloneL c σ Hb F H ρ ps dss) : ps.length = dss.length := by
  induction h with
  | nil => rfl
  | cons _ _ _ _ _ _ _ _ _ ih => rw [List.length_cons, List.length_cons, ih]
theorem AloneL.at {ps : List Addr} {dss : List D} (h : AloneL c σ Hb F H ρ ps dss) {p : Addr} (hp : p ∈ ps) : F p = none ∧ ¬ inS c.S p ∧ ¬ Own σ ρ p ∧ kn c.H0 p = none ∧ ∃ vs ys, H p = some (.lst vs) ∧ Reps c.K c.S F vs ys ∧ D.lst ys ∈ dss := by
  induction h with
  | nil => cases hp
  | cons a b d e f g i k _ ih =>
    rcases List.mem_cons.mp hp with rfl | hp
    · exact ⟨e, g, i, k, _, _, d, f, List.mem_cons_self⟩
    · obtain ⟨a1, a2, a3, a4, vs, ys, a5, a6, a7⟩ := ih hp
      exact ⟨a1, a2, a3, a4, vs, ys, a5, a6, List.mem_cons_of_mem _ a7⟩
end
def dNest (i j : Nat) (ts : List DTE) (tt : DTT) : DTS := fun E ρ => i < ρ.length ∧ j < ρ.length ∧ dOwnL ts ρ fun dss ρ1 => dss.length ≤ sizeLine ∧ tt ((ρ1.set i (Sl.d (.lst dss))).map hideO) fun b _ => if b = true then E.rt (.v (.bl false)) else (∀ ys, D.lst ys ∈ dss → ys.length < sizeLine) ∧ E.nx ((ρ1.set i .un).set j .un)
end L2.DL
set_option Elab.async false
set_option linter.all false
set_option autoImplicit false
set_option maxRecDepth 100000
set_option maxHeartbeats 1000000
namespace L2.DL
open PySem PySem.Spec PyProof.Rows
def dThenFz (i : Nat) (t : DTS) : DTS := fun E ρ => t { E with nx := fun ρ' => dVar i ρ' fun _ ρ'' => E.nx ρ'' } ρ
end L2.DL
set_option Elab.async false
set_option linter.all false
set_option autoImplicit false
set_option maxRecDepth 100000
set_option maxHeartbeats 1000000
namespace L2.DL
open PySem PySem.Spec PyProof.Rows
/-- xs[::-1] -/
def dRevL (te : DTE) : DTE := fun ρ Q => te ρ fun r ρ1 => ∃ xs, fz r = .lst xs ∧ Q (.own xs.reverse) ρ1
theorem de_revL {X : Cx} {c : C} {e : Expr} {te : DTE} {k : Nat} {p1 p2 p3 pos : Pos} (hK : X.K = c.K) (he : PE X e (liftE c te)) : PE X (.Subscript e (.Slice none none (some (.UnaryOp .USub (.Constant (.int 1) k p1) p2)) p3) pos) (liftE c (dRevL te)) :=
  PE_imp (pe_revL (froze he)) fun σ H Q ⟨F, ρ, QD, s, ht, k⟩ => by
    refine ⟨F, ρ, (fun d ρ1 => ∃ xs, d = .lst xs ∧ QD (.own xs.reverse) ρ1), s, ht, fun v H1 F1 ρ1 d s1 st1 rv ⟨xs, e, q⟩ => ?_⟩
    subst e
    cases rv with
    | lst h1 h2 =>
      rename_i a vs
      refine ⟨_, _, rfl, by rw [hK]; exact h1.sq s1.sub, fun p hp => ?_⟩
      have pe : PExt F1 H1 F1 (upd H1 p (.lst vs.reverse)) := PExt.own s1.sub hp
      have rr : RR0 c.K c.S F1 H1 (upd H1 p (.lst vs.reverse)) (.ref p) (.own xs.reverse) := ⟨p, _, rfl, hp, upd_same, free_of s1.sub hp, .lst h2.rev⟩
      obtain ⟨a, b⟩ := rr.rr s1
      exact k _ _ F1 ρ1 (.own xs.reverse) (pe.sr s1) (st1.trans pe.stp) a (New.back st1 s1 b) q
def dOpV (dr : D → D → (Res → Prop) → Prop) (i : Nat) (tb : DTE) : DTE := fun ρ Q => (∃ xs, ρ[i]? = some (Sl.o xs)) ∧ tb ρ fun r2 ρ2 => ∃ xs, ρ2[i]? = some (Sl.o xs) ∧ dr (unAt xs) (fz r2) fun r => scal1 r = true ∧ Q r ρ2
end L2.DL
set_option Elab.async false
set_option linter.all false
set_option autoImplicit false
set_option maxRecDepth 100000
set_option maxHeartbeats 1000000
namespace L2.DL
open PySem PySem.Spec PyProof.Rows
end L2.DL
set_option Elab.async false
set_option linter.all false
set_option autoImplicit false
set_option maxRecDepth 100000
set_option maxHeartbeats 1000000
namespace L2.DL
open PySem PySem.Spec PyProof.Rows
def isiT2O (K : PySem.W.Frag) (C : Addr) (m n : String) (d : D) (R : Bool → Prop) : Prop :=
  (∃ t b, tyD d = some t ∧ PySem.W.kitAny K (.type t) [.type m, .type n] = some b ∧ R b) ∨ ∃ fs, d = .ins C fs ∧ m ∈ isiNames ∧ n ∈ isiNames ∧ R false
def dIsiT2O (K : PySem.W.Frag) (C : Addr) (m n : String) (te : DTE) : DTE := fun ρ Q => te ρ fun r ρ1 => isiT2O K C m n (fz r) fun b => Q (.v (.bl b)) ρ1
end L2.DL
set_option Elab.async false
set_option linter.all false
set_option autoImplicit false
set_option maxRecDepth 100000
set_option maxHeartbeats 2000000
namespace L2.DL
open PySem PySem.Spec PyProof.Rows
local macro_rules | `(tactic| walk_at "ev") => `(tactic| simp only [dSeq, dNext, dSet, dPar, dPar3, dRet, dRetN, dDrop, dIfS, dBrk, dCnt, dApp, dFor, dItL, dItT, dRng1, dRng2, dZip, dEnum, dItS, dAsg, dAugI, dNever, dPutS, dNewD, dFldM, dFldS, dStar,
  dgName, dgTup, dgCons, dgNil, dOp, dUn, dC, dNil, dCons, dCB, dTup, dLst, dIf, dTst, dTru, dAnd, dOr, dNot, dAndV, dOrV, dNotV, dYes, dInR, dFld, dMeth, dCall, dDctIx, dGet2, dRaise, dRaiseZ, dDisp, dPNil, dPCons, dRepD, dTold, dLenSet, hid_u, hid_d, hid_o, dStep2, dSlV, dIxV, dSetV, dPopV, dLenV, dLcV, lstAt, Option.isSome_some, Option.isSome_none, dSl, dNoP, dPart, dLc, dDc, dSortSet, dSortSc, dListVals, dChain, dIsiT2, dCallB, dBor, dNilB, dCBB, dOneL,
  dIsN, dNotN, dStrI, dAbs, dIn, fz_v, fz_l, fz_d, fz_i, fz_m, un_l, un_d, un_i, un_m, sl_v, sl_o, dwipe, and_assoc, insLF, insLT, insFF, insFT, startD, startN, pdT, pdI, gdT, prT, stI, putFD, lendable, noKR, noK, noKs,
  vd0, vo0, rd0, ro0, vd1, vo1, rd1, ro1, vd2, vo2, rd2, ro2, vd3, vo3, rd3, ro3, vd4, vo4, rd4, ro4, vd5, vo5, rd5, ro5, vd6, vo6, rd6, ro6, vd7, vo7, rd7, ro7, vd8, vo8, rd8, ro8, vd9, vo9, rd9, ro9, vd10, vo10, rd10, ro10, vd11, vo11, rd11, ro11, vd12, vo12, rd12, ro12, vd13, vo13, rd13, ro13, vd14, vo14, rd14, ro14, vd15, vo15, rd15, ro15, vd16, vo16, rd16, ro16, vd17, vo17, rd17, ro17, vd18, vo18, rd18, ro18, vd19, vo19, rd19, ro19, vd20, vo20, rd20, ro20, vd21, vo21, rd21, ro21, vd22, vo22, rd22, ro22, vd23, vo23, rd23, ro23, lk_people, lk_names, lk_has_name, lk_person, lk_place, lk_voice, lk_places, lk_at, lk_line, lk_voices, lk_is_together, lk_own, lenL, lenT, lenS, ixL, ixT, ixS, dcutL, dcutS, addII, addSS, addLL, int1i, int1b, negI, reprL, reprT, absI, sc_n, sc_b, sc_i, sc_s, subI, mulI, fdvI, modI, powI, ltI, leI, gtI, geI, tr_n, tr_b, tr_i, tr_l, tr_t, tr_d, ty_n, ty_b, ty_i, ty_s, ty_l, ty_t, ty_d, in_n, in_b, in_i, in_s, in_l, in_t, in_d, eqII, neII, eqSS, neSS, eqBB, neBB, isic_n, isic_b, isic_i, isic_s, isic_l, isic_t, isic_d, isio_n, isio_b, isio_i, isio_s, isio_l, isio_t, isio_d, isic_I, isic_S, isic_T, isic_L, isic_B, isio_I, dIsiO, isi_ii, isi_ib, isi_is, isi_il, isi_bi, isi_bb, isi_bs, isi_si, isi_sb, isi_ss, isi_ni, isi_nb, isi_ns, isi_li, isi_lb, isi_ls, isi_ll, isi_ti, isi_tb, isi_ts, isi_tt, isi_di, isi_db, isi_ds, isi_lt, isi_tl, isi_bt, isi_nt, isi_dt, eqLL, neLL, eqTT, neTT, isi_sl, isi_st, isi_it, kit_ll, kit_lt, max2, min2, get1, get2b, get3b, get3c,
  List.map_cons, List.map_nil, List.length_cons, List.length_nil, List.replicate, List.append_nil, List.cons_append, List.nil_append, List.getElem?_cons_zero, List.getElem?_cons_succ, List.set_cons_zero, List.set_cons_succ, List.getElem?_nil, Nat.sub_zero, Nat.reduceAdd, Nat.reduceSub, Int.reduceLT, Int.reduceLE, Int.reduceNeg, Nat.zero_add,
  true_and, and_true, eq_self, Bool.true_or, Bool.or_true, Bool.false_or, Bool.or_false, Bool.true_and, Bool.and_true, Bool.false_and, Bool.and_false, exists_eq_left, exists_eq_left', exists_eq', exists_eq, Option.some.injEq, Res.v.injEq, D.bl.injEq, D.int.injEq, D.str.injEq, D.lst.injEq, D.tup.injEq, D.dct.injEq, D.ins.injEq, Sl.o.injEq, Sl.d.injEq, List.cons.injEq, reduceCtorEq, false_or, or_false, if_true, if_false, Bool.false_eq_true, Bool.not_true, Bool.not_false, ite_true, ite_false, decide_true, decide_false, and_self, List.isEmpty_nil, List.isEmpty_cons, exists_and_left, exists_const, lenNil, reprWL, reprAA, dZipLT, min3R, isBR, notBR, pcT, wtT, wtI, pcI, dIsiT2O])
def t_Standing_names (K : PySem.W.Frag) (C : Nm) (XD : DX) : DTS := (dRet (dCB dListKeys (dCons (dFld (C ("Standing" : Str)) ("own_people" : Str) (dVar 0)) dNil)))
def t_Standing_line (K : PySem.W.Frag) (C : Nm) (XD : DX) : DTS := (dRet (dSortBy (C ("Standing" : Str)) ("place" : Str) (sp_Standing_place C) (dMeth (C ("Standing" : Str)) ("names" : Str) (sp_Standing_names C) XD (dVar 0) dNil) (dVar 0)))
section
variable {K : PySem.W.Frag} {C : Nm} {XD : DX} {ds : List D} {QD : Res → Prop}
theorem pure_Standing_names (h : sp_Standing_names C ds QD XD) : t_Standing_names K C XD { nx := fun _ => QD (.v .non), rt := QD } (startN 1 ds) := by
  obtain ⟨ps, rfl, hw, q⟩ := h
  unfold t_Standing_names
  walk_at "ev"
  refine ⟨_, rfl, ?_⟩
  unfold ownD
  rw [List.map_map]
  exact q
theorem pure_Standing_line (h : sp_Standing_line C ds QD XD) : t_Standing_line K C XD { nx := fun _ => QD (.v .non), rt := QD } (startN 1 ds) := by
  obtain ⟨ps, rfl, hw, q⟩ := h
  unfold t_Standing_line dSortBy
  walk_at "ev"
  refine ⟨ps, rfl, hw, ?_⟩
  walk_at "ev"
  refine ⟨fun d => match findD ps d with
    | some p => p.2.1
    | none => 0, fun d hd R hR => ?_, ?_⟩
  · obtain ⟨p, hp, rfl⟩ := List.mem_map.mp hd
    have fp : findD ps (.str p.1) = some p := find_mem hw.nd hp
    refine ⟨ps, _, rfl, hw, Nmd.word (hw.word p hp), fun p' hp' => ?_, fun z => by rw [fp] at z; cases z⟩
    rw [fp] at hp'
    cases hp'
    simp only [fp] at hR
    exact hR
  · have e := List.map_mergeSort (l := ps) (f := fun p : Pn => D.str p.1) (r := fun p q : Pn => decide (p.2.1 ≤ q.2.1)) (s := fun a b => decide ((match findD ps a with
      | some p => p.2.1
      | none => 0) ≤ (match findD ps b with
      | some p => p.2.1
      | none => 0))) (fun a ha b hb => by
        have fa : findD ps (.str a.1) = some a := find_mem hw.nd ha
        have fb : findD ps (.str b.1) = some b := find_mem hw.nd hb
        simp only [fa, fb])
    rw [← e]
    exact q
end
end L2.DL
set_option Elab.async false
set_option linter.all false
set_option autoImplicit false
set_option maxRecDepth 100000
set_option maxHeartbeats 1000000
namespace L2.DL
open PySem PySem.Spec PyProof.Rows
abbrev PtW : Type := Int × Int
def NonW (W : List PtW) : Prop := ∀ g, g ∈ W → 0 ≤ g.2
theorem NonW.cons {g : PtW} {A : List PtW} : NonW (g :: A) ↔ 0 ≤ g.2 ∧ NonW A := ⟨fun h => ⟨h g List.mem_cons_self, fun q hq => h q (List.mem_cons_of_mem _ hq)⟩, fun h q hq => (List.mem_cons.mp hq).elim (fun e => by rw [e]; exact h.1) (h.2 q)⟩
theorem plcs_mv (ps : List Pn) (G : Int → Int) : plcs (ps.map (mvP G)) = (plcs ps).map G := by
  unfold plcs
  rw [List.map_map, List.map_map]
  rfl
theorem drawn_mv2 (ps : List Pn) (G : Int → Int) (x n : Int) : drawnL (ps.map (mvP G)) x n = ps.map (mvP fun y => nrF x n (G y)) := by
  rw [drawn_nr, List.map_map]
  rfl
inductive Runs (ps : List Pn) : (Int → Int) → List Rw → (Int → Int) → List (Nat × Int) → Prop where
  | nil (F : Int → Int) : Runs ps F [] F []
  | cons {F F' : Int → Int} {p : Pn} {n : Int} {sd : Nat} {rs : List Rw} {l : List (Nat × Int)} : p ∈ ps → 1 ≤ n → sd < 3 →
      (∀ i : Nat, (i : Int) < n → canC (ps.map (mvP fun y => nrF (F p.2.1) i (F y))) (F p.2.1) = true ∧ sideR (F p.2.1) (plcs (ps.map (mvP fun y => nrF (F p.2.1) i (F y)))) = sd) →
      Runs ps (fun y => nrF (F p.2.1) n (F y)) rs F' l → Runs ps F ((p.1, n) :: rs) F' ((sd, n) :: l)
end L2.DL
set_option Elab.async false
set_option linter.all false
set_option autoImplicit false
set_option maxRecDepth 100000
set_option maxHeartbeats 1000000
namespace L2.DL
open PySem PySem.Spec PyProof.Rows
theorem sh_zero {sh : List Int} {sd : Nat} (h : sd < sh.length) : shUp sh sd 0 = sh := by
  unfold shUp
  rw [List.append_assoc, List.getD_eq_getElem?_getD, List.getElem?_eq_getElem h, Int.add_zero]
  show List.take sd sh ++ ([sh[sd]] ++ List.drop (sd + 1) sh) = sh
  rw [List.singleton_append, ← List.drop_eq_getElem_cons h, List.take_append_drop]
theorem sh_len {sh : List Int} {sd : Nat} {t : Int} (h : sd < sh.length) : (shUp sh sd t).length = sh.length := by
  unfold shUp
  simp only [List.length_append, List.length_take, List.length_drop, List.length_singleton]
  omega
theorem sh_add {sh : List Int} {sd : Nat} {a b : Int} (hl : sh.length = 3) (h : sd < 3) : shUp (shUp sh sd a) sd b = shUp sh sd (a + b) := by
  obtain ⟨x, y, z, rfl⟩ : ∃ x y z, sh = [x, y, z] := by
    match sh, hl with
    | [x, y, z], _ => exact ⟨x, y, z, rfl⟩
  match sd, h with
  | 0, _ => simp [shUp, Int.add_assoc]
  | 1, _ => simp [shUp, Int.add_assoc]
  | 2, _ => simp [shUp, Int.add_assoc]
theorem runRow_ok {k sd : Nat} (hsd : sd < 3) : ∀ (m : Nat) {qs : List Pn} {x n : Int} {sh : List Int}, k < qs.length → (plcs qs).getD k 0 = x → 0 ≤ n → sh.length = 3 →
    (∀ i : Nat, (i : Int) < n → canC (drawnL qs x i) x = true ∧ sideR x (plcs (drawnL qs x i)) = sd) → ((plcs qs).filter fun y => decide (y ≠ x)).length + 1 < m → runRow k m n qs sh = some (drawnL qs x n, shUp sh sd n) := by
  intro m
  induction m with
  | zero => intro qs x n sh _ _ _ _ _ h; omega
  | succ m ih =>
    intro qs x n sh hk hx hn hl hc hm
    unfold runRow
    by_cases h0 : n ≤ 0
    · obtain rfl : n = 0 := by omega
      rw [if_pos (Int.le_refl _), drawn_zero, sh_zero (by omega)]
    rw [if_neg h0, hx]
    obtain ⟨c0, s0⟩ := hc 0 (by simpa using (show 0 < n by omega))
    rw [show ((0 : Nat) : Int) = 0 from rfl, drawn_zero] at c0 s0
    obtain ⟨y, hy, hyx⟩ := away_of (x := x) (can_tog c0)
    have hyn : (if y - x < 0 then -(y - x) else y - x) ∈ nearR x (plcs qs) := by
      unfold nearR
      exact List.mem_map.mpr ⟨y, List.mem_filter.mpr ⟨hy, decide_eq_true hyx⟩, rfl⟩
    have hod : oddC qs x = true := by
      unfold canC at c0
      rw [Bool.and_eq_true] at c0
      exact c0.1
    rw [if_neg (by rintro (h | h); (rw [h] at hyn; cases hyn); (rw [hod] at h; cases h)), s0]
    obtain ⟨t1, t2⟩ := minI_spec (nearR x (plcs qs)) n
    generalize minI n (nearR x (plcs qs)) = t at t1 t2
    have tle : t ≤ n := t2 n List.mem_cons_self
    have tpos : 0 < t := by
      rcases List.mem_cons.mp t1 with h | h
      · omega
      · unfold nearR at h
        obtain ⟨z, hz, rfl⟩ := List.mem_map.mp h
        have := of_decide_eq_true (List.mem_filter.mp hz).2
        split <;> omega
    have tz : ∀ z, z ∈ plcs qs → z ≠ x → t ≤ (if z - x < 0 then -(z - x) else z - x) := fun z hz hzx => t2 _ (List.mem_cons_of_mem _ (by
      unfold nearR
      exact List.mem_map.mpr ⟨z, List.mem_filter.mpr ⟨hz, decide_eq_true hzx⟩, rfl⟩))
    have emv : qs.map (mvP (mvF x t)) = drawnL qs x t := by
      rw [drawn_nr]
      refine List.map_congr_left fun p hp => ?_
      unfold mvP
      congr 2
      by_cases hpx : p.2.1 = x
      · rw [hpx, nr_self _ _ (by omega)]
        unfold mvF
        simp
      · have := tz p.2.1 (List.mem_map_of_mem hp) hpx
        unfold mvF nrF
        rcases Int.lt_or_gt_of_ne hpx with h | h
        · rw [if_pos h, if_neg (by omega), if_pos h]
          rw [if_pos (by omega)] at this
          omega
        · rw [if_neg (by omega), if_pos h, if_neg (by omega)]
          rw [if_neg (by omega)] at this
          omega
    rw [emv]
    have xm : x ∈ plcs qs := by
      rw [← hx, List.getD_eq_getElem?_getD, List.getElem?_eq_getElem (by rw [plcs_len]; exact hk)]
      exact List.getElem_mem _
    have hx2 : (plcs (drawnL qs x t)).getD k 0 = x := by
      rw [plcs_drawn, List.getD_eq_getElem?_getD, List.getElem?_map]
      have hk2 : k < (plcs qs).length := by rw [plcs_len]; exact hk
      rw [List.getD_eq_getElem?_getD, List.getElem?_eq_getElem hk2] at hx
      rw [List.getElem?_eq_getElem hk2]
      show nrF x t (plcs qs)[k] = x
      rw [show (plcs qs)[k] = x from hx, nr_self _ _ (by omega)]
    have hlen : (drawnL qs x t).length = qs.length := by unfold drawnL; rw [List.length_map]
    have fin : ∀ a b : Int, a = b → some (drawnL (drawnL qs x t) x (n - t), shUp (shUp sh sd t) sd (n - t)) = some (drawnL qs x n, shUp sh sd n) := fun _ _ _ => by
      rw [drawn_add _ _ _ _ (by omega) (by omega), sh_add hl hsd]
      rw [show t + (n - t) = n by omega]
    by_cases htn : t = n
    · subst htn
      rw [Int.sub_self]
      cases m with
      | zero => omega
      | succ m =>
        unfold runRow
        rw [if_pos (Int.le_refl _)]
    · have tin : t ∈ nearR x (plcs qs) := (List.mem_cons.mp t1).resolve_left htn
      refine (ih (by rw [hlen]; exact hk) hx2 (by omega) (by rw [sh_len (by omega)]; exact hl) (fun i hi => ?_) ?_).trans (fin 0 0 rfl)
      · rw [drawn_add _ _ _ _ (by omega) (by omega)]
        have := hc (t.toNat + i) (by omega)
        rwa [show ((t.toNat + i : Nat) : Int) = t + i by omega] at this
      · unfold nearR at tin
        obtain ⟨z, hz, ez⟩ := List.mem_map.mp tin
        obtain ⟨hz1, hz2⟩ := List.mem_filter.mp hz
        have hz2 := of_decide_eq_true hz2
        have nz : nrF x t z = x := by
          unfold nrF
          by_cases h : z < x
          · rw [if_pos h]
            rw [if_pos (by omega)] at ez
            omega
          · rw [if_neg h]
            rw [if_neg (by omega)] at ez
            omega
        rw [plcs_drawn]
        have key : ∀ L : List Int, ((L.map (nrF x t)).filter fun y => decide (y ≠ x)).length ≤ (L.filter fun y => decide (y ≠ x)).length ∧ (z ∈ L → ((L.map (nrF x t)).filter fun y => decide (y ≠ x)).length < (L.filter fun y => decide (y ≠ x)).length) := by
          intro L
          induction L with
          | nil => exact ⟨Nat.le_refl _, fun h => by cases h⟩
          | cons a L ih2 =>
            rw [List.map_cons, List.filter_cons, List.filter_cons]
            by_cases hax : a = x
            · have e2 : nrF x t a = x := by rw [hax, nr_self _ _ (by omega)]
              rw [if_neg (show ¬ decide (nrF x t a ≠ x) = true by simp [e2]), if_neg (show ¬ decide (a ≠ x) = true by simp [hax])]
              refine ⟨ih2.1, fun h => ih2.2 ?_⟩
              rcases List.mem_cons.mp h with h | h
              · exact absurd (h.trans hax) hz2
              · exact h
            · rw [if_pos (decide_eq_true hax)]
              by_cases ha2 : nrF x t a = x
              · rw [if_neg (by simp [ha2])]
                exact ⟨by have := ih2.1; simp only [List.length_cons]; omega, fun _ => by have := ih2.1; simp only [List.length_cons]; omega⟩
              · rw [if_pos (decide_eq_true ha2)]
                simp only [List.length_cons]
                refine ⟨by have := ih2.1; omega, fun h => ?_⟩
                rcases List.mem_cons.mp h with h | h
                · rw [← h] at ha2; exact absurd nz ha2
                · have := ih2.2 h; omega
        have := (key (plcs qs)).2 hz1
        omega
theorem idxS_mem : ∀ {ps : List Pn} {p : Pn}, (ps.map (·.1)).Nodup → p ∈ ps → ∃ j, idxS p.1 (ps.map (·.1)) = some j ∧ ps[j]? = some p
  | q :: t, p, hn, hp => by
    rw [List.map_cons, List.nodup_cons] at hn
    rcases List.mem_cons.mp hp with rfl | hp
    · exact ⟨0, by unfold idxS; rw [List.map_cons]; simp, rfl⟩
    · obtain ⟨j, h1, h2⟩ := idxS_mem hn.2 hp
      have : q.1 ≠ p.1 := fun e => hn.1 (by rw [e]; exact List.mem_map_of_mem hp)
      refine ⟨j + 1, ?_, by simpa using h2⟩
      rw [List.map_cons]
      unfold idxS
      rw [if_neg this, h1]
      rfl
theorem Runs.run {ps : List Pn} (hw : Wf ps) {F F' : Int → Int} {rows : List Rw} {l : List (Nat × Int)} (h : Runs ps F rows F' l) : ∀ sh : List Int, sh.length = 3 →
    runAll (ps.map (·.1)) rows (ps.map (mvP F)) sh = some (ps.map (mvP F'), l.foldl (fun s e => shUp s e.1 e.2) sh) := by
  induction h with
  | nil F => intro sh _; rfl
  | @cons F F' p n sd rs l hp h1 h2 h3 _ ih =>
    intro sh hl
    obtain ⟨j, e1, e2⟩ := idxS_mem hw.nd hp
    have hj : j < ps.length := (List.getElem?_eq_some_iff.mp e2).1
    unfold runAll
    rw [if_pos h1, e1]
    have hx : (plcs (ps.map (mvP F))).getD j 0 = F p.2.1 := by
      rw [plcs_mv, List.getD_eq_getElem?_getD, List.getElem?_map, show plcs ps = ps.map fun p => p.2.1 from rfl, List.getElem?_map, e2]
      rfl
    simp only
    have ms : ((plcs (ps.map (mvP F))).filter fun y => decide (y ≠ F p.2.1)).length + 1 < 1000 := by
      have := List.length_filter_le (fun y => decide (y ≠ F p.2.1)) (plcs (ps.map (mvP F)))
      rw [plcs_len, List.length_map] at this
      have := hw.few
      omega
    rw [runRow_ok h2 1000 (by rw [List.length_map]; exact hj) hx (by omega) hl (fun i hi => by rw [drawn_mv2]; exact h3 i hi) ms]
    simp only
    rw [drawn_mv2, ih _ (by rw [sh_len (by omega)]; exact hl)]
    rfl
end L2.DL
set_option Elab.async false
set_option linter.all false
set_option autoImplicit false
set_option maxRecDepth 100000
set_option maxHeartbeats 1000000
namespace L2.DL
open PySem PySem.Spec PyProof.Rows
def kS (ps : List Pn) (c : Bool) : List PtW → Int
  | [] => 0
  | g :: W => (if oddAt ps g.1 = c then g.2 else 0) + kS ps c W
abbrev Pq : Type := Int × Int × Str
end L2.DL
set_option Elab.async false
set_option linter.all false
set_option autoImplicit false
set_option maxRecDepth 100000
set_option maxHeartbeats 1000000
namespace L2.DL
open PySem PySem.Spec PyProof.Rows
end L2.DL
set_option Elab.async false
set_option linter.all false
set_option autoImplicit false
set_option maxRecDepth 100000
set_option maxHeartbeats 1000000
namespace L2.DL
open PySem PySem.Spec PyProof.Rows
def Q0 (ps : List Pn) : List Pq := (pairs (placesL ps)).map fun q => (q.1, q.2 - q.1, firstAt ps q.1)
end L2.DL
set_option Elab.async false
set_option linter.all false
set_option autoImplicit false
set_option maxRecDepth 100000
set_option maxHeartbeats 1000000
namespace L2.DL
open PySem PySem.Spec PyProof.Rows
end L2.DL
set_option Elab.async false
set_option linter.all false
set_option autoImplicit false
set_option maxRecDepth 100000
set_option maxHeartbeats 1000000
namespace L2.DL
open PySem PySem.Spec PyProof.Rows
end L2.DL
set_option Elab.async false
set_option linter.all false
set_option autoImplicit false
set_option maxRecDepth 100000
set_option maxHeartbeats 1000000
namespace L2.DL
open PySem PySem.Spec PyProof.Rows
end L2.DL
set_option Elab.async false
set_option linter.all false
set_option autoImplicit false
set_option maxRecDepth 100000
set_option maxHeartbeats 2000000
namespace L2.DL
open PySem PySem.Spec PyProof.Rows
local macro_rules | `(tactic| walk_at "ev") => `(tactic| simp only [dSeq, dNext, dSet, dPar, dPar3, dRet, dRetN, dDrop, dIfS, dBrk, dCnt, dApp, dFor, dItL, dItT, dRng1, dRng2, dZip, dEnum, dItS, dAsg, dAugI, dNever, dPutS, dNewD, dFldM, dFldS, dStar,
  dgName, dgTup, dgCons, dgNil, dOp, dUn, dC, dNil, dCons, dCB, dTup, dLst, dIf, dTst, dTru, dAnd, dOr, dNot, dAndV, dOrV, dNotV, dYes, dInR, dFld, dMeth, dCall, dDctIx, dGet2, dRaise, dRaiseZ, dDisp, dPNil, dPCons, dRepD, dTold, dLenSet, hid_u, hid_d, hid_o, dStep2, dSlV, dIxV, dSetV, dPopV, dLenV, dLcV, lstAt, Option.isSome_some, Option.isSome_none, dSl, dNoP, dPart, dLc, dDc, dSortSet, dSortSc, dListVals, dChain, dIsiT2, dCallB, dBor, dNilB, dCBB, dOneL,
  dIsN, dNotN, dStrI, dAbs, dIn, fz_v, fz_l, fz_d, fz_i, fz_m, un_l, un_d, un_i, un_m, sl_v, sl_o, dwipe, and_assoc, insLF, insLT, insFF, insFT, startD, startN, pdT, pdI, gdT, prT, stI, putFD, lendable, noKR, noK, noKs,
  vd0, vo0, rd0, ro0, vd1, vo1, rd1, ro1, vd2, vo2, rd2, ro2, vd3, vo3, rd3, ro3, vd4, vo4, rd4, ro4, vd5, vo5, rd5, ro5, vd6, vo6, rd6, ro6, vd7, vo7, rd7, ro7, vd8, vo8, rd8, ro8, vd9, vo9, rd9, ro9, vd10, vo10, rd10, ro10, vd11, vo11, rd11, ro11, vd12, vo12, rd12, ro12, vd13, vo13, rd13, ro13, vd14, vo14, rd14, ro14, vd15, vo15, rd15, ro15, vd16, vo16, rd16, ro16, vd17, vo17, rd17, ro17, vd18, vo18, rd18, ro18, vd19, vo19, rd19, ro19, vd20, vo20, rd20, ro20, vd21, vo21, rd21, ro21, vd22, vo22, rd22, ro22, vd23, vo23, rd23, ro23, lk_people, lk_names, lk_has_name, lk_person, lk_place, lk_voice, lk_places, lk_at, lk_line, lk_voices, lk_is_together, lk_own, lenL, lenT, lenS, ixL, ixT, ixS, dcutL, dcutS, addII, addSS, addLL, int1i, int1b, negI, reprL, reprT, absI, sc_n, sc_b, sc_i, sc_s, subI, mulI, fdvI, modI, powI, ltI, leI, gtI, geI, tr_n, tr_b, tr_i, tr_l, tr_t, tr_d, ty_n, ty_b, ty_i, ty_s, ty_l, ty_t, ty_d, in_n, in_b, in_i, in_s, in_l, in_t, in_d, eqII, neII, eqSS, neSS, eqBB, neBB, isic_n, isic_b, isic_i, isic_s, isic_l, isic_t, isic_d, isio_n, isio_b, isio_i, isio_s, isio_l, isio_t, isio_d, isic_I, isic_S, isic_T, isic_L, isic_B, isio_I, dIsiO, isi_ii, isi_ib, isi_is, isi_il, isi_bi, isi_bb, isi_bs, isi_si, isi_sb, isi_ss, isi_ni, isi_nb, isi_ns, isi_li, isi_lb, isi_ls, isi_ll, isi_ti, isi_tb, isi_ts, isi_tt, isi_di, isi_db, isi_ds, isi_lt, isi_tl, isi_bt, isi_nt, isi_dt, eqLL, neLL, eqTT, neTT, isi_sl, isi_st, isi_it, kit_ll, kit_lt, max2, min2, get1, get2b, get3b, get3c,
  List.map_cons, List.map_nil, List.length_cons, List.length_nil, List.replicate, List.append_nil, List.cons_append, List.nil_append, List.getElem?_cons_zero, List.getElem?_cons_succ, List.set_cons_zero, List.set_cons_succ, List.getElem?_nil, Nat.sub_zero, Nat.reduceAdd, Nat.reduceSub, Int.reduceLT, Int.reduceLE, Int.reduceNeg, Nat.zero_add,
  true_and, and_true, eq_self, Bool.true_or, Bool.or_true, Bool.false_or, Bool.or_false, Bool.true_and, Bool.and_true, Bool.false_and, Bool.and_false, exists_eq_left, exists_eq_left', exists_eq', exists_eq, Option.some.injEq, Res.v.injEq, D.bl.injEq, D.int.injEq, D.str.injEq, D.lst.injEq, D.tup.injEq, D.dct.injEq, D.ins.injEq, Sl.o.injEq, Sl.d.injEq, List.cons.injEq, reduceCtorEq, false_or, or_false, if_true, if_false, Bool.false_eq_true, Bool.not_true, Bool.not_false, ite_true, ite_false, decide_true, decide_false, and_self, List.isEmpty_nil, List.isEmpty_cons, exists_and_left, exists_const, lenNil, reprWL, reprAA, dZipLT, min3R, isBR, notBR, pcT, wtT, wtI, pcI, dIsiT2O, dCallBL, lrgR, lrg1R])
section
variable {K : PySem.W.Frag} {C : Nm} {XD : DX} {ds : List D} {QD : Res → Prop}
theorem in_names {n : Str} {ps : List Pn} (hn : n ∈ ps.map (·.1)) : inD (.str n) (ps.map fun p => D.str p.1) = true := by
  obtain ⟨p, hp, e⟩ := List.mem_map.mp hn
  unfold inD
  rw [List.any_eq_true]
  refine ⟨.str p.1, List.mem_map.mpr ⟨p, hp, rfl⟩, ?_⟩
  rw [e]
  show (n == n) = true
  simp
theorem not_names {n : Str} {ps : List Pn} (hn : n ∉ ps.map (·.1)) : inD (.str n) (ps.map fun p => D.str p.1) = false := by
  unfold inD
  rw [List.any_eq_false]
  intro d hd h
  obtain ⟨p, hp, rfl⟩ := List.mem_map.mp hd
  have h2 : (p.1 == n) = true ∨ (n == p.1) = true := by first | exact .inl h | exact .inr h
  rcases h2 with h2 | h2
  · exact hn (by rw [← eq_of_beq h2]; exact List.mem_map_of_mem hp)
  · exact hn (by rw [eq_of_beq h2]; exact List.mem_map_of_mem hp)
end
end L2.DL
set_option Elab.async false
set_option linter.all false
set_option autoImplicit false
set_option maxRecDepth 100000
set_option maxHeartbeats 2000000
namespace L2.DL
open PySem PySem.Spec PyProof.Rows
local macro_rules | `(tactic| walk_at "ev") => `(tactic| simp only [dSeq, dNext, dSet, dPar, dPar3, dRet, dRetN, dDrop, dIfS, dBrk, dCnt, dApp, dFor, dItL, dItT, dRng1, dRng2, dZip, dEnum, dItS, dAsg, dAugI, dNever, dPutS, dNewD, dFldM, dFldS, dStar,
  dgName, dgTup, dgCons, dgNil, dOp, dUn, dC, dNil, dCons, dCB, dTup, dLst, dIf, dTst, dTru, dAnd, dOr, dNot, dAndV, dOrV, dNotV, dYes, dInR, dFld, dMeth, dCall, dDctIx, dGet2, dRaise, dRaiseZ, dDisp, dPNil, dPCons, dRepD, dTold, dLenSet, hid_u, hid_d, hid_o, dStep2, dSlV, dIxV, dSetV, dPopV, dLenV, dLcV, lstAt, Option.isSome_some, Option.isSome_none, dSl, dNoP, dPart, dLc, dDc, dSortSet, dSortSc, dListVals, dChain, dIsiT2, dCallB, dBor, dNilB, dCBB, dOneL,
  dIsN, dNotN, dStrI, dAbs, dIn, fz_v, fz_l, fz_d, fz_i, fz_m, un_l, un_d, un_i, un_m, sl_v, sl_o, dwipe, and_assoc, insLF, insLT, insFF, insFT, startD, startN, pdT, pdI, gdT, prT, stI, putFD, lendable, noKR, noK, noKs,
  vd0, vo0, rd0, ro0, vd1, vo1, rd1, ro1, vd2, vo2, rd2, ro2, vd3, vo3, rd3, ro3, vd4, vo4, rd4, ro4, vd5, vo5, rd5, ro5, vd6, vo6, rd6, ro6, vd7, vo7, rd7, ro7, vd8, vo8, rd8, ro8, vd9, vo9, rd9, ro9, vd10, vo10, rd10, ro10, vd11, vo11, rd11, ro11, vd12, vo12, rd12, ro12, vd13, vo13, rd13, ro13, vd14, vo14, rd14, ro14, vd15, vo15, rd15, ro15, vd16, vo16, rd16, ro16, vd17, vo17, rd17, ro17, vd18, vo18, rd18, ro18, vd19, vo19, rd19, ro19, vd20, vo20, rd20, ro20, vd21, vo21, rd21, ro21, vd22, vo22, rd22, ro22, vd23, vo23, rd23, ro23, lk_people, lk_names, lk_has_name, lk_person, lk_place, lk_voice, lk_places, lk_at, lk_line, lk_voices, lk_is_together, lk_own, lenL, lenT, lenS, ixL, ixT, ixS, dcutL, dcutS, addII, addSS, addLL, int1i, int1b, negI, reprL, reprT, absI, sc_n, sc_b, sc_i, sc_s, subI, mulI, fdvI, modI, powI, ltI, leI, gtI, geI, tr_n, tr_b, tr_i, tr_l, tr_t, tr_d, ty_n, ty_b, ty_i, ty_s, ty_l, ty_t, ty_d, in_n, in_b, in_i, in_s, in_l, in_t, in_d, eqII, neII, eqSS, neSS, eqBB, neBB, isic_n, isic_b, isic_i, isic_s, isic_l, isic_t, isic_d, isio_n, isio_b, isio_i, isio_s, isio_l, isio_t, isio_d, isic_I, isic_S, isic_T, isic_L, isic_B, isio_I, dIsiO, isi_ii, isi_ib, isi_is, isi_il, isi_bi, isi_bb, isi_bs, isi_si, isi_sb, isi_ss, isi_ni, isi_nb, isi_ns, isi_li, isi_lb, isi_ls, isi_ll, isi_ti, isi_tb, isi_ts, isi_tt, isi_di, isi_db, isi_ds, isi_lt, isi_tl, isi_bt, isi_nt, isi_dt, eqLL, neLL, eqTT, neTT, isi_sl, isi_st, isi_it, kit_ll, kit_lt, max2, min2, get1, get2b, get3b, get3c,
  List.map_cons, List.map_nil, List.length_cons, List.length_nil, List.replicate, List.append_nil, List.cons_append, List.nil_append, List.getElem?_cons_zero, List.getElem?_cons_succ, List.set_cons_zero, List.set_cons_succ, List.getElem?_nil, Nat.sub_zero, Nat.reduceAdd, Nat.reduceSub, Int.reduceLT, Int.reduceLE, Int.reduceNeg, Nat.zero_add,
  true_and, and_true, eq_self, Bool.true_or, Bool.or_true, Bool.false_or, Bool.or_false, Bool.true_and, Bool.and_true, Bool.false_and, Bool.and_false, exists_eq_left, exists_eq_left', exists_eq', exists_eq, Option.some.injEq, Res.v.injEq, D.bl.injEq, D.int.injEq, D.str.injEq, D.lst.injEq, D.tup.injEq, D.dct.injEq, D.ins.injEq, Sl.o.injEq, Sl.d.injEq, List.cons.injEq, reduceCtorEq, false_or, or_false, if_true, if_false, Bool.false_eq_true, Bool.not_true, Bool.not_false, ite_true, ite_false, decide_true, decide_false, and_self, List.isEmpty_nil, List.isEmpty_cons, exists_and_left, exists_const, lenNil, reprWL, reprAA, dZipLT, min3R, isBR, notBR, pcT, wtT, wtI, pcI, dIsiT2O, dCallBL, lrgR, lrg1R])
end L2.DL
set_option Elab.async false
set_option linter.all false
set_option autoImplicit false
set_option maxRecDepth 100000
set_option maxHeartbeats 1000000
namespace L2.DL
open PySem PySem.Spec PyProof.Rows
end L2.DL
set_option Elab.async false
set_option linter.all false
set_option autoImplicit false
set_option maxRecDepth 100000
set_option maxHeartbeats 1000000
namespace L2.DL
open PySem PySem.Spec PyProof.Rows
end L2.DL
set_option Elab.async false
set_option linter.all false
set_option autoImplicit false
set_option maxRecDepth 100000
set_option maxHeartbeats 1000000
namespace L2
open PySem PySem.W PySem.Calls PySem.Spec PyProof.Rows PyProof.V
section
variable {X : Cx}
/-- locked for good -/
def tLockP (t : TE) : TE := fun σ H Q => t σ H fun v H1 => ∃ d u, v = .ref d ∧ H1 d = some u ∧ Mut (some u) ∧ ∀ od, Q v (upd H1 d (.frz od u))
theorem pe_lockP {e : Expr} {t : TE} (h : PE X e t) : PE X e (tLockP t) := by
  refine ⟨fun pins s σ H Q I hw => ?_⟩
  refine thn (h.run pins s σ H _ I hw) fun v s1 ⟨x, H1, I1, r, d, u, ex, hd, mu, q⟩ => ?_
  obtain ⟨od, I2⟩ := I1.lock hd mu
  exact ⟨x, _, I2, r, q od⟩
/-- {k: v}, k a tuple of ints and texts -/
def tDispT1 (tk tv : TE) : TE := fun σ H Q => ∀ p, H p = none → tk σ (upd H p (.dT [])) fun x H1 => tv σ H1 fun y H2 => ∃ b k, x = .ref b ∧ H2 b = some (.tup (k.map kV)) ∧ H2 p = some (.dT []) ∧ Q (.ref p) (upd H2 p (.dT [(k, y)]))
def dispQ (Q : VK) (p : Addr) (ps : List (V × V)) (H2 : Hp) : Prop := match ps with
  | [(x, y)] => ∃ b k, x = .ref b ∧ H2 b = some (.tup (k.map kV)) ∧ H2 p = some (.dT []) ∧ Q (.ref p) (upd H2 p (.dT [(k, y)]))
  | _ => False
theorem pe_dispT1 {pos : Pos} {k v : Expr} {tk tv : TE} (hu : X.A.units + 1 < cLine) (hk : PE X k tk) (hv : PE X v tv) : PE X (.Dict [some k] [v] pos) (tDispT1 tk tv) := by
  refine ⟨fun pins s σ H Q I q => ?_⟩
  have hn := I.hok.fresh (Nat.le_refl s.heap.objs.size)
  have I1 := I.laid (a := s.heap.objs.size) (o := .dT []) (h' := s.heap.push { cls := .type "dict", data := .dict #[] }) (t' := s.toks) (fun _ _ q => Heap.get?_push_of_some _ q) (Nat.le_refl _) (dt_empty s.heap I.big)
  refine wpAny_Dict_any rfl rfl (by simp) (by simp) (thn ((pps_cons (pos := pos) hk hv pps_nil).run pins _ σ _ (dispQ Q s.heap.objs.size) I1 (q _ hn)) fun ws s2 ⟨ps, H2, I2, rel, q2⟩ => ?_)
  match ps, q2 with
  | [(x, y)], ⟨b, k, ex, eb, e, q2⟩ =>
  subst ex
  cases rel with
  | @cons _ w _ ws r t =>
  cases t
  obtain ⟨u1, u2⟩ := w
  obtain ⟨r1, r2⟩ := r
  cases (show u1 = Value.ref b from r1)
  obtain ⟨z, hd, xs, rel, dd⟩ := dt_of I2.hok e
  cases rel
  unfold storeAll
  rw [List.forIn_cons]
  refine wpAny_bind (wpAny_bind (wpAny_dictSet_heap (knd := tupleKind (mixKind X.prog X.w)) (hsz := by simp) (show (tupleKind (mixKind X.prog X.w)).room X.A from by show X.A.units < cLine; omega) (key_of I2.hok eb) dd fun h' dd' hs => wpAny_pure ?_))
  show wpAny _ _ (forIn ([] : List (Value × Value)) PUnit.unit _) _ _ _
  rw [List.forIn_nil]
  refine wpAny_pure ?_
  obtain ⟨q, es, ep, hq, h2, h3, h4, _, h5⟩ := dd'
  refine ⟨.ref s.heap.objs.size, _, d_write (ob := .dT [(k, y)]) I2 (by rw [e]; exact True.intro) hs ⟨q, hq⟩ ⟨(by rw [sizeLine_eq]; show 1 ≤ 16777216; omega), hd, _, ((KT.put (H := H2) (kvs := []) (xs := []) .nil k eb r2)).keeps fun c ys ec => ?_, q, es, ep, hq, h2, h3, h4, h5⟩, rfl, q2⟩
  rw [upd_ne (ne_of ec e (fun z => nomatch z))]
  exact ec
end
end L2
set_option Elab.async false
set_option linter.all false
set_option autoImplicit false
set_option maxRecDepth 100000
set_option maxHeartbeats 1000000
set_option backward.match.sparseCases false
namespace L2.DL
open PySem PySem.Spec PyProof.Rows
abbrev TK := List Key
/-- ints, as a key -/
def ik (ns : List Int) : TK := ns.map Sum.inl
/-- the tuple that a key is -/
def kTup (k : TK) : D := .tup (k.map kD)
def keysOf : List D → Option TK
  | [] => some []
  | x :: xs => match keyOf x, keysOf xs with
    | some k, some ks => some (k :: ks)
    | _, _ => none
def keyT : D → Option TK
  | .tup xs => keysOf xs
  | _ => none
theorem keysOf_ints (ns : List Int) : keysOf (ns.map .int) = some (ik ns) := by
  induction ns with
  | nil => rfl
  | cons n ns ih => simp only [List.map_cons, keysOf, keyOf, ih]; rfl
theorem keyT_ints (ns : List Int) : keyT (.tup (ns.map .int)) = some (ik ns) := keysOf_ints ns
theorem kTup_ints (ns : List Int) : kTup (ik ns) = .tup (ns.map .int) := by
  unfold kTup ik
  rw [List.map_map]
  rfl
theorem ik_inj {a b : List Int} (h : ik a = ik b) : a = b := by
  induction a generalizing b with
  | nil => cases b with
    | nil => rfl
    | cons _ _ => cases h
  | cons x a ih => cases b with
    | nil => cases h
    | cons y b =>
      simp only [ik, List.map_cons, List.cons.injEq, Sum.inl.injEq] at h
      rw [h.1, ih (by unfold ik; exact h.2)]
section
variable {K : PySem.W.Frag} {S : Src} {F : Hp}
theorem reps_keysOf : ∀ {vs : List V} {ds : List D} {ks : TK}, Reps K S F vs ds → keysOf ds = some ks → vs = ks.map kV
  | _, _, _, .nil, h => by cases h; rfl
  | _, _, ks, .cons (d := d) (ds := ds) a b, h => by
    unfold keysOf at h
    cases e1 : keyOf d with
    | none => rw [e1] at h; cases h
    | some k =>
      cases e2 : keysOf ds with
      | none => rw [e1, e2] at h; cases h
      | some ks' =>
        rw [e1, e2] at h
        cases h
        rw [List.map_cons, rep_keyOf a e1, reps_keysOf b e2]
theorem rep_keyT {v : V} {d : D} {k : TK} (r : Rep K S F v d) (h : keyT d = some k) : ∃ b, v = .ref b ∧ F b = some (.tup (k.map kV)) := by
  cases r with
  | tup h1 h2 => exact ⟨_, rfl, by rw [← reps_keysOf h2 h]; exact h1⟩
  | _ => cases h
end
def valT (kds : List (TK × D)) (k : TK) : Option D := (kds.find? fun kv => decide (kv.1 = k)).map (·.2)
def putT (kds : List (TK × D)) (k : TK) (d : D) : List (TK × D) :=
  if (kds.any fun kv => decide (kv.1 = k)) = true then kds.map (fun kv => if kv.1 = k then (kv.1, d) else kv) else kds ++ [(k, d)]
theorem any_keysT {α β : Type} {k : TK} : ∀ {xs : List (TK × α)} {ys : List (TK × β)}, xs.map (·.1) = ys.map (·.1) → (xs.any fun kv => decide (kv.1 = k)) = ys.any fun kv => decide (kv.1 = k)
  | [], [], _ => rfl
  | [], _ :: _, h => by simp at h
  | _ :: _, [], h => by simp at h
  | (a, x) :: xs, (b, y) :: ys, h => by
    simp only [List.map_cons, List.cons.injEq] at h
    rw [List.any_cons, List.any_cons, any_keysT h.2, h.1]
theorem keysT_len {α β : Type} {xs : List (TK × α)} {ys : List (TK × β)} (h : xs.map (·.1) = ys.map (·.1)) : xs.length = ys.length := by
  have := congrArg List.length h
  rwa [List.length_map, List.length_map] at this
section
variable {K : PySem.W.Frag} {S : Src} {F : Hp}
theorem putT_rep {k : TK} {v : V} {d : D} {kvs : List (TK × V)} {kds : List (TK × D)} (h : kvs.map (·.1) = kds.map (·.1)) (r : Reps K S F (kvs.map (·.2)) (kds.map (·.2))) (rv : Rep K S F v d) :
    (putK kvs k v).map (·.1) = (putT kds k d).map (·.1) ∧ Reps K S F ((putK kvs k v).map (·.2)) ((putT kds k d).map (·.2)) := by
  unfold putK putT
  rw [any_keysT h]
  split
  · have key : ∀ {kvs : List (TK × V)} {kds : List (TK × D)}, kvs.map (·.1) = kds.map (·.1) → Reps K S F (kvs.map (·.2)) (kds.map (·.2)) →
        (kvs.map fun kv => if kv.1 = k then (kv.1, v) else kv).map (·.1) = (kds.map fun kv => if kv.1 = k then (kv.1, d) else kv).map (·.1) ∧ Reps K S F ((kvs.map fun kv => if kv.1 = k then (kv.1, v) else kv).map (·.2)) ((kds.map fun kv => if kv.1 = k then (kv.1, d) else kv).map (·.2)) := by
      intro kvs
      induction kvs with
      | nil => intro kds h r; cases kds with
        | nil => exact ⟨rfl, .nil⟩
        | cons _ _ => simp at h
      | cons p kvs ih =>
        intro kds h r
        cases kds with
        | nil => simp at h
        | cons q kds =>
          simp only [List.map_cons, List.cons.injEq] at h
          cases r with
          | cons r1 r2 =>
            obtain ⟨a, b⟩ := ih h.2 r2
            simp only [List.map_cons]
            rw [h.1]
            split
            · exact ⟨by simp only [List.cons.injEq]; exact ⟨trivial, a⟩, .cons rv b⟩
            · exact ⟨by simp only [List.cons.injEq]; exact ⟨h.1, a⟩, .cons r1 b⟩
    exact key h r
  · rw [List.map_append, List.map_append, List.map_append, List.map_append, h]
    exact ⟨rfl, r.append (.cons rv .nil)⟩
theorem valT_rep {k : TK} : ∀ {kvs : List (TK × V)} {kds : List (TK × D)}, kvs.map (·.1) = kds.map (·.1) → Reps K S F (kvs.map (·.2)) (kds.map (·.2)) → (valT kds k = none → valV kvs k = none) ∧ ∀ d, valT kds k = some d → ∃ v, valV kvs k = some v ∧ Rep K S F v d
  | [], [], _, _ => ⟨fun _ => rfl, fun d h => by simp [valT] at h⟩
  | [], _ :: _, h, _ => by simp at h
  | _ :: _, [], h, _ => by simp at h
  | (a, x) :: kvs, (b, y) :: kds, h, r => by
    simp only [List.map_cons, List.cons.injEq] at h
    obtain ⟨h1, h2⟩ := h
    subst h1
    cases r with
    | cons r1 r2 =>
      have ih := valT_rep (k := k) h2 r2
      by_cases e : a = k
      · subst e
        refine ⟨fun z => by simp [valT] at z, fun d z => ⟨x, by simp [valV], ?_⟩⟩
        have : y = d := by simpa [valT] using z
        rw [← this]; exact r1
      · have e1 : valT ((a, y) :: kds) k = valT kds k := by simp [valT, e]
        have e2 : valV ((a, x) :: kvs) k = valV kvs k := by simp [valV, e]
        rw [e1, e2]; exact ih
/-- a dict with tuple keys that is frozen, locked or not -/
theorem rep_dT {v : V} {d : D} {kds : List (TK × D)} (r : Rep K S F v d) (h : d = .dcT kds ∨ d = .dcL kds) : ∃ a kvs, v = .ref a ∧ Rd F a (.dT kvs) ∧ kvs.map (·.1) = kds.map (·.1) ∧ Reps K S F (kvs.map (·.2)) (kds.map (·.2)) := by
  rcases h with h | h
  · subst h
    cases r with
    | dcT h1 h2 h3 => exact ⟨_, _, rfl, .inl h1, h2, h3⟩
  · subst h
    cases r with
    | dcL h1 h2 h3 => exact ⟨_, _, rfl, .inr ⟨_, h1⟩, h2, h3⟩
theorem Le.rd {F H : Hp} {a : Addr} {o : HO} (e : Le F H) (h : Rd F a o) : Rd H a o := h.elim (fun h => .inl (e _ _ h)) fun ⟨q, h⟩ => .inr ⟨q, e _ _ h⟩
/-- a tuple of H becomes known -/
theorem PExt.learn {F H : Hp} {b : Addr} {vs : List V} (s : Le F H) (h : H b = some (.tup vs)) : ∃ F', PExt F H F' H ∧ F' b = some (.tup vs) := by
  cases e : F b with
  | some o =>
    have := s b o e
    rw [h] at this
    cases this
    exact ⟨F, .refl s, e⟩
  | none =>
    refine ⟨upd F b (.tup vs), ⟨fun q u z => ?_, fun q u z => ?_, Le.refl _, fun q z => ?_, fun k q u z => ?_⟩, upd_same⟩
    · by_cases hq : q = b
      · subst hq; rw [upd_same] at z; cases z; exact h
      · rw [upd_ne hq] at z; exact s q u z
    · rw [upd_ne (ne_of_none z e)]; exact z
    · by_cases hq : q = b
      · subst hq; exact .inr (.inr ⟨vs, h⟩)
      · rw [upd_ne hq] at z; exact .inl z
    · by_cases hq : q = b
      · subst hq; rw [upd_same] at z; cases z; exact kn_of h
      · rw [upd_ne hq] at z; exact k q u z
end
/-- the keys, as data -/
def keysD (kds : List (TK × D)) : List D := (kds.map (·.1)).map kTup
def dNewT : DTE := fun ρ Q => Q (.ow (.dcT [])) ρ
/-- x[i] = e, x owned -/
def dPutT (i : Nat) (ty tv : DTE) : DTS := fun D ρ => tv ρ fun r ρ1 => (∃ kds, ρ1[i]? = some (Sl.o (.dcT kds))) ∧ ty ρ1 fun r2 ρ2 => ∃ kds k, ρ2[i]? = some (Sl.o (.dcT kds)) ∧ keyT (fz r2) = some k ∧ kds.length < sizeLine ∧ D.nx (ρ2.set i (.o (.dcT (putT kds k (fz r)))))
/-- x.get(k, e), x owned -/
def dGetT (i : Nat) (ty tx : DTE) : DTE := fun ρ Q => (∃ kds, ρ[i]? = some (Sl.o (.dcT kds))) ∧ ty ρ fun r2 ρ2 => ∃ k, keyT (fz r2) = some k ∧ tx ρ2 fun r3 ρ3 => ∃ kds, ρ3[i]? = some (Sl.o (.dcT kds)) ∧ Q (.v ((valT kds k).getD (fz r3))) ρ3
/-- d[k], frozen -/
def dIxT (td ty : DTE) : DTE := fun ρ Q => td ρ fun r ρ1 => ty ρ1 fun r2 ρ2 => ∃ kds k d, (fz r = .dcT kds ∨ fz r = .dcL kds) ∧ keyT (fz r2) = some k ∧ valT kds k = some d ∧ Q (.v d) ρ2
/-- len(x), x owned or frozen -/
def dLenT (i : Nat) : DTE := fun ρ Q => ∃ kds, (ρ[i]? = some (Sl.o (.dcT kds)) ∨ ρ[i]? = some (Sl.d (.dcL kds)) ∨ ρ[i]? = some (Sl.d (.dcT kds))) ∧ Q (.v (.int kds.length)) ρ
def dLenTD (ds : List D) (Q : Res → Prop) : Prop := ∃ kds, (ds = [.dcT kds] ∨ ds = [.dcL kds]) ∧ Q (.v (.int kds.length))
def dKeysT (ds : List D) (Q : Res → Prop) : Prop := ∃ kds : List (TK × D), (ds = [.dcT kds] ∨ ds = [.dcL kds]) ∧ Q (.own (keysD kds))
/-- locked for good -/
def dLk (te : DTE) : DTE := fun ρ Q => te ρ fun r ρ1 => ∃ kds, r = .ow (.dcT kds) ∧ Q (.v (.dcL kds)) ρ1
/-- a name's dict, locked for good -/
def dVarK (i : Nat) : DTE := fun ρ Q => ∃ kds, ρ[i]? = some (Sl.o (.dcT kds)) ∧ Q (.v (.dcL kds)) (ρ.set i (.d (.dcL kds)))
/-- d != {} -/
def dNeE (te : DTE) : DTE := fun ρ Q => te ρ fun r ρ1 => ∃ kds, (fz r = .dcT kds ∨ fz r = .dcL kds) ∧ Q (.v (.bl (!kds.isEmpty))) ρ1
def dItKT (te : DTE) : DTI := fun ρ Q => te ρ fun r ρ1 => ∃ kds, fz r = .dcL kds ∧ Q (keysD kds) ρ1
def dDispT1 (tk tv : DTE) : DTE := fun ρ Q => tk ρ fun r ρ1 => tv ρ1 fun r2 ρ2 => ∃ k, keyT (fz r) = some k ∧ Q (.ow (.dcT [(k, fz r2)])) ρ2
section
variable {c : C} {X : Cx} {e o ix f tg : Expr} {te td ty tv tx tk : DTE} {i : Nat} {pos pos' apos cpos p : Pos}
theorem de_dcT0 : PE X (.Dict [] [] pos) (liftE c dNewT) :=
  PE_imp pe_dnewT fun σ H Q ⟨F, ρ, QD, s, h, k⟩ => fun p hp => by
    have pe : PExt F H F (upd H p (.dT [])) := PExt.own s.sub hp
    have rr : RR0 c.K c.S F H (upd H p (.dT [])) (.ref p) (.ow (.dcT [])) := ⟨p, _, rfl, hp, upd_same, free_of s.sub hp, .dcT rfl .nil⟩
    obtain ⟨a, b⟩ := rr.rr s
    exact k _ _ F ρ _ (pe.sr s) pe.stp a b h
theorem ds_putT (hu : X.A.units + 1 < cLine) (ho : PE X o (tVar i)) (hi : PE X ix (liftE c ty)) (hv : PE X e (liftE c tv)) (hs : swapsWith e (some (.Subscript o ix pos')) pos.line X.env = pure false := by rfl) : PS X (.Assign [.Subscript o ix pos'] e pos) (liftS c (dPutT i ty tv)) :=
  PS_imp (ps_dput hu ho (froze hi) (froze hv) hs) fun E σ H ⟨F, ρ, DD, s, h, k⟩ =>
    ⟨F, ρ, (fun d ρ1 => (∃ kds, ρ1[i]? = some (Sl.o (.dcT kds))) ∧ ty ρ1 fun r2 ρ2 => ∃ kds k, ρ2[i]? = some (Sl.o (.dcT kds)) ∧ keyT (fz r2) = some k ∧ kds.length < sizeLine ∧ DD.nx (ρ2.set i (.o (.dcT (putT kds k d))))), s, h, fun v H1 F1 ρ1 d s1 st1 rv ⟨⟨kds0, hi0⟩, q⟩ => by
      obtain ⟨p, ob, e1, e2, e3, e4, e5, e6⟩ := s1.ow i _ hi0
      refine ⟨_, e1, F1, ρ1, (fun d2 ρ2 => ∃ kds k, ρ2[i]? = some (Sl.o (.dcT kds)) ∧ keyT d2 = some k ∧ kds.length < sizeLine ∧ DD.nx (ρ2.set i (.o (.dcT (putT kds k d))))), s1, q, fun y H2 F2 ρ2 d2 s2 st2 ry ⟨kds, k0, hi2, hk, hl, q2⟩ => ?_⟩
      obtain ⟨p', ob', g1, g2, g3, g4, g5, g6⟩ := s2.ow i _ hi2
      rw [e1] at g1
      cases g1
      cases g4 with
      | dcT hk1 hr1 =>
        obtain ⟨a, b⟩ := putT_rep (k := k0) hk1 hr1 (rv.mono st2.ff)
        obtain ⟨bb, rfl, eb⟩ := rep_keyT ry hk
        refine ⟨p, _, rfl, DPut.t g2 (s2.sub _ _ eb) (by rw [keysT_len hk1]; exact hl), k.nx _ _ F2 _ (st1.ff.trans st2.ff) (s2.grow hi2 e1 (.dcT a b)) q2⟩⟩
theorem walk_keysT {K : PySem.W.Frag} {S : Src} {F1 : Hp} {a : Addr} {ob : Obj} {kvs : List (TK × V)} {kds : List (TK × D)} (h : F1 a = some (.frz ob (.dT kvs))) (hk : kvs.map (·.1) = kds.map (·.1)) : Walk K S (Itkt a ob kvs) F1 (keysD kds) where
  go := fun F H i d l1 l2 hd => by
    have hH := l2 _ _ (l1 _ _ h)
    unfold keysD at hd
    rw [← hk, List.getElem?_map, List.getElem?_map] at hd
    cases e : kvs[i]? with
    | none => rw [e] at hd; cases hd
    | some kv =>
      rw [e] at hd
      cases hd
      refine ⟨⟨hH, (List.getElem?_eq_some_iff.mp e).1⟩, fun x H' y => ?_⟩
      obtain ⟨e1, k, v, q, e2, rfl, e3⟩ := y
      subst e1
      rw [e] at e2
      cases e2
      obtain ⟨F', pe, eb⟩ := PExt.learn l2 e3
      exact ⟨F', pe, .tup eb (reps_keys k)⟩
  stop := fun F H i l1 l2 hl => ⟨l2 _ _ (l1 _ _ h), by unfold keysD at hl; rw [List.length_map, List.length_map] at hl; rw [keysT_len hk]; exact hl⟩
theorem di_keysT (he : PE X e (liftE c te)) : PI X tg e (liftI c (dItKT te)) :=
  PI_imp (pi_keys (froze he)) fun σ H R ⟨F, ρ, QD, s, h, k⟩ =>
    ⟨F, ρ, (fun d ρ1 => ∃ kds : List (TK × D), d = .dcL kds ∧ QD (keysD kds) ρ1), s, h, fun v H1 F1 ρ1 d s1 st1 rv ⟨kds, hd, q⟩ => by
      subst hd
      cases rv with
      | dcL h1 h2 h3 => exact ⟨_, _, rfl, .inr ⟨_, s1.sub _ _ h1, k _ H1 F1 ρ1 _ s1 st1 (walk_keysT h1 h2) q⟩⟩⟩
theorem de_lk (he : PE X e (liftE c te)) : PE X e (liftE c (dLk te)) :=
  PE_imp (pe_lockP he) fun σ H Q ⟨F, ρ, QD, s, h, k⟩ =>
    ⟨F, ρ, (fun r ρ1 => ∃ kds, r = .ow (.dcT kds) ∧ QD (.v (.dcL kds)) ρ1), s, h, fun v H1 F1 ρ1 r s1 st1 rr nw ⟨kds, er, q⟩ => by
      subst er
      obtain ⟨p, vs, rfl, h1, h2, h3, h4, h5, h6⟩ := rr
      obtain ⟨p', ep, n0⟩ := nw
      cases ep
      cases h3 with
      | dcT hk hr =>
        rename_i kvs
        refine ⟨p, _, rfl, h1, trivial, fun od => ?_⟩
        have le : Le F1 (upd F1 p (.frz od (.dT kvs))) := fun q o z => by rw [upd_ne (ne_of_none z h2)]; exact z
        have s2 := s1.over (o := .frz od (.dT kvs)) h2 h4 h5 h6 h1 ⟨fun _ z => (by cases z), fun _ _ z => (by unfold LamX.CodeO at z; cases z)⟩
        refine k (.ref p) (upd H1 p (.frz od (.dT kvs))) (upd F1 p (.frz od (.dT kvs))) ρ1 (.v (.dcL kds)) ⟨fun q o z => ?_, s2.f0.trans le, s2.h0, fun q z => ?_, s2.src, fun q z => ?_, s2.len, fun i d z => ?_, fun i ys z => ?_, s2.dis⟩ ⟨st1.ff.trans le, fun q o z1 z2 z3 => ?_, fun q z => ?_, st1.oo, fun q z => ?_⟩ (.dcL upd_same hk (hr.mono le)) trivial q
        · by_cases hq : q = p
          · subst hq; rw [upd_same] at z; cases z; exact kn_of upd_same
          · rw [upd_ne hq] at z; exact s2.sub' q o z
        · by_cases hq : q = p
          · subst hq; exact .inr (.inl h6)
          · rw [upd_ne hq] at z; exact s2.n0 q z
        · by_cases hq : q = p
          · subst hq; exact absurd z h4
          · rw [upd_ne hq]; exact s2.srcF q z
        · obtain ⟨w, a, b⟩ := s2.sl i d z
          exact ⟨w, a, b.mono le⟩
        · obtain ⟨q, ws, a, b, d, e, f, g⟩ := s2.ow i ys z
          have hq : q ≠ p := fun y => h5 ⟨i, ys, z, by rw [a, y]⟩
          exact ⟨q, ws, a, b, by rw [upd_ne hq]; exact d, HRep.mono le e, f, g⟩
        · have hq : q ≠ p := fun y => by rw [y, n0] at z1; cases z1
          rw [upd_ne hq]; exact st1.hh q o z1 z2 z3
        · by_cases hq : q = p
          · subst hq; exact .inr (.inl (.inl n0))
          · rw [upd_ne hq] at z; exact st1.nn q z
        · by_cases hq : q = p
          · rw [hq, n0] at z; exact absurd rfl z
          · rw [kn_same (upd_ne hq)]; exact st1.tr q z⟩
theorem SR.know {F H : Hp} {σ : L2.St} {ρ : Rho} {p : Addr} {o : HO} (s : SR c F H σ ρ) (hk : kn H p = some o) (hF : F p = none) (hS : ¬ inS c.S p) (hO : ¬ Own σ ρ p) (h0 : kn c.H0 p = none) : SR c (upd F p o) H σ ρ := by
  have le : Le F (upd F p o) := fun q u z => by rw [upd_ne (ne_of_none z hF)]; exact z
  refine ⟨fun q u z => ?_, s.f0.trans le, s.h0, fun q z => ?_, s.src, fun q z => ?_, s.len, fun i d z => ?_, fun i ys z => ?_, s.dis⟩
  · by_cases hq : q = p
    · subst hq; rw [upd_same] at z; cases z; exact hk
    · rw [upd_ne hq] at z; exact s.sub' q u z
  · by_cases hq : q = p
    · subst hq; exact .inr (.inl h0)
    · rw [upd_ne hq] at z; exact s.n0 q z
  · by_cases hq : q = p
    · subst hq; exact absurd z hS
    · rw [upd_ne hq]; exact s.srcF q z
  · obtain ⟨w, a, b⟩ := s.sl i d z
    exact ⟨w, a, b.mono le⟩
  · obtain ⟨q, ws, a, b, d, e, f, g⟩ := s.ow i ys z
    have hq : q ≠ p := fun y => hO ⟨i, ys, z, by rw [a, y]⟩
    exact ⟨q, ws, a, b, by rw [upd_ne hq]; exact d, HRep.mono le e, f, g⟩
theorem SR.tell {F H : Hp} {σ : L2.St} {ρ : Rho} {i : Nat} {v : V} {d : D} (s : SR c F H σ ρ) (hv : σ[i]? = some (some v)) (r : Rep c.K c.S F v d) : SR c F H σ (ρ.set i (.d d)) where
  sub' := s.sub'
  f0 := s.f0
  h0 := s.h0
  n0 := s.n0
  src := s.src
  srcF := s.srcF
  len := by rw [List.length_set]; exact s.len
  sl := fun j d' z => by
    rcases getElem?_set_cases z with ⟨e1, e2, _⟩ | ⟨_, e2⟩
    · cases e2
      exact ⟨v, by rw [e1]; exact hv, r⟩
    · exact s.sl j d' e2
  ow := fun j ys z => by
    rcases getElem?_set_cases z with ⟨_, e2, _⟩ | ⟨_, e2⟩
    · cases e2
    · exact s.ow j ys e2
  dis := fun j k ys zs z1 z2 z3 => by
    rcases getElem?_set_cases z1 with ⟨_, e2, _⟩ | ⟨_, e1⟩
    · cases e2
    · rcases getElem?_set_cases z2 with ⟨_, e2, _⟩ | ⟨_, e2⟩
      · cases e2
      · exact s.dis j k ys zs e1 e2 z3
theorem de_varK {x : Str} (hN : X.N[i]? = some x) (hv : Vis X.env.scope x) (hd : (x == ("__debug__" : Str)) = false := by decide) (hcd : (x == ("__classdict__" : Str)) = false := by decide) : PE X (.Name x pos) (liftE c (dVarK i)) :=
  PE_imp (pe_lockP (pe_var hN hv hd hcd)) fun σ H Q ⟨F, ρ, QD, s, ⟨kds, hi, q⟩, k⟩ => by
    obtain ⟨p, ob, e1, e2, e3, e4, e5, e6⟩ := s.ow i _ hi
    cases e4 with
    | dcT hk hr =>
      rename_i kvs
      refine ⟨.ref p, e1, p, _, rfl, e2, trivial, fun od => ?_⟩
      have own : Own σ ρ p := ⟨i, _, hi, e1⟩
      have nO : ¬ Own σ (ρ.set i .un) p := fun ⟨m, zs, z1, z2⟩ => by
        rcases getElem?_set_cases z1 with ⟨f1, f2, f3⟩ | ⟨f1, f2⟩
        · cases f2
        · exact f1 (s.dis m i zs _ f2 hi (by rw [z2, e1]))
      have le : Le F (upd F p (.frz od (.dT kvs))) := fun q o z => by rw [upd_ne (ne_of_none z e3)]; exact z
      have s2 := (s.drop i).over (o := .frz od (.dT kvs)) e3 e6 nO e5 e2 ⟨fun _ z => (by cases z), fun _ _ z => (by unfold LamX.CodeO at z; cases z)⟩
      have s3 := s2.know (p := p) (o := .frz od (.dT kvs)) (kn_of upd_same) e3 e6 nO e5
      have rp : Rep c.K c.S (upd F p (.frz od (.dT kvs))) (.ref p) (.dcL kds) := .dcL upd_same hk (hr.mono le)
      have s4 := s3.tell (i := i) e1 rp
      rw [List.set_set] at s4
      refine k (.ref p) _ _ _ (.v (.dcL kds)) s4 ⟨le, fun q o z1 z2 z3 => ?_, fun q z => ?_, fun q z => ?_, fun q z => ?_⟩ rp trivial q
      · have hq : q ≠ p := fun y => z3 (by rw [y]; exact own)
        rw [upd_ne hq]; exact kn_some z1
      · by_cases hq : q = p
        · subst hq; exact .inr (.inr (.inl own))
        · rw [upd_ne hq] at z; exact .inl z
      · obtain ⟨j, ys, z1, z2⟩ := z
        rcases getElem?_set_cases z1 with ⟨_, f2, _⟩ | ⟨_, f2⟩
        · cases f2
        · exact ⟨j, ys, f2, z2⟩
      · by_cases hq : q = p
        · rw [hq, kn_of upd_same]; simp
        · rw [kn_same (upd_ne hq)]; exact z
theorem dvk (i : Nat) {x : Str} (hN : X.N[i]? = some x := by rfl) (hv : Vis X.env.scope x := by first | exact Or.inl rfl | exact Or.inr (Or.inl rfl) | exact Or.inr (Or.inr rfl)) (hd : (x == ("__debug__" : Str)) = false := by decide)
    (hcd : (x == ("__classdict__" : Str)) = false := by decide) : PE X (.Name x pos) (liftE c (dVarK i)) := de_varK hN hv hd hcd
theorem de_dispT1 {ke ve : Expr} (hu : X.A.units + 1 < cLine) (hk : PE X ke (liftE c tk)) (hv : PE X ve (liftE c tv)) : PE X (.Dict [some ke] [ve] pos) (liftE c (dDispT1 tk tv)) :=
  PE_imp (pe_dispT1 hu (froze hk) (froze hv)) fun σ H Q ⟨F, ρ, QD, s, ht, k⟩ p hp => by
    have pe : PExt F H F (upd H p (.dT [])) := PExt.own s.sub hp
    have nS := s.newS hp
    have nO := s.newO hp
    have n0 := s.newH hp
    have fF := free_of s.sub hp
    refine ⟨F, ρ, (fun d ρ1 => tv ρ1 fun r2 ρ2 => ∃ k, keyT d = some k ∧ QD (.ow (.dcT [(k, fz r2)])) ρ2), pe.sr s, ht, fun x H1 F1 ρ1 d1 s1 st1 rx q1 => ?_⟩
    refine ⟨F1, ρ1, (fun d2 ρ2 => ∃ k, keyT d1 = some k ∧ QD (.ow (.dcT [(k, d2)])) ρ2), s1, q1, fun y H2 F2 ρ2 d2 s2 st12 ry ⟨k0, hk0, q⟩ => ?_⟩
    have st2 := st1.trans st12
    obtain ⟨b, rfl, eb⟩ := rep_keyT rx hk0
    have hH2 : H2 p = some (.dT []) := st2.hh p _ (kn_of upd_same) nS nO
    have fF2 : F2 p = none := by
      cases z : F2 p with
      | none => rfl
      | some o =>
        rcases st2.nn p (by rw [z]; simp) with h | h | h | h
        · exact absurd fF h
        · exact (h.no upd_same (fun _ y => by cases y) (fun _ y => by cases y)).elim
        · exact absurd h nO
        · exact absurd h nS
    have nO2 : ¬ Own σ ρ2 p := fun z => nO (st2.oo p z)
    refine ⟨b, k0, rfl, s2.sub _ _ (st12.ff _ _ eb), hH2, ?_⟩
    refine k (.ref p) _ F2 ρ2 (.ow (.dcT [(k0, d2)])) (s2.over fF2 nS nO2 n0 hH2 ⟨fun _ z => (by cases z), fun _ _ z => (by unfold LamX.CodeO at z; cases z)⟩) ⟨st2.ff, fun q o hq a b => ?_, fun q hq => ?_, st2.oo, fun q hq => ?_⟩ ⟨p, _, rfl, upd_same, fF2, .dcT rfl (.cons ry .nil), nS, nO2, n0⟩ ⟨p, rfl, kn_none hp⟩ q
    · have ne : q ≠ p := fun z => by rw [z, kn_none hp] at hq; cases hq
      rw [upd_ne ne]
      exact st2.hh q o (by rw [kn_same (upd_ne ne)]; exact hq) a b
    · rcases st2.nn q hq with h | h | h
      · exact .inl h
      · refine .inr (.inl ?_)
        by_cases e : q = p
        · rw [e]; exact .inl (kn_none hp)
        · exact h.elim (fun h => .inl (by rw [kn_same (upd_ne e)] at h; exact h)) fun ⟨vs, h⟩ => .inr ⟨vs, by rw [upd_ne e] at h; exact h⟩
      · exact .inr (.inr h)
    · by_cases e : q = p
      · rw [e, kn_none hp] at hq; exact absurd rfl hq
      · rw [kn_same (upd_ne e)]
        exact st2.tr q (by rw [kn_same (upd_ne e)]; exact hq)
end
end L2.DL
set_option Elab.async false
set_option linter.all false
set_option autoImplicit false
set_option maxRecDepth 100000
set_option maxHeartbeats 1000000
namespace L2.DL
open PySem PySem.Spec PyProof.Rows
theorem Runs.rows {ps : List Pn} {F F' : Int → Int} {rows : List Rw} {l : List (Nat × Int)} (h : Runs ps F rows F' l) : l.map (·.2) = rows.map (·.2) ∧ (∀ r, r ∈ rows → (∃ p, p ∈ ps ∧ p.1 = r.1) ∧ 1 ≤ r.2) ∧ ∀ e, e ∈ l → e.1 < 3 := by
  induction h with
  | nil F => exact ⟨rfl, fun r h => (by cases h), fun e h => (by cases h)⟩
  | @cons F F' p n sd rs l hp h1 h2 h3 _ ih =>
    obtain ⟨a, b, c⟩ := ih
    refine ⟨by rw [List.map_cons, List.map_cons, a], fun r hr => ?_, fun e he => ?_⟩
    · rcases List.mem_cons.mp hr with rfl | hr
      · exact ⟨⟨p, hp, rfl⟩, h1⟩
      · exact b r hr
    · rcases List.mem_cons.mp he with rfl | he
      · exact h2
      · exact c e he
end L2.DL
set_option Elab.async false
set_option linter.all false
set_option autoImplicit false
set_option maxRecDepth 100000
set_option maxHeartbeats 2000000
namespace L2.DL
open PySem PySem.Spec PyProof.Rows
theorem un_dT (k : List (TK × D)) : unAt (.dcT k) = .dcT k := rfl
theorem un_dL (k : List (TK × D)) : unAt (.dcL k) = .dcL k := rfl
def callP (qs : List Pn) : List Int := (placesL qs).filter (canC qs)
def Rch (ps : List Pn) : Nat → List Pn → Prop
  | 0, q => q = ps
  | n + 1, q => ∃ q', Rch ps n q' ∧ ∃ x, x ∈ callP q' ∧ q = drawnL q' x 1
theorem Rch.wf {ps : List Pn} (hw : Wf ps) : ∀ {n : Nat} {q : List Pn}, Rch ps n q → Wf q
  | 0, q, h => by rw [show q = ps from h]; exact hw
  | n + 1, q, h => by
    obtain ⟨q', h1, x, _, rfl⟩ := h
    exact (Rch.wf hw h1).drawn x 1
/-- all stand between a and b -/
def InI (a b : Int) (q : List Pn) : Prop := ∀ y, y ∈ plcs q → a ≤ y ∧ y ≤ b
theorem can_two {q : List Pn} {x : Int} (h : x ∈ callP q) : ∃ y, y ∈ plcs q ∧ y ≠ x := by
  obtain ⟨hx, hc⟩ := List.mem_filter.mp h
  unfold canC at hc
  simp only [Bool.and_eq_true, Bool.not_eq_true'] at hc
  have tg := hc.2
  unfold togL at tg
  have two : ¬ (placesL q).length < 2 := of_decide_eq_false tg
  have nd : (placesL q).Nodup := (uset_lt (l := plcs q)).imp fun h => by omega
  match e : placesL q, two, nd, hx with
  | [], two, _, _ => exact absurd (by simp) two
  | [_], two, _, _ => exact absurd (by simp) two
  | a :: b :: r, _, nd, hx =>
    have mm : ∀ z, z ∈ placesL q → z ∈ plcs q := fun z hz => mem_uset.mp hz
    by_cases ha : a = x
    · refine ⟨b, mm b (by rw [e]; simp), fun hb => ?_⟩
      rw [ha, hb] at nd
      simp at nd
    · exact ⟨a, mm a (by rw [e]; simp), ha⟩
theorem call_in {q : List Pn} {a b x : Int} (h : InI a b q) (hx : x ∈ callP q) : a < b ∧ ∃ a' b', InI a' b' (drawnL q x 1) ∧ b' - a' = b - a - 1 := by
  have hxp : x ∈ plcs q := mem_uset.mp (List.mem_filter.mp hx).1
  obtain ⟨y, hy, ne⟩ := can_two hx
  have h1 := h x hxp
  have h2 := h y hy
  refine ⟨by omega, ?_⟩
  by_cases hxa : a < x
  · refine ⟨a + 1, b, fun z hz => ?_, by omega⟩
    rw [plcs_drawn] at hz
    obtain ⟨w, hw, rfl⟩ := List.mem_map.mp hz
    have := h w hw
    unfold nrF
    split <;> omega
  · refine ⟨a, b - 1, fun z hz => ?_, by omega⟩
    rw [plcs_drawn] at hz
    obtain ⟨w, hw, rfl⟩ := List.mem_map.mp hz
    have := h w hw
    unfold nrF
    split <;> omega
section
open Classical
def addS (T : List (List Pn)) (q : List Pn) : List (List Pn) := if q ∈ T then T else T ++ [q]
theorem addS_nd {T : List (List Pn)} {q : List Pn} (h : T.Nodup) : (addS T q).Nodup := by
  unfold addS
  split
  · exact h
  · rename_i n
    rw [List.nodup_append]
    exact ⟨h, by simp, fun a ha b hb e => n (by rw [List.mem_singleton.mp hb] at e; exact e ▸ ha)⟩
theorem mem_addS {T : List (List Pn)} {q z : List Pn} : z ∈ addS T q ↔ z ∈ T ∨ z = q := by
  unfold addS
  split
  · rename_i h
    exact ⟨.inl, fun e => e.elim id fun e => e ▸ h⟩
  · rw [List.mem_append, List.mem_singleton]
theorem addS_len (T : List (List Pn)) (q : List Pn) : (addS T q).length ≤ T.length + 1 := by
  unfold addS
  split
  · omega
  · rw [List.length_append]; simp
theorem mem_take_succ {α : Type} {l : List α} {k : Nat} (hk : k < l.length) {z : α} : z ∈ l.take (k + 1) ↔ z ∈ l.take k ∨ z = l[k] := by
  rw [List.take_succ_eq_append_getElem hk, List.mem_append, List.mem_singleton]
structure LotI (ps : List Pn) (most n : Nat) (S L : List (List Pn)) : Prop where
  nS : S.Nodup
  mS : ∀ q, q ∈ S ↔ ∃ m, m < n ∧ Rch ps m q
  nL : L.Nodup
  mL : ∀ q, q ∈ L ↔ Rch ps n q
  lS : S.length ≤ most
  lL : L.length ≤ 60 * most + 1
structure LotK (ps : List Pn) (n : Nat) (S P S' T : List (List Pn)) : Prop where
  nS : S'.Nodup
  mS : ∀ q, q ∈ S' ↔ q ∈ S ∨ q ∈ P
  nT : T.Nodup
  mT : ∀ q, q ∈ T ↔ ∃ q', q' ∈ P ∧ ∃ x, x ∈ callP q' ∧ q = drawnL q' x 1
  lS : S'.length ≤ S.length + P.length
  lT : T.length ≤ 60 * P.length
theorem LotK.next {ps : List Pn} {most n : Nat} {S L S' T : List (List Pn)} (h : LotI ps most n S L) (k : LotK ps n S L S' T) (le : S'.length ≤ most) : LotI ps most (n + 1) S' T where
  nS := k.nS
  mS := fun q => by
    rw [k.mS, h.mS, h.mL]
    exact ⟨fun e => e.elim (fun ⟨m, a, b⟩ => ⟨m, by omega, b⟩) fun e => ⟨n, by omega, e⟩, fun ⟨m, a, b⟩ => by
      by_cases e : m = n
      · exact .inr (e ▸ b)
      · exact .inl ⟨m, by omega, b⟩⟩
  nL := k.nT
  mL := fun q => by
    rw [k.mT]
    exact ⟨fun ⟨q', a, x, b, c⟩ => ⟨q', (h.mL q').mp a, x, b, c⟩, fun ⟨q', a, x, b, c⟩ => ⟨q', (h.mL q').mpr a, x, b, c⟩⟩
  lS := le
  lL := by
    have : L.length ≤ S'.length := h.nL.length_le_of_subset fun q hq => (k.mS q).mpr (.inr hq)
    have := k.lT
    omega
def loL : List Int → Int
  | [] => 0
  | [x] => x
  | x :: y :: l => min x (loL (y :: l))
def hiL : List Int → Int
  | [] => 0
  | [x] => x
  | x :: y :: l => max x (hiL (y :: l))
theorem lo_le : ∀ {l : List Int} {x : Int}, x ∈ l → loL l ≤ x ∧ x ≤ hiL l
  | [x], z, h => by rw [List.mem_singleton.mp h]; exact ⟨Int.le_refl _, Int.le_refl _⟩
  | x :: y :: l, z, h => by
    unfold loL hiL
    rcases List.mem_cons.mp h with e | e
    · subst e; omega
    · have := lo_le e
      omega
theorem lo_mem : ∀ {l : List Int}, l ≠ [] → loL l ∈ l ∧ hiL l ∈ l
  | [], h => absurd rfl h
  | [x], _ => ⟨List.mem_singleton.mpr rfl, List.mem_singleton.mpr rfl⟩
  | x :: y :: l, _ => by
    obtain ⟨a, b⟩ := lo_mem (l := y :: l) (by simp)
    unfold loL hiL
    refine ⟨?_, ?_⟩
    · by_cases h : x ≤ loL (y :: l)
      · rw [Int.min_eq_left h]; exact List.mem_cons_self
      · rw [Int.min_eq_right (by omega)]; exact List.mem_cons_of_mem _ a
    · by_cases h : hiL (y :: l) ≤ x
      · rw [Int.max_eq_left h]; exact List.mem_cons_self
      · rw [Int.max_eq_right (by omega)]; exact List.mem_cons_of_mem _ b
def sprd (q : List Pn) : Int := hiL (plcs q) - loL (plcs q)
theorem sprd_call {q : List Pn} {x : Int} (hx : x ∈ callP q) : sprd (drawnL q x 1) < sprd q := by
  obtain ⟨_, a, b, h, e⟩ := call_in (a := loL (plcs q)) (b := hiL (plcs q)) (fun y hy => lo_le hy) hx
  have ne : plcs (drawnL q x 1) ≠ [] := fun z => by
    have hxp : x ∈ plcs q := mem_uset.mp (List.mem_filter.mp hx).1
    rw [plcs_drawn, List.map_eq_nil_iff] at z
    rw [z] at hxp
    cases hxp
  obtain ⟨m1, m2⟩ := lo_mem ne
  have h1 := h _ m1
  have h2 := h _ m2
  unfold sprd
  omega
theorem Rch.chain {ps : List Pn} : ∀ {n : Nat} {q : List Pn}, Rch ps n q → ∃ c : List (List Pn), c.length = n ∧ c.Nodup ∧ (∀ z, z ∈ c → ∃ m, m < n ∧ Rch ps m z) ∧ ∀ z, z ∈ c → sprd q < sprd z
  | 0, q, h => ⟨[], rfl, List.nodup_nil, fun z h => (nomatch h), fun z h => (nomatch h)⟩
  | n + 1, q, h => by
    obtain ⟨q', h1, x, hx, rfl⟩ := h
    obtain ⟨c, e1, e2, e3, e4⟩ := Rch.chain h1
    have lt := sprd_call hx
    refine ⟨q' :: c, by rw [List.length_cons, e1], List.nodup_cons.mpr ⟨fun m => by have := e4 q' m; omega, e2⟩, fun z hz => ?_, fun z hz => ?_⟩
    · rcases List.mem_cons.mp hz with e | e
      · subst e; exact ⟨n, by omega, h1⟩
      · obtain ⟨m, a, b⟩ := e3 z e
        exact ⟨m, by omega, b⟩
    · rcases List.mem_cons.mp hz with e | e
      · subst e; exact lt
      · have := e4 z e
        omega
theorem LotI.few {ps : List Pn} {most n : Nat} {S L : List (List Pn)} (I : LotI ps most n S L) {q : List Pn} (h : Rch ps n q) : n ≤ most := by
  obtain ⟨c, e1, e2, e3, _⟩ := h.chain
  have : c.length ≤ S.length := e2.length_le_of_subset fun z hz => (I.mS z).mpr (e3 z hz)
  have := I.lS
  omega
theorem LotK.step {ps : List Pn} {most n k : Nat} {S L S' T T' : List (List Pn)} (I : LotI ps most n S L) (hk : k < L.length) (J : LotK ps n S (L.take k) S' T) (nT : T'.Nodup) (mT : ∀ q, q ∈ T' ↔ q ∈ T ∨ ∃ x, x ∈ callP L[k] ∧ q = drawnL L[k] x 1) (lT : T'.length ≤ T.length + 60) : LotK ps n S (L.take (k + 1)) (addS S' L[k]) T' where
  nS := addS_nd J.nS
  mS := fun q => by rw [mem_addS, J.mS, mem_take_succ hk, or_assoc]
  nT := nT
  mT := fun q => by
    rw [mT, J.mT]
    constructor
    · rintro (⟨q', a, b⟩ | ⟨x, a, b⟩)
      · exact ⟨q', (mem_take_succ hk).mpr (.inl a), b⟩
      · exact ⟨L[k], (mem_take_succ hk).mpr (.inr rfl), x, a, b⟩
    · rintro ⟨q', a, b⟩
      rcases (mem_take_succ hk).mp a with a | a
      · exact .inl ⟨q', a, b⟩
      · subst a; exact .inr b
  lS := by
    have := J.lS
    have := addS_len S' L[k]
    rw [List.length_take_of_le (by omega)] at *
    omega
  lT := by
    have := J.lT
    rw [List.length_take_of_le (by omega)] at *
    omega
end
end L2.DL
set_option Elab.async false
set_option linter.all false
set_option autoImplicit false
set_option maxRecDepth 100000
set_option maxHeartbeats 2000000
namespace L2.DL
open PySem PySem.Spec PyProof.Rows
local macro_rules | `(tactic| walk_at "ev") => `(tactic| simp only [dSeq, dNext, dSet, dPar, dPar3, dRet, dRetN, dDrop, dIfS, dBrk, dCnt, dApp, dFor, dItL, dItT, dRng1, dRng2, dZip, dEnum, dItS, dAsg, dAugI, dNever, dPutS, dNewD, dFldM, dFldS, dStar,
  dgName, dgTup, dgCons, dgNil, dOp, dUn, dC, dNil, dCons, dCB, dTup, dLst, dIf, dTst, dTru, dAnd, dOr, dNot, dAndV, dOrV, dNotV, dYes, dInR, dFld, dMeth, dCall, dDctIx, dGet2, dRaise, dRaiseZ, dDisp, dPNil, dPCons, dRepD, dTold, dLenSet, hid_u, hid_d, hid_o, dStep2, dSlV, dIxV, dSetV, dPopV, dLenV, dLcV, lstAt, Option.isSome_some, Option.isSome_none, dSl, dNoP, dPart, dLc, dDc, dSortSet, dSortSc, dListVals, dChain, dIsiT2, dCallB, dBor, dNilB, dCBB, dOneL,
  dIsN, dNotN, dStrI, dAbs, dIn, fz_v, fz_l, fz_d, fz_i, fz_m, un_l, un_d, un_i, un_m, sl_v, sl_o, dwipe, and_assoc, insLF, insLT, insFF, insFT, startD, startN, pdT, pdI, gdT, prT, stI, putFD, lendable, noKR, noK, noKs,
  vd0, vo0, rd0, ro0, vd1, vo1, rd1, ro1, vd2, vo2, rd2, ro2, vd3, vo3, rd3, ro3, vd4, vo4, rd4, ro4, vd5, vo5, rd5, ro5, vd6, vo6, rd6, ro6, vd7, vo7, rd7, ro7, vd8, vo8, rd8, ro8, vd9, vo9, rd9, ro9, vd10, vo10, rd10, ro10, vd11, vo11, rd11, ro11, vd12, vo12, rd12, ro12, vd13, vo13, rd13, ro13, vd14, vo14, rd14, ro14, vd15, vo15, rd15, ro15, vd16, vo16, rd16, ro16, vd17, vo17, rd17, ro17, vd18, vo18, rd18, ro18, vd19, vo19, rd19, ro19, vd20, vo20, rd20, ro20, vd21, vo21, rd21, ro21, vd22, vo22, rd22, ro22, vd23, vo23, rd23, ro23, lk_people, lk_names, lk_has_name, lk_person, lk_place, lk_voice, lk_places, lk_at, lk_line, lk_voices, lk_is_together, lk_own, lenL, lenT, lenS, ixL, ixT, ixS, dcutL, dcutS, addII, addSS, addLL, int1i, int1b, negI, reprL, reprT, absI, sc_n, sc_b, sc_i, sc_s, subI, mulI, fdvI, modI, powI, ltI, leI, gtI, geI, tr_n, tr_b, tr_i, tr_l, tr_t, tr_d, ty_n, ty_b, ty_i, ty_s, ty_l, ty_t, ty_d, in_n, in_b, in_i, in_s, in_l, in_t, in_d, eqII, neII, eqSS, neSS, eqBB, neBB, isic_n, isic_b, isic_i, isic_s, isic_l, isic_t, isic_d, isio_n, isio_b, isio_i, isio_s, isio_l, isio_t, isio_d, isic_I, isic_S, isic_T, isic_L, isic_B, isio_I, dIsiO, isi_ii, isi_ib, isi_is, isi_il, isi_bi, isi_bb, isi_bs, isi_si, isi_sb, isi_ss, isi_ni, isi_nb, isi_ns, isi_li, isi_lb, isi_ls, isi_ll, isi_ti, isi_tb, isi_ts, isi_tt, isi_di, isi_db, isi_ds, isi_lt, isi_tl, isi_bt, isi_nt, isi_dt, eqLL, neLL, eqTT, neTT, isi_sl, isi_st, isi_it, kit_ll, kit_lt, max2, min2, get1, get2b, get3b, get3c,
  List.map_cons, List.map_nil, List.length_cons, List.length_nil, List.replicate, List.append_nil, List.cons_append, List.nil_append, List.getElem?_cons_zero, List.getElem?_cons_succ, List.set_cons_zero, List.set_cons_succ, List.getElem?_nil, Nat.sub_zero, Nat.reduceAdd, Nat.reduceSub, Int.reduceLT, Int.reduceLE, Int.reduceNeg, Nat.zero_add,
  true_and, and_true, eq_self, Bool.true_or, Bool.or_true, Bool.false_or, Bool.or_false, Bool.true_and, Bool.and_true, Bool.false_and, Bool.and_false, exists_eq_left, exists_eq_left', exists_eq', exists_eq, Option.some.injEq, Res.v.injEq, D.bl.injEq, D.int.injEq, D.str.injEq, D.lst.injEq, D.tup.injEq, D.dct.injEq, D.ins.injEq, Sl.o.injEq, Sl.d.injEq, List.cons.injEq, reduceCtorEq, false_or, or_false, if_true, if_false, Bool.false_eq_true, Bool.not_true, Bool.not_false, ite_true, ite_false, decide_true, decide_false, and_self, List.isEmpty_nil, List.isEmpty_cons, exists_and_left, exists_const, lenNil, reprWL, reprAA, dZipLT, min3R, isBR, notBR, pcT, wtT, wtI, pcI, dIsiT2O, dCallBL, lrgR, lrg1R, dNewT, dLk, dDispT1, dNeE, dPutT, dGetT, dLenT, dVarK, dItKT, dIxT, dLenTD, dKeysT, un_dT, un_dL, fzR, lz3R])
end L2.DL
set_option Elab.async false
set_option linter.all false
set_option autoImplicit false
set_option maxRecDepth 100000
set_option maxHeartbeats 2000000
namespace L2.DL
open PySem PySem.Spec PyProof.Rows
local macro_rules | `(tactic| walk_at "ev") => `(tactic| simp only [dSeq, dNext, dSet, dPar, dPar3, dRet, dRetN, dDrop, dIfS, dBrk, dCnt, dApp, dFor, dItL, dItT, dRng1, dRng2, dZip, dEnum, dItS, dAsg, dAugI, dNever, dPutS, dNewD, dFldM, dFldS, dStar,
  dgName, dgTup, dgCons, dgNil, dOp, dUn, dC, dNil, dCons, dCB, dTup, dLst, dIf, dTst, dTru, dAnd, dOr, dNot, dAndV, dOrV, dNotV, dYes, dInR, dFld, dMeth, dCall, dDctIx, dGet2, dRaise, dRaiseZ, dDisp, dPNil, dPCons, dRepD, dTold, dLenSet, hid_u, hid_d, hid_o, dStep2, dSlV, dIxV, dSetV, dPopV, dLenV, dLcV, lstAt, Option.isSome_some, Option.isSome_none, dSl, dNoP, dPart, dLc, dDc, dSortSet, dSortSc, dListVals, dChain, dIsiT2, dCallB, dBor, dNilB, dCBB, dOneL,
  dIsN, dNotN, dStrI, dAbs, dIn, fz_v, fz_l, fz_d, fz_i, fz_m, un_l, un_d, un_i, un_m, sl_v, sl_o, dwipe, and_assoc, insLF, insLT, insFF, insFT, startD, startN, pdT, pdI, gdT, prT, stI, putFD, lendable, noKR, noK, noKs,
  vd0, vo0, rd0, ro0, vd1, vo1, rd1, ro1, vd2, vo2, rd2, ro2, vd3, vo3, rd3, ro3, vd4, vo4, rd4, ro4, vd5, vo5, rd5, ro5, vd6, vo6, rd6, ro6, vd7, vo7, rd7, ro7, vd8, vo8, rd8, ro8, vd9, vo9, rd9, ro9, vd10, vo10, rd10, ro10, vd11, vo11, rd11, ro11, vd12, vo12, rd12, ro12, vd13, vo13, rd13, ro13, vd14, vo14, rd14, ro14, vd15, vo15, rd15, ro15, vd16, vo16, rd16, ro16, vd17, vo17, rd17, ro17, vd18, vo18, rd18, ro18, vd19, vo19, rd19, ro19, vd20, vo20, rd20, ro20, vd21, vo21, rd21, ro21, vd22, vo22, rd22, ro22, vd23, vo23, rd23, ro23, lk_people, lk_names, lk_has_name, lk_person, lk_place, lk_voice, lk_places, lk_at, lk_line, lk_voices, lk_is_together, lk_own, lenL, lenT, lenS, ixL, ixT, ixS, dcutL, dcutS, addII, addSS, addLL, int1i, int1b, negI, reprL, reprT, absI, sc_n, sc_b, sc_i, sc_s, subI, mulI, fdvI, modI, powI, ltI, leI, gtI, geI, tr_n, tr_b, tr_i, tr_l, tr_t, tr_d, ty_n, ty_b, ty_i, ty_s, ty_l, ty_t, ty_d, in_n, in_b, in_i, in_s, in_l, in_t, in_d, eqII, neII, eqSS, neSS, eqBB, neBB, isic_n, isic_b, isic_i, isic_s, isic_l, isic_t, isic_d, isio_n, isio_b, isio_i, isio_s, isio_l, isio_t, isio_d, isic_I, isic_S, isic_T, isic_L, isic_B, isio_I, dIsiO, isi_ii, isi_ib, isi_is, isi_il, isi_bi, isi_bb, isi_bs, isi_si, isi_sb, isi_ss, isi_ni, isi_nb, isi_ns, isi_li, isi_lb, isi_ls, isi_ll, isi_ti, isi_tb, isi_ts, isi_tt, isi_di, isi_db, isi_ds, isi_lt, isi_tl, isi_bt, isi_nt, isi_dt, eqLL, neLL, eqTT, neTT, isi_sl, isi_st, isi_it, kit_ll, kit_lt, max2, min2, get1, get2b, get3b, get3c,
  List.map_cons, List.map_nil, List.length_cons, List.length_nil, List.replicate, List.append_nil, List.cons_append, List.nil_append, List.getElem?_cons_zero, List.getElem?_cons_succ, List.set_cons_zero, List.set_cons_succ, List.getElem?_nil, Nat.sub_zero, Nat.reduceAdd, Nat.reduceSub, Int.reduceLT, Int.reduceLE, Int.reduceNeg, Nat.zero_add,
  true_and, and_true, eq_self, Bool.true_or, Bool.or_true, Bool.false_or, Bool.or_false, Bool.true_and, Bool.and_true, Bool.false_and, Bool.and_false, exists_eq_left, exists_eq_left', exists_eq', exists_eq, Option.some.injEq, Res.v.injEq, D.bl.injEq, D.int.injEq, D.str.injEq, D.lst.injEq, D.tup.injEq, D.dct.injEq, D.ins.injEq, Sl.o.injEq, Sl.d.injEq, List.cons.injEq, reduceCtorEq, false_or, or_false, if_true, if_false, Bool.false_eq_true, Bool.not_true, Bool.not_false, ite_true, ite_false, decide_true, decide_false, and_self, List.isEmpty_nil, List.isEmpty_cons, exists_and_left, exists_const, lenNil, reprWL, reprAA, dZipLT, min3R, isBR, notBR, pcT, wtT, wtI, pcI, dIsiT2O, dCallBL, lrgR, lrg1R, dNewT, dLk, dDispT1, dNeE, dPutT, dGetT, dLenT, dVarK, dItKT, dIxT, dLenTD, dKeysT, un_dT, un_dL])
end L2.DL
set_option Elab.async false
set_option linter.all false
set_option autoImplicit false
set_option maxRecDepth 100000
set_option maxHeartbeats 2000000
namespace L2.DL
open PySem PySem.Spec PyProof.Rows
end L2.DL
set_option Elab.async false
set_option linter.all false
set_option autoImplicit false
set_option maxRecDepth 100000
set_option maxHeartbeats 2000000
namespace L2.DL
open PySem PySem.Spec PyProof.Rows
local macro_rules | `(tactic| walk_at "ev") => `(tactic| simp only [dSeq, dNext, dSet, dPar, dPar3, dRet, dRetN, dDrop, dIfS, dBrk, dCnt, dApp, dFor, dItL, dItT, dRng1, dRng2, dZip, dEnum, dItS, dAsg, dAugI, dNever, dPutS, dNewD, dFldM, dFldS, dStar,
  dgName, dgTup, dgCons, dgNil, dOp, dUn, dC, dNil, dCons, dCB, dTup, dLst, dIf, dTst, dTru, dAnd, dOr, dNot, dAndV, dOrV, dNotV, dYes, dInR, dFld, dMeth, dCall, dDctIx, dGet2, dRaise, dRaiseZ, dDisp, dPNil, dPCons, dRepD, dTold, dLenSet, hid_u, hid_d, hid_o, dStep2, dSlV, dIxV, dSetV, dPopV, dLenV, dLcV, lstAt, Option.isSome_some, Option.isSome_none, dSl, dNoP, dPart, dLc, dDc, dSortSet, dSortSc, dListVals, dChain, dIsiT2, dCallB, dBor, dNilB, dCBB, dOneL,
  dIsN, dNotN, dStrI, dAbs, dIn, fz_v, fz_l, fz_d, fz_i, fz_m, un_l, un_d, un_i, un_m, sl_v, sl_o, dwipe, and_assoc, insLF, insLT, insFF, insFT, startD, startN, pdT, pdI, gdT, prT, stI, putFD, lendable, noKR, noK, noKs,
  vd0, vo0, rd0, ro0, vd1, vo1, rd1, ro1, vd2, vo2, rd2, ro2, vd3, vo3, rd3, ro3, vd4, vo4, rd4, ro4, vd5, vo5, rd5, ro5, vd6, vo6, rd6, ro6, vd7, vo7, rd7, ro7, vd8, vo8, rd8, ro8, vd9, vo9, rd9, ro9, vd10, vo10, rd10, ro10, vd11, vo11, rd11, ro11, vd12, vo12, rd12, ro12, vd13, vo13, rd13, ro13, vd14, vo14, rd14, ro14, vd15, vo15, rd15, ro15, vd16, vo16, rd16, ro16, vd17, vo17, rd17, ro17, vd18, vo18, rd18, ro18, vd19, vo19, rd19, ro19, vd20, vo20, rd20, ro20, vd21, vo21, rd21, ro21, vd22, vo22, rd22, ro22, vd23, vo23, rd23, ro23, lk_people, lk_names, lk_has_name, lk_person, lk_place, lk_voice, lk_places, lk_at, lk_line, lk_voices, lk_is_together, lk_own, lenL, lenT, lenS, ixL, ixT, ixS, dcutL, dcutS, addII, addSS, addLL, int1i, int1b, negI, reprL, reprT, absI, sc_n, sc_b, sc_i, sc_s, subI, mulI, fdvI, modI, powI, ltI, leI, gtI, geI, tr_n, tr_b, tr_i, tr_l, tr_t, tr_d, ty_n, ty_b, ty_i, ty_s, ty_l, ty_t, ty_d, in_n, in_b, in_i, in_s, in_l, in_t, in_d, eqII, neII, eqSS, neSS, eqBB, neBB, isic_n, isic_b, isic_i, isic_s, isic_l, isic_t, isic_d, isio_n, isio_b, isio_i, isio_s, isio_l, isio_t, isio_d, isic_I, isic_S, isic_T, isic_L, isic_B, isio_I, dIsiO, isi_ii, isi_ib, isi_is, isi_il, isi_bi, isi_bb, isi_bs, isi_si, isi_sb, isi_ss, isi_ni, isi_nb, isi_ns, isi_li, isi_lb, isi_ls, isi_ll, isi_ti, isi_tb, isi_ts, isi_tt, isi_di, isi_db, isi_ds, isi_lt, isi_tl, isi_bt, isi_nt, isi_dt, eqLL, neLL, eqTT, neTT, isi_sl, isi_st, isi_it, kit_ll, kit_lt, max2, min2, get1, get2b, get3b, get3c,
  List.map_cons, List.map_nil, List.length_cons, List.length_nil, List.replicate, List.append_nil, List.cons_append, List.nil_append, List.getElem?_cons_zero, List.getElem?_cons_succ, List.set_cons_zero, List.set_cons_succ, List.getElem?_nil, Nat.sub_zero, Nat.reduceAdd, Nat.reduceSub, Int.reduceLT, Int.reduceLE, Int.reduceNeg, Nat.zero_add,
  true_and, and_true, eq_self, Bool.true_or, Bool.or_true, Bool.false_or, Bool.or_false, Bool.true_and, Bool.and_true, Bool.false_and, Bool.and_false, exists_eq_left, exists_eq_left', exists_eq', exists_eq, Option.some.injEq, Res.v.injEq, D.bl.injEq, D.int.injEq, D.str.injEq, D.lst.injEq, D.tup.injEq, D.dct.injEq, D.ins.injEq, Sl.o.injEq, Sl.d.injEq, List.cons.injEq, reduceCtorEq, false_or, or_false, if_true, if_false, Bool.false_eq_true, Bool.not_true, Bool.not_false, ite_true, ite_false, decide_true, decide_false, and_self, List.isEmpty_nil, List.isEmpty_cons, exists_and_left, exists_const, lenNil, reprWL, reprAA, dZipLT, min3R, isBR, notBR, pcT, wtT, wtI, pcI, dIsiT2O, dCallBL, lrgR, lrg1R, dNewT, dLk, dDispT1, dNeE, dPutT, dGetT, dLenT, dVarK, dItKT, dIxT, dLenTD, dKeysT, un_dT, un_dL])
end L2.DL
set_option Elab.async false
set_option linter.all false
set_option autoImplicit false
set_option maxRecDepth 100000
set_option maxHeartbeats 1000000
namespace L2.DL
open PySem PySem.Spec PyProof.Rows
end L2.DL
set_option Elab.async false
set_option linter.all false
set_option autoImplicit false
set_option maxRecDepth 100000
set_option maxHeartbeats 2000000
namespace L2.DL
open PySem PySem.Spec PyProof.Rows
local macro_rules | `(tactic| walk_at "ev") => `(tactic| simp only [dSeq, dNext, dSet, dPar, dPar3, dRet, dRetN, dDrop, dIfS, dBrk, dCnt, dApp, dFor, dItL, dItT, dRng1, dRng2, dZip, dEnum, dItS, dAsg, dAugI, dNever, dPutS, dNewD, dFldM, dFldS, dStar,
  dgName, dgTup, dgCons, dgNil, dOp, dUn, dC, dNil, dCons, dCB, dTup, dLst, dIf, dTst, dTru, dAnd, dOr, dNot, dAndV, dOrV, dNotV, dYes, dInR, dFld, dMeth, dCall, dDctIx, dGet2, dRaise, dRaiseZ, dDisp, dPNil, dPCons, dRepD, dTold, dLenSet, hid_u, hid_d, hid_o, dStep2, dSlV, dIxV, dSetV, dPopV, dLenV, dLcV, lstAt, Option.isSome_some, Option.isSome_none, dSl, dNoP, dPart, dLc, dDc, dSortSet, dSortSc, dListVals, dChain, dIsiT2, dCallB, dBor, dNilB, dCBB, dOneL,
  dIsN, dNotN, dStrI, dAbs, dIn, fz_v, fz_l, fz_d, fz_i, fz_m, un_l, un_d, un_i, un_m, sl_v, sl_o, dwipe, and_assoc, insLF, insLT, insFF, insFT, startD, startN, pdT, pdI, gdT, prT, stI, putFD, lendable, noKR, noK, noKs,
  vd0, vo0, rd0, ro0, vd1, vo1, rd1, ro1, vd2, vo2, rd2, ro2, vd3, vo3, rd3, ro3, vd4, vo4, rd4, ro4, vd5, vo5, rd5, ro5, vd6, vo6, rd6, ro6, vd7, vo7, rd7, ro7, vd8, vo8, rd8, ro8, vd9, vo9, rd9, ro9, vd10, vo10, rd10, ro10, vd11, vo11, rd11, ro11, vd12, vo12, rd12, ro12, vd13, vo13, rd13, ro13, vd14, vo14, rd14, ro14, vd15, vo15, rd15, ro15, vd16, vo16, rd16, ro16, vd17, vo17, rd17, ro17, vd18, vo18, rd18, ro18, vd19, vo19, rd19, ro19, vd20, vo20, rd20, ro20, vd21, vo21, rd21, ro21, vd22, vo22, rd22, ro22, vd23, vo23, rd23, ro23, lk_people, lk_names, lk_has_name, lk_person, lk_place, lk_voice, lk_places, lk_at, lk_line, lk_voices, lk_is_together, lk_own, lenL, lenT, lenS, ixL, ixT, ixS, dcutL, dcutS, addII, addSS, addLL, int1i, int1b, negI, reprL, reprT, absI, sc_n, sc_b, sc_i, sc_s, subI, mulI, fdvI, modI, powI, ltI, leI, gtI, geI, tr_n, tr_b, tr_i, tr_l, tr_t, tr_d, ty_n, ty_b, ty_i, ty_s, ty_l, ty_t, ty_d, in_n, in_b, in_i, in_s, in_l, in_t, in_d, eqII, neII, eqSS, neSS, eqBB, neBB, isic_n, isic_b, isic_i, isic_s, isic_l, isic_t, isic_d, isio_n, isio_b, isio_i, isio_s, isio_l, isio_t, isio_d, isic_I, isic_S, isic_T, isic_L, isic_B, isio_I, dIsiO, isi_ii, isi_ib, isi_is, isi_il, isi_bi, isi_bb, isi_bs, isi_si, isi_sb, isi_ss, isi_ni, isi_nb, isi_ns, isi_li, isi_lb, isi_ls, isi_ll, isi_ti, isi_tb, isi_ts, isi_tt, isi_di, isi_db, isi_ds, isi_lt, isi_tl, isi_bt, isi_nt, isi_dt, eqLL, neLL, eqTT, neTT, isi_sl, isi_st, isi_it, kit_ll, kit_lt, max2, min2, get1, get2b, get3b, get3c,
  List.map_cons, List.map_nil, List.length_cons, List.length_nil, List.replicate, List.append_nil, List.cons_append, List.nil_append, List.getElem?_cons_zero, List.getElem?_cons_succ, List.set_cons_zero, List.set_cons_succ, List.getElem?_nil, Nat.sub_zero, Nat.reduceAdd, Nat.reduceSub, Int.reduceLT, Int.reduceLE, Int.reduceNeg, Nat.zero_add,
  true_and, and_true, eq_self, Bool.true_or, Bool.or_true, Bool.false_or, Bool.or_false, Bool.true_and, Bool.and_true, Bool.false_and, Bool.and_false, exists_eq_left, exists_eq_left', exists_eq', exists_eq, Option.some.injEq, Res.v.injEq, D.bl.injEq, D.int.injEq, D.str.injEq, D.lst.injEq, D.tup.injEq, D.dct.injEq, D.ins.injEq, Sl.o.injEq, Sl.d.injEq, List.cons.injEq, reduceCtorEq, false_or, or_false, if_true, if_false, Bool.false_eq_true, Bool.not_true, Bool.not_false, ite_true, ite_false, decide_true, decide_false, and_self, List.isEmpty_nil, List.isEmpty_cons, exists_and_left, exists_const, lenNil, reprWL, reprAA, dZipLT, min3R, isBR, notBR, pcT, wtT, wtI, pcI, dIsiT2O, dCallBL, lrgR, lrg1R, dNewT, dLk, dDispT1, dNeE, dPutT, dGetT, dLenT, dVarK, dItKT, dIxT, dLenTD, dKeysT, un_dT, un_dL, fzR, lz3R, dThenFz, dNest, dOwnL, dEqO, hideO, dOpV, dRevL])
def exT (n : Str) (x v : Int) (p : Pn) : Pn := if p.1 = n then (p.1, x, v) else p
end L2.DL
set_option Elab.async false
set_option linter.all false
set_option autoImplicit false
set_option maxRecDepth 100000
set_option maxHeartbeats 1000000
namespace L2.DL
open PySem PySem.Spec PyProof.Rows
/-- min(te, default=tn) -/
def dMinDf (te tn : DTE) : DTE := fun ρ Q => te ρ fun r1 ρ1 => ∃ ns : List Int, fz r1 = .lst (ns.map .int) ∧ tn ρ1 fun r2 ρ2 => ∃ n, fz r2 = .int n ∧ (ns = [] → Q (.v (.int n)) ρ2) ∧ ∀ m, m ∈ ns → (∀ y, y ∈ ns → m ≤ y) → Q (.v (.int m)) ρ2
end L2.DL
set_option Elab.async false
set_option linter.all false
set_option autoImplicit false
set_option maxRecDepth 100000
set_option maxHeartbeats 1000000
namespace L2.DL
open PySem PySem.Spec PyProof.Rows
def dPutN (i j : Nat) (tk te : DTE) : DTS := fun D ρ => te ρ fun r ρ1 => ∃ a b, fz r = .tup [a, b] ∧ (∃ kds, ρ1[i]? = some (Sl.o (.dct kds))) ∧ tk ρ1 fun r2 ρ2 => ∃ kds k, ρ2[i]? = some (Sl.o (.dct kds)) ∧ keyOf (fz r2) = some k ∧ kds.length < sizeLine ∧ D.nx ((ρ2.set i (.o (.dct (putD kds k a)))).set j (.d b))
end L2.DL
set_option Elab.async false
set_option linter.all false
set_option autoImplicit false
set_option maxRecDepth 100000
set_option maxHeartbeats 1000000
namespace L2.DL
open PySem PySem.W PySem.Spec PyProof.Rows
end L2.DL
set_option Elab.async false
set_option linter.all false
set_option autoImplicit false
set_option maxRecDepth 100000
set_option maxHeartbeats 1000000
namespace L2.DL
open PySem PySem.Spec PyProof.Rows
def pr2 (p : Int × Int) : D := .tup [.int p.1, .int p.2]
def dPar3C (i j l : Nat) (ta tb td : DTE) : DTS := fun D ρ => ta ρ fun r1 ρ1 => ∃ d1, r1 = .v d1 ∧ tb ρ1 fun r2 ρ2 => td ρ2 fun r3 ρ3 => ∃ d3, r3 = .v d3 ∧ D.nx (((ρ3.set i (.d d1)).set j (toSl r2)).set l (.d d3))
end L2.DL
set_option Elab.async false
set_option linter.all false
set_option autoImplicit false
set_option maxRecDepth 100000
set_option maxHeartbeats 1000000
namespace L2.DL
open PySem PySem.Spec PyProof.Rows
section
variable {K : PySem.W.Frag}
def dTcat (a b : D) (Q : Res → Prop) : Prop := ∃ xs ys, a = .tup xs ∧ b = .tup ys ∧ xs.length + ys.length ≤ sizeLine ∧ Q (.v (.tup (xs ++ ys)))
end
def dSlT (te : DTE) (tl th : DTO) : DTE := fun ρ Q => te ρ fun r ρ1 => tl ρ1 fun l ρ2 => th ρ2 fun u ρ3 => ∃ xs, fz r = .tup xs ∧ Q (.v (.tup (cutD xs l u))) ρ3
end L2.DL
set_option Elab.async false
set_option linter.all false
set_option autoImplicit false
set_option maxRecDepth 100000
set_option maxHeartbeats 1000000
namespace L2
open PySem PySem.W PySem.Calls PySem.Spec PyProof.Rows PyProof.V
end L2
namespace L2.DL
open PySem PySem.Spec PyProof.Rows
section
variable {c : C} {X : Cx} {a b e tg : Expr} {te ta tb : DTE} {t : DTA} {pos p p2 ps apos cpos tpos : Pos}
def dListValsT (te : DTE) : DTE := fun ρ Q => te ρ fun r ρ1 => ∃ kds : List (TK × D), (fz r = .dcT kds ∨ fz r = .dcL kds) ∧ Q (.own (kds.map (·.2))) ρ1
def dOrK (ta tb : DTE) : DTE := fun ρ Q => ta ρ fun r ρ1 => (fz r = .non ∧ tb ρ1 Q) ∨ ∃ kds : List (TK × D), fz r = .dcL kds ∧ if kds.isEmpty = true then tb ρ1 Q else Q (.v (.dcL kds)) ρ1
end
end L2.DL
set_option Elab.async false
set_option linter.all false
set_option autoImplicit false
set_option maxRecDepth 100000
set_option maxHeartbeats 1000000
namespace L2.DL
open PySem PySem.Spec PyProof.Rows
/-- d.get(k, x) of a name's dict -/
def dGetS (i : Nat) (ty tx : DTE) : DTE := fun ρ Q => (∃ kds, ρ[i]? = some (Sl.o (.dct kds))) ∧ ty ρ fun r2 ρ2 => ∃ k, keyOf (fz r2) = some k ∧ tx ρ2 fun r3 ρ3 => ∃ kds, ρ3[i]? = some (Sl.o (.dct kds)) ∧ Q (.v ((valD kds k).getD (fz r3))) ρ3
/-- locked for good -/
def dLkI (te : DTE) : DTE := fun ρ Q => te ρ fun r ρ1 => ∃ kds, r = .ow (.dct kds) ∧ Q (.v (.dcI kds)) ρ1
def dItKI (te : DTE) : DTI := fun ρ Q => te ρ fun r ρ1 => ∃ kds, fz r = .dcI kds ∧ Q (kds.map fun kv => kD kv.1) ρ1
def dIxI (td ty : DTE) : DTE := fun ρ Q => td ρ fun r ρ1 => ty ρ1 fun r2 ρ2 => ∃ kds k d, fz r = .dcI kds ∧ keyOf (fz r2) = some k ∧ valD kds k = some d ∧ Q (.v d) ρ2
def dGetI (td ty tx : DTE) : DTE := fun ρ Q => td ρ fun r ρ1 => ∃ kds, fz r = .dcI kds ∧ ty ρ1 fun r2 ρ2 => ∃ k, keyOf (fz r2) = some k ∧ tx ρ2 fun r3 ρ3 => Q (.v ((valD kds k).getD (fz r3))) ρ3
section
variable {c : C} {X : Cx} {e o ix f tg : Expr} {te td ty tx : DTE} {i : Nat} {pos apos cpos : Pos}
theorem de_getS (hu : X.A.units + 1 < cLine) (ho : PE X o (tVar i)) (he : PE X e (liftE c ty)) (hf : PE X f (liftE c tx))
    (m : M2 X o "get" apos e f cpos := by exact ⟨by rfl, by rfl, by rfl, by rfl⟩) : PE X (.Call (.Attribute o "get" apos) [e, f] [] cpos) (liftE c (dGetS i ty tx)) :=
  PE_imp (pe_dget2 hu ho (froze he) (froze hf) m) fun σ H Q ⟨F, ρ, QD, s, ⟨⟨kds0, hi0⟩, h⟩, k⟩ => by
    obtain ⟨a, ob, e1, e2, e3, e4, e5, e6⟩ := s.ow i _ hi0
    have isD : IsD H a := by
      cases e4 with
      | dct _ _ => exact .inl ⟨_, .inl e2⟩
    refine ⟨.ref a, e1, a, rfl, isD, F, ρ, (fun d2 ρ2 => ∃ k, keyOf d2 = some k ∧ tx ρ2 fun r3 ρ3 => ∃ kds, ρ3[i]? = some (Sl.o (.dct kds)) ∧ QD (.v ((valD kds k).getD (fz r3))) ρ3), s, h, fun y H2 F2 ρ2 d2 s2 st2 ry ⟨k0, hk, q2⟩ => ?_⟩
    refine ⟨F2, ρ2, (fun d3 ρ3 => ∃ kds, ρ3[i]? = some (Sl.o (.dct kds)) ∧ QD (.v ((valD kds k0).getD d3)) ρ3), s2, q2, fun z H3 F3 ρ3 d3 s3 st3 rz ⟨kds, hi3, q3⟩ => ?_⟩
    obtain ⟨p', ob', g1, g2, g3, g4, g5, g6⟩ := s3.ow i _ hi3
    rw [e1] at g1
    cases g1
    cases g4 with
    | dct hk1 hr1 =>
      obtain ⟨v1, v2⟩ := val_rep (k := k0) hk1 hr1
      refine ⟨_, by rw [rep_keyOf ry hk]; exact DGet.k g2, ?_⟩
      cases e : valD kds k0 with
      | none =>
        rw [v1 e]
        rw [e] at q3
        exact k z H3 F3 ρ3 (.v d3) s3 (st2.trans st3) rz trivial q3
      | some d' =>
        obtain ⟨w, hw, rw'⟩ := v2 d' e
        rw [hw]
        rw [e] at q3
        exact k w H3 F3 ρ3 (.v d') s3 (st2.trans st3) rw' trivial q3
def dInI (neg : Bool) (a b : D) (Q : Res → Prop) : Prop := ∃ kds k, b = .dcI kds ∧ keyOf a = some k ∧ Q (.v (.bl (if neg then !(valD kds k).isSome else (valD kds k).isSome)))
end
end L2.DL
set_option Elab.async false
set_option linter.all false
set_option autoImplicit false
set_option maxRecDepth 100000
set_option maxHeartbeats 1000000
namespace L2.DL
open PySem PySem.Spec PyProof.Rows
section
variable {X : Cx}
def rInK (neg : Bool) : R2 := fun y x H Q => ∃ a kvs k b, x = .ref a ∧ Rd H a (.dT kvs) ∧ y = .ref b ∧ H b = some (.tup (k.map kV)) ∧ Q (.bl (if neg then !(valV kvs k).isSome else (valV kvs k).isSome)) H
theorem op_notInK (hu : X.A.units + 1 < cLine) : OpR X (compareOp .NotIn) (rInK true) := by
  intro pins s σ H y x u v Q I ry rx ⟨a, kvs, k, b, e, h, ey, eb, q⟩
  subst e; subst ey
  obtain rfl : v = Value.ref a := rx
  exact d_notIn hu I (.inr ⟨kvs, k, b, h, rfl, eb, rfl⟩) ry fun s' I' => ⟨.bl _, H, I', rfl, q⟩
end
end L2.DL
set_option Elab.async false
set_option linter.all false
set_option autoImplicit false
set_option maxRecDepth 100000
set_option maxHeartbeats 1000000
namespace L2.DL
open PySem PySem.Spec PyProof.Rows
section
variable {c : C} {X : Cx} {pos : Pos} {k1 k2 k3 : Nat} {x1 x2 x3 : Str} {p1 p2 p3 lp ixp : Pos} {e ix : Expr} {es : List Expr} {ti : DTE} {t : DTA} {s1 s2 s3 : DSp} {XD : DX}
def dCall3 (s1 s2 s3 : DSp) (XD : DX) (ti : DTE) (t : DTA) : DTE := fun ρ Q => ti ρ fun r ρ1 => ∃ (j : Nat) (sp : DSp), fz r = .int (j : Nat) ∧ [s1, s2, s3][j]? = some sp ∧ t ρ1 fun ds ρ2 => sp ds (fun r => Q r ρ2) XD
end
end L2.DL
set_option Elab.async false
set_option linter.all false
set_option autoImplicit false
set_option maxRecDepth 100000
set_option maxHeartbeats 1000000
namespace L2
open PySem PySem.Spec PyProof.Rows
end L2
namespace L2.DL
open PySem PySem.Spec PyProof.Rows
section
variable {c : C} {X : Cx} {a b d e : Expr} {ta tb td te : DTE} {pos : Pos}
def dTChain3 (dr dr' dr'' : D → D → (Res → Prop) → Prop) (ta tb td te : DTE) : DTT := fun ρ Q => ta ρ fun r1 ρ1 => tb ρ1 fun r2 ρ2 => dr (fz r1) (fz r2) fun r => ∃ b, r = .v (.bl b) ∧ if b = true then
  td ρ2 fun r3 ρ3 => dr' (fz r2) (fz r3) fun r => ∃ b, r = .v (.bl b) ∧ if b = true then te ρ3 fun r4 ρ4 => dr'' (fz r3) (fz r4) fun r => ∃ b, r = .v (.bl b) ∧ Q b ρ4 else Q false ρ3 else Q false ρ2
end
end L2.DL
set_option Elab.async false
set_option linter.all false
set_option autoImplicit false
set_option maxRecDepth 100000
set_option maxHeartbeats 1000000
namespace L2.DL
open PySem PySem.Spec PyProof.Rows
section
variable {c : C} {X : Cx} {e e2 e3 : Expr} {t : DTA} {p pos tpos : Pos}
def dZip3 (t : DTA) : DTI := fun ρ Q => t ρ fun ds ρ1 => ∃ xs ys us, ds = [.lst xs, .lst ys, .lst us] ∧ Q (tri3 xs ys us) ρ1
end
end L2.DL
set_option Elab.async false
set_option linter.all false
set_option autoImplicit false
set_option maxRecDepth 100000
set_option maxHeartbeats 1000000
set_option backward.match.sparseCases false
namespace L2
open PySem PySem.W PySem.Calls PyProof.Rows PyProof.V PySem.Spec
/-- the pairs of a dict with tuple keys, each a new tuple -/
def ItiT (d : Addr) (o : Obj) (kvs : List (List Key × V)) : It :=
  ⟨fun i H => H d = some (.frz o (.dT kvs)) ∧ i < kvs.length, fun i H x H' => ∃ T k v q, kvs[i]? = some (k, v) ∧ x = .ref T ∧ H T = none ∧ H q = some (.tup (k.map kV)) ∧ H' = upd H T (.tup [.ref q, v]), fun i H => H d = some (.frz o (.dT kvs)) ∧ kvs.length ≤ i⟩
section
variable {X : Cx} {pins : List (Addr × Obj)} {σ : St} {H : Hp} {s : Shared} {d : Addr} {o : Obj}
theorem Inv.frzT2 {kvs : List (List Key × V)} (I : Inv X pins σ H s) (h : H d = some (.frz o (.dT kvs))) :
    (d == sysModules) = false ∧ s.heap.get? d = some o ∧ o.ExactDict ∧ ∃ (es : Array DictEntry) (ep : Nat), o.data = .dict es ep ∧ es.size = kvs.length ∧
      ∀ (i : Nat) (k : List Key) (v : V), kvs[i]? = some (k, v) → ∃ (en : DictEntry) (q : Addr), es[i]? = some en ∧ en.key = .ref q ∧ H q = some (.tup (k.map kV)) ∧ RelV v en.val := by
  obtain ⟨hd, z, hs, xs, pr, o', es, ep, ho, hx, hdt, he, _⟩ := I.hok d _ h
  rw [hd] at ho
  cases ho
  refine ⟨hs, hd, hx, es, ep, hdt, ?_, fun i k v e => ?_⟩
  · have l1 : es.size = xs.length := size_of_entries he
    have l2 : kvs.length = xs.length := Paired.length pr
    omega
  · obtain ⟨b, hb, e1, e2, e3⟩ := paired_get pr e
    have q := entry_at he i
    rw [hb] at q
    exact ⟨_, b.2.1, q, rfl, e2, e3⟩
end
section
variable {P : Program} {w : World} {K : PySem.W.Frag} {tg : Expr} {d : Addr} {o : Obj} {es : Array DictEntry} {ep : Nat}
theorem turn_itemsT {kvs : List (List Key × V)} {elts : List Expr} {kk : Nat} {tpos : Pos} (it : Addr) (hod : o.data = .dict es ep) :
    Turn P w K (.Tuple elts kk tpos) (ItiT d o kvs) [it] it (fun i h => ∃ ok ov, IsItemIter h it d i kvs.length ep ok ov) where
  mem := by simp
  obj := fun i h st b hb => by
    have e : b = it := by simpa using hb
    subst e
    obtain ⟨ok, ov, e⟩ := st
    exact ⟨_, e, fun v z => nomatch z⟩
  keep := fun i h h' st k => let ⟨ok, ov, e⟩ := st; ⟨ok, ov, k it (by simp) _ e⟩
  item := by
    intro X hP hw hK hc i pins s σ H E I hf st hg
    subst hP hw hK
    obtain ⟨hd, hi⟩ := hg
    obtain ⟨hs, hgd, hx, es', ep', hdt, hsz, ent⟩ := I.frzT2 hd
    obtain ⟨rfl, rfl⟩ := dict_ep hod hdt
    obtain ⟨⟨k, v⟩, hkv⟩ : ∃ p, kvs[i]? = some p := ⟨kvs[i], List.getElem?_eq_getElem hi⟩
    obtain ⟨en, q, hen, hkey, hq, ru⟩ := ent i k v hkv
    obtain ⟨ok, ov, he⟩ := st
    rw [← hsz] at he
    have hlt : it < s.heap.objs.size := Heap.lt_size he
    have his : i < es'.size := by omega
    have een : es'[i] = en := by rw [Array.getElem?_eq_getElem his] at hen; exact Option.some.inj hen
    refine DT.nextI he ⟨o, hgd, hx, hdt⟩ his fun h' ho hT hz hk => ?_
    rw [een] at ho hT
    refine ⟨_, rfl, wpAny_letOwnedTupleGo_items (s := { s with heap := h' }) ho fun h'' he' sb => ?_⟩
    have hT2 : h''.get? s.heap.objs.size = some { cls := .type "tuple", data := .seq #[en.key, en.val] } := (sb.2 _ (Nat.ne_of_gt hlt)).trans hT
    have new : ObjOk X.prog X.w (upd H s.heap.objs.size (.tup [.ref q, v])) h'' s.heap.objs.size (.tup [.ref q, v]) :=
      ⟨by show 2 ≤ sizeLine; decide, [en.key, en.val], .cons (by rw [hkey]; rfl) (.cons ru .nil), ⟨_, hT2, rfl, _, rfl⟩⟩
    have I1 : Inv X pins σ (upd H s.heap.objs.size (.tup [.ref q, v])) { s with heap := h'' } :=
      I.turnedNew (t' := s.toks) (ch := [it]) (fun b ob hb e => (sb.2 b (by simpa using hb)).trans (hk b ob (by simpa using hb) e)) hf (Nat.le_refl _) new
    refine ⟨.ref s.heap.objs.size, _, I1, rfl, ⟨_, k, v, q, hkv, rfl, I.hok.fresh (Nat.le_refl _), hq, rfl⟩, ⟨en.key, en.val, ?_⟩, fun b hb => ?_⟩
    · rw [← hsz]; exact he'
    · have e : b = it := by simpa using hb
      rw [e, upd_ne (Nat.ne_of_lt hlt)]
      exact (hf it (by simp)).1
  done := by
    intro X hP hw hK hc i pins s σ H E I hf st hg
    subst hP hw hK
    obtain ⟨hd, hi⟩ := hg
    obtain ⟨f0, f1, f2, f3, f4, f5⟩ := hf it (by simp)
    obtain ⟨hs, hgd, hx, es', ep', hdt, hsz, ent⟩ := I.frzT2 hd
    obtain ⟨rfl, rfl⟩ := dict_ep hod hdt
    obtain ⟨ok, ov, he⟩ := st
    rw [← hsz] at he
    exact DT.endI (I.ok.hd hc) he ⟨o, hgd, hx, hdt⟩ (by omega) fun h' eb => ⟨rfl, I.turned (t' := s.toks) (fun b ob hb e => eb b ob hb e) f0 f1 f3 f4 f5⟩
  self := fun A i s Q E st h => let ⟨_, _, e⟩ := st; PySem.W.kcp_self e h
end
def iItemsT (td : TE) : TI := fun σ H R => td σ H fun x H1 => ∃ d o kvs, x = .ref d ∧ H1 d = some (.frz o (.dT kvs)) ∧ R (ItiT d o kvs) H1
section
variable {X : Cx} {tg e : Expr} {td : TE} {apos cpos : Pos}
theorem pi_itemsT {elts : List Expr} {kk : Nat} {tpos : Pos} (he : PE X e td) (hbase : attributeBase e "items" X.env (eval e X.env) = eval e X.env := by rfl) (hline : (apos.endLine == cpos.line) = true := by rfl) :
    PI X (.Tuple elts kk tpos) (.Call (.Attribute e "items" apos) [] [] cpos) (iItemsT td) := by
  refine ⟨fun pins s σ H R I h => ?_⟩
  refine wpAny_Call_method (T := "dict") (id := "dict.items") hbase rfl hline F.plainAttrs_dict F.slot_dict_items F.type_dict_items (thn (he.run pins s σ H _ I h) fun u s1 ⟨x, H1, I1, rx, d, o, kvs, ex, hd, q⟩ => ?_)
  subst ex
  obtain rfl : u = Value.ref d := rx
  obtain ⟨hs, hgd, hx, es, ep, hdt, hsz, ent⟩ := I1.frzT2 hd
  have raw : DT.Raw s1.heap d es ep := ⟨o, hgd, hx, hdt⟩
  refine ⟨raw.typeIs, fun b q => by cases q; exact ⟨o, hgd, hx.2.1⟩, ?_⟩
  have I2 : Inv X pins σ H1 { s1 with heap := s1.heap.push { cls := .type "dict_items", data := .fields #[.ref d] } } := I1.kept (t' := s1.toks) fun b ob q => Heap.get?_push_of_some _ q
  have fin : wpAny (model X.prog X.w) X.A (pyIter (.ref s1.heap.objs.size)) (PIE X pins σ (.Tuple elts kk tpos) R) X.xe { s1 with heap := s1.heap.push { cls := .type "dict_items", data := .fields #[.ref d] } } := by
    refine DT.iterI (d := d) ⟨_, Heap.get?_push_size _ rfl, rfl, rfl⟩ (raw.push _) (pi_one (tk := s1.toks) I2 _ (turn_itemsT _ hdt) ⟨.none, .none, ?_⟩ q)
    rw [← hsz]
    exact Heap.get?_push_size _ rfl
  show wpAny _ _ (callWith cpos (.builtin "dict.items") [.ref d] [] []) _ X.xe s1
  exact method_meetsIn F.slot_dict_items F.entry_dict_items rfl (PySem.evalArgs_none ⟨rfl, raw.typeIs, F.args_dict_items_1 _, _, DT.meetsItems (es := es) (ep := ep) hs, ⟨raw, fin⟩⟩)
end
end L2
set_option Elab.async false
set_option linter.all false
set_option autoImplicit false
set_option maxRecDepth 100000
set_option maxHeartbeats 1000000
namespace L2.DL
open PySem PySem.Spec PyProof.Rows
def rSortedA (K : PySem.W.Frag) : List V → Hp → VK → Prop := fun vs H Q => ∃ (a : Addr) (ns : List Int), vs = [V.ref a] ∧ SqL K H a (ns.map V.int) ∧
  ∀ (ns' : List Int) (p : Addr), ns'.Perm ns → ns'.Pairwise (· ≤ ·) → H p = none → Q (.ref p) (upd H p (.lst (ns'.map V.int)))
theorem cr_sortedA {X : Cx} : CallR X (.builtin "sorted") (rSortedA X.K) := by
  intro pins s σ H vs us Q I r h
  obtain ⟨a, ns, rfl, hs, q⟩ := h
  obtain ⟨its, rv, hl, hz⟩ := I.list hs
  rw [Vals.ref1 r]
  have hi := rv.ints
  refine PyProof.Rows.sorted_intsAny hl.isList hi (by rw [← rv.length]; exact hz) fun out ns' h1 h2 h3 => ?_
  obtain ⟨ep, he'⟩ := PyProof.Rows.sortedAll_at s.heap its out
  have hlen : (ns'.map V.int).length ≤ sizeLine := by rw [List.length_map, h2.length_eq, ← List.length_map (f := V.int)]; exact hz
  exact ⟨.ref _, upd H (s.heap.objs.size + 1) (.lst (ns'.map V.int)), I.laid (t' := s.toks) (fun _ _ => PyProof.Rows.sortedAll_old) (Nat.le_succ _) ⟨hlen, out.toList, ep, vals_of_ints h1, he'⟩, rfl, q ns' _ h2 h3 (I.hok.fresh (Nat.le_succ _))⟩
section
variable {K : PySem.W.Frag}
def dSortLA (ds : List D) (Q : Res → Prop) : Prop := ∃ ns : List Int, ds = [.lst (ns.map .int)] ∧ ∀ ns' : List Int, ns'.Perm ns → ns'.Pairwise (· ≤ ·) → Q (.own (ns'.map .int))
theorem cd_sortLA : CallD K (rSortedA K) dSortLA := by
  intro S F H xs ds QD Q s r ⟨ns, e, h⟩ k
  subst e
  match r with
  | .cons (.lst h1 r1) .nil =>
    have e := Reps.of_ints r1
    subst e
    exact ⟨_, ns, rfl, h1.sq s, fun ns' p hp hs hl => k _ _ F (.own _) (.own s hl) ⟨p, _, rfl, hl, upd_same, free_of s hl, .lst Reps.ints⟩ (h ns' hp hs)⟩
end
end L2.DL
set_option Elab.async false
set_option linter.all false
set_option autoImplicit false
set_option maxRecDepth 100000
set_option maxHeartbeats 1000000
set_option backward.match.sparseCases false
namespace L2.DL
open PySem PySem.Spec PyProof.Rows
/-- the pairs, as data -/
def itemsD (kds : List (TK × D)) : List D := kds.map fun kv => .tup [kTup kv.1, kv.2]
theorem walk_itemsT {K : PySem.W.Frag} {S : Src} {F1 : Hp} {a : Addr} {ob : Obj} {kvs : List (TK × V)} {kds : List (TK × D)} (h : F1 a = some (.frz ob (.dT kvs))) (hk : kvs.map (·.1) = kds.map (·.1)) (hr : Reps K S F1 (kvs.map (·.2)) (kds.map (·.2))) : Walk K S (ItiT a ob kvs) F1 (itemsD kds) where
  go := fun F H i d l1 l2 hd => by
    have hH := l2 _ _ (l1 _ _ h)
    have hlen := keysT_len hk
    unfold itemsD at hd
    rw [List.getElem?_map] at hd
    cases e : kds[i]? with
    | none => rw [e] at hd; cases hd
    | some kd =>
      rw [e] at hd
      cases hd
      have hi := (List.getElem?_eq_some_iff.mp e).1
      refine ⟨⟨hH, by omega⟩, fun x H' y => ?_⟩
      obtain ⟨T, k, v, q, e2, rfl, e4, e5, rfl⟩ := y
      have ek : k = kd.1 := by
        have z := congrArg (fun l => l[i]?) hk
        simp only [List.getElem?_map, e, e2, Option.map_some] at z
        exact Option.some.inj z
      have rv : Rep K S F1 v kd.2 := by
        obtain ⟨v', z1, z2⟩ := hr.get (i := i) (d := kd.2) (by rw [List.getElem?_map, e]; rfl)
        rw [List.getElem?_map, e2] at z1
        cases z1
        exact z2
      obtain ⟨F', pe, eb⟩ := PExt.learn l2 e5
      have pe2 : PExt F' H (upd F' T (.tup [.ref q, v])) (upd H T (.tup [.ref q, v])) := PExt.new pe.sub e4
      refine ⟨_, pe.trans pe2, .tup upd_same (.cons ?_ (.cons (rv.mono (l1.trans (pe.ff.trans pe2.ff))) .nil))⟩
      refine Rep.mono pe2.ff ?_
      rw [ek] at eb
      exact .tup eb (reps_keys kd.1)
  stop := fun F H i l1 l2 hl => ⟨l2 _ _ (l1 _ _ h), by unfold itemsD at hl; rw [List.length_map] at hl; rw [keysT_len hk]; exact hl⟩
def dItIT (te : DTE) : DTI := fun ρ Q => te ρ fun r ρ1 => ∃ kds, fz r = .dcL kds ∧ Q (itemsD kds) ρ1
def dIxTO (i : Nat) (ty : DTE) : DTE := fun ρ Q => (∃ kds, ρ[i]? = some (Sl.o (.dcT kds))) ∧ ty ρ fun r2 ρ2 => ∃ kds k d, ρ2[i]? = some (Sl.o (.dcT kds)) ∧ keyT (fz r2) = some k ∧ valT kds k = some d ∧ Q (.v d) ρ2
def dInKO (neg : Bool) (i : Nat) (ty : DTE) : DTE := fun ρ Q => ty ρ fun r ρ1 => ∃ kds k, ρ1[i]? = some (Sl.o (.dcT kds)) ∧ keyT (fz r) = some k ∧ Q (.v (.bl (if neg then !(valT kds k).isSome else (valT kds k).isSome))) ρ1
def dGet1T (td ty : DTE) : DTE := fun ρ Q => td ρ fun r ρ1 => ∃ kds, (fz r = .dcT kds ∨ fz r = .dcL kds) ∧ ty ρ1 fun r2 ρ2 => ∃ k, keyT (fz r2) = some k ∧ Q (.v ((valT kds k).getD .non)) ρ2
section
variable {c : C} {X : Cx} {e o ix f tg : Expr} {te td ty tv tx tk : DTE} {i : Nat} {pos pos' apos cpos p : Pos}
theorem di_itemsT {elts : List Expr} {kk : Nat} {tpos : Pos} (he : PE X e (liftE c te)) (hbase : attributeBase e "items" X.env (eval e X.env) = eval e X.env := by rfl) (hline : (apos.endLine == cpos.line) = true := by rfl) : PI X (.Tuple elts kk tpos) (.Call (.Attribute e "items" apos) [] [] cpos) (liftI c (dItIT te)) :=
  PI_imp (pi_itemsT (froze he) hbase hline) fun σ H R ⟨F, ρ, QD, s, h, k⟩ =>
    ⟨F, ρ, (fun d ρ1 => ∃ kds : List (TK × D), d = .dcL kds ∧ QD (itemsD kds) ρ1), s, h, fun v H1 F1 ρ1 d s1 st1 rv ⟨kds, hd, q⟩ => by
      subst hd
      cases rv with
      | dcL h1 h2 h3 => exact ⟨_, _, _, rfl, s1.sub _ _ h1, k _ H1 F1 ρ1 _ s1 st1 (walk_itemsT h1 h2 h3) q⟩⟩
theorem de_ixTO (hu : X.A.units + 1 < cLine) (ho : PE X o (tVar i)) (hi : PE X ix (liftE c ty)) (hs : NoSl ix) : PE X (.Subscript o ix pos) (liftE c (dIxTO i ty)) :=
  PE_imp (pe_dget hu ho (froze hi) hs) fun σ H Q ⟨F, ρ, QD, s, ⟨⟨kds0, hi0⟩, h⟩, k⟩ => by
    obtain ⟨a, ob, e1, e2, e3, e4, e5, e6⟩ := s.ow i _ hi0
    refine ⟨.ref a, e1, F, ρ, (fun d2 ρ2 => ∃ kds k d', ρ2[i]? = some (Sl.o (.dcT kds)) ∧ keyT d2 = some k ∧ valT kds k = some d' ∧ QD (.v d') ρ2), s, h, fun y H2 F2 ρ2 d2 s2 st2 ry ⟨kds, k0, d', hi2, hk, hv0, q2⟩ => ?_⟩
    obtain ⟨p', ob', g1, g2, g3, g4, g5, g6⟩ := s2.ow i _ hi2
    rw [e1] at g1
    cases g1
    cases g4 with
    | dcT hk1 hr1 =>
      obtain ⟨v, hv, rv⟩ := (valT_rep (k := k0) hk1 hr1).2 d' hv0
      obtain ⟨bb, rfl, eb⟩ := rep_keyT ry hk
      exact ⟨a, v, rfl, by rw [← hv]; exact DGet.t g2 (s2.sub _ _ eb), k v H2 F2 ρ2 (.v d') s2 st2 rv trivial q2⟩
theorem inKO_lift {neg : Bool} {σ : L2.St} {H : Hp} {Q : VK} (z : liftE c (dInKO neg i ty) σ H Q) : tOp (rInK neg) (liftV c (frz ty)) (tVar i) σ H Q := by
  obtain ⟨F, ρ, QD, s, h, k⟩ := z
  refine ⟨F, ρ, (fun d2 ρ2 => ∃ kds k, ρ2[i]? = some (Sl.o (.dcT kds)) ∧ keyT d2 = some k ∧ QD (.v (.bl (if neg then !(valT kds k).isSome else (valT kds k).isSome))) ρ2), s, h, fun y H2 F2 ρ2 d2 s2 st2 ry ⟨kds, k0, hi2, hk, q2⟩ => ?_⟩
  obtain ⟨a, ob', g1, g2, g3, g4, g5, g6⟩ := s2.ow i _ hi2
  cases g4 with
  | dcT hk1 hr1 =>
    rename_i kvs
    obtain ⟨bb, rfl, eb⟩ := rep_keyT ry hk
    have e : (valV kvs k0).isSome = (valT kds k0).isSome := by
      obtain ⟨n, m⟩ := valT_rep (k := k0) hk1 hr1
      cases z : valT kds k0 with
      | none => rw [n z] <;> rfl
      | some d => obtain ⟨v, hv, _⟩ := m d z; rw [hv]; rfl
    exact ⟨.ref a, g1, a, kvs, k0, bb, rfl, .inl g2, rfl, s2.sub _ _ eb, by rw [e]; exact k _ H2 F2 ρ2 (.v (.bl _)) s2 st2 (.bl _) trivial q2⟩
theorem dt_notInKO (hu : X.A.units + 1 < cLine) (ho : PE X o (tVar i)) (ha : PE X e (liftE c ty)) (hm : behindInMarks .NotIn o = false := by rfl) : PT X (.Compare e [.NotIn] [o] pos) (liftT c (dTst (dInKO true i ty))) :=
  PT_imp (pt_cmpR (op_notInK hu) (froze ha) ho hm) fun σ H Q q => inKO_lift (tst_lift q)
theorem de_get1T (hu : X.A.units + 1 < cLine) (ho : PE X o (liftE c td)) (he : PE X e (liftE c ty))
    (m : M1 X o "get" apos e cpos := by exact ⟨by rfl, by rfl, by rfl, by rfl⟩) : PE X (.Call (.Attribute o "get" apos) [e] [] cpos) (liftE c (dGet1T td ty)) :=
  PE_imp (pe_dget1 hu (froze ho) (froze he) m) fun σ H Q ⟨F, ρ, QD, s, h, k⟩ =>
    ⟨F, ρ, (fun d ρ1 => ∃ kds, (d = .dcT kds ∨ d = .dcL kds) ∧ ty ρ1 fun r2 ρ2 => ∃ k, keyT (fz r2) = some k ∧ QD (.v ((valT kds k).getD .non)) ρ2), s, h, fun x H1 F1 ρ1 d s1 st1 rx ⟨kds, e1, q⟩ => by
      obtain ⟨a, kvs, rfl, h1, h2, h3⟩ := rep_dT rx e1
      refine ⟨a, rfl, .inr ⟨kvs, s1.sub.rd h1⟩, F1, ρ1, (fun d2 ρ2 => ∃ k, keyT d2 = some k ∧ QD (.v ((valT kds k).getD .non)) ρ2), s1, q, fun y H2 F2 ρ2 d2 s2 st2 ry ⟨k0, hk, q2⟩ => ?_⟩
      obtain ⟨bb, rfl, eb⟩ := rep_keyT ry hk
      have h3' := Reps.mono st2.ff h3
      obtain ⟨v1, v2⟩ := valT_rep (k := k0) h2 h3'
      refine ⟨_, .inr ⟨kvs, k0, bb, s2.sub.rd (st2.ff.rd h1), rfl, s2.sub _ _ eb, rfl⟩, ?_⟩
      cases e : valT kds k0 with
      | none =>
        rw [v1 e]
        rw [e] at q2
        exact k .non H2 F2 ρ2 (.v .non) s2 (st1.trans st2) .non trivial q2
      | some d' =>
        obtain ⟨w, hw, rw'⟩ := v2 d' e
        rw [hw]
        rw [e] at q2
        exact k w H2 F2 ρ2 (.v d') s2 (st1.trans st2) rw' trivial q2⟩
end
end L2.DL
set_option Elab.async false
set_option linter.all false
set_option autoImplicit false
set_option maxRecDepth 100000
set_option maxHeartbeats 1000000
set_option backward.match.sparseCases false
namespace L2
open PySem PySem.W PySem.Calls PyProof.Rows PyProof.V PySem.Spec
section
variable {X : Cx}
def rSortDA (xs : List V) (H : Hp) (Q : VK) : Prop := ∃ (a : Addr) (kvs : List (Key × V)) (ks : List Int), xs = [.ref a] ∧ Rd H a (.dK kvs) ∧ kvs.map (·.1) = ks.map Sum.inl ∧
    ∀ (ys : List Int) (p : Addr), ys.Perm ks → ys.Pairwise (· ≤ ·) → H p = none → Q (.ref p) (upd H p (.lst (ys.map V.int)))
theorem call_sortedDA (hcalm : X.calm = true) : CallR X (.builtin "sorted") rSortDA := by
  intro pins s σ H xs us Q I r q
  obtain ⟨a, kvs, ks, ex, hd, hks, q⟩ := q
  subst ex
  obtain ⟨u, eu, rx⟩ := vals1 r
  subst eu
  cases rx
  obtain ⟨z, lo, vs, rel, dd⟩ := dk_rd I.hok hd
  obtain ⟨ep, hat⟩ := dd.dictAt
  have hkeys : vs.map (·.1) = ks.map Sum.inl := rel.keys.symm.trans hks
  have hl : vs.length = ks.length := by
    have e := congrArg List.length hkeys
    rw [List.length_map, List.length_map] at e
    exact e
  have hlk : kvs.length = ks.length := by
    have e := congrArg List.length hks
    rw [List.length_map, List.length_map] at e
    exact e
  have h16 : vs.length ≤ sizeLine := by rw [hl, ← hlk]; exact z
  refine Calls.call_function_entry PyProof.Rows.kind_sorted PyProof.Rows.plain_sorted PyProof.Rows.entry_sorted (PyProof.Rows.args_sorted1 _) ?_
  unfold Builtin.«sorted»
  refine wpAny_bind (m := checkCount "sorted" 1 1 _) (wpAny_pure ?_)
  refine wpAny_bind (PySem.W.kdu_collect (A := X.A.in1) (PySem.W.kdl_dict (knd := mixKind X.prog X.w) (kvs := vs) (ep := ep) lo) (I.ok.hd hcalm) hat h16 fun h' tk acc hk hacc => ?_)
  have hal : acc.toList.length = ks.length := by rw [Array.length_toList, hacc.1, hl]
  have hS : IntsAre acc.toList ks := ints_each hal fun j v e => by
    obtain ⟨k, x, e1, e2⟩ := hacc.2 j v (by rw [← Array.getElem?_toList]; exact e)
    have e3 : (vs.map (·.1))[j]? = some k := by rw [List.getElem?_map, e1]; rfl
    rw [hkeys, List.getElem?_map] at e3
    cases e4 : ks[j]? with
    | none => rw [e4] at e3; cases e3
    | some y =>
      rw [e4] at e3
      have e5 : Sum.inl y = k := Option.some.inj e3
      subst e5
      rcases keyIs_shape (show keyIs (Sum.inl y) v = true from e2) with ⟨i, t, ek, ev⟩ | ⟨z, t, ek, ev⟩
      · cases ek
        exact ⟨y, t, rfl, ev⟩
      · cases ek
  have I1 : Inv X pins σ H { s with heap := h', toks := tk } := I.kept hk
  have hal2 : acc.toList.length ≤ sizeLine := by rw [hal, ← hlk]; exact z
  refine wpAny_bind (wpAny_newList ?_ hal2)
  have hoL : (h'.push (seqObj "list" acc.toList.toArray 0)).get? h'.objs.size = some (seqObj "list" acc.toList.toArray 0) := Heap.get?_push_size _ rfl
  show wpAny _ _ _ _ _ { s with heap := h'.push (seqObj "list" acc.toList.toArray 0), toks := tk }
  refine wpAny_bind (wpAny_holding (wpAny_call_entry PyProof.Rows.slot_list_sort ⟨_, hoL, rfl⟩ PyProof.Rows.entry_list_sort
    (PyProof.Rows.list_sort_treeAny (s := { s with heap := h'.push (seqObj "list" acc.toList.toArray 0), toks := tk }) hoL hS hal2 fun out ys g1 g2 g3 => ⟨_, rfl, ?_⟩) (PyProof.Rows.args_list_sort _)))
  obtain ⟨e', he'⟩ := PyProof.Rows.sortedHeap_at (vs := acc.toList) (out := out) hoL
  have hlen : (ys.map V.int).length ≤ sizeLine := by
    rw [List.length_map, g2.length_eq, ← hlk]
    exact z
  refine wpAny_pure ⟨_, rfl, .ref h'.objs.size, upd H h'.objs.size (.lst (ys.map V.int)), I1.laid (t' := tk) (fun b u e => ?_) (Nat.le_refl _)
    (show ObjOk X.prog X.w _ _ _ (.lst (ys.map V.int)) from ⟨hlen, out.toList, e', vals_of_ints g1, by rw [Array.toArray_toList]; exact he'⟩), rfl, q ys _ g2 g3 (I1.hok.fresh (Nat.le_refl _))⟩
  have hb : b < h'.objs.size := Heap.lt_size e
  rw [PyProof.Rows.sortedHeap_old (Nat.ne_of_lt hb) (by rw [size_push']; exact Nat.lt_succ_of_lt hb)]
  exact Heap.get?_push_of_some _ e
end
end L2
namespace L2.DL
open PySem PySem.Spec PyProof.Rows
/-- sorted(d), d frozen with int keys -/
def dSortDA (ds : List D) (Q : Res → Prop) : Prop := ∃ (kds : List (Key × D)) (ks : List Int), ds = [.dct kds] ∧ kds.map (·.1) = ks.map Sum.inl ∧ ∀ ys : List Int, ys.Perm ks → ys.Pairwise (· ≤ ·) → Q (.own (ys.map .int))
theorem cd_sortDA {K : PySem.W.Frag} : CallD K rSortDA dSortDA := by
  intro S F H xs ds QD Q s r ⟨kds, ks, e, hk, h⟩ k
  subst e
  match r with
  | .cons (.dct (kvs := kvs) h1 h2 h3) .nil =>
    exact ⟨_, kvs, ks, rfl, .inl (s _ _ h1), h2.trans hk, fun ys p hp hs hl => k _ _ F (.own _) (.own s hl) ⟨p, _, rfl, hl, upd_same, free_of s hl, .lst Reps.ints⟩ (h ys hp hs)⟩
end L2.DL
set_option Elab.async false
set_option linter.all false
set_option autoImplicit false
set_option maxRecDepth 100000
set_option maxHeartbeats 1000000
namespace L2.DL
open PySem PySem.Spec PyProof.Rows
def sgnO (o : Int) : Int := if o = 0 then 1 else -1
/-- sum by turns, number of voices (odd or even), changed names: some choice of voices -/
inductive Ch : List Pn → Int → Int → List Str → Prop
  | nil : Ch [] 0 0 []
  | snoc {L : List Pn} {p : Pn} {t o : Int} {ns : List Str} {v : Int} : Ch L t o ns → (v = 0 ∨ v = 1) → Ch (L ++ [p]) (t + sgnO o * v * p.2.1) ((o + v) % 2) (if v = p.2.2 then ns else ns ++ [p.1])
theorem ch_inv {M : List Pn} {t o : Int} {ns : List Str} (h : Ch M t o ns) : ∀ {L : List Pn} {p : Pn}, M = L ++ [p] → ∃ t0 o0 ns0 v, Ch L t0 o0 ns0 ∧ (v = 0 ∨ v = 1) ∧ t = t0 + sgnO o0 * v * p.2.1 ∧ o = (o0 + v) % 2 ∧ ns = if v = p.2.2 then ns0 else ns0 ++ [p.1] := by
  cases h with
  | nil => intro L p e; cases L <;> cases e
  | @snoc L' p' t0 o0 ns0 v h hv =>
    intro L p e
    obtain ⟨e1, e2⟩ := List.append_inj' e rfl
    cases e2
    subst e1
    exact ⟨t0, o0, ns0, v, h, hv, rfl, rfl, rfl⟩
abbrev CE : Type := (Int × Int) × List Str
def encC (e : CE) : TK × D := (ik [e.1.1, e.1.2], .tup (e.2.map .str))
def valC (T : List CE) (s : Int × Int) : Option (List Str) := (T.find? fun e => decide (e.1 = s)).map (·.2)
def putC (T : List CE) (s : Int × Int) (ns : List Str) : List CE :=
  if (T.any fun e => decide (e.1 = s)) = true then T.map (fun e => if e.1 = s then (e.1, ns) else e) else T ++ [(s, ns)]
theorem ik2_iff {a b c d : Int} : ik [a, b] = ik [c, d] ↔ ((a, b) : Int × Int) = (c, d) := by
  constructor
  · intro h
    have := ik_inj h
    simp only [List.cons.injEq, and_true] at this
    rw [this.1, this.2]
  · intro h; cases h; rfl
theorem enc_iff {e : CE} {s : Int × Int} : (encC e).1 = ik [s.1, s.2] ↔ e.1 = s := ik2_iff
theorem valT_enc (s : Int × Int) : ∀ T : List CE, valT (T.map encC) (ik [s.1, s.2]) = (valC T s).map fun ns => .tup (ns.map .str)
  | [] => rfl
  | e :: T => by
    have ih := valT_enc s T
    unfold valT valC at *
    rw [List.map_cons, List.find?_cons, List.find?_cons]
    by_cases h : e.1 = s
    · rw [decide_eq_true (enc_iff.mpr h), decide_eq_true h]; rfl
    · rw [decide_eq_false (fun z => h (enc_iff.mp z)), decide_eq_false h]; exact ih
theorem any_enc (s : Int × Int) (T : List CE) : ((T.map encC).any fun kv => decide (kv.1 = ik [s.1, s.2])) = T.any fun e => decide (e.1 = s) := by
  rw [List.any_map]
  congr 1
  funext e
  exact decide_eq_decide.mpr enc_iff
theorem putT_enc (s : Int × Int) (ns : List Str) (T : List CE) : putT (T.map encC) (ik [s.1, s.2]) (.tup (ns.map .str)) = (putC T s ns).map encC := by
  unfold putT putC
  rw [any_enc]
  split
  · rw [List.map_map, List.map_map]
    refine List.map_congr_left fun e _ => ?_
    show (if (encC e).1 = ik [s.1, s.2] then ((encC e).1, D.tup (ns.map .str)) else encC e) = encC (if e.1 = s then (e.1, ns) else e)
    by_cases h : e.1 = s
    · rw [if_pos (enc_iff.mpr h), if_pos h]; rfl
    · rw [if_neg (fun z => h (enc_iff.mp z)), if_neg h]
  · rw [List.map_append]; rfl
theorem valC_mem {T : List CE} {s : Int × Int} {ns : List Str} (h : valC T s = some ns) : (s, ns) ∈ T := by
  unfold valC at h
  cases e : T.find? fun e => decide (e.1 = s) with
  | none => rw [e] at h; cases h
  | some c =>
    rw [e] at h
    cases h
    have h1 := List.mem_of_find?_eq_some e
    have h2 : c.1 = s := of_decide_eq_true (List.find?_some (p := fun e : CE => decide (e.1 = s)) e)
    rw [← h2]
    exact h1
theorem any_key {T : List CE} {s : Int × Int} : (T.any fun e => decide (e.1 = s)) = true ↔ s ∈ T.map (·.1) := by
  rw [List.any_eq_true, List.mem_map]
  exact ⟨fun ⟨e, h1, h2⟩ => ⟨e, h1, of_decide_eq_true h2⟩, fun ⟨e, h1, h2⟩ => ⟨e, h1, decide_eq_true h2⟩⟩
theorem put_keys {T : List CE} {s : Int × Int} {ns : List Str} : (putC T s ns).map (·.1) = if s ∈ T.map (·.1) then T.map (·.1) else T.map (·.1) ++ [s] := by
  unfold putC
  by_cases h : s ∈ T.map (·.1)
  · rw [if_pos (any_key.mpr h), if_pos h, List.map_map]
    refine List.map_congr_left fun e _ => ?_
    show (if e.1 = s then (e.1, ns) else e).1 = e.1
    split <;> rfl
  · rw [if_neg (fun z => h (any_key.mp z)), if_neg h, List.map_append]; rfl
theorem put_val {T : List CE} {s s' : Int × Int} {ns : List Str} : valC (putC T s ns) s' = if s' = s then some ns else valC T s' := by
  unfold putC
  by_cases h : s ∈ T.map (·.1)
  · rw [if_pos (any_key.mpr h)]
    induction T with
    | nil => cases h
    | cons e T ih =>
      have cons : ∀ (c : CE) (U : List CE), valC (c :: U) s' = if c.1 = s' then some c.2 else valC U s' := fun c U => by
        unfold valC
        rw [List.find?_cons]
        by_cases z : c.1 = s'
        · rw [decide_eq_true z, if_pos z]; rfl
        · rw [decide_eq_false z, if_neg z]
      rw [List.map_cons, cons, cons]
      by_cases e1 : e.1 = s
      · rw [if_pos e1]
        by_cases e2 : s' = s
        · rw [if_pos e2, if_pos (by rw [e2]; exact e1)]
        · rw [if_neg e2, if_neg (fun z => e2 (by rw [← e1]; exact z.symm)), if_neg (fun z => e2 (by rw [← e1]; exact z.symm))]
          by_cases m : s ∈ T.map (·.1)
          · have := ih m
            rw [if_neg e2] at this
            exact this
          · congr 1
            refine (List.map_congr_left fun c hc => ?_).trans (List.map_id T)
            rw [if_neg fun z => m (List.mem_map.mpr ⟨c, hc, z⟩)]; rfl
      · rw [if_neg e1]
        have m : s ∈ T.map (·.1) := by
          rcases List.mem_cons.mp (show s ∈ e.1 :: T.map (·.1) from h) with z | z
          · exact absurd z.symm e1
          · exact z
        rw [ih m]
        by_cases e2 : s' = s
        · rw [if_pos e2, if_pos e2, if_neg (fun z => e1 (by rw [z, e2]))]
        · rw [if_neg e2, if_neg e2]
  · rw [if_neg (fun z => h (any_key.mp z))]
    unfold valC
    rw [List.find?_append]
    by_cases e2 : s' = s
    · subst e2
      have : (T.find? fun e => decide (e.1 = s')) = none := List.find?_eq_none.mpr fun e he z => h (List.mem_map.mpr ⟨e, he, of_decide_eq_true z⟩)
      rw [this, if_pos rfl, List.find?_cons, decide_eq_true rfl]; rfl
    · rw [if_neg e2, List.find?_cons, decide_eq_false (fun z => e2 z.symm)]
      cases T.find? fun e => decide (e.1 = s') <;> rfl
def updC (T : List CE) (c : CE) : List CE := match valC T c.1 with
  | none => putC T c.1 c.2
  | some ns => if c.2.length < ns.length then putC T c.1 c.2 else T
structure BestC (cs : List CE) (T : List CE) : Prop where
  nd : (T.map (·.1)).Nodup
  low : ∀ c, c ∈ cs → ∃ ns, valC T c.1 = some ns ∧ ns.length ≤ c.2.length
  src : ∀ s ns, valC T s = some ns → (s, ns) ∈ cs
  len : T.length ≤ cs.length
theorem BestC.nil : BestC [] [] := ⟨List.nodup_nil, fun c h => (nomatch h), fun s ns h => (nomatch h), Nat.le_refl _⟩
theorem put_nd {T : List CE} {s : Int × Int} {ns : List Str} (h : (T.map (·.1)).Nodup) : ((putC T s ns).map (·.1)).Nodup := by
  rw [put_keys]
  split
  · exact h
  · rename_i m
    exact List.nodup_append.mpr ⟨h, (by simp), fun a ha b hb e => m (by rw [List.mem_singleton] at hb; rw [← hb, ← e]; exact ha)⟩
theorem BestC.step {cs T : List CE} (h : BestC cs T) (c : CE) : BestC (cs ++ [c]) (updC T c) := by
  have hput : (∀ ns, valC T c.1 = some ns → c.2.length ≤ ns.length) → BestC (cs ++ [c]) (putC T c.1 c.2) := fun hlow => by
    refine ⟨put_nd h.nd, fun d hd => ?_, fun s ns hv => ?_, ?_⟩
    · rw [put_val]
      rcases List.mem_append.mp hd with hd | hd
      · obtain ⟨ns, e1, e2⟩ := h.low d hd
        by_cases z : d.1 = c.1
        · rw [if_pos z]
          exact ⟨c.2, rfl, Nat.le_trans (hlow ns (by rw [← z]; exact e1)) e2⟩
        · rw [if_neg z]; exact ⟨ns, e1, e2⟩
      · rw [List.mem_singleton] at hd
        subst hd
        rw [if_pos rfl]; exact ⟨_, rfl, Nat.le_refl _⟩
    · rw [put_val] at hv
      by_cases z : s = c.1
      · rw [if_pos z] at hv
        cases hv
        subst z
        exact List.mem_append_right _ (List.mem_singleton.mpr rfl)
      · rw [if_neg z] at hv
        exact List.mem_append_left _ (h.src s ns hv)
    · have := congrArg List.length (put_keys (T := T) (s := c.1) (ns := c.2))
      rw [List.length_map] at this
      rw [this, List.length_append, List.length_singleton]
      have := h.len
      split
      · rw [List.length_map]; omega
      · rw [List.length_append, List.length_map, List.length_singleton]; omega
  unfold updC
  cases e : valC T c.1 with
  | none => exact hput fun ns z => by rw [e] at z; cases z
  | some ns =>
    dsimp only
    split
    · rename_i l
      exact hput fun ns' z => by rw [e] at z; cases z; omega
    · rename_i l
      refine ⟨h.nd, fun d hd => ?_, fun s ns' hv => List.mem_append_left _ (h.src s ns' hv), by rw [List.length_append]; have := h.len; omega⟩
      rcases List.mem_append.mp hd with hd | hd
      · exact h.low d hd
      · rw [List.mem_singleton] at hd
        subst hd
        exact ⟨ns, e, by omega⟩
def candV (p : Pn) (e : CE) (v : Int) : CE := ((e.1.1 + sgnO e.1.2 * v * p.2.1, (e.1.2 + v) % 2), if v = p.2.2 then e.2 else e.2 ++ [p.1])
def candL (p : Pn) (T : List CE) : List CE := T.flatMap fun e => [candV p e 0, candV p e 1]
structure ChT (L : List Pn) (T : List CE) : Prop where
  nd : (T.map (·.1)).Nodup
  ok : ∀ s ns, valC T s = some ns → Ch L s.1 s.2 ns
  low : ∀ t o ns, Ch L t o ns → ∃ ns', valC T (t, o) = some ns' ∧ ns'.length ≤ ns.length
  len : T.length ≤ 2 ^ L.length
theorem ChT.nil : ChT [] [((0, 0), [])] := by
  refine ⟨by simp, fun s ns h => ?_, fun t o ns h => ?_, Nat.le_refl _⟩
  · have := valC_mem h
    rw [List.mem_singleton] at this
    cases this
    exact .nil
  · have key : ∀ {M : List Pn}, Ch M t o ns → M = [] → t = 0 ∧ o = 0 ∧ ns = [] := fun {M} h e => by
      cases h with
      | nil => exact ⟨rfl, rfl, rfl⟩
      | snoc _ _ => simp at e
    obtain ⟨rfl, rfl, rfl⟩ := key h rfl
    exact ⟨[], rfl, Nat.le_refl _⟩
theorem cand_len (p : Pn) : ∀ T : List CE, (candL p T).length = 2 * T.length
  | [] => rfl
  | e :: T => by
    have := cand_len p T
    unfold candL at *
    rw [List.flatMap_cons, List.length_append, this, List.length_cons]
    simp only [List.length_cons, List.length_nil]
    omega
theorem nd_val {T : List CE} (h : (T.map (·.1)).Nodup) {e : CE} (he : e ∈ T) : valC T e.1 = some e.2 := by
  induction T with
  | nil => cases he
  | cons c T ih =>
    rw [List.map_cons, List.nodup_cons] at h
    unfold valC
    rw [List.find?_cons]
    rcases List.mem_cons.mp he with rfl | he
    · rw [decide_eq_true rfl]; rfl
    · rw [decide_eq_false fun z => h.1 (by rw [z]; exact List.mem_map_of_mem he)]
      exact ih h.2 he
theorem ChT.step {L : List Pn} {T T' : List CE} {p : Pn} (h : ChT L T) (b : BestC (candL p T) T') : ChT (L ++ [p]) T' := by
  refine ⟨b.nd, fun s ns hv => ?_, fun t o ns hc => ?_, ?_⟩
  · have m := b.src s ns hv
    unfold candL at m
    obtain ⟨e, he, hm⟩ := List.mem_flatMap.mp m
    have ch := h.ok e.1 e.2 (nd_val h.nd he)
    simp only [List.mem_cons, List.not_mem_nil, or_false] at hm
    rcases hm with hm | hm
    · have : Ch (L ++ [p]) _ _ _ := .snoc (p := p) ch (.inl rfl)
      unfold candV at hm
      cases hm
      exact this
    · have : Ch (L ++ [p]) _ _ _ := .snoc (p := p) ch (.inr rfl)
      unfold candV at hm
      cases hm
      exact this
  · obtain ⟨t0, o0, ns0, v, h0, hv, rfl, rfl, rfl⟩ := ch_inv hc rfl
    obtain ⟨ns1, e1, l1⟩ := h.low t0 o0 ns0 h0
    have m := valC_mem e1
    have mc : candV p ((t0, o0), ns1) v ∈ candL p T := by
      unfold candL
      refine List.mem_flatMap.mpr ⟨_, m, ?_⟩
      rcases hv with rfl | rfl <;> simp
    obtain ⟨ns', e2, l2⟩ := b.low _ mc
    refine ⟨ns', e2, Nat.le_trans l2 ?_⟩
    unfold candV
    dsimp only
    split
    · exact l1
    · rw [List.length_append, List.length_append]
      simp only [List.length_singleton]
      omega
  · have := b.len
    rw [cand_len] at this
    have := h.len
    rw [List.length_append, List.length_singleton, Nat.pow_succ]
    omega
theorem altsum_snoc (x : Int) : ∀ l : List Int, altsum (l ++ [x]) = altsum l + (if l.length % 2 = 0 then x else -x)
  | [] => by simp [altsum]
  | y :: l => by
    have ih := altsum_snoc x l
    rw [List.cons_append]
    simp only [altsum, ih, List.length_cons]
    split <;> split <;> omega
/-- t is a sum by turns of an odd number of these -/
def TotP (X : List Int) (t : Int) : Prop := ∃ S : List Int, S.Sublist X ∧ S.length % 2 = 1 ∧ altsum S = t
theorem ch_sub {L : List Pn} {t o : Int} {ns : List Str} (h : Ch L t o ns) : ∃ S : List Int, S.Sublist (L.map fun p => p.2.1) ∧ ((S.length % 2 : Nat) : Int) = o ∧ altsum S = t := by
  induction h with
  | nil => exact ⟨[], List.Sublist.refl _, rfl, rfl⟩
  | @snoc L p t o ns v h hv ih =>
    obtain ⟨S, s1, s2, s3⟩ := ih
    rw [List.map_append]
    rcases hv with rfl | rfl
    · refine ⟨S, s1.trans (List.sublist_append_left _ _), by omega, ?_⟩
      rw [s3, Int.mul_zero, Int.zero_mul, Int.add_zero]
    · refine ⟨S ++ [p.2.1], s1.append (List.Sublist.refl _), ?_, ?_⟩
      · rw [List.length_append, List.length_singleton]; omega
      · rw [altsum_snoc, s3, Int.mul_one]
        unfold sgnO
        by_cases z : S.length % 2 = 0
        · rw [if_pos z, if_pos (by omega)]; omega
        · rw [if_neg z, if_neg (by omega)]; omega
/-- a choice of people: which of them have a voice -/
def chgV (v : Pn → Bool) (p : Pn) : Bool := decide ((if v p = true then (1 : Int) else 0) ≠ p.2.2)
theorem ch_of (v : Pn → Bool) (L : List Pn) : Ch L (altsum ((L.filter v).map fun p => p.2.1)) (((L.filter v).length % 2 : Nat) : Int) ((L.filter (chgV v)).map (·.1)) := by
  have key : ∀ R : List Pn, Ch R.reverse (altsum ((R.reverse.filter v).map fun p => p.2.1)) (((R.reverse.filter v).length % 2 : Nat) : Int) ((R.reverse.filter (chgV v)).map (·.1)) := by
    intro R
    induction R with
    | nil => exact .nil
    | cons p R ih =>
      rw [List.reverse_cons]
      generalize R.reverse = L at ih ⊢
      have st := Ch.snoc (p := p) (v := if v p = true then 1 else 0) ih (by split <;> simp)
      rw [List.filter_append, List.filter_append, List.map_append, List.map_append]
      have e3 : ((L.filter (chgV v)).map (·.1)) ++ ([p].filter (chgV v)).map (·.1) = if (if v p = true then (1 : Int) else 0) = p.2.2 then (L.filter (chgV v)).map (·.1) else (L.filter (chgV v)).map (·.1) ++ [p.1] := by
        by_cases z : (if v p = true then (1 : Int) else 0) = p.2.2
        · have : chgV v p = false := by unfold chgV; exact decide_eq_false (fun y => y z)
          rw [if_pos z, List.filter_cons_of_neg (by rw [this]; exact Bool.false_ne_true)]
          simp
        · have : chgV v p = true := by unfold chgV; exact decide_eq_true z
          rw [if_neg z, List.filter_cons_of_pos this]
          simp
      rw [e3]
      cases hv : v p with
      | false =>
        rw [hv] at st
        rw [List.filter_cons_of_neg (by rw [hv]; exact Bool.false_ne_true)]
        simp only [List.filter_nil, List.map_nil, List.append_nil, Bool.false_eq_true, if_false] at st ⊢
        rw [Int.mul_zero, Int.zero_mul, Int.add_zero] at st
        have : (((L.filter v).length % 2 : Nat) : Int) = ((((L.filter v).length % 2 : Nat) : Int) + 0) % 2 := by omega
        rw [this]
        exact st
      | true =>
        rw [hv] at st
        rw [List.filter_cons_of_pos hv]
        simp only [List.filter_nil, List.map_cons, List.map_nil, if_true] at st ⊢
        rw [altsum_snoc, List.length_map, List.length_append, List.length_singleton]
        have e1 : ((((L.filter v).length + 1) % 2 : Nat) : Int) = ((((L.filter v).length % 2 : Nat) : Int) + 1) % 2 := by omega
        have e2 : (if (L.filter v).length % 2 = 0 then p.2.1 else -p.2.1) = sgnO (((L.filter v).length % 2 : Nat) : Int) * 1 * p.2.1 := by
          unfold sgnO
          by_cases z : (L.filter v).length % 2 = 0
          · rw [if_pos z, if_pos (by omega)]; omega
          · rw [if_neg z, if_neg (by omega)]; omega
        rw [e1, e2]
        exact st
  have := key L.reverse
  rwa [List.reverse_reverse] at this
theorem ch_to {L : List Pn} {t o : Int} {ns : List Str} (h : Ch L t o ns) : L.Nodup → ∃ v : Pn → Bool, t = altsum ((L.filter v).map fun p => p.2.1) ∧ o = (((L.filter v).length % 2 : Nat) : Int) ∧ ns = (L.filter (chgV v)).map (·.1) := by
  induction h with
  | nil => exact fun _ => ⟨fun _ => false, rfl, rfl, rfl⟩
  | @snoc L p t o ns v h hv ih =>
    intro nd
    rw [List.nodup_append] at nd
    have pn : p ∉ L := fun z => nd.2.2 p z p (List.mem_singleton.mpr rfl) rfl
    obtain ⟨w, e1, e2, e3⟩ := ih nd.1
    refine ⟨fun q => if q = p then decide (v = 1) else w q, ?_⟩
    have c1 : L.filter (fun q => if q = p then decide (v = 1) else w q) = L.filter w := List.filter_congr fun q hq => by rw [if_neg (fun z => pn (by rw [← z]; exact hq))]
    have c2 : L.filter (chgV fun q => if q = p then decide (v = 1) else w q) = L.filter (chgV w) := List.filter_congr fun q hq => by
      have : q ≠ p := fun z => pn (by rw [← z]; exact hq)
      unfold chgV
      simp only [this, if_false]
    have ch := ch_of (fun q => if q = p then decide (v = 1) else w q) (L ++ [p])
    obtain ⟨t0, o0, ns0, u, k0, ku, k1, k2, k3⟩ := ch_inv ch rfl
    rw [List.filter_append, List.filter_append, c1, c2, List.map_append, List.map_append]
    rcases hv with rfl | rfl
    · have f1 : [p].filter (fun q => if q = p then decide ((0 : Int) = 1) else w q) = [] := by
        rw [List.filter_cons_of_neg (by rw [if_pos rfl]; decide)]; rfl
      have g : chgV (fun q => if q = p then decide ((0 : Int) = 1) else w q) p = decide ((0 : Int) ≠ p.2.2) := by unfold chgV; simp
      rw [f1, List.map_nil, List.append_nil, List.append_nil]
      refine ⟨by rw [← e1]; rw [Int.mul_zero, Int.zero_mul, Int.add_zero], by omega, ?_⟩
      by_cases z : (0 : Int) = p.2.2
      · rw [if_pos z, List.filter_cons_of_neg (by rw [g]; simp [← z]), ← e3]; simp
      · rw [if_neg z, List.filter_cons_of_pos (by rw [g]; exact decide_eq_true z), ← e3]; simp
    · have f1 : [p].filter (fun q => if q = p then decide ((1 : Int) = 1) else w q) = [p] := by
        rw [List.filter_cons_of_pos (by rw [if_pos rfl]; decide)]; rfl
      have g : chgV (fun q => if q = p then decide ((1 : Int) = 1) else w q) p = decide ((1 : Int) ≠ p.2.2) := by unfold chgV; simp
      rw [f1, List.map_cons, List.map_nil, altsum_snoc, List.length_map, List.length_append, List.length_singleton, ← e1]
      refine ⟨?_, by omega, ?_⟩
      · rw [e2]
        unfold sgnO
        by_cases z : (L.filter w).length % 2 = 0
        · rw [if_pos z, if_pos (by omega)]; omega
        · rw [if_neg z, if_neg (by omega)]; omega
      · by_cases z : (1 : Int) = p.2.2
        · rw [if_pos z, List.filter_cons_of_neg (by rw [g]; simp [← z]), ← e3]; simp
        · rw [if_neg z, List.filter_cons_of_pos (by rw [g]; exact decide_eq_true z), ← e3]; simp
end L2.DL
set_option Elab.async false
set_option linter.all false
set_option autoImplicit false
set_option maxRecDepth 100000
set_option maxHeartbeats 1000000
namespace L2.DL
open PySem PySem.Spec PyProof.Rows
def dIndexI (td ty : DTE) : DTE := fun ρ Q => td ρ fun r ρ1 => ∃ ys : List Int, fz r = D.lst (ys.map D.int) ∧ ty ρ1 fun r2 ρ2 => ∃ (z : Int) (j : Nat), fz r2 = D.int z ∧ ys[j]? = some z ∧ (∀ (m : Nat) (z' : Int), m < j → ys[m]? = some z' → z' ≠ z) ∧ Q (.v (.int (j : Nat))) ρ2
end L2.DL
set_option Elab.async false
set_option linter.all false
set_option autoImplicit false
set_option maxRecDepth 100000
set_option maxHeartbeats 2000000
namespace L2.DL
open PySem PySem.Spec PyProof.Rows
local macro_rules | `(tactic| walk_at "ev") => `(tactic| simp only [dSeq, dNext, dSet, dPar, dPar3, dRet, dRetN, dDrop, dIfS, dBrk, dCnt, dApp, dFor, dItL, dItT, dRng1, dRng2, dZip, dEnum, dItS, dAsg, dAugI, dNever, dPutS, dNewD, dFldM, dFldS, dStar,
  dgName, dgTup, dgCons, dgNil, dOp, dUn, dC, dNil, dCons, dCB, dTup, dLst, dIf, dTst, dTru, dAnd, dOr, dNot, dAndV, dOrV, dNotV, dYes, dInR, dFld, dMeth, dCall, dDctIx, dGet2, dRaise, dRaiseZ, dDisp, dPNil, dPCons, dRepD, dTold, dLenSet, hid_u, hid_d, hid_o, dStep2, dSlV, dIxV, dSetV, dPopV, dLenV, dLcV, lstAt, Option.isSome_some, Option.isSome_none, dSl, dNoP, dPart, dLc, dDc, dSortSet, dSortSc, dListVals, dChain, dIsiT2, dCallB, dBor, dNilB, dCBB, dOneL,
  dIsN, dNotN, dStrI, dAbs, dIn, fz_v, fz_l, fz_d, fz_i, fz_m, un_l, un_d, un_i, un_m, sl_v, sl_o, dwipe, and_assoc, insLF, insLT, insFF, insFT, startD, startN, pdT, pdI, gdT, prT, stI, putFD, lendable, noKR, noK, noKs,
  vd0, vo0, rd0, ro0, vd1, vo1, rd1, ro1, vd2, vo2, rd2, ro2, vd3, vo3, rd3, ro3, vd4, vo4, rd4, ro4, vd5, vo5, rd5, ro5, vd6, vo6, rd6, ro6, vd7, vo7, rd7, ro7, vd8, vo8, rd8, ro8, vd9, vo9, rd9, ro9, vd10, vo10, rd10, ro10, vd11, vo11, rd11, ro11, vd12, vo12, rd12, ro12, vd13, vo13, rd13, ro13, vd14, vo14, rd14, ro14, vd15, vo15, rd15, ro15, vd16, vo16, rd16, ro16, vd17, vo17, rd17, ro17, vd18, vo18, rd18, ro18, vd19, vo19, rd19, ro19, vd20, vo20, rd20, ro20, vd21, vo21, rd21, ro21, vd22, vo22, rd22, ro22, vd23, vo23, rd23, ro23, lk_people, lk_names, lk_has_name, lk_person, lk_place, lk_voice, lk_places, lk_at, lk_line, lk_voices, lk_is_together, lk_own, lenL, lenT, lenS, ixL, ixT, ixS, dcutL, dcutS, addII, addSS, addLL, int1i, int1b, negI, reprL, reprT, absI, sc_n, sc_b, sc_i, sc_s, subI, mulI, fdvI, modI, powI, ltI, leI, gtI, geI, tr_n, tr_b, tr_i, tr_l, tr_t, tr_d, ty_n, ty_b, ty_i, ty_s, ty_l, ty_t, ty_d, in_n, in_b, in_i, in_s, in_l, in_t, in_d, eqII, neII, eqSS, neSS, eqBB, neBB, isic_n, isic_b, isic_i, isic_s, isic_l, isic_t, isic_d, isio_n, isio_b, isio_i, isio_s, isio_l, isio_t, isio_d, isic_I, isic_S, isic_T, isic_L, isic_B, isio_I, dIsiO, isi_ii, isi_ib, isi_is, isi_il, isi_bi, isi_bb, isi_bs, isi_si, isi_sb, isi_ss, isi_ni, isi_nb, isi_ns, isi_li, isi_lb, isi_ls, isi_ll, isi_ti, isi_tb, isi_ts, isi_tt, isi_di, isi_db, isi_ds, isi_lt, isi_tl, isi_bt, isi_nt, isi_dt, eqLL, neLL, eqTT, neTT, isi_sl, isi_st, isi_it, kit_ll, kit_lt, max2, min2, get1, get2b, get3b, get3c,
  List.map_cons, List.map_nil, List.length_cons, List.length_nil, List.replicate, List.append_nil, List.cons_append, List.nil_append, List.getElem?_cons_zero, List.getElem?_cons_succ, List.set_cons_zero, List.set_cons_succ, List.getElem?_nil, Nat.sub_zero, Nat.reduceAdd, Nat.reduceSub, Int.reduceLT, Int.reduceLE, Int.reduceNeg, Nat.zero_add,
  true_and, and_true, eq_self, Bool.true_or, Bool.or_true, Bool.false_or, Bool.or_false, Bool.true_and, Bool.and_true, Bool.false_and, Bool.and_false, exists_eq_left, exists_eq_left', exists_eq', exists_eq, Option.some.injEq, Res.v.injEq, D.bl.injEq, D.int.injEq, D.str.injEq, D.lst.injEq, D.tup.injEq, D.dct.injEq, D.ins.injEq, Sl.o.injEq, Sl.d.injEq, List.cons.injEq, reduceCtorEq, false_or, or_false, if_true, if_false, Bool.false_eq_true, Bool.not_true, Bool.not_false, ite_true, ite_false, decide_true, decide_false, and_self, List.isEmpty_nil, List.isEmpty_cons, exists_and_left, exists_const, lenNil, reprWL, reprAA, dZipLT, min3R, isBR, notBR, pcT, wtT, wtI, pcI, dIsiT2O, dCallBL, lrgR, lrg1R, dNewT, dLk, dDispT1, dNeE, dPutT, dGetT, dLenT, dVarK, dItKT, dIxT, dLenTD, dKeysT, un_dT, un_dL, fzR, lz3R, dThenFz, dNest, dOwnL, dEqO, hideO, dOpV, dRevL, dGetS, dLkI, dItKI, dIxI, dGetI, dInI, dIndexI, dTryG, dSh, dToldG, wrD, reprXX, dMinDf, dPutN, dPar3C, dTcat, dSlT, dListValsT, dOrK, dTChain3, dCall3, dZip3, dItIT, dIxTO, dInKO, dGet1T, dSortDA])
def srtP (ps : List Pn) : List Int := (lineL ps).map fun p => p.2.1
def AscTot (ps : List Pn) (ys : List Int) : Prop := ys.Pairwise (· < ·) ∧ ∀ t, t ∈ ys ↔ TotP (srtP ps) t
def sp_changes_by_sums (C : Nm) : DSp := fun ds Q X => ∃ ps : List Pn, ds = [stD C ps] ∧ Wf ps ∧ ps.length ≤ 12 ∧ ∀ T, ChT (lineL ps) T → Q (.v (.dcL (T.map encC)))
def sp_places_by_voices (C : Nm) : DSp := fun ds Q X => ∃ ps : List Pn, ds = [stD C ps] ∧ Wf ps ∧ ps.length ≤ 12 ∧ ∀ ys, AscTot ps ys → Q (.own (ys.map .int))
def sp_wished_voices (C : Nm) : DSp := fun ds Q X => ∃ (ps : List Pn) (t : Int), ds = [stD C ps, .int t] ∧ Wf ps ∧ ps.length ≤ 12 ∧ (∀ ns, Ch (lineL ps) t 1 ns → (∀ ns', Ch (lineL ps) t 1 ns' → ns.length ≤ ns'.length) → Q (.v (.tup [.str "voices", .tup (ns.map .str)]))) ∧ ((∀ ns, ¬ Ch (lineL ps) t 1 ns) → Q (.v .non))
def t_changes_by_sums (K : PySem.W.Frag) (C : Nm) (XD : DX) : DTS := (dSeq (dSet 1 (dLk (dDispT1 (dTup (dCons (dC (.int 0)) (dCons (dC (.int 0)) dNil))) (dTup dNil))))
      (dSeq (dFor (dItL (dMeth (C ("Standing" : Str)) ("line" : Str) (sp_Standing_line C) XD (dVar 0) dNil)) (dgName 2) (dSeq (dPar3 3 4 5 (dMeth (C ("Standing" : Str)) ("place" : Str) (sp_Standing_place C) XD (dVar 0) (dCons (dVar 2) dNil)) (dMeth (C ("Standing" : Str)) ("voice" : Str) (sp_Standing_voice C) XD (dVar 0) (dCons (dVar 2) dNil)) dNewT)
      (dSeq (dFor (dItIT (dVar 1)) (dgTup 2 (dgCons (dgTup 2 (dgCons (dgName 6) (dgCons (dgName 7) dgNil))) (dgCons (dgName 8) dgNil))) (dFor (dItT (dTup (dCons (dC (.int 0)) (dCons (dC (.int 1)) dNil)))) (dgName 9) (dSeq (dSet 10 (dOp dMul (dIf (dTst (dOp dEq2 (dVar 7) (dC (.int 0)))) (dC (.int 1)) (dUn dNeg (dC (.int 1)))) (dVar 9)))
      (dSeq (dSet 11 (dTup (dCons (dOp dAdd (dVar 6) (dOp dMul (dVar 10) (dVar 3))) (dCons (dOp dMod (dOp dAdd (dVar 7) (dVar 9)) (dC (.int 2))) dNil))))
      (dSeq (dSet 12 (dIf (dTst (dOp dEq2 (dVar 9) (dVar 4))) (dVar 8) (dTup (dStar (dVar 8) (dCons (dVar 2) dNil)))))
      (dIfS (dOr (dTst (dInKO true 5 (dVar 11))) (dTst (dOp dLt (dCB dLen (dCons (dVar 12) dNil)) (dCB dLen (dCons (dIxTO 5 (dVar 11)) dNil))))) (dPutT 5 (dVar 11) (dVar 12)) dNext))))))
      (dSet 1 (dVarK 5)))))
      (dRetVar 1)))
def t_places_by_voices (K : PySem.W.Frag) (C : Nm) (XD : DX) : DTS := (dRet (dCB dSortLA (dCons (dLc (dItKT (dCall (sp_changes_by_sums C) XD (dCons (dVar 0) dNil))) (dgTup 2 (dgCons (dgName 1) (dgCons (dgName 2) dgNil))) (dTst (dOp dEq2 (dVar 2) (dC (.int 1)))) (dVar 1) [1, 2]) dNil)))
def t_wished_voices (K : PySem.W.Frag) (C : Nm) (XD : DX) : DTS := (dSeq (dSet 2 (dGet1T (dCall (sp_changes_by_sums C) XD (dCons (dVar 0) dNil)) (dTup (dCons (dVar 1) (dCons (dC (.int 1)) dNil)))))
      (dRet (dIf (dTst (dOp dIsN (dVar 2) (dC .non))) (dC .non) (dTup (dCons (dC (.str ("voices" : Str))) (dCons (dVar 2) dNil))))))
def itC (e : CE) : D := .tup [.tup [.int e.1.1, .int e.1.2], .tup (e.2.map .str)]
theorem items_enc (T : List CE) : itemsD (T.map encC) = T.map itC := by
  unfold itemsD
  rw [List.map_map]
  refine List.map_congr_left fun e _ => ?_
  show D.tup [kTup (ik [e.1.1, e.1.2]), .tup (e.2.map .str)] = _
  rw [kTup_ints]
  rfl
section
variable {K : PySem.W.Frag} {C : Nm} {XD : DX} {ds : List D} {QD : Res → Prop}
theorem plS {ps : List Pn} {p : Pn} {Q : Res → Prop} {X : DX} (hw : Wf ps) (hp : p ∈ ps) (q : Q (.v (.int p.2.1))) : sp_Standing_place C [stD C ps, .str p.1] Q X := by
  have e : findD ps (.str p.1) = some p := find_mem hw.nd hp
  exact ⟨ps, _, rfl, hw, .word (hw.word p hp), fun p' h => by rw [e] at h; cases h; exact q, fun h => by rw [e] at h; cases h⟩
theorem voS' {ps : List Pn} {p : Pn} {Q : Res → Prop} {X : DX} (hw : Wf ps) (hp : p ∈ ps) (q : Q (.v (.int p.2.2))) : sp_Standing_voice C [stD C ps, .str p.1] Q X := by
  have e : findD ps (.str p.1) = some p := find_mem hw.nd hp
  exact ⟨ps, _, rfl, hw, .word (hw.word p hp), fun p' h => by rw [e] at h; cases h; exact q, fun h => by rw [e] at h; cases h⟩
def kyC (e : CE) : D := .tup [.int e.1.1, .int e.1.2]
theorem keys_enc (T : List CE) : keysD (T.map encC) = T.map kyC := by
  unfold keysD
  rw [List.map_map, List.map_map]
  refine List.map_congr_left fun e _ => ?_
  show kTup (ik [e.1.1, e.1.2]) = _
  rw [kTup_ints]
  rfl
theorem filter_sub {l L : List Pn} (h : l.Sublist L) : L.Nodup → L.filter (fun p => decide (p ∈ l)) = l := by
  induction h with
  | slnil => exact fun _ => rfl
  | @cons l L a h ih =>
    intro nd
    rw [List.nodup_cons] at nd
    rw [List.filter_cons_of_neg (by rw [decide_eq_true_eq]; exact fun z => nd.1 (h.subset z))]
    exact ih nd.2
  | @cons_cons l L a h ih =>
    intro nd
    rw [List.nodup_cons] at nd
    rw [List.filter_cons_of_pos (by rw [decide_eq_true_eq]; exact List.mem_cons_self)]
    congr 1
    refine Eq.trans (List.filter_congr fun q hq => ?_) (ih nd.2)
    refine decide_eq_decide.mpr ⟨fun z => ?_, fun z => List.mem_cons_of_mem _ z⟩
    rcases List.mem_cons.mp z with rfl | z
    · exact absurd hq nd.1
    · exact z
theorem line_nd {ps : List Pn} (hw : Wf ps) : (lineL ps).Nodup := (line_perm ps).nodup_iff.mpr ((List.pairwise_map.mp hw.nd).imp fun h e => h (by rw [e]))
theorem tot_ch {ps : List Pn} (hw : Wf ps) {t : Int} : TotP (srtP ps) t ↔ ∃ ns, Ch (lineL ps) t 1 ns := by
  constructor
  · rintro ⟨S, s1, s2, s3⟩
    unfold srtP at s1
    obtain ⟨l, h1, h2⟩ := List.sublist_map_iff.mp s1
    have := ch_of (fun p => decide (p ∈ l)) (lineL ps)
    rw [filter_sub h1 (line_nd hw), ← h2, s3] at this
    have e : ((l.length % 2 : Nat) : Int) = 1 := by
      rw [h2, List.length_map] at s2
      omega
    rw [e] at this
    exact ⟨_, this⟩
  · rintro ⟨ns, h⟩
    obtain ⟨S, s1, s2, s3⟩ := ch_sub h
    exact ⟨S, s1, by omega, s3⟩
theorem asc_of {ps : List Pn} (hw : Wf ps) {T : List CE} (hT : ChT (lineL ps) T) {ys : List Int} (hp : ys.Perm ((T.filter fun e => decide (e.1.2 = 1)).map (·.1.1))) (hs : ys.Pairwise (· ≤ ·)) : AscTot ps ys := by
  have nd : ((T.filter fun e => decide (e.1.2 = 1)).map (·.1.1)).Nodup := by
    have h1 : ((T.filter fun e => decide (e.1.2 = 1)).map (·.1)).Nodup := hT.nd.sublist (List.filter_sublist.map _)
    rw [List.nodup_iff_pairwise_ne, List.pairwise_map] at h1 ⊢
    refine h1.imp_of_mem fun {a b} ha hb hne e => hne ?_
    have a1 := of_decide_eq_true (List.mem_filter.mp ha).2
    have b1 := of_decide_eq_true (List.mem_filter.mp hb).2
    exact Prod.ext e (a1.trans b1.symm)
  refine ⟨?_, fun t => ?_⟩
  · have ny := hp.nodup_iff.mpr nd
    rw [List.nodup_iff_pairwise_ne] at ny
    exact (hs.and ny).imp fun ⟨a, b⟩ => by omega
  · rw [hp.mem_iff, tot_ch hw, List.mem_map]
    constructor
    · rintro ⟨e, he, rfl⟩
      obtain ⟨h1, h2⟩ := List.mem_filter.mp he
      have h2 := of_decide_eq_true h2
      have := hT.ok e.1 e.2 (nd_val hT.nd h1)
      rw [h2] at this
      exact ⟨_, this⟩
    · rintro ⟨ns, h⟩
      obtain ⟨ns', h1, _⟩ := hT.low _ _ _ h
      exact ⟨((t, 1), ns'), List.mem_filter.mpr ⟨valC_mem h1, decide_eq_true rfl⟩, rfl⟩
theorem ch_names {L : List Pn} {t o : Int} {ns : List Str} (h : Ch L t o ns) : ns.length ≤ L.length := by
  induction h with
  | nil => exact Nat.le_refl _
  | snoc h hv ih =>
    rw [List.length_append, List.length_singleton]
    split
    · omega
    · rw [List.length_append, List.length_singleton]; omega
theorem valE (T : List CE) (a b : Int) : valT (T.map encC) (ik [a, b]) = (valC T (a, b)).map fun ns => .tup (ns.map .str) := valT_enc (a, b) T
theorem putE (T : List CE) (a b : Int) (ns : List Str) : putT (T.map encC) (ik [a, b]) (.tup (ns.map .str)) = (putC T (a, b) ns).map encC := putT_enc (a, b) ns T
theorem keyE (a b : Int) : keyT (.tup [.int a, .int b]) = some (ik [a, b]) := keyT_ints [a, b]
theorem names_snoc (ns : List Str) (z : Str) : ns.map D.str ++ [D.str z] = (ns ++ [z]).map D.str := by rw [List.map_append]; rfl
theorem pure_changes_by_sums (h : sp_changes_by_sums C ds QD XD) : t_changes_by_sums K C XD { nx := fun _ => QD (.v .non), rt := QD } (startN 13 ds) := by
  obtain ⟨ps, rfl, hw, few, q⟩ := h
  unfold t_changes_by_sums
  have lp := line_perm ps
  have ll := lp.length_eq
  walk_at "ev"
  refine ⟨by decide, ik [0, 0], keyT_ints [0, 0], _, rfl, ps, rfl, hw, ?_⟩
  walk_at "ev"
  refine loop_inv (fun p : Pn => D.str p.1) (fun rest ρ => ∃ (L : List Pn) (T : List CE) (s2 s3 s4 s5 s6 s7 s8 s9 s10 s11 s12 : Sl), L ++ rest = lineL ps ∧ ChT L T ∧ ρ = [Sl.d (stD C ps), Sl.d (.dcL (T.map encC)), s2, s3, s4, s5, s6, s7, s8, s9, s10, s11, s12]) ?_ ?_ _ _ ⟨[], [((0, 0), [])], _, _, _, _, _, _, _, _, _, _, _, rfl, .nil, rfl⟩
  rotate_left
  · rintro ρ ⟨L, T, s2, s3, s4, s5, s6, s7, s8, s9, s10, s11, s12, e, hT, rfl⟩
    rw [List.append_nil] at e
    subst e
    walk_at "ev"
    exact q T hT
  rintro p rest ρ ⟨L, T, s2, s3, s4, s5, s6, s7, s8, s9, s10, s11, s12, e, hT, rfl⟩ E1 a1 a2 a3 a4
  have hp : p ∈ ps := lp.mem_iff.mp (by rw [← e]; exact List.mem_append_right _ List.mem_cons_self)
  have lL : L.length ≤ 11 := by
    have := congrArg List.length e
    rw [List.length_append, List.length_cons] at this
    omega
  have tl : T.length ≤ 2048 := Nat.le_trans hT.len (Nat.le_trans (Nat.pow_le_pow_right (by decide) lL) (by decide))
  walk_at "ev"
  refine plS hw hp ?_
  walk_at "ev"
  refine voS' hw hp ?_
  walk_at "ev"
  refine ⟨_, rfl, ?_⟩
  rw [items_enc]
  refine loop_inv itC (fun rest' ρ => ∃ (cs T' : List CE) (s6 s7 s8 s9 s10 s11 s12 : Sl), cs ++ candL p rest' = candL p T ∧ BestC cs T' ∧ (∀ e, e ∈ rest' → e ∈ T) ∧ ρ = [Sl.d (stD C ps), Sl.d (.dcL (T.map encC)), Sl.d (.str p.1), Sl.d (.int p.2.1), Sl.d (.int p.2.2), Sl.o (.dcT (T'.map encC)), s6, s7, s8, s9, s10, s11, s12]) ?_ ?_ _ _ ⟨[], [], _, _, _, _, _, _, _, rfl, .nil, fun _ h => h, rfl⟩
  rotate_left
  · rintro ρ ⟨cs, T', s6, s7, s8, s9, s10, s11, s12, e2, hB, _, rfl⟩
    walk_at "ev"
    rw [show candL p [] = [] from rfl, List.append_nil] at e2
    subst e2
    exact ⟨_, rfl, a1 _ ⟨L ++ [p], T', _, _, _, _, _, _, _, _, _, _, _, by rw [List.append_assoc]; exact e, hT.step hB, rfl⟩⟩
  rintro c rest' ρ ⟨cs, T', s6, s7, s8, s9, s10, s11, s12, e2, hB, sub, rfl⟩ E2 b1 b2 b3 b4
  rw [show candL p (c :: rest') = [candV p c 0, candV p c 1] ++ candL p rest' from rfl, ← List.append_assoc] at e2
  have cl : cs.length + 2 ≤ 4096 := by
    have := congrArg List.length e2
    rw [cand_len, List.length_append, List.length_append] at this
    simp only [List.length_cons, List.length_nil] at this
    omega
  walk_at "ev"
  refine ⟨_, rfl, rfl, _, _, rfl, _, rfl, rfl, _, _, rfl, _, _, rfl, rfl, _, _, rfl, rfl, by decide, ?_⟩
  show dLoop _ _ _ (([0, 1] : List Int).map D.int) _
  refine loop_inv D.int (fun vs ρ => ∃ (cs' T'' : List CE) (s9 s10 s11 s12 : Sl), cs' ++ vs.map (candV p c) = cs ++ [candV p c 0, candV p c 1] ∧ BestC cs' T'' ∧ (∀ v, v ∈ vs → v = 0 ∨ v = 1) ∧ ρ = [Sl.d (stD C ps), Sl.d (.dcL (T.map encC)), Sl.d (.str p.1), Sl.d (.int p.2.1), Sl.d (.int p.2.2), Sl.o (.dcT (T''.map encC)), Sl.d (.int c.1.1), Sl.d (.int c.1.2), Sl.d (.tup (c.2.map .str)), s9, s10, s11, s12]) ?_ ?_ _ _ ⟨cs, T', _, _, _, _, rfl, hB, fun v hv => by simpa using hv, rfl⟩
  rotate_left
  · rintro ρ ⟨cs', T'', s9, s10, s11, s12, e3, hB', _, rfl⟩
    rw [List.map_nil, List.append_nil] at e3
    subst e3
    exact b1 _ ⟨_, T'', _, _, _, _, _, _, _, e2, hB', fun e h => sub e (List.mem_cons_of_mem _ h), rfl⟩
  rintro v vs ρ ⟨cs', T'', s9, s10, s11, s12, e3, hB', hv, rfl⟩ E3 c1 c2 c3 c4
  have hv0 := hv v List.mem_cons_self
  have tl2 : T''.length ≤ 4096 := by
    have h1 := hB'.len
    have := congrArg List.length e3
    rw [List.length_append, List.length_append] at this
    simp only [List.length_cons, List.length_nil] at this
    omega
  have step : ∀ (a b : Int) (cn : List Str), candV p c v = ((a, b), cn) → ∃ T3, BestC (cs' ++ [candV p c v]) T3 ∧ (cs' ++ [candV p c v]) ++ vs.map (candV p c) = cs ++ [candV p c 0, candV p c 1] ∧ (valC T'' (a, b) = none → T3 = putC T'' (a, b) cn) ∧ ∀ ns, valC T'' (a, b) = some ns → (cn.length < ns.length → T3 = putC T'' (a, b) cn) ∧ (¬ cn.length < ns.length → T3 = T'') := fun a b cn ec => by
    refine ⟨updC T'' (candV p c v), hB'.step _, by rw [List.append_assoc]; exact e3, fun z => ?_, fun ns z => ⟨fun l => ?_, fun l => ?_⟩⟩
    · rw [ec]; unfold updC; dsimp only; rw [z]
    · rw [ec]; unfold updC; dsimp only; rw [z]; dsimp only; rw [if_pos l]
    · rw [ec]; unfold updC; dsimp only; rw [z]; dsimp only; rw [if_neg l]
  have vok : ∀ v', v' ∈ vs → v' = 0 ∨ v' = 1 := fun v' h => hv v' (List.mem_cons_of_mem _ h)
  have sl : (T''.map encC).length < sizeLine := small' (m := 5000) (by rw [List.length_map]; omega)
  have cnl : (c.2.map D.str ++ [D.str p.1]).length ≤ sizeLine := by
    have h1 := ch_names (hT.ok c.1 c.2 (nd_val hT.nd (sub c List.mem_cons_self)))
    have := small' (n := (c.2.map D.str ++ [D.str p.1]).length) (m := 100) (by rw [List.length_append, List.length_map, List.length_singleton]; omega)
    omega
  walk_at "ev"
  by_cases o0 : c.1.2 = 0
  · rw [if_pos (decide_eq_true o0)]
    refine ⟨.inl (.inl ⟨by decide, by decide⟩), .inl (.inl ⟨by omega, by omega⟩), by decide, ?_⟩
    by_cases cv : v = p.2.2
    · rw [if_pos (decide_eq_true cv)]
      obtain ⟨T3, k1, k2, k3, k4⟩ := step (c.1.1 + 1 * v * p.2.1) ((c.1.2 + v) % 2) (c.2) (by unfold candV sgnO; rw [if_pos o0, if_pos cv])
      refine ⟨_, rfl, _, keyE _ _, ?_⟩
      rw [valE]
      cases ev : valC T'' (c.1.1 + 1 * v * p.2.1, (c.1.2 + v) % 2) with
      | none =>
        dsimp only [Option.map, Option.isSome]
        walk_at "ev"
        refine ⟨⟨_, rfl⟩, _, rfl, _, keyE _ _, sl, ?_⟩
        rw [putE, ← k3 ev]
        exact c1 _ ⟨_, T3, _, _, _, _, k2, k1, vok, rfl⟩
      | some ns =>
        dsimp only [Option.map, Option.isSome]
        walk_at "ev"
        refine ⟨⟨_, rfl⟩, _, rfl, _, keyE _ _, .tup (ns.map .str), by rw [valE, ev]; rfl, ?_⟩
        walk_at "ev"
        rw [List.length_map, List.length_map]
        obtain ⟨k5, k6⟩ := k4 ns ev
        by_cases ll : (c.2).length < ns.length
        · rw [decide_eq_true (by omega)]
          walk_at "ev"
          refine ⟨⟨_, rfl⟩, _, rfl, _, keyE _ _, sl, ?_⟩
          rw [putE, ← k5 ll]
          exact c1 _ ⟨_, T3, _, _, _, _, k2, k1, vok, rfl⟩
        · rw [decide_eq_false (by omega)]
          walk_at "ev"
          rw [k6 ll] at k1
          exact c1 _ ⟨_, T'', _, _, _, _, k2, k1, vok, rfl⟩
    · rw [if_neg (by rw [decide_eq_false cv]; decide)]
      refine ⟨cnl, ?_⟩
      simp only [names_snoc]
      obtain ⟨T3, k1, k2, k3, k4⟩ := step (c.1.1 + 1 * v * p.2.1) ((c.1.2 + v) % 2) (c.2 ++ [p.1]) (by unfold candV sgnO; rw [if_pos o0, if_neg cv])
      refine ⟨_, rfl, _, keyE _ _, ?_⟩
      rw [valE]
      cases ev : valC T'' (c.1.1 + 1 * v * p.2.1, (c.1.2 + v) % 2) with
      | none =>
        dsimp only [Option.map, Option.isSome]
        walk_at "ev"
        refine ⟨⟨_, rfl⟩, _, rfl, _, keyE _ _, sl, ?_⟩
        rw [putE, ← k3 ev]
        exact c1 _ ⟨_, T3, _, _, _, _, k2, k1, vok, rfl⟩
      | some ns =>
        dsimp only [Option.map, Option.isSome]
        walk_at "ev"
        refine ⟨⟨_, rfl⟩, _, rfl, _, keyE _ _, .tup (ns.map .str), by rw [valE, ev]; rfl, ?_⟩
        walk_at "ev"
        rw [List.length_map, List.length_map]
        obtain ⟨k5, k6⟩ := k4 ns ev
        by_cases ll : (c.2 ++ [p.1]).length < ns.length
        · rw [decide_eq_true (by omega)]
          walk_at "ev"
          refine ⟨⟨_, rfl⟩, _, rfl, _, keyE _ _, sl, ?_⟩
          rw [putE, ← k5 ll]
          exact c1 _ ⟨_, T3, _, _, _, _, k2, k1, vok, rfl⟩
        · rw [decide_eq_false (by omega)]
          walk_at "ev"
          rw [k6 ll] at k1
          exact c1 _ ⟨_, T'', _, _, _, _, k2, k1, vok, rfl⟩
  · rw [if_neg (by rw [decide_eq_false o0]; decide)]
    refine ⟨.inl (.inl ⟨by decide, by decide⟩), .inl (.inl ⟨by omega, by omega⟩), by decide, ?_⟩
    by_cases cv : v = p.2.2
    · rw [if_pos (decide_eq_true cv)]
      obtain ⟨T3, k1, k2, k3, k4⟩ := step (c.1.1 + -1 * v * p.2.1) ((c.1.2 + v) % 2) (c.2) (by unfold candV sgnO; rw [if_neg o0, if_pos cv])
      refine ⟨_, rfl, _, keyE _ _, ?_⟩
      rw [valE]
      cases ev : valC T'' (c.1.1 + -1 * v * p.2.1, (c.1.2 + v) % 2) with
      | none =>
        dsimp only [Option.map, Option.isSome]
        walk_at "ev"
        refine ⟨⟨_, rfl⟩, _, rfl, _, keyE _ _, sl, ?_⟩
        rw [putE, ← k3 ev]
        exact c1 _ ⟨_, T3, _, _, _, _, k2, k1, vok, rfl⟩
      | some ns =>
        dsimp only [Option.map, Option.isSome]
        walk_at "ev"
        refine ⟨⟨_, rfl⟩, _, rfl, _, keyE _ _, .tup (ns.map .str), by rw [valE, ev]; rfl, ?_⟩
        walk_at "ev"
        rw [List.length_map, List.length_map]
        obtain ⟨k5, k6⟩ := k4 ns ev
        by_cases ll : (c.2).length < ns.length
        · rw [decide_eq_true (by omega)]
          walk_at "ev"
          refine ⟨⟨_, rfl⟩, _, rfl, _, keyE _ _, sl, ?_⟩
          rw [putE, ← k5 ll]
          exact c1 _ ⟨_, T3, _, _, _, _, k2, k1, vok, rfl⟩
        · rw [decide_eq_false (by omega)]
          walk_at "ev"
          rw [k6 ll] at k1
          exact c1 _ ⟨_, T'', _, _, _, _, k2, k1, vok, rfl⟩
    · rw [if_neg (by rw [decide_eq_false cv]; decide)]
      refine ⟨cnl, ?_⟩
      simp only [names_snoc]
      obtain ⟨T3, k1, k2, k3, k4⟩ := step (c.1.1 + -1 * v * p.2.1) ((c.1.2 + v) % 2) (c.2 ++ [p.1]) (by unfold candV sgnO; rw [if_neg o0, if_neg cv])
      refine ⟨_, rfl, _, keyE _ _, ?_⟩
      rw [valE]
      cases ev : valC T'' (c.1.1 + -1 * v * p.2.1, (c.1.2 + v) % 2) with
      | none =>
        dsimp only [Option.map, Option.isSome]
        walk_at "ev"
        refine ⟨⟨_, rfl⟩, _, rfl, _, keyE _ _, sl, ?_⟩
        rw [putE, ← k3 ev]
        exact c1 _ ⟨_, T3, _, _, _, _, k2, k1, vok, rfl⟩
      | some ns =>
        dsimp only [Option.map, Option.isSome]
        walk_at "ev"
        refine ⟨⟨_, rfl⟩, _, rfl, _, keyE _ _, .tup (ns.map .str), by rw [valE, ev]; rfl, ?_⟩
        walk_at "ev"
        rw [List.length_map, List.length_map]
        obtain ⟨k5, k6⟩ := k4 ns ev
        by_cases ll : (c.2 ++ [p.1]).length < ns.length
        · rw [decide_eq_true (by omega)]
          walk_at "ev"
          refine ⟨⟨_, rfl⟩, _, rfl, _, keyE _ _, sl, ?_⟩
          rw [putE, ← k5 ll]
          exact c1 _ ⟨_, T3, _, _, _, _, k2, k1, vok, rfl⟩
        · rw [decide_eq_false (by omega)]
          walk_at "ev"
          rw [k6 ll] at k1
          exact c1 _ ⟨_, T'', _, _, _, _, k2, k1, vok, rfl⟩
theorem pure_places_by_voices (h : sp_places_by_voices C ds QD XD) : t_places_by_voices K C XD { nx := fun _ => QD (.v .non), rt := QD } (startN 3 ds) := by
  obtain ⟨ps, rfl, hw, few, q⟩ := h
  unfold t_places_by_voices
  walk_at "ev"
  refine ⟨ps, rfl, hw, few, fun T hT => ?_⟩
  have tl : T.length ≤ 4096 := Nat.le_trans hT.len (Nat.le_trans (Nat.pow_le_pow_right (by decide) (by rw [(line_perm ps).length_eq]; exact few)) (by decide))
  walk_at "ev"
  refine ⟨_, rfl, ?_⟩
  rw [keys_enc]
  refine lcL_fun (fun ρ => ρ = [Sl.d (stD C ps), Sl.un, Sl.un]) kyC (fun e => decide (e.1.2 = 1)) (fun e => D.int e.1.1) ?_ T [] _ (by rw [List.length_nil]; omega) rfl ?_
  · rintro ⟨⟨a, b⟩, ns⟩ ρ rfl K1 K2 h1 h2
    walk_at "ev"
    refine ⟨_, rfl, rfl, _, _, rfl, _, _, rfl, rfl, ?_⟩
    walk_at "ev"
    by_cases c : b = 1
    · rw [if_pos (decide_eq_true c)]
      exact h1 (decide_eq_true c) _ _ rfl rfl
    · rw [if_neg (by rw [decide_eq_false c]; decide)]
      exact h2 (decide_eq_false c) _ rfl
  rintro ρ rfl
  rw [List.nil_append]
  exact ⟨(T.filter fun e => decide (e.1.2 = 1)).map (·.1.1), by rw [List.map_map]; rfl, fun ys hp hs => q ys (asc_of hw hT hp hs)⟩
theorem pure_wished_voices (h : sp_wished_voices C ds QD XD) : t_wished_voices K C XD { nx := fun _ => QD (.v .non), rt := QD } (startN 3 ds) := by
  obtain ⟨ps, t, rfl, hw, few, q1, q2⟩ := h
  unfold t_wished_voices
  walk_at "ev"
  refine ⟨ps, rfl, hw, few, fun T hT => ?_⟩
  walk_at "ev"
  refine ⟨_, rfl, by decide, ik [t, 1], keyT_ints [t, 1], ?_⟩
  rw [show valT (T.map encC) (ik [t, 1]) = _ from valT_enc (t, 1) T]
  cases e : valC T (t, 1) with
  | none =>
    dsimp only [Option.map, Option.getD]
    walk_at "ev"
    refine q2 fun ns h => ?_
    obtain ⟨ns', z, _⟩ := hT.low _ _ _ h
    rw [e] at z; cases z
  | some ns =>
    dsimp only [Option.map, Option.getD]
    walk_at "ev"
    refine ⟨by decide, q1 ns (hT.ok _ _ e) fun ns' h => ?_⟩
    obtain ⟨ns2, z, l⟩ := hT.low _ _ _ h
    rw [e] at z; cases z
    exact l
end
end L2.DL
set_option Elab.async false
set_option linter.all false
set_option autoImplicit false
set_option maxRecDepth 100000
set_option maxHeartbeats 2000000
namespace L2.DL
open PySem PySem.Spec PyProof.Rows
end L2.DL
set_option Elab.async false
set_option linter.all false
set_option autoImplicit false
set_option maxRecDepth 100000
set_option maxHeartbeats 2000000
namespace L2.DL
open PySem PySem.Spec PyProof.Rows
theorem sorted_same : ∀ {l l' : List Int}, l.Pairwise (· < ·) → l'.Pairwise (· < ·) → (∀ x, x ∈ l ↔ x ∈ l') → l = l'
  | [], [], _, _, _ => rfl
  | [], y :: l', _, _, h => absurd ((h y).mpr List.mem_cons_self) (by simp)
  | x :: l, [], _, _, h => absurd ((h x).mp List.mem_cons_self) (by simp)
  | x :: l, y :: l', p, p', h => by
    rw [List.pairwise_cons] at p p'
    have e : x = y := by
      rcases List.mem_cons.mp ((h x).mp List.mem_cons_self) with e | e
      · exact e
      · rcases List.mem_cons.mp ((h y).mpr List.mem_cons_self) with e' | e'
        · exact e'.symm
        · have := p.1 y e'
          have := p'.1 x e
          omega
    subst e
    rw [sorted_same p.2 p'.2 fun z => ?_]
    constructor
    · intro hz
      have lt := p.1 z hz
      rcases List.mem_cons.mp ((h z).mp (List.mem_cons_of_mem _ hz)) with e | e
      · omega
      · exact e
    · intro hz
      have lt := p'.1 z hz
      rcases List.mem_cons.mp ((h z).mpr (List.mem_cons_of_mem _ hz)) with e | e
      · omega
      · exact e
end L2.DL
set_option Elab.async false
set_option linter.all false
set_option autoImplicit false
set_option maxRecDepth 100000
set_option maxHeartbeats 1000000
namespace L2.DL
open PySem PySem.Spec PyProof.Rows
theorem BestC.put {cs T : List CE} (h : BestC cs T) {c : CE} {ns' : List Str} (h1 : (c.1, ns') ∈ cs ++ [c]) (h2 : ns'.length ≤ c.2.length) (h3 : ∀ ns, valC T c.1 = some ns → ns'.length ≤ ns.length) : BestC (cs ++ [c]) (putC T c.1 ns') := by
  refine ⟨put_nd h.nd, fun d hd => ?_, fun s ns hv => ?_, ?_⟩
  · rw [put_val]
    rcases List.mem_append.mp hd with hd | hd
    · obtain ⟨ns, e1, e2⟩ := h.low d hd
      by_cases z : d.1 = c.1
      · rw [if_pos z]
        exact ⟨ns', rfl, Nat.le_trans (h3 ns (by rw [← z]; exact e1)) e2⟩
      · rw [if_neg z]; exact ⟨ns, e1, e2⟩
    · rw [List.mem_singleton] at hd
      subst hd
      rw [if_pos rfl]; exact ⟨_, rfl, h2⟩
  · rw [put_val] at hv
    by_cases z : s = c.1
    · rw [if_pos z] at hv
      cases hv
      subst z
      exact h1
    · rw [if_neg z] at hv
      exact List.mem_append_left _ (h.src s ns hv)
  · have := congrArg List.length (put_keys (T := T) (s := c.1) (ns := ns'))
    rw [List.length_map] at this
    rw [this, List.length_append, List.length_singleton]
    have := h.len
    split
    · rw [List.length_map]; omega
    · rw [List.length_append, List.length_map, List.length_singleton]; omega
def subsL (zs : List Str) : List (List Str) := zs.foldl (fun A z => A ++ A.map (· ++ [z])) [[]]
theorem subs_snoc (zs : List Str) (z : Str) : subsL (zs ++ [z]) = subsL zs ++ (subsL zs).map (· ++ [z]) := by unfold subsL; rw [List.foldl_append]; rfl
theorem rev_ind {α : Type} {P : List α → Prop} (h0 : P []) (h1 : ∀ L x, P L → P (L ++ [x])) (L : List α) : P L := by
  have key : ∀ R : List α, P R.reverse := fun R => by
    induction R with
    | nil => exact h0
    | cons x R ih => rw [List.reverse_cons]; exact h1 _ _ ih
  have := key L.reverse
  rwa [List.reverse_reverse] at this
theorem subs_len (zs : List Str) : (subsL zs).length = 2 ^ zs.length := by
  refine rev_ind (P := fun zs => (subsL zs).length = 2 ^ zs.length) rfl (fun L x ih => ?_) zs
  rw [subs_snoc, List.length_append, List.length_map, ih, List.length_append, List.length_singleton, Nat.pow_succ]
  omega
theorem subs_filter (w : Str → Bool) (zs : List Str) : zs.filter w ∈ subsL zs := by
  refine rev_ind (P := fun zs => zs.filter w ∈ subsL zs) (by simp [subsL]) (fun L x ih => ?_) zs
  rw [subs_snoc, List.filter_append]
  cases h : w x with
  | false =>
    rw [List.filter_cons_of_neg (by rw [h]; exact Bool.false_ne_true), List.filter_nil, List.append_nil]
    exact List.mem_append_left _ ih
  | true =>
    rw [List.filter_cons_of_pos h, List.filter_nil]
    exact List.mem_append_right _ (List.mem_map_of_mem ih)
theorem subs_is {S zs : List Str} : zs.Nodup → S ∈ subsL zs → S = zs.filter (fun z => decide (z ∈ S)) ∧ ∀ z, z ∈ S → z ∈ zs := by
  refine rev_ind (P := fun zs => ∀ S, zs.Nodup → S ∈ subsL zs → S = zs.filter (fun z => decide (z ∈ S)) ∧ ∀ z, z ∈ S → z ∈ zs) (fun S _ h => ?_) (fun L x ih S nd h => ?_) zs S
  · have : S = [] := by simpa [subsL] using h
    subst this
    exact ⟨rfl, fun _ h => h⟩
  · rw [subs_snoc] at h
    rw [List.nodup_append] at nd
    have xn : x ∉ L := fun z => nd.2.2 x z x (List.mem_singleton.mpr rfl) rfl
    rw [List.filter_append]
    rcases List.mem_append.mp h with h | h
    · obtain ⟨i1, i2⟩ := ih S nd.1 h
      rw [← i1, List.filter_cons_of_neg (by rw [decide_eq_true_eq]; exact fun z => xn (i2 x z)), List.filter_nil, List.append_nil]
      exact ⟨rfl, fun z hz => List.mem_append_left _ (i2 z hz)⟩
    · obtain ⟨S0, hS0, rfl⟩ := List.mem_map.mp h
      obtain ⟨i1, i2⟩ := ih S0 nd.1 hS0
      have c1 : L.filter (fun z => decide (z ∈ S0 ++ [x])) = L.filter (fun z => decide (z ∈ S0)) := List.filter_congr fun q hq => decide_eq_decide.mpr ⟨fun z => by
        rcases List.mem_append.mp z with z | z
        · exact z
        · rw [List.mem_singleton] at z; exact absurd (by rw [← z]; exact hq) xn, fun z => List.mem_append_left _ z⟩
      rw [c1, ← i1, List.filter_cons_of_pos (by rw [decide_eq_true_eq]; exact List.mem_append_right _ (List.mem_singleton.mpr rfl)), List.filter_nil]
      refine ⟨rfl, fun z hz => ?_⟩
      rcases List.mem_append.mp hz with hz | hz
      · exact List.mem_append_left _ (i2 z hz)
      · exact List.mem_append_right _ hz
/-- who has a voice when just these have the other one -/
def someV (S : List Str) (p : Pn) : Bool := decide ((if p.1 ∈ S then 1 - p.2.2 else p.2.2) = 1)
def candS (ps : List Pn) (S : List Str) : CE := ((altsum (((lineL ps).filter (someV S)).map fun p => p.2.1), (((((lineL ps).filter (someV S)).length % 2 : Nat)) : Int)), ((lineL ps).filter fun p => decide (p.1 ∈ S)).map (·.1))
theorem chg_some {ps : List Pn} (hv : ∀ p, p ∈ ps → p.2.2 = 0 ∨ p.2.2 = 1) (S : List Str) {p : Pn} (hp : p ∈ ps) : chgV (someV S) p = decide (p.1 ∈ S) := by
  unfold chgV someV
  rcases hv p hp with e | e <;> by_cases m : p.1 ∈ S <;> simp [e, m]
theorem cand_ch {ps : List Pn} (hw : Wf ps) (S : List Str) : Ch (lineL ps) (candS ps S).1.1 (candS ps S).1.2 (candS ps S).2 := by
  have := ch_of (someV S) (lineL ps)
  have e : (lineL ps).filter (chgV (someV S)) = (lineL ps).filter fun p => decide (p.1 ∈ S) := List.filter_congr fun p hp => chg_some hw.voice S ((line_perm ps).mem_iff.mp hp)
  rw [e] at this
  exact this
theorem cand_num {ps : List Pn} (hw : Wf ps) {S : List Str} (hS : S ∈ subsL (ps.map (·.1))) : (candS ps S).2.length = S.length := by
  have h1 := (subs_is hw.nd hS).1
  unfold candS
  dsimp only
  rw [List.length_map, ((line_perm ps).filter _).length_eq]
  have : S.length = ((ps.map (·.1)).filter fun z => decide (z ∈ S)).length := congrArg List.length h1
  rw [this, List.filter_map, List.length_map]
  rfl
/-- fewest changes for each sum by turns -/
def candsS (ps : List Pn) (l : List (List Str)) : List CE := (l.map (candS ps)).filter fun c => decide (c.1.2 = 1)
def fwE (e : CE) : Key × D := (Sum.inl e.1.1, .int e.2.length)
theorem fw_any {T : List CE} (h1 : ∀ e, e ∈ T → e.1.2 = 1) (t : Int) : ((T.map fwE).any fun kv => decide (kv.1 = (Sum.inl t : Key))) = T.any fun e => decide (e.1 = (t, 1)) := by
  induction T with
  | nil => rfl
  | cons e T ih =>
    rw [List.map_cons, List.any_cons, List.any_cons, ih fun x hx => h1 x (List.mem_cons_of_mem _ hx)]
    have e2 := h1 e List.mem_cons_self
    congr 1
    refine decide_eq_decide.mpr ⟨fun z => ?_, fun z => ?_⟩
    · have z : (Sum.inl e.1.1 : Key) = Sum.inl t := z
      exact Prod.ext (Sum.inl.inj z) e2
    · show (Sum.inl e.1.1 : Key) = Sum.inl t
      rw [z]
theorem fw_val {T : List CE} (h1 : ∀ e, e ∈ T → e.1.2 = 1) (t : Int) : valD (T.map fwE) (Sum.inl t) = (valC T (t, 1)).map fun ns => .int ns.length := by
  induction T with
  | nil => rfl
  | cons e T ih =>
    have ih := ih fun x hx => h1 x (List.mem_cons_of_mem _ hx)
    unfold valD valC at *
    rw [List.map_cons, List.find?_cons, List.find?_cons]
    have e2 := h1 e List.mem_cons_self
    by_cases h : e.1 = (t, 1)
    · rw [decide_eq_true (show (fwE e).1 = Sum.inl t by show (Sum.inl e.1.1 : Key) = Sum.inl t; rw [h]), decide_eq_true h]; rfl
    · rw [decide_eq_false (show ¬ (fwE e).1 = Sum.inl t from fun z => h (Prod.ext (Sum.inl.inj (show (Sum.inl e.1.1 : Key) = Sum.inl t from z)) e2)), decide_eq_false h]; exact ih
theorem fw_put {T : List CE} (h1 : ∀ e, e ∈ T → e.1.2 = 1) (t : Int) (ns : List Str) : putD (T.map fwE) (Sum.inl t) (.int ns.length) = (putC T (t, 1) ns).map fwE := by
  unfold putD putC
  rw [fw_any h1]
  split
  · rw [List.map_map, List.map_map]
    refine List.map_congr_left fun e he => ?_
    have e2 := h1 e he
    show (if (fwE e).1 = (Sum.inl t : Key) then ((fwE e).1, D.int ns.length) else fwE e) = fwE (if e.1 = (t, 1) then (e.1, ns) else e)
    by_cases h : e.1 = (t, 1)
    · rw [if_pos (show (fwE e).1 = Sum.inl t by show (Sum.inl e.1.1 : Key) = Sum.inl t; rw [h]), if_pos h]; rfl
    · rw [if_neg (show ¬ (fwE e).1 = Sum.inl t from fun z => h (Prod.ext (Sum.inl.inj (show (Sum.inl e.1.1 : Key) = Sum.inl t from z)) e2)), if_neg h]
  · rw [List.map_append]; rfl
structure FwOk (ps : List Pn) (T : List CE) : Prop where
  nd : (T.map (·.1)).Nodup
  ok : ∀ s ns, valC T s = some ns → s.2 = 1 ∧ Ch (lineL ps) s.1 1 ns
  low : ∀ t ns, Ch (lineL ps) t 1 ns → ∃ ns', valC T (t, 1) = some ns' ∧ ns'.length ≤ ns.length
  len : T.length ≤ 2 ^ ps.length
theorem fw_of {ps : List Pn} (hw : Wf ps) {T : List CE} (b : BestC (candsS ps (subsL (ps.map (·.1)))) T) : FwOk ps T := by
  refine ⟨b.nd, fun s ns hv => ?_, fun t ns hc => ?_, ?_⟩
  rotate_right
  · refine Nat.le_trans b.len ?_
    unfold candsS
    refine Nat.le_trans (List.length_filter_le _ _) ?_
    rw [List.length_map, subs_len, List.length_map]; exact Nat.le_refl _
  · obtain ⟨h1, h2⟩ := List.mem_filter.mp (b.src s ns hv)
    have h2 : s.2 = 1 := of_decide_eq_true h2
    obtain ⟨S, hS, e⟩ := List.mem_map.mp h1
    have := cand_ch hw S
    rw [e] at this
    refine ⟨h2, ?_⟩
    rw [← h2]
    exact this
  · obtain ⟨v, e1, e2, e3⟩ := ch_to hc (line_nd hw)
    have lp := line_perm ps
    let w : Str → Bool := fun z => ps.any fun p => decide (p.1 = z) && chgV v p
    have hwp : ∀ p, p ∈ ps → w p.1 = chgV v p := fun p hp => by
      cases h : chgV v p with
      | true => exact List.any_eq_true.mpr ⟨p, hp, by rw [decide_eq_true rfl, h]; rfl⟩
      | false =>
        cases h' : w p.1 with
        | false => rfl
        | true =>
          obtain ⟨q, hq, z⟩ := List.any_eq_true.mp h'
          rw [Bool.and_eq_true, decide_eq_true_eq] at z
          have : q = p := by
            have h1 := find_mem hw.nd hq
            have h2 := find_mem hw.nd hp
            rw [z.1, h2] at h1
            exact (Option.some.inj h1).symm
          subst this
          rw [h] at z; cases z.2
    have hS := subs_filter w (ps.map (·.1))
    generalize hSd : (ps.map (·.1)).filter w = S at hS
    have mem : ∀ p, p ∈ ps → (p.1 ∈ S ↔ chgV v p = true) := fun p hp => by
      rw [← hSd, List.mem_filter, hwp p hp]
      exact ⟨fun h => h.2, fun h => ⟨List.mem_map_of_mem hp, h⟩⟩
    have sv : ∀ p, p ∈ ps → someV S p = v p := fun p hp => by
      have m := mem p hp
      unfold someV
      unfold chgV at m
      cases hvp : v p with
      | true =>
        rw [hvp] at m
        rcases hw.voice p hp with e | e <;> by_cases z : p.1 ∈ S <;> simp [e, z] at m ⊢
      | false =>
        rw [hvp] at m
        rcases hw.voice p hp with e | e <;> by_cases z : p.1 ∈ S <;> simp [e, z] at m ⊢
    have f1 : (lineL ps).filter (someV S) = (lineL ps).filter v := List.filter_congr fun p hp => sv p (lp.mem_iff.mp hp)
    have f2 : ((lineL ps).filter fun p => decide (p.1 ∈ S)) = (lineL ps).filter (chgV v) := List.filter_congr fun p hp => by
      have := mem p (lp.mem_iff.mp hp)
      cases h : chgV v p with
      | true => exact decide_eq_true (this.mpr h)
      | false => exact decide_eq_false fun z => by rw [this.mp z] at h; cases h
    have ec : candS ps S = ((t, 1), ns) := by
      unfold candS
      rw [f1, f2, ← e1, ← e2, ← e3]
    have mc : ((t, 1), ns) ∈ candsS ps (subsL (ps.map (·.1))) := List.mem_filter.mpr ⟨List.mem_map.mpr ⟨S, hS, ec⟩, decide_eq_true rfl⟩
    exact b.low _ mc
end L2.DL
set_option Elab.async false
set_option linter.all false
set_option autoImplicit false
set_option maxRecDepth 100000
set_option maxHeartbeats 2000000
namespace L2.DL
open PySem PySem.Spec PyProof.Rows
local macro_rules | `(tactic| walk_at "ev") => `(tactic| simp only [dSeq, dNext, dSet, dPar, dPar3, dRet, dRetN, dDrop, dIfS, dBrk, dCnt, dApp, dFor, dItL, dItT, dRng1, dRng2, dZip, dEnum, dItS, dAsg, dAugI, dNever, dPutS, dNewD, dFldM, dFldS, dStar,
  dgName, dgTup, dgCons, dgNil, dOp, dUn, dC, dNil, dCons, dCB, dTup, dLst, dIf, dTst, dTru, dAnd, dOr, dNot, dAndV, dOrV, dNotV, dYes, dInR, dFld, dMeth, dCall, dDctIx, dGet2, dRaise, dRaiseZ, dDisp, dPNil, dPCons, dRepD, dTold, dLenSet, hid_u, hid_d, hid_o, dStep2, dSlV, dIxV, dSetV, dPopV, dLenV, dLcV, lstAt, Option.isSome_some, Option.isSome_none, dSl, dNoP, dPart, dLc, dDc, dSortSet, dSortSc, dListVals, dChain, dIsiT2, dCallB, dBor, dNilB, dCBB, dOneL,
  dIsN, dNotN, dStrI, dAbs, dIn, fz_v, fz_l, fz_d, fz_i, fz_m, un_l, un_d, un_i, un_m, sl_v, sl_o, dwipe, and_assoc, insLF, insLT, insFF, insFT, startD, startN, pdT, pdI, gdT, prT, stI, putFD, lendable, noKR, noK, noKs,
  vd0, vo0, rd0, ro0, vd1, vo1, rd1, ro1, vd2, vo2, rd2, ro2, vd3, vo3, rd3, ro3, vd4, vo4, rd4, ro4, vd5, vo5, rd5, ro5, vd6, vo6, rd6, ro6, vd7, vo7, rd7, ro7, vd8, vo8, rd8, ro8, vd9, vo9, rd9, ro9, vd10, vo10, rd10, ro10, vd11, vo11, rd11, ro11, vd12, vo12, rd12, ro12, vd13, vo13, rd13, ro13, vd14, vo14, rd14, ro14, vd15, vo15, rd15, ro15, vd16, vo16, rd16, ro16, vd17, vo17, rd17, ro17, vd18, vo18, rd18, ro18, vd19, vo19, rd19, ro19, vd20, vo20, rd20, ro20, vd21, vo21, rd21, ro21, vd22, vo22, rd22, ro22, vd23, vo23, rd23, ro23, lk_people, lk_names, lk_has_name, lk_person, lk_place, lk_voice, lk_places, lk_at, lk_line, lk_voices, lk_is_together, lk_own, lenL, lenT, lenS, ixL, ixT, ixS, dcutL, dcutS, addII, addSS, addLL, int1i, int1b, negI, reprL, reprT, absI, sc_n, sc_b, sc_i, sc_s, subI, mulI, fdvI, modI, powI, ltI, leI, gtI, geI, tr_n, tr_b, tr_i, tr_l, tr_t, tr_d, ty_n, ty_b, ty_i, ty_s, ty_l, ty_t, ty_d, in_n, in_b, in_i, in_s, in_l, in_t, in_d, eqII, neII, eqSS, neSS, eqBB, neBB, isic_n, isic_b, isic_i, isic_s, isic_l, isic_t, isic_d, isio_n, isio_b, isio_i, isio_s, isio_l, isio_t, isio_d, isic_I, isic_S, isic_T, isic_L, isic_B, isio_I, dIsiO, isi_ii, isi_ib, isi_is, isi_il, isi_bi, isi_bb, isi_bs, isi_si, isi_sb, isi_ss, isi_ni, isi_nb, isi_ns, isi_li, isi_lb, isi_ls, isi_ll, isi_ti, isi_tb, isi_ts, isi_tt, isi_di, isi_db, isi_ds, isi_lt, isi_tl, isi_bt, isi_nt, isi_dt, eqLL, neLL, eqTT, neTT, isi_sl, isi_st, isi_it, kit_ll, kit_lt, max2, min2, get1, get2b, get3b, get3c,
  List.map_cons, List.map_nil, List.length_cons, List.length_nil, List.replicate, List.append_nil, List.cons_append, List.nil_append, List.getElem?_cons_zero, List.getElem?_cons_succ, List.set_cons_zero, List.set_cons_succ, List.getElem?_nil, Nat.sub_zero, Nat.reduceAdd, Nat.reduceSub, Int.reduceLT, Int.reduceLE, Int.reduceNeg, Nat.zero_add,
  true_and, and_true, eq_self, Bool.true_or, Bool.or_true, Bool.false_or, Bool.or_false, Bool.true_and, Bool.and_true, Bool.false_and, Bool.and_false, exists_eq_left, exists_eq_left', exists_eq', exists_eq, Option.some.injEq, Res.v.injEq, D.bl.injEq, D.int.injEq, D.str.injEq, D.lst.injEq, D.tup.injEq, D.dct.injEq, D.ins.injEq, Sl.o.injEq, Sl.d.injEq, List.cons.injEq, reduceCtorEq, false_or, or_false, if_true, if_false, Bool.false_eq_true, Bool.not_true, Bool.not_false, ite_true, ite_false, decide_true, decide_false, and_self, List.isEmpty_nil, List.isEmpty_cons, exists_and_left, exists_const, lenNil, reprWL, reprAA, dZipLT, min3R, isBR, notBR, pcT, wtT, wtI, pcI, dIsiT2O, dCallBL, lrgR, lrg1R, dNewT, dLk, dDispT1, dNeE, dPutT, dGetT, dLenT, dVarK, dItKT, dIxT, dLenTD, dKeysT, un_dT, un_dL, fzR, lz3R, dThenFz, dNest, dOwnL, dEqO, hideO, dOpV, dRevL, dGetS, dLkI, dItKI, dIxI, dGetI, dInI, dIndexI, dTryG, dSh, dToldG, wrD, reprXX, dMinDf, dPutN, dPar3C, dTcat, dSlT, dListValsT, dOrK, dTChain3, dCall3, dZip3, dItIT, dIxTO, dInKO, dGet1T, dSortDA])
def trV (zs : List Str) (p : Pn) : Pn := (p.1, p.2.1, if p.1 ∈ zs then 1 - p.2.2 else p.2.2)
def sp_l_turned_voices (C : Nm) : DSp := fun ds Q X => ∃ (ps : List Pn) (zs : List Str), ds = [wD C ps, .lst (zs.map .str)] ∧ Wf ps ∧ Q (.ow (wD C (ps.map (trV zs))))
def sp_l_fewest (C : Nm) : DSp := fun ds Q X => ∃ ps : List Pn, ds = [wD C ps] ∧ Wf ps ∧ ps.length ≤ 12 ∧ ∀ T, FwOk ps T → Q (.ow (.dct (T.map fwE)))
def t_l_turned_voices (K : PySem.W.Frag) (C : Nm) (XD : DX) : DTS := (dRet (dCall (sp_l_made C) XD (dCons (dLc (dItL (dDctIx (dVar 0) (dC (.str ("people" : Str))))) (dgTup 3 (dgCons (dgName 2) (dgCons (dgName 3) (dgCons (dgName 4) dgNil)))) dYes (dTup (dCons (dVar 2) (dCons (dVar 3) (dCons (dIf (dTst (dOp (dIn false) (dVar 2) (dVar 1))) (dOp dSub (dC (.int 1)) (dVar 4)) (dVar 4)) dNil)))) [2, 3, 4]) dNil)))
def t_l_fewest (K : PySem.W.Frag) (C : Nm) (XD : DX) : DTS := (dSeq (dPar 1 2 dNewD (dLc (dItL (dDctIx (dVar 0) (dC (.str ("people" : Str))))) (dgName 3) dYes (dOp dIx (dVar 3) (dC (.int 0))) [3]))
      (dSeq (dSet 4 (dLst (dCons (dLst dNil) dNil)))
      (dSeq (dFor (dItL (dVar 2)) (dgName 5) (dSet 4 (dOp dAdd (dVar 4) (dLc (dItL (dVar 4)) (dgName 6) dYes (dOp dAdd (dVar 6) (dLst (dCons (dVar 5) dNil))) [6]))))
      (dSeq (dFor (dItL (dVar 4)) (dgName 6) (dSeq (dSet 7 (dLc (dItL (dDctIx (dVar 0) (dC (.str ("people" : Str))))) (dgTup 3 (dgCons (dgName 5) (dgCons (dgName 8) (dgCons (dgName 9) dgNil)))) dYes (dTup (dCons (dVar 8) (dCons (dIf (dTst (dOp (dIn false) (dVar 5) (dVar 6))) (dOp dSub (dC (.int 1)) (dVar 9)) (dVar 9)) dNil))) [5, 8, 9]))
      (dSeq (dSet 10 (dCB dSortL (dCons (dLc (dItL (dVar 7)) (dgTup 2 (dgCons (dgName 8) (dgCons (dgName 9) dgNil))) (dTst (dOp dEq2 (dVar 9) (dC (.int 1)))) (dVar 8) [8, 9]) dNil)))
      (dIfS (dTst (dOp dEq2 (dOp dMod (dCB dInt1 (dCons (dCB dLen (dCons (dVar 10) dNil)) dNil)) (dC (.int 2))) (dC (.int 1)))) (dSeq (dSet 11 (dOp dSub (dCB dSum (dCons (dStep2 0 (dVar 10)) dNil)) (dCB dSum (dCons (dStep2 1 (dVar 10)) dNil))))
      (dPutS 1 (dVar 11) (dCB dMin2 (dCons (dGetS 1 (dVar 11) (dCB dLen (dCons (dVar 2) dNil))) (dCons (dCB dLen (dCons (dVar 6) dNil)) dNil))))) dNext))))
      (dRetVar 1)))))
section
variable {K : PySem.W.Frag} {C : Nm} {XD : DX} {ds : List D} {QD : Res → Prop}
theorem Wf.trV {ps : List Pn} (hw : Wf ps) (zs : List Str) : Wf (ps.map (trV zs)) := by
  refine ⟨fun p hp => ?_, ?_, fun p hp => ?_, by rw [List.length_map]; exact hw.few⟩
  · obtain ⟨q, hq, rfl⟩ := List.mem_map.mp hp
    exact hw.word q hq
  · rw [List.map_map]; exact hw.nd
  · obtain ⟨q, hq, rfl⟩ := List.mem_map.mp hp
    show (if q.1 ∈ zs then 1 - q.2.2 else q.2.2) = 0 ∨ (if q.1 ∈ zs then 1 - q.2.2 else q.2.2) = 1
    have := hw.voice q hq
    split <;> omega
theorem in_strsB {z : Str} {zs : List Str} : inD (.str z) (zs.map D.str) = decide (z ∈ zs) := by
  have e : zs.map D.str = (zs.map fun z => ((z, 0, 0) : Pn)).map fun p => D.str p.1 := by rw [List.map_map]; rfl
  have e2 : (zs.map fun z => ((z, 0, 0) : Pn)).map (·.1) = zs := by rw [List.map_map]; exact List.map_id zs
  rw [e]
  by_cases m : z ∈ zs
  · rw [decide_eq_true m]; exact in_names (by rw [e2]; exact m)
  · rw [decide_eq_false m]; exact not_names (by rw [e2]; exact m)
theorem flat_strs (zs : List Str) : (zs.map D.str).all flatD = true := by
  rw [List.all_eq_true]
  intro d hd
  obtain ⟨z, _, rfl⟩ := List.mem_map.mp hd
  rfl
theorem pure_l_turned_voices (h : sp_l_turned_voices C ds QD XD) : t_l_turned_voices K C XD { nx := fun _ => QD (.v .non), rt := QD } (startN 5 ds) := by
  obtain ⟨ps, zs, rfl, hw, q⟩ := h
  unfold t_l_turned_voices
  have few := hw.few
  walk_at "ev"
  refine ⟨_, rfl, _, rfl, _, wd_p, _, rfl, ?_⟩
  refine lcL_fun (fun ρ => ρ = [Sl.d (wD C ps), Sl.d (.lst (zs.map .str)), Sl.un, Sl.un, Sl.un]) pD (fun _ => true) (fun p => pD (trV zs p)) ?_ ps [] _ (by rw [List.length_nil]; omega) rfl ?_
  · rintro p ρ rfl K1 K2 h1 h2
    walk_at "ev"
    refine ⟨rfl, flat_strs zs, ?_⟩
    rw [in_strsB]
    by_cases m : p.1 ∈ zs
    · rw [decide_eq_true m]
      walk_at "ev"
      exact ⟨by decide, h1 rfl _ _ (by unfold trV pD; rw [if_pos m]; rfl) rfl⟩
    · rw [decide_eq_false m]
      walk_at "ev"
      exact ⟨by decide, h1 rfl _ _ (by unfold trV pD; rw [if_neg m]; rfl) rfl⟩
  · rintro ρ rfl
    rw [filter_tt, List.nil_append]
    walk_at "ev"
    exact ⟨ps.map (trV zs), by rw [List.map_map]; rfl, hw.trV zs, q⟩
theorem subs_le {S zs : List Str} (h : S ∈ subsL zs) : S.length ≤ zs.length := by
  refine rev_ind (P := fun zs => ∀ S, S ∈ subsL zs → S.length ≤ zs.length) (fun S h => ?_) (fun L x ih S h => ?_) zs S h
  · have : S = [] := by simpa [subsL] using h
    rw [this]; exact Nat.le_refl _
  · rw [subs_snoc] at h
    rw [List.length_append, List.length_singleton]
    rcases List.mem_append.mp h with h | h
    · have := ih S h; omega
    · obtain ⟨S0, h0, rfl⟩ := List.mem_map.mp h
      have := ih S0 h0
      rw [List.length_append, List.length_singleton]; omega
def lsD (S : List Str) : D := .lst (S.map .str)
theorem pure_l_fewest (h : sp_l_fewest C ds QD XD) : t_l_fewest K C XD { nx := fun _ => QD (.v .non), rt := QD } (startN 12 ds) := by
  obtain ⟨ps, rfl, hw, few, q⟩ := h
  unfold t_l_fewest
  walk_at "ev"
  refine ⟨_, rfl, _, rfl, _, wd_p, _, rfl, ?_⟩
  refine lcL_fun (fun ρ => ρ = [Sl.d (wD C ps), Sl.un, Sl.un, Sl.un, Sl.un, Sl.un, Sl.un, Sl.un, Sl.un, Sl.un, Sl.un, Sl.un]) pD (fun _ => true) (fun p => D.str p.1) ?_ ps [] _ (by rw [List.length_nil]; omega) rfl ?_
  · rintro p ρ rfl K1 K2 h1 h2
    walk_at "ev"
    exact h1 rfl _ _ rfl rfl
  rintro ρ rfl
  rw [filter_tt, List.nil_append]
  walk_at "ev"
  rw [show (ps.map fun p => D.str p.1) = (ps.map (·.1)).map D.str by rw [List.map_map]; rfl]
  refine ⟨by decide, ?_⟩
  refine loop_inv D.str (fun rest ρ => ∃ (L : List Str) (s5 s6 s7 s8 s9 s10 s11 sL : Sl), L ++ rest = ps.map (·.1) ∧ (sL = Sl.d (.lst ((subsL L).map lsD)) ∨ sL = Sl.o (.lst ((subsL L).map lsD))) ∧ ρ = [Sl.d (wD C ps), Sl.o (.dct []), Sl.d (.lst ((ps.map (·.1)).map D.str)), Sl.un, sL, s5, s6, s7, s8, s9, s10, s11]) ?_ ?_ _ _ ⟨[], _, _, _, _, _, _, _, _, rfl, .inr rfl, rfl⟩
  · rintro z rest ρ ⟨L, s5, s6, s7, s8, s9, s10, s11, sL, e, hL, rfl⟩ E1 a1 a2 a3 a4
    have lL : L.length ≤ 11 := by
      have := congrArg List.length e
      rw [List.length_append, List.length_cons, List.length_map] at this
      omega
    have sl : (subsL L).length ≤ 2048 := by rw [subs_len]; exact Nat.le_trans (Nat.pow_le_pow_right (by decide) lL) (by decide)
    obtain ⟨zz, ez⟩ : ∃ zz : List {S : List Str // S.length ≤ 60}, subsL L = zz.map (·.1) := ⟨(subsL L).attachWith _ fun S hS => by have := subs_le hS; omega, by simp⟩
    have zl : zz.length = (subsL L).length := by rw [ez, List.length_map]
    have e3 : (subsL L).map lsD = zz.map fun S => lsD S.1 := by rw [ez, List.map_map]; rfl
    have e4 : ((zz.map fun S => lsD S.1) ++ zz.map fun S => lsD (S.1 ++ [z])) = (subsL (L ++ [z])).map lsD := by
      rw [subs_snoc, List.map_append, ez, List.map_map, List.map_map, List.map_map]; rfl
    rw [e3] at hL
    rcases hL with rfl | rfl
    all_goals
      walk_at "ev"
      refine lcL_fun (fun ρ => ρ = [Sl.d (wD C ps), Sl.o (.dct []), Sl.d (.lst ((ps.map (·.1)).map D.str)), Sl.un, Sl.d (.lst (zz.map fun S => lsD S.1)), Sl.d (.str z), Sl.un, s7, s8, s9, s10, s11]) (fun S : {S : List Str // S.length ≤ 60} => lsD S.1) (fun _ => true) (fun S => lsD (S.1 ++ [z])) ?_ zz [] _ (by rw [List.length_nil]; omega) rfl ?_
      · rintro ⟨S, hS⟩ ρ rfl K1 K2 h1 h2
        have sm := small' (n := S.length + 1) (m := 100) (by omega)
        unfold lsD
        walk_at "ev"
        exact ⟨by decide, by rw [List.length_map]; omega, h1 rfl _ _ (by unfold lsD; rw [List.map_append]; rfl) rfl⟩
      rintro ρ rfl
      rw [filter_tt, List.nil_append]
      walk_at "ev"
      refine ⟨by rw [List.length_map, List.length_map]; have := small' (n := zz.length + zz.length) (m := 5000) (by omega); omega, ?_⟩
      rw [e4]
      exact a1 _ ⟨L ++ [z], _, _, _, _, _, _, _, _, by rw [List.append_assoc]; exact e, .inr rfl, rfl⟩
  · rintro ρ ⟨L, s5, s6, s7, s8, s9, s10, s11, sL, e, hL, rfl⟩
    rw [List.append_nil] at e
    subst e
    have sl : (subsL (ps.map (·.1))).length ≤ 4096 := by rw [subs_len, List.length_map]; exact Nat.le_trans (Nat.pow_le_pow_right (by decide) few) (by decide)
    rcases hL with rfl | rfl
    all_goals
      walk_at "ev"
      refine loop_inv lsD (fun rest ρ => ∃ (done : List (List Str)) (T : List CE) (s5 s6 s7 s8 s9 s10 s11 : Sl), done ++ rest = subsL (ps.map (·.1)) ∧ BestC (candsS ps done) T ∧ ρ = [Sl.d (wD C ps), Sl.o (.dct (T.map fwE)), Sl.d (.lst ((ps.map (·.1)).map D.str)), Sl.un, Sl.d (.lst ((subsL (ps.map (·.1))).map lsD)), s5, s6, s7, s8, s9, s10, s11]) ?_ ?_ _ _ ⟨[], [], _, _, _, _, _, _, _, rfl, .nil, rfl⟩
      · rintro S rest ρ ⟨done, T, s5, s6, s7, s8, s9, s10, s11, e, hB, rfl⟩ E1 a1 a2 a3 a4
        have hS : S ∈ subsL (ps.map (·.1)) := by rw [← e]; exact List.mem_append_right _ List.mem_cons_self
        walk_at "ev"
        refine ⟨_, rfl, _, rfl, _, wd_p, _, rfl, ?_⟩
        refine lcL_fun (fun ρ => ρ = [Sl.d (wD C ps), Sl.o (.dct (T.map fwE)), Sl.d (.lst ((ps.map (·.1)).map D.str)), Sl.un, Sl.d (.lst ((subsL (ps.map (·.1))).map lsD)), Sl.un, Sl.d (lsD S), s7, Sl.un, Sl.un, s10, s11]) pD (fun _ => true) (fun p => pr2 (p.2.1, if p.1 ∈ S then 1 - p.2.2 else p.2.2)) ?_ ps [] _ (by rw [List.length_nil]; omega) rfl ?_
        · rintro p ρ rfl K1 K2 h1 h2
          unfold lsD
          walk_at "ev"
          refine ⟨rfl, flat_strs S, ?_⟩
          rw [in_strsB]
          by_cases m : p.1 ∈ S
          · rw [decide_eq_true m]
            walk_at "ev"
            exact ⟨by decide, h1 rfl _ _ (by rw [if_pos m]; rfl) rfl⟩
          · rw [decide_eq_false m]
            walk_at "ev"
            exact ⟨by decide, h1 rfl _ _ (by rw [if_neg m]; rfl) rfl⟩
        rintro ρ rfl
        rw [filter_tt, List.nil_append]
        walk_at "ev"
        refine lcL_fun (fun ρ => ρ = [Sl.d (wD C ps), Sl.o (.dct (T.map fwE)), Sl.d (.lst ((ps.map (·.1)).map D.str)), Sl.un, Sl.d (.lst ((subsL (ps.map (·.1))).map lsD)), Sl.un, Sl.d (lsD S), Sl.d (.lst (ps.map fun p => pr2 (p.2.1, if p.1 ∈ S then 1 - p.2.2 else p.2.2))), Sl.un, Sl.un, s10, s11]) (fun p : Pn => pr2 (p.2.1, if p.1 ∈ S then 1 - p.2.2 else p.2.2)) (someV S) (fun p => D.int p.2.1) ?_ ps [] _ (by rw [List.length_nil]; omega) rfl ?_
        · rintro p ρ rfl K1 K2 h1 h2
          walk_at "ev"
          refine ⟨_, rfl, rfl, _, _, rfl, _, _, rfl, rfl, ?_⟩
          walk_at "ev"
          by_cases c : (if p.1 ∈ S then 1 - p.2.2 else p.2.2) = 1
          · rw [if_pos (decide_eq_true c)]
            exact h1 (decide_eq_true c) _ _ rfl rfl
          · rw [if_neg (by rw [decide_eq_false c]; decide)]
            exact h2 (decide_eq_false c) _ rfl
        rintro ρ rfl
        rw [List.nil_append]
        have fl := List.length_filter_le (someV S) ps
        refine ⟨(ps.filter (someV S)).map fun p => p.2.1, by rw [List.map_map]; rfl, by rw [List.length_map]; omega, fun ns hp hs => ?_⟩
        have en : ns = ((lineL ps).filter (someV S)).map fun p => p.2.1 := List.Perm.eq_of_pairwise (fun a b _ _ x y => Int.le_antisymm x y) hs ((List.pairwise_map.mpr ((line_srt ps).sublist List.filter_sublist))) (hp.trans (((line_perm ps).filter _).map _).symm)
        have lnn : ns.length = ((lineL ps).filter (someV S)).length := by rw [en, List.length_map]
        have hc1 : (candS ps S).1.1 = altsum ns := by unfold candS; rw [en]
        have hc2 : (candS ps S).1.2 = ((ns.length % 2 : Nat) : Int) := by unfold candS; rw [lnn]
        have hcn := cand_num hw hS
        have hSl : S.length ≤ ps.length := by have := subs_le hS; rwa [List.length_map] at this
        have hone : ∀ c, c ∈ T → c.1.2 = 1 := fun c hc => of_decide_eq_true (List.mem_filter.mp (hB.src c.1 c.2 (nd_val hB.nd hc))).2
        have app : candsS ps (done ++ [S]) = candsS ps done ++ [candS ps S].filter fun c => decide (c.1.2 = 1) := by unfold candsS; rw [List.map_append, List.filter_append]; rfl
        have tlen : T.length ≤ 4096 := by
          have h1 := hB.len
          have h2 : (candsS ps done).length ≤ done.length := by
            unfold candsS
            refine Nat.le_trans (List.length_filter_le _ _) ?_
            rw [List.length_map]; exact Nat.le_refl _
          have h3 := congrArg List.length e
          rw [List.length_append] at h3
          omega
        walk_at "ev"
        rw [List.length_map]
        by_cases od : ns.length % 2 = 1
        · rw [if_pos (decide_eq_true (by omega))]
          have ec : (candS ps S).1 = (altsum ns, 1) := Prod.ext hc1 (by rw [hc2, od]; rfl)
          have app2 : candsS ps (done ++ [S]) = candsS ps done ++ [candS ps S] := by
            rw [app, List.filter_cons_of_pos (by rw [ec]; exact decide_eq_true rfl)]; rfl
          refine ⟨alt ns, by rw [List.drop_zero, alt_map], alt (ns.drop 1), by rw [← List.map_drop, alt_map], ?_⟩
          walk_at "ev"
          rw [alt_sum]
          refine ⟨_, rfl, ?_⟩
          rw [fw_val hone]
          have fin : ∀ (m : List Str), BestC (candsS ps done ++ [candS ps S]) (putC T (altsum ns, 1) m) → E1.nx [Sl.d (wD C ps), Sl.o (.dct (putD (T.map fwE) (Sum.inl (altsum ns)) (.int m.length))), Sl.d (.lst ((ps.map (·.1)).map D.str)), Sl.un, Sl.d (.lst ((subsL (ps.map (·.1))).map lsD)), Sl.un, Sl.d (lsD S), Sl.d (.lst (ps.map fun p => pr2 (p.2.1, if p.1 ∈ S then 1 - p.2.2 else p.2.2))), Sl.un, Sl.un, Sl.d (.lst (ns.map D.int)), Sl.d (.int (altsum ns))] := fun m hm => by
            rw [fw_put hone]
            exact a1 _ ⟨done ++ [S], _, _, _, _, _, _, _, _, by rw [List.append_assoc]; exact e, by rw [app2]; exact hm, rfl⟩
          unfold lsD
          cases ev : valC T (altsum ns, 1) with
          | none =>
            dsimp only [Option.map, Option.getD]
            walk_at "ev"
            refine ⟨_, rfl, small' (m := 5000) (by rw [List.length_map]; omega), ?_⟩
            simp only [List.length_map]
            rw [show (if (S.length : Int) < (ps.length : Int) then (S.length : Int) else (ps.length : Int)) = ((candS ps S).2.length : Int) by rw [hcn]; split <;> omega]
            refine fin _ ?_
            have := hB.put (c := candS ps S) (ns' := (candS ps S).2) (List.mem_append_right _ (List.mem_singleton.mpr rfl)) (Nat.le_refl _) (fun m hm => by rw [ec, ev] at hm; cases hm)
            rwa [ec] at this
          | some m =>
            dsimp only [Option.map, Option.getD]
            walk_at "ev"
            refine ⟨_, rfl, small' (m := 5000) (by rw [List.length_map]; omega), ?_⟩
            simp only [List.length_map]
            by_cases ll : S.length < m.length
            · rw [if_pos (by omega), show (S.length : Int) = ((candS ps S).2.length : Int) by rw [hcn]]
              refine fin _ ?_
              have := hB.put (c := candS ps S) (ns' := (candS ps S).2) (List.mem_append_right _ (List.mem_singleton.mpr rfl)) (Nat.le_refl _) (fun m' hm => by rw [ec, ev] at hm; cases hm; omega)
              rwa [ec] at this
            · rw [if_neg (by omega)]
              refine fin m ?_
              have := hB.put (c := candS ps S) (ns' := m) (List.mem_append_left _ (by rw [ec]; exact hB.src _ _ ev)) (by omega) (fun m' hm => by rw [ec, ev] at hm; cases hm; exact Nat.le_refl _)
              rwa [ec] at this
        · rw [if_neg (by rw [decide_eq_false (by omega)]; decide)]
          refine a1 _ ⟨done ++ [S], T, _, _, _, _, _, _, _, by rw [List.append_assoc]; exact e, ?_, rfl⟩
          rw [app, List.filter_cons_of_neg (by rw [hc2, decide_eq_true_eq]; omega), List.filter_nil, List.append_nil]
          exact hB
      · rintro ρ ⟨done, T, s5, s6, s7, s8, s9, s10, s11, e, hB, rfl⟩
        rw [List.append_nil] at e
        subst e
        walk_at "ev"
        exact q T (fw_of hw hB)
end
end L2.DL
set_option Elab.async false
set_option linter.all false
set_option autoImplicit false
set_option maxRecDepth 100000
set_option maxHeartbeats 2000000
namespace L2.DL
open PySem PySem.Spec PyProof.Rows
structure Lq (n : Nat) (d : D) : Prop where
  pl : plain d = true
  lay : (py d).canLay0 = true
  dep : (py d).depth ≤ n
  nc : nc d = true
structure Lqs (n : Nat) (ds : List D) : Prop where
  pl : plains ds = true
  lay : PyData.canLayAll0 (pys ds) = true
  dep : PyData.depthAll (pys ds) ≤ n
  nc : ncs ds = true
section
variable {n m : Nat} {d e : D} {ds : List D} {Q : Res → Prop}
theorem Lq.mono (h : Lq n d) (hn : n ≤ m) : Lq m d := ⟨h.pl, h.lay, Nat.le_trans h.dep hn, h.nc⟩
theorem Lqs.mono (h : Lqs n ds) (hn : n ≤ m) : Lqs m ds := ⟨h.pl, h.lay, Nat.le_trans h.dep hn, h.nc⟩
theorem Lq.non : Lq n .non := ⟨rfl, rfl, by simp only [py, PyData.depth]; omega, by simp [L2.DL.nc]⟩
theorem Lq.bl {b : Bool} : Lq n (.bl b) := ⟨rfl, rfl, by simp only [py, PyData.depth]; omega, by simp [L2.DL.nc]⟩
theorem Lq.int {i : Int} : Lq n (.int i) := ⟨rfl, rfl, by simp only [py, PyData.depth]; omega, by simp [L2.DL.nc]⟩
theorem Lq.str {z : Str} (h : strC z = true) : Lq n (.str z) := ⟨rfl, (Sh.str h (Nat.le_refl _)).lay, by simp only [py, PyData.depth]; omega, by simp [L2.DL.nc]⟩
theorem Lqs.nil : Lqs n [] := ⟨rfl, rfl, by simp only [pys, PyData.depthAll]; omega, by simp [ncs]⟩
theorem Lqs.cons (h : Lq n d) (t : Lqs n ds) : Lqs n (d :: ds) := ⟨by simp only [plains, h.pl, t.pl, Bool.and_self], by simp only [pys, PyData.canLayAll0, h.lay, t.lay, Bool.and_self], by simp only [pys, PyData.depthAll]; have := h.dep; have := t.dep; omega, by simp only [ncs, h.nc, t.nc, Bool.and_self]⟩
theorem Lqs.map {α : Type} {f : α → D} : ∀ {l : List α}, (∀ x, x ∈ l → Lq n (f x)) → Lqs n (l.map f)
  | [], _ => .nil
  | x :: l, h => .cons (h x List.mem_cons_self) (Lqs.map (l := l) fun y hy => h y (List.mem_cons_of_mem _ hy))
theorem Lqs.lst (h : Lqs n ds) : Lq (n + 1) (.lst ds) := ⟨by simp only [plain]; exact h.pl, by simp only [py, PyData.canLay0]; exact h.lay, by simp only [py, PyData.depth]; have := h.dep; omega, by simp only [L2.DL.nc]; exact h.nc⟩
theorem Lqs.tup (h : Lqs n ds) : Lq (n + 1) (.tup ds) := ⟨by simp only [plain]; exact h.pl, by simp only [py, PyData.canLay0]; exact h.lay, by simp only [py, PyData.depth]; have := h.dep; omega, by simp only [L2.DL.nc]; exact h.nc⟩
theorem Lq.shaped (h : Lq n d) (hn : n ≤ 60) : SeqAt.shaped (py d) = true := by
  unfold SeqAt.shaped
  rw [h.lay, Bool.true_and]
  exact decide_eq_true (Nat.le_trans h.dep (by omega))
theorem Lq.eqOk (h : Lq n d) (k : Lq m e) (hn : n ≤ 60 := by decide) (hm : m ≤ 60 := by decide) : EqOk d e := ⟨h.pl, k.pl, h.shaped hn, k.shaped hm⟩
end
end L2.DL
set_option Elab.async false
set_option linter.all false
set_option autoImplicit false
set_option maxRecDepth 100000
set_option maxHeartbeats 2000000
namespace L2.DL
open PySem PySem.Spec PyProof.Rows
local macro_rules | `(tactic| walk_at "ev") => `(tactic| simp only [dSeq, dNext, dSet, dPar, dPar3, dRet, dRetN, dDrop, dIfS, dBrk, dCnt, dApp, dFor, dItL, dItT, dRng1, dRng2, dZip, dEnum, dItS, dAsg, dAugI, dNever, dPutS, dNewD, dFldM, dFldS, dStar,
  dgName, dgTup, dgCons, dgNil, dOp, dUn, dC, dNil, dCons, dCB, dTup, dLst, dIf, dTst, dTru, dAnd, dOr, dNot, dAndV, dOrV, dNotV, dYes, dInR, dFld, dMeth, dCall, dDctIx, dGet2, dRaise, dRaiseZ, dDisp, dPNil, dPCons, dRepD, dTold, dLenSet, hid_u, hid_d, hid_o, dStep2, dSlV, dIxV, dSetV, dPopV, dLenV, dLcV, lstAt, Option.isSome_some, Option.isSome_none, dSl, dNoP, dPart, dLc, dDc, dSortSet, dSortSc, dListVals, dChain, dIsiT2, dCallB, dBor, dNilB, dCBB, dOneL,
  dIsN, dNotN, dStrI, dAbs, dIn, fz_v, fz_l, fz_d, fz_i, fz_m, un_l, un_d, un_i, un_m, sl_v, sl_o, dwipe, and_assoc, insLF, insLT, insFF, insFT, startD, startN, pdT, pdI, gdT, prT, stI, putFD, lendable, noKR, noK, noKs,
  vd0, vo0, rd0, ro0, vd1, vo1, rd1, ro1, vd2, vo2, rd2, ro2, vd3, vo3, rd3, ro3, vd4, vo4, rd4, ro4, vd5, vo5, rd5, ro5, vd6, vo6, rd6, ro6, vd7, vo7, rd7, ro7, vd8, vo8, rd8, ro8, vd9, vo9, rd9, ro9, vd10, vo10, rd10, ro10, vd11, vo11, rd11, ro11, vd12, vo12, rd12, ro12, vd13, vo13, rd13, ro13, vd14, vo14, rd14, ro14, vd15, vo15, rd15, ro15, vd16, vo16, rd16, ro16, vd17, vo17, rd17, ro17, vd18, vo18, rd18, ro18, vd19, vo19, rd19, ro19, vd20, vo20, rd20, ro20, vd21, vo21, rd21, ro21, vd22, vo22, rd22, ro22, vd23, vo23, rd23, ro23, lk_people, lk_names, lk_has_name, lk_person, lk_place, lk_voice, lk_places, lk_at, lk_line, lk_voices, lk_is_together, lk_own, lenL, lenT, lenS, ixL, ixT, ixS, dcutL, dcutS, addII, addSS, addLL, int1i, int1b, negI, reprL, reprT, absI, sc_n, sc_b, sc_i, sc_s, subI, mulI, fdvI, modI, powI, ltI, leI, gtI, geI, tr_n, tr_b, tr_i, tr_l, tr_t, tr_d, ty_n, ty_b, ty_i, ty_s, ty_l, ty_t, ty_d, in_n, in_b, in_i, in_s, in_l, in_t, in_d, eqII, neII, eqSS, neSS, eqBB, neBB, isic_n, isic_b, isic_i, isic_s, isic_l, isic_t, isic_d, isio_n, isio_b, isio_i, isio_s, isio_l, isio_t, isio_d, isic_I, isic_S, isic_T, isic_L, isic_B, isio_I, dIsiO, isi_ii, isi_ib, isi_is, isi_il, isi_bi, isi_bb, isi_bs, isi_si, isi_sb, isi_ss, isi_ni, isi_nb, isi_ns, isi_li, isi_lb, isi_ls, isi_ll, isi_ti, isi_tb, isi_ts, isi_tt, isi_di, isi_db, isi_ds, isi_lt, isi_tl, isi_bt, isi_nt, isi_dt, eqLL, neLL, eqTT, neTT, isi_sl, isi_st, isi_it, kit_ll, kit_lt, max2, min2, get1, get2b, get3b, get3c,
  List.map_cons, List.map_nil, List.length_cons, List.length_nil, List.replicate, List.append_nil, List.cons_append, List.nil_append, List.getElem?_cons_zero, List.getElem?_cons_succ, List.set_cons_zero, List.set_cons_succ, List.getElem?_nil, Nat.sub_zero, Nat.reduceAdd, Nat.reduceSub, Int.reduceLT, Int.reduceLE, Int.reduceNeg, Nat.zero_add,
  true_and, and_true, eq_self, Bool.true_or, Bool.or_true, Bool.false_or, Bool.or_false, Bool.true_and, Bool.and_true, Bool.false_and, Bool.and_false, exists_eq_left, exists_eq_left', exists_eq', exists_eq, Option.some.injEq, Res.v.injEq, D.bl.injEq, D.int.injEq, D.str.injEq, D.lst.injEq, D.tup.injEq, D.dct.injEq, D.ins.injEq, Sl.o.injEq, Sl.d.injEq, List.cons.injEq, reduceCtorEq, false_or, or_false, if_true, if_false, Bool.false_eq_true, Bool.not_true, Bool.not_false, ite_true, ite_false, decide_true, decide_false, and_self, List.isEmpty_nil, List.isEmpty_cons, exists_and_left, exists_const, lenNil, reprWL, reprAA, dZipLT, min3R, isBR, notBR, pcT, wtT, wtI, pcI, dIsiT2O, dCallBL, lrgR, lrg1R, dNewT, dLk, dDispT1, dNeE, dPutT, dGetT, dLenT, dVarK, dItKT, dIxT, dLenTD, dKeysT, un_dT, un_dL, fzR, lz3R, dThenFz, dNest, dOwnL, dEqO, hideO, dOpV, dRevL, dGetS, dLkI, dItKI, dIxI, dGetI, dInI, dIndexI, dTryG, dSh, dToldG, wrD, reprXX, dMinDf, dPutN, dPar3C, dTcat, dSlT, dListValsT, dOrK, dTChain3, dCall3, dZip3, dItIT, dIxTO, dInKO, dGet1T, dSortDA])
def t_law_k78 (K : PySem.W.Frag) (C : Nm) (XD : DX) : DTS := (dSeq (dFor (dRng1 (dCons (dC (.int 4)) dNil)) (dgName 2) (dSeq (dSet 3 (dCall (sp_l_world C) XD (dCons (dVar 1) (dCons (dOp dIx (dLst (dCons (dC (.int 2)) (dCons (dC (.int 5)) (dCons (dC (.int 8)) (dCons (dC (.int 12)) dNil))))) (dVar 2)) (dCons (dC (.int 4)) (dCons (dC (.int 2)) dNil))))))
      (dSeq (dIfS (dTst (dOp dEq2 (dCall (sp_l_pick C) XD (dCons (dVar 1) (dCons (dC (.int 3)) dNil))) (dC (.int 0)))) (dSet 3 (dCall (sp_l_at C) XD (dCons (dVar 3) (dCons (dCB dTupOf (dCons (dLc (dItT (dCall (sp_w_spots C) XD (dCons (dVar 3) dNil))) (dgName 4) dYes (dOp dSub (dCall (sp_l_pick C) XNo (dCons (dVar 1) (dCons (dC (.int 2001)) dNil))) (dC (.int 1000))) [4]) dNil)) dNil)))) dNext)
      (dSeq (dSet 5 (dCB dSortDA (dCons (dCall (sp_l_fewest C) XD (dCons (dVar 3) dNil)) dNil)))
      (dSeq (dFor (dRng1 (dCons (dC (.int 2)) dNil)) (dgName 6) (dSeq (dSet 7 (dCall (sp_places_by_voices C) XD (dCons (dDctIx (dVar 3) (dC (.str ("standing" : Str)))) dNil)))
      (dSeq (dIfS (dTst (dOp dNe2 (dCBB dRepr (dBor 7 (dNilB 7))) (dCB dRepr (dCons (dVar 5) dNil)))) (dRet (dC (.bl false))) dNext)
      (dApp 7 (dC .non)))))
      (dSeq (dSet 8 (dLc (dItL (dDctIx (dVar 3) (dC (.str ("people" : Str))))) (dgName 9) dYes (dOp dIx (dVar 9) (dC (.int 0))) [9]))
      (dSeq (dSet 10 (dCall (sp_l_turned_voices C) XD (dCons (dVar 3) (dCons (dSl (dCall (sp_l_mixed C) XD (dCons (dVar 1) (dCons (dVar 8) dNil))) dNoP (dPart (dCall (sp_l_pick C) XD (dCons (dVar 1) (dCons (dOp dAdd (dCB dLen (dCons (dVar 8) dNil)) (dC (.int 1))) dNil))))) dNil))))
      (dSeq (dIfS (dTst (dOp dNe2 (dCall (sp_places_by_voices C) XD (dCons (dDctIx (dVar 10) (dC (.str ("standing" : Str)))) dNil)) (dVar 5))) (dRet (dC (.bl false))) dNext)
      (dSeq (dSet 11 (dCall (sp_l_at C) XD (dCons (dVar 3) (dCons (dCB dTupOf (dCons (dLc (dItT (dCall (sp_w_spots C) XD (dCons (dVar 3) dNil))) (dgName 4) dYes (dOp dSub (dC (.int 0)) (dVar 4)) [4]) dNil)) dNil))))
      (dSeq (dIfS (dTst (dOp dNe2 (dCall (sp_places_by_voices C) XD (dCons (dDctIx (dVar 11) (dC (.str ("standing" : Str)))) dNil)) (dLc (dItL (dRevL (dVar 5))) (dgName 12) dYes (dOp dSub (dC (.int 0)) (dVar 12)) [12]))) (dRet (dC (.bl false))) dNext)
      (dFor (dItL (dSl (dCall (sp_l_mixed C) XD (dCons (dVar 1) (dCons (dVar 5) dNil))) dNoP (dPart (dC (.int 3))))) (dgName 12) (dIfS (dTst (dOp dIsN (dCall (sp_wished_voices C) XD (dCons (dDctIx (dVar 10) (dC (.str ("standing" : Str)))) (dCons (dVar 12) dNil))) (dC .non))) (dRet (dC (.bl false))) dNext))))))))))))
      (dRet (dOp dEq2 (dCall (sp_places_by_voices C) XD (dCons (dDctIx (dCall (sp_l_made C) XD (dCons (dLst dNil) dNil)) (dC (.str ("standing" : Str)))) dNil)) (dLst dNil))))
section
variable {K : PySem.W.Frag} {C : Nm} {XD : DX} {ds : List D} {QD : Res → Prop}
theorem asc_fw {ps : List Pn} (hw : Wf ps) {T : List CE} (hT : FwOk ps T) {ys : List Int} (hp : ys.Perm (T.map (·.1.1))) (hs : ys.Pairwise (· ≤ ·)) : AscTot ps ys := by
  have nd : (T.map (·.1.1)).Nodup := by
    have h1 := hT.nd
    rw [List.nodup_iff_pairwise_ne, List.pairwise_map] at h1 ⊢
    refine h1.imp_of_mem fun {a b} ha hb hne e => hne ?_
    have a1 := (hT.ok a.1 a.2 (nd_val hT.nd ha)).1
    have b1 := (hT.ok b.1 b.2 (nd_val hT.nd hb)).1
    exact Prod.ext e (a1.trans b1.symm)
  refine ⟨?_, fun t => ?_⟩
  · have ny := hp.nodup_iff.mpr nd
    rw [List.nodup_iff_pairwise_ne] at ny
    exact (hs.and ny).imp fun ⟨a, b⟩ => by omega
  · rw [hp.mem_iff, tot_ch hw, List.mem_map]
    constructor
    · rintro ⟨e, he, rfl⟩
      exact ⟨_, (hT.ok e.1 e.2 (nd_val hT.nd he)).2⟩
    · rintro ⟨ns, h⟩
      obtain ⟨ns', h1, _⟩ := hT.low _ _ h
      exact ⟨((t, 1), ns'), valC_mem h1, rfl⟩
theorem asc_same {ps qs : List Pn} (e : srtP ps = srtP qs) {xs ys : List Int} (h : AscTot ps xs) (k : AscTot qs ys) : xs = ys := sorted_same h.1 k.1 fun t => by rw [h.2, k.2, e]
theorem srt_perm (ps : List Pn) : (srtP ps).Perm (plcs ps) := (line_perm ps).map _
theorem srt_pw (ps : List Pn) : (srtP ps).Pairwise (· ≤ ·) := List.pairwise_map.mpr (line_srt ps)
theorem srt_of {ps : List Pn} {xs : List Int} (h : xs.Perm (plcs ps)) (k : xs.Pairwise (· ≤ ·)) : srtP ps = xs := List.Perm.eq_of_pairwise (fun a b _ _ x y => Int.le_antisymm x y) (srt_pw ps) k ((srt_perm ps).trans h.symm)
theorem srt_trV (zs : List Str) (ps : List Pn) : srtP (ps.map (trV zs)) = srtP ps := by
  refine srt_of ?_ (srt_pw ps)
  have e : plcs (ps.map (trV zs)) = plcs ps := by unfold plcs; rw [List.map_map]; rfl
  rw [e]; exact srt_perm ps
theorem srt_neg {ps qs : List Pn} (e : plcs qs = (plcs ps).map fun x => 0 - x) : srtP qs = ((srtP ps).reverse).map fun x => 0 - x := by
  refine srt_of ?_ ?_
  · rw [e]
    exact ((List.reverse_perm _).trans (srt_perm ps)).map _
  · rw [List.pairwise_map, List.pairwise_reverse]
    exact (srt_pw ps).imp fun h => by omega
theorem altsum_neg0 (l : List Int) : altsum (l.map fun x => 0 - x) = 0 - altsum l := by
  have e : (l.map fun x => 0 - x) = l.map fun x => -x := List.map_congr_left fun x _ => by omega
  rw [e, altsum_neg]; omega
theorem tot_neg {X : List Int} {t : Int} (h : TotP X t) : TotP (X.reverse.map fun x => 0 - x) (0 - t) := by
  obtain ⟨S, s1, s2, s3⟩ := h
  refine ⟨S.reverse.map fun x => 0 - x, (s1.reverse).map _, by rw [List.length_map, List.length_reverse]; exact s2, ?_⟩
  rw [altsum_neg0, altsum_rev, if_neg (by omega), s3]
theorem asc_neg {ps qs : List Pn} (e : plcs qs = (plcs ps).map fun x => 0 - x) {ys : List Int} (h : AscTot ps ys) : AscTot qs (ys.reverse.map fun x => 0 - x) := by
  refine ⟨?_, fun t => ?_⟩
  · rw [List.pairwise_map, List.pairwise_reverse]
    exact h.1.imp fun h => by omega
  · rw [srt_neg e, List.mem_map]
    constructor
    · rintro ⟨x, hx, rfl⟩
      exact tot_neg ((h.2 x).mp (List.mem_reverse.mp hx))
    · intro hx
      refine ⟨0 - t, List.mem_reverse.mpr ((h.2 _).mpr ?_), by omega⟩
      have := tot_neg hx
      rw [← List.map_reverse, List.map_map, List.reverse_reverse] at this
      have e2 : (srtP ps).map ((fun x : Int => 0 - x) ∘ fun x => 0 - x) = srtP ps := (List.map_congr_left fun x _ => by show 0 - (0 - x) = id x; simp).trans (List.map_id _)
      rw [e2] at this
      exact this
theorem alt_bound {B : Int} (b0 : 0 ≤ B) : ∀ S : List Int, (∀ x, x ∈ S → -B ≤ x ∧ x ≤ B) → -(S.length * B) ≤ altsum S ∧ altsum S ≤ S.length * B
  | [], _ => by simp [altsum]
  | x :: S, h => by
    have h1 := h x List.mem_cons_self
    have ih := alt_bound b0 S fun y hy => h y (List.mem_cons_of_mem _ hy)
    rw [List.length_cons]
    have e : (((S.length + 1 : Nat) : Int)) * B = S.length * B + B := by rw [Int.natCast_add, Int.add_mul]; simp
    rw [e]
    simp only [altsum]
    omega
theorem tot_bound {ps : List Pn} (hn : Near 1000 ps) (few : ps.length ≤ 60) {t : Int} (h : TotP (srtP ps) t) : -60000 ≤ t ∧ t ≤ 60000 := by
  obtain ⟨S, s1, s2, rfl⟩ := h
  have ln := s1.length_le
  have lx : (srtP ps).length = ps.length := by rw [(srt_perm ps).length_eq, plcs_len]
  have := alt_bound (B := 1000) (by decide) S fun x hx => by
    obtain ⟨p, hp, rfl⟩ := List.mem_map.mp ((srt_perm ps).mem_iff.mp (s1.subset hx))
    exact hn p hp
  omega
theorem sh_intS {i : Int} (h : i.natAbs < 2 ^ 40) : Sh 0 41 (.int i) := by
  have h0 := Sh.int (i := i) (by omega)
  refine ⟨h0.pl, h0.lay, h0.lv, h0.sho, h0.dep, ?_⟩
  simp only [py, PyData.weight]
  split
  · omega
  · rename_i z
    have : i.natAbs ≠ 0 := fun y => z (by have : i = 0 := by omega
                                          subst this; rfl)
    have := (Nat.log2_lt this).mpr h
    omega
theorem neSame {d : D} {n : Nat} {Q : Res → Prop} (k : Lq n d) (hn : n ≤ 60 := by decide) : dNe d d Q = Q (.v (.bl false)) := by
  unfold dNe
  rw [eqv_self d k.nc]
  exact propext ⟨fun h => h.2, fun h => ⟨k.eqOk k hn hn, h⟩⟩
theorem cut_ex {α : Type} (f : α → D) (xs : List α) (a b : Option Int) : ∃ m : List α, cutD (xs.map f) a b = m.map f ∧ ∀ y, y ∈ m → y ∈ xs := by
  unfold cutD
  rw [List.length_map, ← List.map_drop, ← List.map_take]
  exact ⟨_, rfl, fun y h => List.mem_of_mem_drop (List.mem_of_mem_take h)⟩
theorem put_likeC {ps : List Pn} {xs : List Int} (hw : Wf ps) (hl : xs.length = ps.length) : Wf (putP ps xs) ∧ plcs (putP ps xs) = xs := by
  have key : ∀ (ps : List Pn) (xs : List Int), xs.length = ps.length → plcs (putP ps xs) = xs := by
    intro ps
    induction ps with
    | nil => intro xs h; cases xs with
      | nil => rfl
      | cons _ _ => cases h
    | cons p t ih =>
      intro xs h
      cases xs with
      | nil => cases h
      | cons x xs =>
        have i2 := ih xs (by simpa using h)
        have e : putP (p :: t) (x :: xs) = (p.1, x, p.2.2) :: putP t xs := rfl
        rw [e]
        show x :: plcs (putP t xs) = x :: xs
        rw [i2]
  exact ⟨hw.put hl, key ps xs hl⟩
theorem pure_law_k78 : t_law_k78 K C XD { nx := fun _ => False, rt := fun r => r = .v (.bl true) } (Sl.un :: Sl.d .src :: List.replicate 11 Sl.un) := by
  unfold t_law_k78
  walk_at "ev"
  refine ⟨by decide, by decide, ?_⟩
  refine loop_rng 0 4 (fun _ ρ => ∃ a2 a3 a4 a5 a6 a7 a8 a9 a10 a11 a12, ρ = [Sl.un, Sl.d .src, a2, a3, a4, a5, a6, a7, a8, a9, a10, a11, a12]) ?_ ?_ _ ⟨_, _, _, _, _, _, _, _, _, _, _, rfl⟩
  rotate_left
  · rintro ρ ⟨a2, a3, a4, a5, a6, a7, a8, a9, a10, a11, a12, rfl⟩
    have w0 : Wf [] := ⟨fun p h => (nomatch h), List.nodup_nil, fun p h => (nomatch h), Nat.zero_le _⟩
    walk_at "ev"
    refine ⟨[], rfl, w0, ?_⟩
    walk_at "ev"
    refine ⟨_, rfl, _, rfl, _, wd_s, [], rfl, w0, by decide, fun ys hy => ?_⟩
    have e0 : ys = [] := List.eq_nil_iff_forall_not_mem.mpr fun t ht => by
      obtain ⟨S, s1, s2, _⟩ := (hy.2 t).mp ht
      rw [show srtP [] = [] from srt_of (List.Perm.refl _) List.Pairwise.nil] at s1
      have : S = [] := List.sublist_nil.mp s1
      rw [this] at s2; cases s2
    subst e0
    walk_at "ev"
    exact (eqSelf (Q := fun r => r = Res.v (D.bl true)) (d := .lst []) (n := 1) (w := 0) rfl Shs.nil.lst).mpr rfl
  rintro turn ρ hturn ⟨a2, a3, a4, a5, a6, a7, a8, a9, a10, a11, a12, rfl⟩ E' j1 j2 j3 j4
  simp only [dgName, List.set_cons_succ, List.set_cons_zero]
  refine seq_of (fun ρ' => ∃ ps : List Pn, ps.length ≤ 12 ∧ Wf ps ∧ Near 1000 ps ∧ ρ' = [Sl.un, Sl.d .src, Sl.d (.int (0 + (turn : Int))), Sl.o (wD C ps), a4, a5, a6, a7, a8, a9, a10, a11, a12]) (fun N g => ?_) ?_
  · walk_at "ev"
    obtain ⟨m, em, m0, m1⟩ : ∃ m : Int, atI [D.int 2, D.int 5, D.int 8, D.int 12] (0 + (turn : Int)) = some (.int m) ∧ 1 ≤ m ∧ m ≤ 12 := by
      rcases (show turn = 0 ∨ turn = 1 ∨ turn = 2 ∨ turn = 3 by omega) with rfl | rfl | rfl | rfl
      · exact ⟨_, rfl, by decide, by decide⟩
      · exact ⟨_, rfl, by decide, by decide⟩
      · exact ⟨_, rfl, by decide, by decide⟩
      · exact ⟨_, rfl, by decide, by decide⟩
    refine ⟨by decide, _, em, m, 4, 2, rfl, m0, by omega, by decide, by decide, by decide, fun ps l1 l2 hd _ _ => ?_⟩
    have few : ps.length ≤ 60 := by omega
    have near : Near 1000 ps := fun p hp => ⟨Int.le_trans (by decide) (hd.lo p hp), Int.le_trans (hd.hi p hp) (by decide)⟩
    walk_at "ev"
    exact g _ ⟨ps, by omega, hd.wf few, near, rfl⟩
  rintro _ ⟨ps, few, hw, hn, rfl⟩
  refine seq_of (fun ρ' => ∃ (ps : List Pn) (a4 : Sl), ps.length ≤ 12 ∧ Wf ps ∧ Near 1000 ps ∧ ρ' = [Sl.un, Sl.d .src, Sl.d (.int (0 + (turn : Int))), Sl.o (wD C ps), a4, a5, a6, a7, a8, a9, a10, a11, a12]) (fun N g => ?_) ?_
  · walk_at "ev"
    refine ⟨3, rfl, by decide, fun kk _ _ => ?_⟩
    walk_at "ev"
    by_cases c : kk = 0
    · rw [if_pos (decide_eq_true c)]
      refine ⟨ps, rfl, by omega, ?_⟩
      walk_at "ev"
      refine lcL_rel (fun ρ => ρ = [Sl.un, Sl.d .src, Sl.d (.int (0 + (turn : Int))), Sl.d (wD C ps), Sl.un, a5, a6, a7, a8, a9, a10, a11, a12]) (fun p : Pn => D.int p.2.1) (fun _ x => -1000 ≤ x ∧ x ≤ 1000) D.int ?_ _ [] _ (by rw [List.length_nil]; omega) rfl ?_
      · rintro p ρ rfl K1 k1
        walk_at "ev"
        refine ⟨2001, rfl, by decide, fun x x0 x1 => ?_⟩
        walk_at "ev"
        exact k1 (x - 1000) _ _ (by omega) rfl rfl
      rintro xs ρ' hall rfl
      have xl := hall.length
      rw [List.nil_append]
      walk_at "ev"
      refine ⟨_, .inl rfl, ps, xs, .inl rfl, hw, by rw [xl], ?_⟩
      obtain ⟨lk, eq⟩ := put_likeC hw (by rw [xl] : xs.length = ps.length)
      have nr : Near 1000 (putP ps xs) := fun p hp => by
        have := hall.mem p.2.1 (by rw [← eq]; exact List.mem_map_of_mem hp)
        obtain ⟨_, _, h⟩ := this
        exact h
      exact g _ ⟨putP ps xs, _, by rw [← plcs_len, eq]; omega, lk, nr, rfl⟩
    · rw [if_neg (by rw [decide_eq_false c]; decide)]
      exact g _ ⟨ps, _, few, hw, hn, rfl⟩
  rintro _ ⟨ps, a4, few, hw, hn, rfl⟩
  have few60 : ps.length ≤ 60 := by omega
  refine seq_of (fun ρ' => ∃ ys : List Int, AscTot ps ys ∧ ys.length ≤ 4096 ∧ ρ' = [Sl.un, Sl.d .src, Sl.d (.int (0 + (turn : Int))), Sl.d (wD C ps), a4, Sl.o (.lst (ys.map .int)), a6, a7, a8, a9, a10, a11, a12]) (fun N g => ?_) ?_
  · walk_at "ev"
    refine ⟨ps, rfl, hw, few, fun T hT => ?_⟩
    walk_at "ev"
    refine ⟨T.map (·.1.1), by rw [List.map_map, List.map_map]; rfl, fun ys hp hs => ?_⟩
    refine g _ ⟨ys, asc_fw hw hT hp hs, ?_, rfl⟩
    rw [hp.length_eq, List.length_map]
    exact Nat.le_trans hT.len (Nat.le_trans (Nat.pow_le_pow_right (by decide) few) (by decide))
  rintro _ ⟨ys, hy, yl, rfl⟩
  refine seq_of (fun ρ' => ∃ (s5 s6 s7 : Sl), (s5 = Sl.o (.lst (ys.map .int)) ∨ s5 = Sl.d (.lst (ys.map .int))) ∧ ρ' = [Sl.un, Sl.d .src, Sl.d (.int (0 + (turn : Int))), Sl.d (wD C ps), a4, s5, s6, s7, a8, a9, a10, a11, a12]) (fun N g => ?_) ?_
  · have shY : ShowOk (.lst (ys.map .int)) := ((Shs.map fun y h => sh_intS (by have := tot_bound hn few60 ((hy.2 y).mp h); omega)).lst.mono (Nat.le_refl _) (Nat.mul_le_mul_right _ yl)).show
    have lY : (ys.map D.int).length < sizeLine := small' (m := 5000) (by rw [List.length_map]; omega)
    walk_at "ev"
    refine ⟨by decide, by decide, ?_⟩
    refine loop_rng 0 2 (fun _ ρ => ∃ (s5 s6 s7 : Sl), (s5 = Sl.o (.lst (ys.map .int)) ∨ s5 = Sl.d (.lst (ys.map .int))) ∧ ρ = [Sl.un, Sl.d .src, Sl.d (.int (0 + (turn : Int))), Sl.d (wD C ps), a4, s5, s6, s7, a8, a9, a10, a11, a12]) ?_ ?_ _ ⟨_, _, _, .inl rfl, rfl⟩
    · rintro k ρ hk ⟨s5, s6, s7, h5, rfl⟩ E2 g1 g2 g3 g4
      rcases h5 with rfl | rfl
      all_goals
        walk_at "ev"
        refine ⟨_, rfl, _, rfl, _, wd_s, ps, rfl, hw, few, fun zs hz => ?_⟩
        rw [asc_same rfl hz hy]
        refine ⟨_, rfl, ⟨_, rfl⟩, rfl, ?_⟩
        rw [show unAt (.lst (ys.map D.int)) = .lst (ys.map D.int) from rfl]
        walk_at "ev"
        exact ⟨shY, shY, lY, g1 _ ⟨_, _, _, .inr rfl, rfl⟩⟩
    · rintro ρ ⟨s5, s6, s7, h5, rfl⟩
      exact g _ ⟨s5, s6, s7, h5, rfl⟩
  rintro _ ⟨s5, s6, s7, h5, rfl⟩
  refine seq_of (fun ρ' => ρ' = [Sl.un, Sl.d .src, Sl.d (.int (0 + (turn : Int))), Sl.d (wD C ps), a4, s5, s6, s7, Sl.o (.lst ((ps.map (·.1)).map D.str)), Sl.un, a10, a11, a12]) (fun N g => ?_) ?_
  · walk_at "ev"
    refine ⟨_, rfl, _, rfl, _, wd_p, _, rfl, ?_⟩
    refine lcL_fun (fun ρ => ρ = [Sl.un, Sl.d .src, Sl.d (.int (0 + (turn : Int))), Sl.d (wD C ps), a4, s5, s6, s7, a8, Sl.un, a10, a11, a12]) pD (fun _ => true) (fun p => D.str p.1) ?_ ps [] _ (by rw [List.length_nil]; omega) rfl ?_
    · rintro p ρ rfl K1 K2 h1 h2
      walk_at "ev"
      exact h1 rfl _ _ rfl rfl
    rintro ρ rfl
    rw [filter_tt, List.nil_append]
    refine g _ ?_
    rw [List.map_map]
    rfl
  rintro _ rfl
  refine seq_of (fun ρ' => ∃ (zs : List Str), ρ' = [Sl.un, Sl.d .src, Sl.d (.int (0 + (turn : Int))), Sl.d (wD C ps), a4, s5, s6, s7, Sl.d (.lst ((ps.map (·.1)).map D.str)), Sl.un, Sl.o (wD C (ps.map (trV zs))), a11, a12]) (fun N g => ?_) ?_
  · walk_at "ev"
    refine ⟨Str, D.str, ps.map (·.1), rfl, by rw [List.length_map]; omega, fun ms hm => ?_⟩
    walk_at "ev"
    rw [List.length_map, List.length_map]
    refine ⟨_, rfl, by omega, fun kk k0 k1 => ?_⟩
    walk_at "ev"
    obtain ⟨m, em, _⟩ := cut_ex D.str ms none (some kk)
    rw [em]
    refine ⟨ps, m, rfl, hw, ?_⟩
    exact g _ ⟨_, rfl⟩
  rintro _ ⟨zs, rfl⟩
  have hwt := hw.trV zs
  have fewt : (ps.map (trV zs)).length ≤ 12 := by rw [List.length_map]; exact few
  have lqY : ∀ zs : List Int, Lqs 0 (zs.map D.int) := fun zs => Lqs.map fun _ _ => Lq.int
  refine seq_of (fun ρ' => ρ' = [Sl.un, Sl.d .src, Sl.d (.int (0 + (turn : Int))), Sl.d (wD C ps), a4, Sl.d (.lst (ys.map .int)), s6, s7, Sl.d (.lst ((ps.map (·.1)).map D.str)), Sl.un, Sl.d (wD C (ps.map (trV zs))), a11, a12]) (fun N g => ?_) ?_
  · rcases h5 with rfl | rfl
    all_goals
      walk_at "ev"
      refine ⟨_, rfl, _, rfl, _, wd_s, ps.map (trV zs), rfl, hwt, fewt, fun us hu => ?_⟩
      rw [asc_same (srt_trV zs ps) hu hy]
      walk_at "ev"
      rw [neSame (lqY ys).lst]
      walk_at "ev"
      exact g _ rfl
  rintro _ rfl
  refine seq_of (fun ρ' => ∃ (qs : List Pn) (s4 : Sl), plcs qs = (plcs ps).map (fun x => 0 - x) ∧ Wf qs ∧ ρ' = [Sl.un, Sl.d .src, Sl.d (.int (0 + (turn : Int))), Sl.d (wD C ps), s4, Sl.d (.lst (ys.map .int)), s6, s7, Sl.d (.lst ((ps.map (·.1)).map D.str)), Sl.un, Sl.d (wD C (ps.map (trV zs))), Sl.o (wD C qs), a12]) (fun N g => ?_) ?_
  · walk_at "ev"
    refine ⟨ps, rfl, by omega, ?_⟩
    walk_at "ev"
    refine lcL_fun (fun ρ => ρ = [Sl.un, Sl.d .src, Sl.d (.int (0 + (turn : Int))), Sl.d (wD C ps), Sl.un, Sl.d (.lst (ys.map .int)), s6, s7, Sl.d (.lst ((ps.map (·.1)).map D.str)), Sl.un, Sl.d (wD C (ps.map (trV zs))), a11, a12]) (fun p : Pn => D.int p.2.1) (fun _ => true) (fun p => D.int (0 - p.2.1)) ?_ ps [] _ (by rw [List.length_nil]; omega) rfl ?_
    · rintro p ρ rfl K1 K2 h1 h2
      walk_at "ev"
      exact h1 rfl _ _ rfl rfl
    rintro ρ rfl
    rw [filter_tt, List.nil_append]
    walk_at "ev"
    have xl : ((plcs ps).map fun x => 0 - x).length = ps.length := by rw [List.length_map, plcs_len]
    obtain ⟨lk, eq⟩ := put_likeC hw xl
    refine ⟨_, .inl rfl, ps, (plcs ps).map fun x => 0 - x, .inl ?_, hw, xl, ?_⟩
    · show [wD C ps, D.tup (ps.map fun p => D.int (0 - p.2.1))] = [wD C ps, tiD ((plcs ps).map fun x => 0 - x)]
      unfold tiD plcs
      rw [List.map_map, List.map_map]; rfl
    exact g _ ⟨_, _, eq, lk, rfl⟩
  rintro _ ⟨qs, s4, eq, hq, rfl⟩
  have fewq : qs.length ≤ 12 := by rw [← plcs_len, eq, List.length_map, plcs_len]; exact few
  refine seq_of (fun ρ' => ∃ s12 : Sl, ρ' = [Sl.un, Sl.d .src, Sl.d (.int (0 + (turn : Int))), Sl.d (wD C ps), s4, Sl.d (.lst (ys.map .int)), s6, s7, Sl.d (.lst ((ps.map (·.1)).map D.str)), Sl.un, Sl.d (wD C (ps.map (trV zs))), Sl.d (wD C qs), s12]) (fun N g => ?_) ?_
  · walk_at "ev"
    refine ⟨_, rfl, _, rfl, _, wd_s, qs, rfl, hq, fewq, fun us hu => ?_⟩
    rw [asc_same rfl hu (asc_neg eq hy)]
    walk_at "ev"
    rw [← List.map_reverse]
    refine lcL_fun (fun ρ => ρ = [Sl.un, Sl.d .src, Sl.d (.int (0 + (turn : Int))), Sl.d (wD C ps), s4, Sl.d (.lst (ys.map .int)), s6, s7, Sl.d (.lst ((ps.map (·.1)).map D.str)), Sl.un, Sl.d (wD C (ps.map (trV zs))), Sl.d (wD C qs), Sl.un]) D.int (fun _ => true) (fun x => D.int (0 - x)) ?_ ys.reverse [] _ (by rw [List.length_nil, List.length_reverse]; omega) rfl ?_
    · rintro x ρ rfl K1 K2 h1 h2
      walk_at "ev"
      exact h1 rfl _ _ rfl rfl
    rintro ρ rfl
    rw [filter_tt, List.nil_append]
    walk_at "ev"
    rw [show (ys.reverse.map fun x => D.int (0 - x)) = (ys.reverse.map fun x => 0 - x).map D.int by rw [List.map_map]; rfl, neSame (lqY _).lst]
    walk_at "ev"
    exact g _ ⟨_, rfl⟩
  rintro _ ⟨s12, rfl⟩
  walk_at "ev"
  refine ⟨Int, D.int, ys, rfl, by omega, fun us hus => ?_⟩
  walk_at "ev"
  obtain ⟨m, em, me⟩ := cut_ex D.int us none (some 3)
  rw [em]
  refine loop_inv D.int (fun rest ρ => ∃ s12 : Sl, (∀ t, t ∈ rest → t ∈ ys) ∧ ρ = [Sl.un, Sl.d .src, Sl.d (.int (0 + (turn : Int))), Sl.d (wD C ps), s4, Sl.d (.lst (ys.map .int)), s6, s7, Sl.d (.lst ((ps.map (·.1)).map D.str)), Sl.un, Sl.d (wD C (ps.map (trV zs))), Sl.d (wD C qs), s12]) ?_ ?_ _ _ ⟨_, fun t ht => hus.mem_iff.mp (me t ht), rfl⟩
  · rintro t rest ρ ⟨s12, sub, rfl⟩ E2 g1 g2 g3 g4
    have ht := (hy.2 t).mp (sub t List.mem_cons_self)
    rw [← srt_trV zs ps, tot_ch hwt] at ht
    walk_at "ev"
    refine ⟨_, rfl, _, rfl, _, wd_s, ps.map (trV zs), t, rfl, hwt, fewt, fun ns _ _ => ?_, fun no => ?_⟩
    · walk_at "ev"
      exact g1 _ ⟨_, fun t ht => sub t (List.mem_cons_of_mem _ ht), rfl⟩
    · obtain ⟨ns, h⟩ := ht
      exact absurd h (no ns)
  · rintro ρ ⟨s12, _, rfl⟩
    exact j1 _ ⟨_, _, _, _, _, _, _, _, _, _, _, rfl⟩
end
end L2.DL
set_option Elab.async false
set_option linter.all false
set_option autoImplicit false
set_option maxRecDepth 100000
set_option maxHeartbeats 4000000
namespace K78
open PySem PySem.Spec PyProof.Rows L2 L2.DL
abbrev N_l_source : List Str := ["_law_script", "_law_mixed_here", "_law_cell"]
theorem sc_l_source : FnScope N_l_source ["_law_script"] (defScope s_l_source) := ⟨rfl, rfl, rfl, by decide +kernel, rfl, by decide +kernel, by decide +kernel⟩
abbrev N_Standing_names : List Str := ["self"]
theorem sc_Standing_names : FnScope N_Standing_names ["self"] (defScope s_Standing_names) := ⟨rfl, rfl, rfl, by decide +kernel, rfl, by decide +kernel, by decide +kernel⟩
abbrev N_is_word : List Str := ["value", "sign"]
theorem sc_is_word : FnScope N_is_word ["value"] (defScope s_is_word) := ⟨rfl, rfl, rfl, by decide +kernel, rfl, by decide +kernel, by decide +kernel⟩
abbrev N_Standing_has_name : List Str := ["self", "value"]
theorem sc_Standing_has_name : FnScope N_Standing_has_name ["self", "value"] (defScope s_Standing_has_name) := ⟨rfl, rfl, rfl, by decide +kernel, rfl, by decide +kernel, by decide +kernel⟩
abbrev N_Standing_person : List Str := ["self", "name"]
theorem sc_Standing_person : FnScope N_Standing_person ["self", "name"] (defScope s_Standing_person) := ⟨rfl, rfl, rfl, by decide +kernel, rfl, by decide +kernel, by decide +kernel⟩
abbrev N_Standing_place : List Str := ["self", "name"]
theorem sc_Standing_place : FnScope N_Standing_place ["self", "name"] (defScope s_Standing_place) := ⟨rfl, rfl, rfl, by decide +kernel, rfl, by decide +kernel, by decide +kernel⟩
abbrev N_Standing_line : List Str := ["self"]
theorem sc_Standing_line : FnScope N_Standing_line ["self"] (defScope s_Standing_line) := ⟨rfl, rfl, rfl, by decide +kernel, rfl, by decide +kernel, by decide +kernel⟩
abbrev N_Standing_voice : List Str := ["self", "name"]
theorem sc_Standing_voice : FnScope N_Standing_voice ["self", "name"] (defScope s_Standing_voice) := ⟨rfl, rfl, rfl, by decide +kernel, rfl, by decide +kernel, by decide +kernel⟩
abbrev N_changes_by_sums : List Str := ["standing", "found", "name", "place", "own", "later", "total", "odd", "names", "voice", "sign", "state", "changed"]
theorem sc_changes_by_sums : FnScope N_changes_by_sums ["standing"] (defScope s_changes_by_sums) := ⟨rfl, rfl, rfl, by decide +kernel, rfl, by decide +kernel, by decide +kernel⟩
abbrev N_places_by_voices : List Str := ["standing", "total", "odd"]
theorem sc_places_by_voices : FnScope N_places_by_voices ["standing"] (defScope s_places_by_voices) := ⟨rfl, rfl, rfl, by decide +kernel, rfl, by decide +kernel, by decide +kernel⟩
abbrev N_is_integer : List Str := ["value"]
theorem sc_is_integer : FnScope N_is_integer ["value"] (defScope s_is_integer) := ⟨rfl, rfl, rfl, by decide +kernel, rfl, by decide +kernel, by decide +kernel⟩
abbrev N_is_row : List Str := ["value", "many"]
theorem sc_is_row : FnScope N_is_row ["value", "many"] (defScope s_is_row) := ⟨rfl, rfl, rfl, by decide +kernel, rfl, by decide +kernel, by decide +kernel⟩
abbrev N_wrong_person : List Str := ["value", "names"]
theorem sc_wrong_person : FnScope N_wrong_person ["value", "names"] (defScope s_wrong_person) := ⟨rfl, rfl, rfl, by decide +kernel, rfl, by decide +kernel, by decide +kernel⟩
abbrev N_wrong_people : List Str := ["value", "names", "k", "person", "path"]
theorem sc_wrong_people : FnScope N_wrong_people ["value"] (defScope s_wrong_people) := ⟨rfl, rfl, rfl, by decide +kernel, rfl, by decide +kernel, by decide +kernel⟩
abbrev N_Standing_init : List Str := ["self", "people", "path", "person"]
theorem sc_Standing_init : FnScope N_Standing_init ["self", "people"] (defScope s_Standing_init) := ⟨rfl, rfl, rfl, by decide +kernel, rfl, by decide +kernel, by decide +kernel⟩
abbrev N_l_made : List Str := ["_law_people", "_law_one"]
theorem sc_l_made : FnScope N_l_made ["_law_people"] (defScope s_l_made) := ⟨rfl, rfl, rfl, by decide +kernel, rfl, by decide +kernel, by decide +kernel⟩
abbrev N_l_pick : List Str := ["_law_source_here", "_law_many", "_law_left", "_law_mixed_here"]
theorem sc_l_pick : FnScope N_l_pick ["_law_source_here", "_law_many"] (defScope s_l_pick) := ⟨rfl, rfl, rfl, by decide +kernel, rfl, by decide +kernel, by decide +kernel⟩
abbrev N_l_mixed : List Str := ["_law_source_here", "_law_things", "_law_rest", "_law_lap"]
theorem sc_l_mixed : FnScope N_l_mixed ["_law_source_here", "_law_things"] (defScope s_l_mixed) := ⟨rfl, rfl, rfl, by decide +kernel, rfl, by decide +kernel, by decide +kernel⟩
abbrev N_wished_voices : List Str := ["standing", "place", "names"]
theorem sc_wished_voices : FnScope N_wished_voices ["standing", "place"] (defScope s_wished_voices) := ⟨rfl, rfl, rfl, by decide +kernel, rfl, by decide +kernel, by decide +kernel⟩
abbrev N_l_at : List Str := ["_law_world_here", "_law_spots_here", "_law_one", "_law_spot"]
theorem sc_l_at : FnScope N_l_at ["_law_world_here", "_law_spots_here"] (defScope s_l_at) := ⟨rfl, rfl, rfl, by decide +kernel, rfl, by decide +kernel, by decide +kernel⟩
abbrev N_w_spots : List Str := ["_law_world_here", "_law_one"]
theorem sc_w_spots : FnScope N_w_spots ["_law_world_here"] (defScope s_w_spots) := ⟨rfl, rfl, rfl, by decide +kernel, rfl, by decide +kernel, by decide +kernel⟩
abbrev N_l_turned_voices : List Str := ["_law_world_here", "_law_names_here", "_law_name", "_law_place", "_law_voice"]
theorem sc_l_turned_voices : FnScope N_l_turned_voices ["_law_world_here", "_law_names_here"] (defScope s_l_turned_voices) := ⟨rfl, rfl, rfl, by decide +kernel, rfl, by decide +kernel, by decide +kernel⟩
abbrev N_l_fewest : List Str := ["_law_world_here", "_law_found", "_law_names_here", "_law_one", "_law_lists", "_law_name", "_law_some", "_law_late", "_law_place", "_law_voice", "_law_places", "_law_total"]
theorem sc_l_fewest : FnScope N_l_fewest ["_law_world_here"] (defScope s_l_fewest) := ⟨rfl, rfl, rfl, by decide +kernel, rfl, by decide +kernel, by decide +kernel⟩
abbrev N_l_names : List Str := ["_law_source_here", "_law_many", "_law_shift", "_law_names_here", "_law_tails", "_law_k", "_law_letter"]
theorem sc_l_names : FnScope N_l_names ["_law_source_here", "_law_many"] (defScope s_l_names) := ⟨rfl, rfl, rfl, by decide +kernel, rfl, by decide +kernel, by decide +kernel⟩
abbrev N_l_of : List Str := ["_law_source_here", "_law_some"]
theorem sc_l_of : FnScope N_l_of ["_law_source_here", "_law_some"] (defScope s_l_of) := ⟨rfl, rfl, rfl, by decide +kernel, rfl, by decide +kernel, by decide +kernel⟩
abbrev N_l_world : List Str := ["_law_source_here", "_law_most", "_law_far", "_law_parity", "_law_here", "_law_people", "_law_name", "_law_one"]
theorem sc_l_world : FnScope N_l_world ["_law_source_here", "_law_most", "_law_far", "_law_parity"] (defScope s_l_world) := ⟨rfl, rfl, rfl, by decide +kernel, rfl, by decide +kernel, by decide +kernel⟩
abbrev N_law : List Str := ["_law_script", "_law_source_here", "_law_turn", "_law_world_here", "_law_spot", "_law_due", "_law_lap", "_law_told", "_law_names_here", "_law_one", "_law_late", "_law_turned", "_law_place"]
theorem sc_law : FnScope N_law ["_law_script"] (defScope s_law) := ⟨rfl, rfl, rfl, by decide +kernel, rfl, by decide +kernel, by decide +kernel⟩
structure GB (mg : Str → Option Value) (C : Nm) : Prop where
  abs : mg "abs" = none
  all : mg "all" = none
  bool : mg "bool" = none
  enumerate : mg "enumerate" = none
  int : mg "int" = none
  isinstance : mg "isinstance" = none
  len : mg "len" = none
  list : mg "list" = none
  max : mg "max" = none
  min : mg "min" = none
  range : mg "range" = none
  repr : mg "repr" = none
  sorted : mg "sorted" = none
  str : mg "str" = none
  sum : mg "sum" = none
  tuple : mg "tuple" = none
  zip : mg "zip" = none
  c_FIGURES : ∃ t, mg "FIGURES" = some (.str ("0123456789" : Str) t)
  c_LETTERS : ∃ t, mg "LETTERS" = some (.str ("abcdefghijklmnopqrstuvwxyz" : Str) t)
  o_Standing : mg "Standing" = some (.ref (C "Standing"))
structure CS (K : PySem.W.Frag) (C : Nm) : Prop where
  c_Standing : Cls K (C "Standing")
  f_own_people : NoAttr K (C "Standing") "own_people"
  n_Standing : InsN K (C "Standing")
section
variable {P : Program} {w : World} {K : PySem.W.Frag} {mg : Str → Option Value} {base : Heap}
theorem ok_l_source {C : Nm} {f : Addr} {fd : FuncData} (gb : GB mg C) (F : Fun K "_law_source" "_law_source" s_l_source f fd) : FnG P w K mg base 1 f fd ["_law_script"] (spSrc K) := by
  refine okG F sc_l_source (fun vs H Q E h => by obtain ⟨a, ns, rfl, _⟩ := h; rfl) fun cdv A outer s H vs Q E hgd hr h => ?_
  have nd := sc_l_source.nd
  refine ⟨_, pss_cons (ps_set (i := 1) nd rfl (.inl rfl) pe_int)
    (pss_cons (ps_for (passes_of rfl) rfl (pi_list (pv 0)) (pg_name (i := 2) nd rfl (.inl rfl))
      (pss_one (ps_set (i := 1) nd rfl (.inl rfl) (pe_op op_mod (pe_callTy call_int1 rfl gb.int (by decide +kernel) (pa_cons (pe_op op_add (pe_op op_add (pe_op op_mul (pv 1) pe_int) (pe_op op_mul (pv 2) pe_int)) pe_int) pa_nil)) pe_int))))
    (pss_one (ps_ret (pe_disp (pps_cons pe_str (pe_revL (pe_lc (own := [("_law_cell", 2)]) rfl nd (pi_list (pv 0)) (blkOk_by (own := [("_law_cell", 2)]) (N := N_l_source) (sc := defScope s_l_source) (by decide +kernel)) (fun _ _ _ _ _ => pg_name (i := 2) nd rfl (.inl rfl)) (fun _ _ _ _ _ => pts_nil) (fun _ _ _ _ _ => pe_callB call_abs rfl gb.abs (by decide +kernel) (pa_cons (pv 2) pa_nil))))
      (pps_cons pe_str pe_int (pps_cons pe_str (pv 1) (pps_cons pe_str pe_int pps_nil)))) rfl rfl (by decide) (by decide))))), ?_⟩
  exact pure_source (N := []) h
theorem ok_Standing_names {C : Nm} {f : Addr} {fd : FuncData} (gb : GB mg C) (st : CS K C)  (F : Fun K "names" "Standing.names" s_Standing_names f fd) : FnG P w K mg base 1 f fd ["self"] (spD K (sp_Standing_names C)) := by
  refine fnD F sc_Standing_names (fun ds QD XD h => by first | (rcases h with h | h <;> first | (obtain ⟨rfl, _⟩ := h; rfl) | (obtain ⟨_, rfl, _⟩ := h; rfl) | (obtain ⟨_, _, rfl, _⟩ := h; rfl) | (obtain ⟨_, _, _, rfl, _⟩ := h; rfl) | (obtain ⟨_, _, _, _, rfl, _⟩ := h; rfl) | (obtain ⟨_, _, _, _, _, rfl, _⟩ := h; rfl) | (obtain ⟨_, _, _, _, _, _, rfl, _⟩ := h; rfl) | (obtain ⟨_, _, _, _, _, _, _, rfl, _⟩ := h; rfl)) | (obtain ⟨rfl, _⟩ := h; rfl) | (obtain ⟨_, rfl, _⟩ := h; rfl) | (obtain ⟨_, _, rfl, _⟩ := h; rfl) | (obtain ⟨_, _, _, rfl, _⟩ := h; rfl) | (obtain ⟨_, _, _, _, rfl, _⟩ := h; rfl) | (obtain ⟨_, _, _, _, _, rfl, _⟩ := h; rfl) | (obtain ⟨_, _, _, _, _, _, rfl, _⟩ := h; rfl) | (obtain ⟨_, _, _, _, _, _, _, rfl, _⟩ := h; rfl) | (obtain ⟨rfl | rfl, _⟩ := h <;> rfl) | (obtain ⟨_, rfl | rfl, _⟩ := h <;> rfl) | (obtain ⟨_, _, rfl | rfl, _⟩ := h <;> rfl) | (obtain ⟨_, _, _, rfl | rfl, _⟩ := h <;> rfl) | (obtain ⟨_, _, _, _, rfl | rfl, _⟩ := h <;> rfl)) fun cdv A outer s H E c XD hgd hr eK hp lk => ?_
  subst eK
  have hK : c.K = c.K := rfl
  have nd := sc_Standing_names.nd
  exact ⟨t_Standing_names c.K C XD, (dss_one (ds_ret (de_callTy cd_listKeys (call_list_dK rfl) rfl gb.list (by decide +kernel) (da_cons (de_fld st.c_Standing st.f_own_people hK (dv 0)) da_nil)))), fun ds QD h => pure_Standing_names h⟩
theorem ok_is_word {C : Nm} {f : Addr} {fd : FuncData} (gb : GB mg C) (st : CS K C)  (F : Fun K "is_word" "is_word" s_is_word f fd) : FnG P w K mg base 1 f fd ["value"] (spD K (sp_is_word C)) := by
  refine fnD F sc_is_word (fun ds QD XD h => by first | (rcases h with h | h <;> first | (obtain ⟨rfl, _⟩ := h; rfl) | (obtain ⟨_, rfl, _⟩ := h; rfl) | (obtain ⟨_, _, rfl, _⟩ := h; rfl) | (obtain ⟨_, _, _, rfl, _⟩ := h; rfl) | (obtain ⟨_, _, _, _, rfl, _⟩ := h; rfl) | (obtain ⟨_, _, _, _, _, rfl, _⟩ := h; rfl) | (obtain ⟨_, _, _, _, _, _, rfl, _⟩ := h; rfl) | (obtain ⟨_, _, _, _, _, _, _, rfl, _⟩ := h; rfl)) | (obtain ⟨rfl, _⟩ := h; rfl) | (obtain ⟨_, rfl, _⟩ := h; rfl) | (obtain ⟨_, _, rfl, _⟩ := h; rfl) | (obtain ⟨_, _, _, rfl, _⟩ := h; rfl) | (obtain ⟨_, _, _, _, rfl, _⟩ := h; rfl) | (obtain ⟨_, _, _, _, _, rfl, _⟩ := h; rfl) | (obtain ⟨_, _, _, _, _, _, rfl, _⟩ := h; rfl) | (obtain ⟨_, _, _, _, _, _, _, rfl, _⟩ := h; rfl) | (obtain ⟨rfl | rfl, _⟩ := h <;> rfl) | (obtain ⟨_, rfl | rfl, _⟩ := h <;> rfl) | (obtain ⟨_, _, rfl | rfl, _⟩ := h <;> rfl) | (obtain ⟨_, _, _, rfl | rfl, _⟩ := h <;> rfl) | (obtain ⟨_, _, _, _, rfl | rfl, _⟩ := h <;> rfl)) fun cdv A outer s H E c XD hgd hr eK hp lk => ?_
  subst eK
  have hK : c.K = c.K := rfl
  have nd := sc_is_word.nd
  exact ⟨t_is_word c.K C XD, (dss_cons (ds_if (PW.pt (dw_or (dt_not (dt_tru hK (de_callB (cd_isiC st.n_Standing) call_isi rfl gb.isinstance (by decide +kernel) (da_cons (dv 0) (da_cons (de_bty rfl gb.str (by decide +kernel)) da_nil))))) (dw_or (dt_notInRng rfl gb.range (de_callB cd_len call_len rfl gb.len (by decide +kernel) (da_cons (dv 0) da_nil)) (da_cons de_int (da_cons de_int da_nil))) (dw_or1 (dt_cmp od_notInS op_notIn_sign (de_ix od_ix ix_seq (dv 0) de_int (fun _ _ => rfl)) (de_con rfl gb.c_LETTERS) (by rfl)))))) (dss_one (ds_ret de_bl)) dss_nil)
      (dss_one (ds_ret (de_callB cd_all (cr_all rfl) rfl gb.all (by decide +kernel) (da_cons (de_lc (own := [("sign", 1)]) rfl nd  (di_str (dv 0)) (blkOk_by (own := [("sign", 1)]) (N := N_is_word) (sc := defScope s_is_word) (by decide +kernel)) (by decide) (fun _ _ _ _ _ => (dg_name (i := 1) nd rfl (.inl rfl))) (fun _ _ _ _ _ => dts_nil) (fun _ _ _ _ _ => (de_or (de_cmp od_inS op_in_sign (dv 1) (de_con rfl gb.c_LETTERS) (by rfl)) (de_one (de_cmp od_inS op_in_sign (dv 1) (de_con rfl gb.c_FIGURES) (by rfl)))))) da_nil))))), fun ds QD h => pure_is_word h⟩
theorem ok_Standing_has_name {C : Nm} {f : Addr} {fd : FuncData} (gb : GB mg C) (st : CS K C) (G_is_word : Callee P w K mg base 1 "is_word" (sp_is_word C)) (F : Fun K "has_name" "Standing.has_name" s_Standing_has_name f fd) : FnG P w K mg base 2 f fd ["self", "value"] (spD K (sp_Standing_has_name C)) := by
  refine fnD F sc_Standing_has_name (fun ds QD XD h => by first | (rcases h with h | h <;> first | (obtain ⟨rfl, _⟩ := h; rfl) | (obtain ⟨_, rfl, _⟩ := h; rfl) | (obtain ⟨_, _, rfl, _⟩ := h; rfl) | (obtain ⟨_, _, _, rfl, _⟩ := h; rfl) | (obtain ⟨_, _, _, _, rfl, _⟩ := h; rfl) | (obtain ⟨_, _, _, _, _, rfl, _⟩ := h; rfl) | (obtain ⟨_, _, _, _, _, _, rfl, _⟩ := h; rfl) | (obtain ⟨_, _, _, _, _, _, _, rfl, _⟩ := h; rfl)) | (obtain ⟨rfl, _⟩ := h; rfl) | (obtain ⟨_, rfl, _⟩ := h; rfl) | (obtain ⟨_, _, rfl, _⟩ := h; rfl) | (obtain ⟨_, _, _, rfl, _⟩ := h; rfl) | (obtain ⟨_, _, _, _, rfl, _⟩ := h; rfl) | (obtain ⟨_, _, _, _, _, rfl, _⟩ := h; rfl) | (obtain ⟨_, _, _, _, _, _, rfl, _⟩ := h; rfl) | (obtain ⟨_, _, _, _, _, _, _, rfl, _⟩ := h; rfl) | (obtain ⟨rfl | rfl, _⟩ := h <;> rfl) | (obtain ⟨_, rfl | rfl, _⟩ := h <;> rfl) | (obtain ⟨_, _, rfl | rfl, _⟩ := h <;> rfl) | (obtain ⟨_, _, _, rfl | rfl, _⟩ := h <;> rfl) | (obtain ⟨_, _, _, _, rfl | rfl, _⟩ := h <;> rfl)) fun cdv A outer s H E c XD hgd hr eK hp lk => ?_
  subst eK
  have hK : c.K = c.K := rfl
  have nd := sc_Standing_has_name.nd
  exact ⟨t_Standing_has_name c.K C XD, (dss_one (ds_ret (de_and (de_call G_is_word hK hgd (hr.mono (by decide)) rfl lk (da_cons (dv 1) da_nil)) (de_one (de_cmp (od_inDct (neg := false)) (op_inDct (hu_of hr)) (dv 1) (de_fld st.c_Standing st.f_own_people hK (dv 0)) (by rfl)))))), fun ds QD h => pure_Standing_has_name h⟩
theorem ok_Standing_person {C : Nm} {f : Addr} {fd : FuncData} (gb : GB mg C) (st : CS K C) (M_has_name : CalleeM P w K mg base 2 (C "Standing") "has_name" (sp_Standing_has_name C)) (E_UnknownName : CalleeE P w K mg "UnknownName" (C "UnknownName") ["name"]) (F : Fun K "person" "Standing.person" s_Standing_person f fd) : FnG P w K mg base 3 f fd ["self", "name"] (spD K (sp_Standing_person C)) := by
  refine fnD F sc_Standing_person (fun ds QD XD h => by first | (rcases h with h | h <;> first | (obtain ⟨rfl, _⟩ := h; rfl) | (obtain ⟨_, rfl, _⟩ := h; rfl) | (obtain ⟨_, _, rfl, _⟩ := h; rfl) | (obtain ⟨_, _, _, rfl, _⟩ := h; rfl) | (obtain ⟨_, _, _, _, rfl, _⟩ := h; rfl) | (obtain ⟨_, _, _, _, _, rfl, _⟩ := h; rfl) | (obtain ⟨_, _, _, _, _, _, rfl, _⟩ := h; rfl) | (obtain ⟨_, _, _, _, _, _, _, rfl, _⟩ := h; rfl)) | (obtain ⟨rfl, _⟩ := h; rfl) | (obtain ⟨_, rfl, _⟩ := h; rfl) | (obtain ⟨_, _, rfl, _⟩ := h; rfl) | (obtain ⟨_, _, _, rfl, _⟩ := h; rfl) | (obtain ⟨_, _, _, _, rfl, _⟩ := h; rfl) | (obtain ⟨_, _, _, _, _, rfl, _⟩ := h; rfl) | (obtain ⟨_, _, _, _, _, _, rfl, _⟩ := h; rfl) | (obtain ⟨_, _, _, _, _, _, _, rfl, _⟩ := h; rfl) | (obtain ⟨rfl | rfl, _⟩ := h <;> rfl) | (obtain ⟨_, rfl | rfl, _⟩ := h <;> rfl) | (obtain ⟨_, _, rfl | rfl, _⟩ := h <;> rfl) | (obtain ⟨_, _, _, rfl | rfl, _⟩ := h <;> rfl) | (obtain ⟨_, _, _, _, rfl | rfl, _⟩ := h <;> rfl)) fun cdv A outer s H E c XD hgd hr eK hp lk => ?_
  subst eK
  have hK : c.K = c.K := rfl
  have nd := sc_Standing_person.nd
  exact ⟨t_Standing_person c.K C XD, (dss_cons (ds_if (dt_not (dt_tru hK (de_meth (dv 0) M_has_name hK hgd (hr.mono (by decide)) lk (da_cons (dv 1) da_nil)))) (dss_one (ds_raise E_UnknownName lk (hr.mono (by decide)) rfl (da_cons (dv 1) da_nil))) dss_nil)
      (dss_one (ds_ret (de_dctIx (hu_of hr) (de_fld st.c_Standing st.f_own_people hK (dv 0)) (dv 1) (fun _ _ => rfl))))), fun ds QD h => pure_Standing_person h⟩
theorem ok_Standing_place {C : Nm} {f : Addr} {fd : FuncData} (gb : GB mg C) (st : CS K C) (M_person : CalleeM P w K mg base 3 (C "Standing") "person" (sp_Standing_person C)) (F : Fun K "place" "Standing.place" s_Standing_place f fd) : FnG P w K mg base 4 f fd ["self", "name"] (spD K (sp_Standing_place C)) := by
  refine fnD F sc_Standing_place (fun ds QD XD h => by first | (rcases h with h | h <;> first | (obtain ⟨rfl, _⟩ := h; rfl) | (obtain ⟨_, rfl, _⟩ := h; rfl) | (obtain ⟨_, _, rfl, _⟩ := h; rfl) | (obtain ⟨_, _, _, rfl, _⟩ := h; rfl) | (obtain ⟨_, _, _, _, rfl, _⟩ := h; rfl) | (obtain ⟨_, _, _, _, _, rfl, _⟩ := h; rfl) | (obtain ⟨_, _, _, _, _, _, rfl, _⟩ := h; rfl) | (obtain ⟨_, _, _, _, _, _, _, rfl, _⟩ := h; rfl)) | (obtain ⟨rfl, _⟩ := h; rfl) | (obtain ⟨_, rfl, _⟩ := h; rfl) | (obtain ⟨_, _, rfl, _⟩ := h; rfl) | (obtain ⟨_, _, _, rfl, _⟩ := h; rfl) | (obtain ⟨_, _, _, _, rfl, _⟩ := h; rfl) | (obtain ⟨_, _, _, _, _, rfl, _⟩ := h; rfl) | (obtain ⟨_, _, _, _, _, _, rfl, _⟩ := h; rfl) | (obtain ⟨_, _, _, _, _, _, _, rfl, _⟩ := h; rfl) | (obtain ⟨rfl | rfl, _⟩ := h <;> rfl) | (obtain ⟨_, rfl | rfl, _⟩ := h <;> rfl) | (obtain ⟨_, _, rfl | rfl, _⟩ := h <;> rfl) | (obtain ⟨_, _, _, rfl | rfl, _⟩ := h <;> rfl) | (obtain ⟨_, _, _, _, rfl | rfl, _⟩ := h <;> rfl)) fun cdv A outer s H E c XD hgd hr eK hp lk => ?_
  subst eK
  have hK : c.K = c.K := rfl
  have nd := sc_Standing_place.nd
  exact ⟨t_Standing_place c.K C XD, (dss_one (ds_ret (de_ix od_ix ix_seq (de_meth (dv 0) M_person hK hgd (hr.mono (by decide)) lk (da_cons (dv 1) da_nil)) de_int (fun _ _ => rfl)))), fun ds QD h => pure_Standing_place h⟩
theorem ok_Standing_line {C : Nm} {f : Addr} {fd : FuncData} (gb : GB mg C) (st : CS K C) (M_names : CalleeM P w K mg base 1 (C "Standing") "names" (sp_Standing_names C)) (B_place : CalleeB P w K mg base 4 (C "Standing") "place" (sp_Standing_place C)) (F : Fun K "line" "Standing.line" s_Standing_line f fd) : FnG P w K mg base 7 f fd ["self"] (spD K (sp_Standing_line C)) := by
  refine fnD F sc_Standing_line (fun ds QD XD h => by first | (rcases h with h | h <;> first | (obtain ⟨rfl, _⟩ := h; rfl) | (obtain ⟨_, rfl, _⟩ := h; rfl) | (obtain ⟨_, _, rfl, _⟩ := h; rfl) | (obtain ⟨_, _, _, rfl, _⟩ := h; rfl) | (obtain ⟨_, _, _, _, rfl, _⟩ := h; rfl) | (obtain ⟨_, _, _, _, _, rfl, _⟩ := h; rfl) | (obtain ⟨_, _, _, _, _, _, rfl, _⟩ := h; rfl) | (obtain ⟨_, _, _, _, _, _, _, rfl, _⟩ := h; rfl)) | (obtain ⟨rfl, _⟩ := h; rfl) | (obtain ⟨_, rfl, _⟩ := h; rfl) | (obtain ⟨_, _, rfl, _⟩ := h; rfl) | (obtain ⟨_, _, _, rfl, _⟩ := h; rfl) | (obtain ⟨_, _, _, _, rfl, _⟩ := h; rfl) | (obtain ⟨_, _, _, _, _, rfl, _⟩ := h; rfl) | (obtain ⟨_, _, _, _, _, _, rfl, _⟩ := h; rfl) | (obtain ⟨_, _, _, _, _, _, _, rfl, _⟩ := h; rfl) | (obtain ⟨rfl | rfl, _⟩ := h <;> rfl) | (obtain ⟨_, rfl | rfl, _⟩ := h <;> rfl) | (obtain ⟨_, _, rfl | rfl, _⟩ := h <;> rfl) | (obtain ⟨_, _, _, rfl | rfl, _⟩ := h <;> rfl) | (obtain ⟨_, _, _, _, rfl | rfl, _⟩ := h <;> rfl)) fun cdv A outer s H E c XD hgd hr eK hp lk => ?_
  subst eK
  have hK : c.K = c.K := rfl
  have nd := sc_Standing_line.nd
  exact ⟨t_Standing_line c.K C XD, (dss_one (ds_ret (de_sortBy B_place hK hgd (hr.mono (by decide)) rfl gb.sorted (de_meth0 (dv 0) M_names hK hgd (hr.mono (by decide)) lk) (dv 0)))), fun ds QD h => pure_Standing_line h⟩
theorem ok_Standing_voice {C : Nm} {f : Addr} {fd : FuncData} (gb : GB mg C) (st : CS K C) (M_person : CalleeM P w K mg base 3 (C "Standing") "person" (sp_Standing_person C)) (F : Fun K "voice" "Standing.voice" s_Standing_voice f fd) : FnG P w K mg base 4 f fd ["self", "name"] (spD K (sp_Standing_voice C)) := by
  refine fnD F sc_Standing_voice (fun ds QD XD h => by first | (rcases h with h | h <;> first | (obtain ⟨rfl, _⟩ := h; rfl) | (obtain ⟨_, rfl, _⟩ := h; rfl) | (obtain ⟨_, _, rfl, _⟩ := h; rfl) | (obtain ⟨_, _, _, rfl, _⟩ := h; rfl) | (obtain ⟨_, _, _, _, rfl, _⟩ := h; rfl) | (obtain ⟨_, _, _, _, _, rfl, _⟩ := h; rfl) | (obtain ⟨_, _, _, _, _, _, rfl, _⟩ := h; rfl) | (obtain ⟨_, _, _, _, _, _, _, rfl, _⟩ := h; rfl)) | (obtain ⟨rfl, _⟩ := h; rfl) | (obtain ⟨_, rfl, _⟩ := h; rfl) | (obtain ⟨_, _, rfl, _⟩ := h; rfl) | (obtain ⟨_, _, _, rfl, _⟩ := h; rfl) | (obtain ⟨_, _, _, _, rfl, _⟩ := h; rfl) | (obtain ⟨_, _, _, _, _, rfl, _⟩ := h; rfl) | (obtain ⟨_, _, _, _, _, _, rfl, _⟩ := h; rfl) | (obtain ⟨_, _, _, _, _, _, _, rfl, _⟩ := h; rfl) | (obtain ⟨rfl | rfl, _⟩ := h <;> rfl) | (obtain ⟨_, rfl | rfl, _⟩ := h <;> rfl) | (obtain ⟨_, _, rfl | rfl, _⟩ := h <;> rfl) | (obtain ⟨_, _, _, rfl | rfl, _⟩ := h <;> rfl) | (obtain ⟨_, _, _, _, rfl | rfl, _⟩ := h <;> rfl)) fun cdv A outer s H E c XD hgd hr eK hp lk => ?_
  subst eK
  have hK : c.K = c.K := rfl
  have nd := sc_Standing_voice.nd
  exact ⟨t_Standing_voice c.K C XD, (dss_one (ds_ret (de_ix od_ix ix_seq (de_meth (dv 0) M_person hK hgd (hr.mono (by decide)) lk (da_cons (dv 1) da_nil)) de_int (fun _ _ => rfl)))), fun ds QD h => pure_Standing_voice h⟩
theorem ok_changes_by_sums {C : Nm} {f : Addr} {fd : FuncData} (gb : GB mg C) (st : CS K C) (M_line : CalleeM P w K mg base 7 (C "Standing") "line" (sp_Standing_line C)) (M_place : CalleeM P w K mg base 4 (C "Standing") "place" (sp_Standing_place C)) (M_voice : CalleeM P w K mg base 4 (C "Standing") "voice" (sp_Standing_voice C)) (F : Fun K "changes_by_sums" "changes_by_sums" s_changes_by_sums f fd) : FnG P w K mg base 8 f fd ["standing"] (spD K (sp_changes_by_sums C)) := by
  refine fnD F sc_changes_by_sums (fun ds QD XD h => by first | (rcases h with h | h <;> first | (obtain ⟨rfl, _⟩ := h; rfl) | (obtain ⟨_, rfl, _⟩ := h; rfl) | (obtain ⟨_, _, rfl, _⟩ := h; rfl) | (obtain ⟨_, _, _, rfl, _⟩ := h; rfl) | (obtain ⟨_, _, _, _, rfl, _⟩ := h; rfl) | (obtain ⟨_, _, _, _, _, rfl, _⟩ := h; rfl) | (obtain ⟨_, _, _, _, _, _, rfl, _⟩ := h; rfl) | (obtain ⟨_, _, _, _, _, _, _, rfl, _⟩ := h; rfl)) | (obtain ⟨rfl, _⟩ := h; rfl) | (obtain ⟨_, rfl, _⟩ := h; rfl) | (obtain ⟨_, _, rfl, _⟩ := h; rfl) | (obtain ⟨_, _, _, rfl, _⟩ := h; rfl) | (obtain ⟨_, _, _, _, rfl, _⟩ := h; rfl) | (obtain ⟨_, _, _, _, _, rfl, _⟩ := h; rfl) | (obtain ⟨_, _, _, _, _, _, rfl, _⟩ := h; rfl) | (obtain ⟨_, _, _, _, _, _, _, rfl, _⟩ := h; rfl) | (obtain ⟨rfl | rfl, _⟩ := h <;> rfl) | (obtain ⟨_, rfl | rfl, _⟩ := h <;> rfl) | (obtain ⟨_, _, rfl | rfl, _⟩ := h <;> rfl) | (obtain ⟨_, _, _, rfl | rfl, _⟩ := h <;> rfl) | (obtain ⟨_, _, _, _, rfl | rfl, _⟩ := h <;> rfl)) fun cdv A outer s H E c XD hgd hr eK hp lk => ?_
  subst eK
  have hK : c.K = c.K := rfl
  have nd := sc_changes_by_sums.nd
  exact ⟨t_changes_by_sums c.K C XD, (dss_cons (ds_set (i := 1) nd rfl (.inl rfl) (de_lk (de_dispT1 (hu_of hr) (de_tup (da_cons de_int (da_cons de_int da_nil))) (de_tup da_nil))))
      (dss_cons (ds_for hp rfl (di_list hK (de_meth0 (dv 0) M_line hK hgd (hr.mono (by decide)) lk)) (dg_name (i := 2) nd rfl (.inl rfl)) (dss_cons (ds_par3 (i := 3) (j := 4) (l := 5) rfl nd rfl rfl rfl (by decide) (by decide) (by decide) rfl rfl rfl (de_meth (dv 0) M_place hK hgd (hr.mono (by decide)) lk (da_cons (dv 2) da_nil)) (de_meth (dv 0) M_voice hK hgd (hr.mono (by decide)) lk (da_cons (dv 2) da_nil)) de_dcT0 (by rfl))
      (dss_cons (ds_for hp rfl (di_itemsT (dv 1)) (dg_tup rfl hK (dgs_cons (dg_tup rfl hK (dgs_cons (dg_name (i := 6) nd rfl (.inl rfl)) (dgs_cons (dg_name (i := 7) nd rfl (.inl rfl)) dgs_nil))) (dgs_cons (dg_name (i := 8) nd rfl (.inl rfl)) dgs_nil))) (dss_one (ds_for hp rfl (di_tup hK (de_tup (da_cons de_int (da_cons de_int da_nil)))) (dg_name (i := 9) nd rfl (.inl rfl)) (dss_cons (ds_set (i := 10) nd rfl (.inl rfl) (de_op od_mul op_mulD (de_if (dt_cmp od_eq2 (op_eq2 hr.units) (dv 7) de_int (nomark _)) de_int (de_un ud_neg un_neg de_int)) (dv 9)))
      (dss_cons (ds_set (i := 11) nd rfl (.inl rfl) (de_tup (da_cons (de_op od_add op_addD (dv 6) (de_op od_mul op_mulD (dv 10) (dv 3))) (da_cons (de_op od_mod op_mod (de_op od_add op_addD (dv 7) (dv 9)) de_int) da_nil))))
      (dss_cons (ds_set (i := 12) nd rfl (.inl rfl) (de_if (dt_cmp od_eq2 (op_eq2 hr.units) (dv 9) (dv 4) (nomark _)) (dv 8) (de_tup (da_star hK (dv 8) (da_cons (dv 2) da_nil)))))
      (dss_one (ds_if (PW.pt (dw_or (dt_notInKO (i := 5) (hu_of hr) (pv 5) (dv 11)) (dw_or1 (dt_cmp od_lt op_lt (de_callB cd_len call_len rfl gb.len (by decide +kernel) (da_cons (dv 12) da_nil)) (de_callB cd_len call_len rfl gb.len (by decide +kernel) (da_cons (de_ixTO (i := 5) (hu_of hr) (pv 5) (dv 11) (fun _ _ => rfl)) da_nil)) (nomark _))))) (dss_one (ds_putT (i := 5) (hu_of hr) (pv 5) (dv 11) (dv 12))) dss_nil))))))))
      (dss_one (ds_set (i := 1) nd rfl (.inl rfl) (dvk 5))))))
      (dss_one (dretv 1)))), fun ds QD h => pure_changes_by_sums h⟩
theorem ok_places_by_voices {C : Nm} {f : Addr} {fd : FuncData} (gb : GB mg C) (st : CS K C) (G_changes_by_sums : Callee P w K mg base 8 "changes_by_sums" (sp_changes_by_sums C)) (F : Fun K "places_by_voices" "places_by_voices" s_places_by_voices f fd) : FnG P w K mg base 9 f fd ["standing"] (spD K (sp_places_by_voices C)) := by
  refine fnD F sc_places_by_voices (fun ds QD XD h => by first | (rcases h with h | h <;> first | (obtain ⟨rfl, _⟩ := h; rfl) | (obtain ⟨_, rfl, _⟩ := h; rfl) | (obtain ⟨_, _, rfl, _⟩ := h; rfl) | (obtain ⟨_, _, _, rfl, _⟩ := h; rfl) | (obtain ⟨_, _, _, _, rfl, _⟩ := h; rfl) | (obtain ⟨_, _, _, _, _, rfl, _⟩ := h; rfl) | (obtain ⟨_, _, _, _, _, _, rfl, _⟩ := h; rfl) | (obtain ⟨_, _, _, _, _, _, _, rfl, _⟩ := h; rfl)) | (obtain ⟨rfl, _⟩ := h; rfl) | (obtain ⟨_, rfl, _⟩ := h; rfl) | (obtain ⟨_, _, rfl, _⟩ := h; rfl) | (obtain ⟨_, _, _, rfl, _⟩ := h; rfl) | (obtain ⟨_, _, _, _, rfl, _⟩ := h; rfl) | (obtain ⟨_, _, _, _, _, rfl, _⟩ := h; rfl) | (obtain ⟨_, _, _, _, _, _, rfl, _⟩ := h; rfl) | (obtain ⟨_, _, _, _, _, _, _, rfl, _⟩ := h; rfl) | (obtain ⟨rfl | rfl, _⟩ := h <;> rfl) | (obtain ⟨_, rfl | rfl, _⟩ := h <;> rfl) | (obtain ⟨_, _, rfl | rfl, _⟩ := h <;> rfl) | (obtain ⟨_, _, _, rfl | rfl, _⟩ := h <;> rfl) | (obtain ⟨_, _, _, _, rfl | rfl, _⟩ := h <;> rfl)) fun cdv A outer s H E c XD hgd hr eK hp lk => ?_
  subst eK
  have hK : c.K = c.K := rfl
  have nd := sc_places_by_voices.nd
  exact ⟨t_places_by_voices c.K C XD, (dss_one (ds_ret (de_callB cd_sortLA cr_sortedA rfl gb.sorted (by decide +kernel) (da_cons (de_lc (own := [("total", 1), ("odd", 2)]) rfl nd  (di_keysT (de_call G_changes_by_sums hK hgd (hr.mono (by decide)) rfl lk (da_cons (dv 0) da_nil))) (blkOk_by (own := [("total", 1), ("odd", 2)]) (N := N_places_by_voices) (sc := defScope s_places_by_voices) (by decide +kernel)) (by decide) (fun _ _ _ _ _ => (dg_tup rfl hK (dgs_cons (dg_name (i := 1) nd rfl (.inl rfl)) (dgs_cons (dg_name (i := 2) nd rfl (.inl rfl)) dgs_nil)))) (fun _ _ _ _ _ => (dts_one (dt_cmp od_eq2 (op_eq2 hr.units) (dv 2) de_int (nomark _)))) (fun _ _ _ _ _ => (dv 1))) da_nil)))), fun ds QD h => pure_places_by_voices h⟩
theorem ok_is_integer {C : Nm} {f : Addr} {fd : FuncData} (gb : GB mg C) (st : CS K C)  (F : Fun K "is_integer" "is_integer" s_is_integer f fd) : FnG P w K mg base 1 f fd ["value"] (spD K (sp_is_integer C)) := by
  refine fnD F sc_is_integer (fun ds QD XD h => by first | (rcases h with h | h <;> first | (obtain ⟨rfl, _⟩ := h; rfl) | (obtain ⟨_, rfl, _⟩ := h; rfl) | (obtain ⟨_, _, rfl, _⟩ := h; rfl) | (obtain ⟨_, _, _, rfl, _⟩ := h; rfl) | (obtain ⟨_, _, _, _, rfl, _⟩ := h; rfl) | (obtain ⟨_, _, _, _, _, rfl, _⟩ := h; rfl) | (obtain ⟨_, _, _, _, _, _, rfl, _⟩ := h; rfl) | (obtain ⟨_, _, _, _, _, _, _, rfl, _⟩ := h; rfl)) | (obtain ⟨rfl, _⟩ := h; rfl) | (obtain ⟨_, rfl, _⟩ := h; rfl) | (obtain ⟨_, _, rfl, _⟩ := h; rfl) | (obtain ⟨_, _, _, rfl, _⟩ := h; rfl) | (obtain ⟨_, _, _, _, rfl, _⟩ := h; rfl) | (obtain ⟨_, _, _, _, _, rfl, _⟩ := h; rfl) | (obtain ⟨_, _, _, _, _, _, rfl, _⟩ := h; rfl) | (obtain ⟨_, _, _, _, _, _, _, rfl, _⟩ := h; rfl) | (obtain ⟨rfl | rfl, _⟩ := h <;> rfl) | (obtain ⟨_, rfl | rfl, _⟩ := h <;> rfl) | (obtain ⟨_, _, rfl | rfl, _⟩ := h <;> rfl) | (obtain ⟨_, _, _, rfl | rfl, _⟩ := h <;> rfl) | (obtain ⟨_, _, _, _, rfl | rfl, _⟩ := h <;> rfl)) fun cdv A outer s H E c XD hgd hr eK hp lk => ?_
  subst eK
  have hK : c.K = c.K := rfl
  have nd := sc_is_integer.nd
  exact ⟨t_is_integer c.K C XD, (dss_one (ds_ret (de_and (de_callB (cd_isiC st.n_Standing) call_isi rfl gb.isinstance (by decide +kernel) (da_cons (dv 0) (da_cons (de_bty rfl gb.int (by decide +kernel)) da_nil))) (de_one (de_not (de_callB (cd_isiC st.n_Standing) call_isi rfl gb.isinstance (by decide +kernel) (da_cons (dv 0) (da_cons (de_bty rfl gb.bool (by decide +kernel)) da_nil)))))))), fun ds QD h => pure_is_integer h⟩
theorem ok_is_row {C : Nm} {f : Addr} {fd : FuncData} (gb : GB mg C) (st : CS K C)  (F : Fun K "is_row" "is_row" s_is_row f fd) : FnG P w K mg base 1 f fd ["value", "many"] (spD K (sp_is_row C)) := by
  refine fnD F sc_is_row (fun ds QD XD h => by first | (rcases h with h | h <;> first | (obtain ⟨rfl, _⟩ := h; rfl) | (obtain ⟨_, rfl, _⟩ := h; rfl) | (obtain ⟨_, _, rfl, _⟩ := h; rfl) | (obtain ⟨_, _, _, rfl, _⟩ := h; rfl) | (obtain ⟨_, _, _, _, rfl, _⟩ := h; rfl) | (obtain ⟨_, _, _, _, _, rfl, _⟩ := h; rfl) | (obtain ⟨_, _, _, _, _, _, rfl, _⟩ := h; rfl) | (obtain ⟨_, _, _, _, _, _, _, rfl, _⟩ := h; rfl)) | (obtain ⟨rfl, _⟩ := h; rfl) | (obtain ⟨_, rfl, _⟩ := h; rfl) | (obtain ⟨_, _, rfl, _⟩ := h; rfl) | (obtain ⟨_, _, _, rfl, _⟩ := h; rfl) | (obtain ⟨_, _, _, _, rfl, _⟩ := h; rfl) | (obtain ⟨_, _, _, _, _, rfl, _⟩ := h; rfl) | (obtain ⟨_, _, _, _, _, _, rfl, _⟩ := h; rfl) | (obtain ⟨_, _, _, _, _, _, _, rfl, _⟩ := h; rfl) | (obtain ⟨rfl | rfl, _⟩ := h <;> rfl) | (obtain ⟨_, rfl | rfl, _⟩ := h <;> rfl) | (obtain ⟨_, _, rfl | rfl, _⟩ := h <;> rfl) | (obtain ⟨_, _, _, rfl | rfl, _⟩ := h <;> rfl) | (obtain ⟨_, _, _, _, rfl | rfl, _⟩ := h <;> rfl)) fun cdv A outer s H E c XD hgd hr eK hp lk => ?_
  subst eK
  have hK : c.K = c.K := rfl
  have nd := sc_is_row.nd
  exact ⟨t_is_row c.K C XD, (dss_one (ds_ret (de_and (de_callB (cd_isiC st.n_Standing) call_isi rfl gb.isinstance (by decide +kernel) (da_cons (dv 0) (da_cons (de_bty rfl gb.tuple (by decide +kernel)) da_nil))) (de_one (de_cmp od_eq2 (op_eq2 hr.units) (de_callB cd_len call_len rfl gb.len (by decide +kernel) (da_cons (dv 0) da_nil)) (dv 1) (nomark _)))))), fun ds QD h => pure_is_row h⟩
theorem ok_wrong_person {C : Nm} {f : Addr} {fd : FuncData} (gb : GB mg C) (st : CS K C) (G_is_integer : Callee P w K mg base 1 "is_integer" (sp_is_integer C)) (G_is_word : Callee P w K mg base 1 "is_word" (sp_is_word C)) (G_is_row : Callee P w K mg base 1 "is_row" (sp_is_row C)) (F : Fun K "wrong_person" "wrong_person" s_wrong_person f fd) : FnG P w K mg base 2 f fd ["value", "names"] (spD K (sp_wrong_person C)) := by
  refine fnD F sc_wrong_person (fun ds QD XD h => by first | (rcases h with h | h <;> first | (obtain ⟨rfl, _⟩ := h; rfl) | (obtain ⟨_, rfl, _⟩ := h; rfl) | (obtain ⟨_, _, rfl, _⟩ := h; rfl) | (obtain ⟨_, _, _, rfl, _⟩ := h; rfl) | (obtain ⟨_, _, _, _, rfl, _⟩ := h; rfl) | (obtain ⟨_, _, _, _, _, rfl, _⟩ := h; rfl) | (obtain ⟨_, _, _, _, _, _, rfl, _⟩ := h; rfl) | (obtain ⟨_, _, _, _, _, _, _, rfl, _⟩ := h; rfl)) | (obtain ⟨rfl, _⟩ := h; rfl) | (obtain ⟨_, rfl, _⟩ := h; rfl) | (obtain ⟨_, _, rfl, _⟩ := h; rfl) | (obtain ⟨_, _, _, rfl, _⟩ := h; rfl) | (obtain ⟨_, _, _, _, rfl, _⟩ := h; rfl) | (obtain ⟨_, _, _, _, _, rfl, _⟩ := h; rfl) | (obtain ⟨_, _, _, _, _, _, rfl, _⟩ := h; rfl) | (obtain ⟨_, _, _, _, _, _, _, rfl, _⟩ := h; rfl) | (obtain ⟨rfl | rfl, _⟩ := h <;> rfl) | (obtain ⟨_, rfl | rfl, _⟩ := h <;> rfl) | (obtain ⟨_, _, rfl | rfl, _⟩ := h <;> rfl) | (obtain ⟨_, _, _, rfl | rfl, _⟩ := h <;> rfl) | (obtain ⟨_, _, _, _, rfl | rfl, _⟩ := h <;> rfl)) fun cdv A outer s H E c XD hgd hr eK hp lk => ?_
  subst eK
  have hK : c.K = c.K := rfl
  have nd := sc_wrong_person.nd
  exact ⟨t_wrong_person c.K C XD, (dss_cons (ds_if (dt_not (dt_tru hK (de_call G_is_row hK hgd (hr.mono (by decide)) rfl lk (da_cons (dv 0) (da_cons de_int da_nil))))) (dss_one (ds_ret (de_tup da_nil))) dss_nil)
      (dss_cons (ds_if (PW.pt (dw_or (dt_not (dt_tru hK (de_call G_is_word hK hgd (hr.mono (by decide)) rfl lk (da_cons (de_ix od_ix ix_seq (dv 0) de_int (fun _ _ => rfl)) da_nil)))) (dw_or1 (dt_cmp (od_inDct (neg := false)) (op_inDct (hu_of hr)) (de_ix od_ix ix_seq (dv 0) de_int (fun _ _ => rfl)) (dv 1) (by rfl))))) (dss_one (ds_ret (de_tup (da_cons de_int da_nil)))) dss_nil)
      (dss_cons (ds_if (dt_not (dt_tru hK (de_call G_is_integer hK hgd (hr.mono (by decide)) rfl lk (da_cons (de_ix od_ix ix_seq (dv 0) de_int (fun _ _ => rfl)) da_nil)))) (dss_one (ds_ret (de_tup (da_cons de_int da_nil)))) dss_nil)
      (dss_one (ds_ret (de_if (PW.pt (dw_or (dt_not (dt_tru hK (de_call G_is_integer hK hgd (hr.mono (by decide)) rfl lk (da_cons (de_ix od_ix ix_seq (dv 0) de_int (fun _ _ => rfl)) da_nil)))) (dw_or1 (dt_cmp (od_in (neg := true)) op_notIn_seq (de_ix od_ix ix_seq (dv 0) de_int (fun _ _ => rfl)) (de_tup (da_cons de_int (da_cons de_int da_nil))) (by rfl))))) (de_tup (da_cons de_int da_nil)) de_non)))))), fun ds QD h => pure_wrong_person h⟩
theorem ok_wrong_people {C : Nm} {f : Addr} {fd : FuncData} (gb : GB mg C) (st : CS K C) (G_wrong_person : Callee P w K mg base 2 "wrong_person" (sp_wrong_person C)) (F : Fun K "wrong_people" "wrong_people" s_wrong_people f fd) : FnG P w K mg base 3 f fd ["value"] (spD K (sp_wrong_people C)) := by
  refine fnD F sc_wrong_people (fun ds QD XD h => by first | (rcases h with h | h <;> first | (obtain ⟨rfl, _⟩ := h; rfl) | (obtain ⟨_, rfl, _⟩ := h; rfl) | (obtain ⟨_, _, rfl, _⟩ := h; rfl) | (obtain ⟨_, _, _, rfl, _⟩ := h; rfl) | (obtain ⟨_, _, _, _, rfl, _⟩ := h; rfl) | (obtain ⟨_, _, _, _, _, rfl, _⟩ := h; rfl) | (obtain ⟨_, _, _, _, _, _, rfl, _⟩ := h; rfl) | (obtain ⟨_, _, _, _, _, _, _, rfl, _⟩ := h; rfl)) | (obtain ⟨rfl, _⟩ := h; rfl) | (obtain ⟨_, rfl, _⟩ := h; rfl) | (obtain ⟨_, _, rfl, _⟩ := h; rfl) | (obtain ⟨_, _, _, rfl, _⟩ := h; rfl) | (obtain ⟨_, _, _, _, rfl, _⟩ := h; rfl) | (obtain ⟨_, _, _, _, _, rfl, _⟩ := h; rfl) | (obtain ⟨_, _, _, _, _, _, rfl, _⟩ := h; rfl) | (obtain ⟨_, _, _, _, _, _, _, rfl, _⟩ := h; rfl) | (obtain ⟨rfl | rfl, _⟩ := h <;> rfl) | (obtain ⟨_, rfl | rfl, _⟩ := h <;> rfl) | (obtain ⟨_, _, rfl | rfl, _⟩ := h <;> rfl) | (obtain ⟨_, _, _, rfl | rfl, _⟩ := h <;> rfl) | (obtain ⟨_, _, _, _, rfl | rfl, _⟩ := h <;> rfl)) fun cdv A outer s H E c XD hgd hr eK hp lk => ?_
  subst eK
  have hK : c.K = c.K := rfl
  have nd := sc_wrong_people.nd
  exact ⟨t_wrong_people c.K C XD, (dss_cons (ds_if (dt_not (dt_tru hK (de_isiT2 hK (dv 0) rfl gb.isinstance rfl gb.list (by decide +kernel) rfl gb.tuple (by decide +kernel)))) (dss_one (ds_ret (de_tup da_nil))) dss_nil)
      (dss_cons (ds_set (i := 1) nd rfl (.inl rfl) de_dct0)
      (dss_cons (ds_for hp rfl (di_enum hK rfl gb.enumerate (da_cons (dv 0) da_nil)) (dg_tup rfl hK (dgs_cons (dg_name (i := 2) nd rfl (.inl rfl)) (dgs_cons (dg_name (i := 3) nd rfl (.inl rfl)) dgs_nil))) (dss_cons (ds_set (i := 4) nd rfl (.inl rfl) (de_callBor (l := false) G_wrong_person hK hgd (hr.mono (by decide)) rfl lk (dab_cons (dv 3) (dab_bor (hr := dab_nil)))))
      (dss_cons (ds_if (dt_cmp od_notN op_notN (dv 4) de_non (nomark _)) (dss_one (ds_ret (de_tup (da_cons (dv 2) (da_star hK (dv 4) da_nil))))) dss_nil)
      (dss_one (ds_put (i := 1) (hu_of hr) (pv 1) (de_ix od_ix ix_seq (dv 3) de_int (fun _ _ => rfl)) de_bl)))))
      (dss_one (ds_ret de_non))))), fun ds QD h => pure_wrong_people h⟩
theorem ok_Standing_init {C : Nm} {f : Addr} {fd : FuncData} (gb : GB mg C) (st : CS K C) (G_wrong_people : Callee P w K mg base 3 "wrong_people" (sp_wrong_people C)) (F : Fun K "__init__" "Standing.__init__" s_Standing_init f fd) : FnG P w K mg base 4 f fd ["self", "people"] (spI K (C "Standing") (sp_Standing C)) := by
  refine fnI F sc_Standing_init (fun ds QD XD h => by first | (rcases h with h | h <;> first | (obtain ⟨rfl, _⟩ := h; rfl) | (obtain ⟨_, rfl, _⟩ := h; rfl) | (obtain ⟨_, _, rfl, _⟩ := h; rfl) | (obtain ⟨_, _, _, rfl, _⟩ := h; rfl) | (obtain ⟨_, _, _, _, rfl, _⟩ := h; rfl) | (obtain ⟨_, _, _, _, _, rfl, _⟩ := h; rfl) | (obtain ⟨_, _, _, _, _, _, rfl, _⟩ := h; rfl) | (obtain ⟨_, _, _, _, _, _, _, rfl, _⟩ := h; rfl)) | (obtain ⟨rfl, _⟩ := h; rfl) | (obtain ⟨_, rfl, _⟩ := h; rfl) | (obtain ⟨_, _, rfl, _⟩ := h; rfl) | (obtain ⟨_, _, _, rfl, _⟩ := h; rfl) | (obtain ⟨_, _, _, _, rfl, _⟩ := h; rfl) | (obtain ⟨_, _, _, _, _, rfl, _⟩ := h; rfl) | (obtain ⟨_, _, _, _, _, _, rfl, _⟩ := h; rfl) | (obtain ⟨_, _, _, _, _, _, _, rfl, _⟩ := h; rfl) | (obtain ⟨rfl | rfl, _⟩ := h <;> rfl) | (obtain ⟨_, rfl | rfl, _⟩ := h <;> rfl) | (obtain ⟨_, _, rfl | rfl, _⟩ := h <;> rfl) | (obtain ⟨_, _, _, rfl | rfl, _⟩ := h <;> rfl) | (obtain ⟨_, _, _, _, rfl | rfl, _⟩ := h <;> rfl)) fun cdv A outer s H E c XD hgd hr eK hp lk => ?_
  subst eK
  have hK : c.K = c.K := rfl
  have nd := sc_Standing_init.nd
  exact ⟨t_Standing_init c.K C XD, (dss_cons (ds_set (i := 2) nd rfl (.inl rfl) (de_call G_wrong_people hK hgd (hr.mono (by decide)) rfl lk (da_cons (dv 1) da_nil)))
      (dss_cons (ds_if (dt_cmp od_notN op_notN (dv 2) de_non (nomark _)) (dss_one ds_never) dss_nil)
      (dss_one (ds_fldM (i := 0) hK st.c_Standing st.f_own_people (pv 0) (de_dc (own := [("person", 3)]) rfl nd (di_list hK (dv 1)) (blkOk_by (own := [("person", 3)]) (N := N_Standing_init) (sc := defScope s_Standing_init) (by decide +kernel)) (by decide) (fun _ _ _ _ _ => (dg_name (i := 3) nd rfl (.inl rfl))) (fun _ _ _ _ _ => dts_nil) (fun _ _ _ _ _ => (de_ix od_ix ix_seq (dv 3) de_int (fun _ _ => rfl))) (fun _ _ _ _ _ => (dv 3))))))), fun ds QD y h => pure_Standing_init h⟩
theorem ok_l_made {C : Nm} {f : Addr} {fd : FuncData} (gb : GB mg C) (st : CS K C) (G_Standing : CalleeC P w K mg base 4 "Standing" (sp_Standing C)) (F : Fun K "_law_made" "_law_made" s_l_made f fd) : FnG P w K mg base 6 f fd ["_law_people"] (spD K (sp_l_made C)) := by
  refine fnD F sc_l_made (fun ds QD XD h => by first | (rcases h with h | h <;> first | (obtain ⟨rfl, _⟩ := h; rfl) | (obtain ⟨_, rfl, _⟩ := h; rfl) | (obtain ⟨_, _, rfl, _⟩ := h; rfl) | (obtain ⟨_, _, _, rfl, _⟩ := h; rfl) | (obtain ⟨_, _, _, _, rfl, _⟩ := h; rfl) | (obtain ⟨_, _, _, _, _, rfl, _⟩ := h; rfl) | (obtain ⟨_, _, _, _, _, _, rfl, _⟩ := h; rfl) | (obtain ⟨_, _, _, _, _, _, _, rfl, _⟩ := h; rfl)) | (obtain ⟨rfl, _⟩ := h; rfl) | (obtain ⟨_, rfl, _⟩ := h; rfl) | (obtain ⟨_, _, rfl, _⟩ := h; rfl) | (obtain ⟨_, _, _, rfl, _⟩ := h; rfl) | (obtain ⟨_, _, _, _, rfl, _⟩ := h; rfl) | (obtain ⟨_, _, _, _, _, rfl, _⟩ := h; rfl) | (obtain ⟨_, _, _, _, _, _, rfl, _⟩ := h; rfl) | (obtain ⟨_, _, _, _, _, _, _, rfl, _⟩ := h; rfl) | (obtain ⟨rfl | rfl, _⟩ := h <;> rfl) | (obtain ⟨_, rfl | rfl, _⟩ := h <;> rfl) | (obtain ⟨_, _, rfl | rfl, _⟩ := h <;> rfl) | (obtain ⟨_, _, _, rfl | rfl, _⟩ := h <;> rfl) | (obtain ⟨_, _, _, _, rfl | rfl, _⟩ := h <;> rfl)) fun cdv A outer s H E c XD hgd hr eK hp lk => ?_
  subst eK
  have hK : c.K = c.K := rfl
  have nd := sc_l_made.nd
  exact ⟨t_l_made c.K C XD, (dss_one (ds_ret (de_disp (dpp_cons (k := .inr ("people" : Str)) pe_str (de_lc (own := [("_law_one", 1)]) rfl nd  (di_list hK (dv 0)) (blkOk_by (own := [("_law_one", 1)]) (N := N_l_made) (sc := defScope s_l_made) (by decide +kernel)) (by decide) (fun _ _ _ _ _ => (dg_name (i := 1) nd rfl (.inl rfl))) (fun _ _ _ _ _ => dts_nil) (fun _ _ _ _ _ => (de_callTy cd_tupOf call_tuple_of rfl gb.tuple (by decide +kernel) (da_cons (dv 1) da_nil)))) (dpp_cons (k := .inr ("standing" : Str)) pe_str (de_make G_Standing hK hgd (hr.mono (by decide)) rfl lk (da_cons (dv 0) da_nil)) dpp_nil)) rfl rfl (by decide) (by decide)))), fun ds QD h => pure_l_made h⟩
theorem ok_l_pick {C : Nm} {f : Addr} {fd : FuncData} (gb : GB mg C) (st : CS K C)  (F : Fun K "_law_pick" "_law_pick" s_l_pick f fd) : FnG P w K mg base 1 f fd ["_law_source_here", "_law_many"] (spD K (sp_l_pick C)) := by
  refine fnD F sc_l_pick (fun ds QD XD h => by first | (rcases h with h | h <;> first | (obtain ⟨rfl, _⟩ := h; rfl) | (obtain ⟨_, rfl, _⟩ := h; rfl) | (obtain ⟨_, _, rfl, _⟩ := h; rfl) | (obtain ⟨_, _, _, rfl, _⟩ := h; rfl) | (obtain ⟨_, _, _, _, rfl, _⟩ := h; rfl) | (obtain ⟨_, _, _, _, _, rfl, _⟩ := h; rfl) | (obtain ⟨_, _, _, _, _, _, rfl, _⟩ := h; rfl) | (obtain ⟨_, _, _, _, _, _, _, rfl, _⟩ := h; rfl)) | (obtain ⟨rfl, _⟩ := h; rfl) | (obtain ⟨_, rfl, _⟩ := h; rfl) | (obtain ⟨_, _, rfl, _⟩ := h; rfl) | (obtain ⟨_, _, _, rfl, _⟩ := h; rfl) | (obtain ⟨_, _, _, _, rfl, _⟩ := h; rfl) | (obtain ⟨_, _, _, _, _, rfl, _⟩ := h; rfl) | (obtain ⟨_, _, _, _, _, _, rfl, _⟩ := h; rfl) | (obtain ⟨_, _, _, _, _, _, _, rfl, _⟩ := h; rfl) | (obtain ⟨rfl | rfl, _⟩ := h <;> rfl) | (obtain ⟨_, rfl | rfl, _⟩ := h <;> rfl) | (obtain ⟨_, _, rfl | rfl, _⟩ := h <;> rfl) | (obtain ⟨_, _, _, rfl | rfl, _⟩ := h <;> rfl) | (obtain ⟨_, _, _, _, rfl | rfl, _⟩ := h <;> rfl)) fun cdv A outer s H E c XD hgd hr eK hp lk => ?_
  subst eK
  have hK : c.K = c.K := rfl
  have nd := sc_l_pick.nd
  exact ⟨t_l_pick c.K C XD, (dss_cons (ds_feed (s3 := ⟨0, 0, 0, 0⟩) (i := 0) (j := 1) hp (hu_of hr) rfl gb.len (pv 1) (pv 0) (pv 0) (pv 0) (pv 0) (fun _ _ => rfl) (fun _ _ => rfl) (fun _ _ => rfl) (by rfl) (by rfl) (by rfl) (by rfl) (by rfl) (by rfl) (by rfl) (by rfl))
      (dss_cons (ds_set (i := 2) nd rfl (.inl rfl) (de_srcL (i := 0) (hu_of hr) (pv 0) (fun _ _ => rfl)))
      (dss_cons (ds_if (PW.pt (dw_or (dt_cmp od_lt op_lt (dv 1) de_int (nomark _)) (dw_or1 (dt_cmp od_gt op_gt (dv 2) de_int (nomark _))))) (dss_cons (ds_srcL1 (i := 0) (hu_of hr) (de_op od_fdv op_fdivW (dv 2) (de_callB cd_max2 (call_max2 rfl) rfl gb.max (by decide +kernel) (da_cons de_int (da_cons (dv 1) da_nil)))) (pv 0) (by rfl))
      (dss_one (ds_ret (de_op od_mod op_mod (de_callTy cd_int1 call_int1 rfl gb.int (by decide +kernel) (da_cons (dv 2) da_nil)) (de_callB cd_max2 (call_max2 rfl) rfl gb.max (by decide +kernel) (da_cons de_int (da_cons (dv 1) da_nil))))))) dss_nil)
      (dss_cons (ds_srcT1 (i := 0) (hu_of hr) (de_op od_add op_addD (de_srcT (i := 0) (hu_of hr) (pv 0) (fun _ _ => rfl)) de_int) (pv 0) (by rfl))
      (dss_cons (ds_set (i := 3) nd rfl (.inl rfl) (de_op od_mod op_mod (de_callTy cd_int1 call_int1 rfl gb.int (by decide +kernel) (da_cons (de_op od_add op_addD (de_srcM (i := 0) (hu_of hr) (pv 0) (fun _ _ => rfl)) (de_op od_mul op_mulD (de_srcT (i := 0) (hu_of hr) (pv 0) (fun _ _ => rfl)) de_int)) da_nil)) de_int))
      (dss_cons (ds_set (i := 3) nd rfl (.inl rfl) (de_op od_mod op_mod (de_callTy cd_int1 call_int1 rfl gb.int (by decide +kernel) (da_cons (de_op od_add op_addD (de_op od_mul op_mulD (dv 3) (dv 3)) (de_op od_mul op_mulD (de_srcT (i := 0) (hu_of hr) (pv 0) (fun _ _ => rfl)) de_int)) da_nil)) de_int))
      (dss_cons (ds_srcM1 (i := 0) (hu_of hr) (dv 3) (pv 0) (by rfl))
      (dss_one (ds_ret (de_op od_mod op_mod (de_callTy cd_int1 call_int1 rfl gb.int (by decide +kernel) (da_cons (de_op od_fdv op_fdivW (dv 3) de_int) da_nil)) (dv 1))))))))))), fun ds QD h => pure_l_pick h⟩
theorem ok_l_mixed {C : Nm} {f : Addr} {fd : FuncData} (gb : GB mg C) (st : CS K C) (G_l_pick : Callee P w K mg base 1 "_law_pick" (sp_l_pick C)) (F : Fun K "_law_mixed" "_law_mixed" s_l_mixed f fd) : FnG P w K mg base 2 f fd ["_law_source_here", "_law_things"] (spD K (sp_l_mixed C)) := by
  refine fnD F sc_l_mixed (fun ds QD XD h => by first | (rcases h with h | h <;> first | (obtain ⟨rfl, _⟩ := h; rfl) | (obtain ⟨_, rfl, _⟩ := h; rfl) | (obtain ⟨_, _, rfl, _⟩ := h; rfl) | (obtain ⟨_, _, _, rfl, _⟩ := h; rfl) | (obtain ⟨_, _, _, _, rfl, _⟩ := h; rfl) | (obtain ⟨_, _, _, _, _, rfl, _⟩ := h; rfl) | (obtain ⟨_, _, _, _, _, _, rfl, _⟩ := h; rfl) | (obtain ⟨_, _, _, _, _, _, _, rfl, _⟩ := h; rfl)) | (obtain ⟨rfl, _⟩ := h; rfl) | (obtain ⟨_, rfl, _⟩ := h; rfl) | (obtain ⟨_, _, rfl, _⟩ := h; rfl) | (obtain ⟨_, _, _, rfl, _⟩ := h; rfl) | (obtain ⟨_, _, _, _, rfl, _⟩ := h; rfl) | (obtain ⟨_, _, _, _, _, rfl, _⟩ := h; rfl) | (obtain ⟨_, _, _, _, _, _, rfl, _⟩ := h; rfl) | (obtain ⟨_, _, _, _, _, _, _, rfl, _⟩ := h; rfl) | (obtain ⟨rfl | rfl, _⟩ := h <;> rfl) | (obtain ⟨_, rfl | rfl, _⟩ := h <;> rfl) | (obtain ⟨_, _, rfl | rfl, _⟩ := h <;> rfl) | (obtain ⟨_, _, _, rfl | rfl, _⟩ := h <;> rfl) | (obtain ⟨_, _, _, _, rfl | rfl, _⟩ := h <;> rfl)) fun cdv A outer s H E c XD hgd hr eK hp lk => ?_
  subst eK
  have hK : c.K = c.K := rfl
  have nd := sc_l_mixed.nd
  exact ⟨t_l_mixed c.K C XD, (dss_cons (ds_set (i := 2) nd rfl (.inr rfl) (de_callTy cd_listOf call_list_of rfl gb.list (by decide +kernel) (da_cons (dv 1) da_nil)))
      (dss_one (ds_ret (de_lc (own := [("_law_lap", 3)]) rfl nd  (di_range1 rfl gb.range (da_cons (de_lenV (x := ("_" : Str)) hK rfl gb.len (pa_cons (pv 2) pa_nil)) da_nil)) (blkOk_by (own := [("_law_lap", 3)]) (N := N_l_mixed) (sc := defScope s_l_mixed) (by decide +kernel)) (by decide) (fun _ _ _ _ _ => (dg_name (i := 3) nd rfl (.inl rfl))) (fun _ _ _ _ _ => dts_nil) (fun _ _ _ _ _ => (de_popV (pe_bm PySem.F.plainAttrs_list PySem.F.slot_list_pop PySem.F.type_list_pop mt_popAt (pv 2) (pa_cons (froze (de_call G_l_pick hK hgd (hr.mono (by decide)) rfl lnk_blk (da_cons (dv 0) (da_cons (de_lenV (x := ("_" : Str)) hK rfl gb.len (pa_cons (pv 2) pa_nil)) da_nil)))) pa_nil)))))))), fun ds QD h => pure_l_mixed h⟩
theorem ok_wished_voices {C : Nm} {f : Addr} {fd : FuncData} (gb : GB mg C) (st : CS K C) (G_changes_by_sums : Callee P w K mg base 8 "changes_by_sums" (sp_changes_by_sums C)) (F : Fun K "wished_voices" "wished_voices" s_wished_voices f fd) : FnG P w K mg base 9 f fd ["standing", "place"] (spD K (sp_wished_voices C)) := by
  refine fnD F sc_wished_voices (fun ds QD XD h => by first | (rcases h with h | h <;> first | (obtain ⟨rfl, _⟩ := h; rfl) | (obtain ⟨_, rfl, _⟩ := h; rfl) | (obtain ⟨_, _, rfl, _⟩ := h; rfl) | (obtain ⟨_, _, _, rfl, _⟩ := h; rfl) | (obtain ⟨_, _, _, _, rfl, _⟩ := h; rfl) | (obtain ⟨_, _, _, _, _, rfl, _⟩ := h; rfl) | (obtain ⟨_, _, _, _, _, _, rfl, _⟩ := h; rfl) | (obtain ⟨_, _, _, _, _, _, _, rfl, _⟩ := h; rfl)) | (obtain ⟨rfl, _⟩ := h; rfl) | (obtain ⟨_, rfl, _⟩ := h; rfl) | (obtain ⟨_, _, rfl, _⟩ := h; rfl) | (obtain ⟨_, _, _, rfl, _⟩ := h; rfl) | (obtain ⟨_, _, _, _, rfl, _⟩ := h; rfl) | (obtain ⟨_, _, _, _, _, rfl, _⟩ := h; rfl) | (obtain ⟨_, _, _, _, _, _, rfl, _⟩ := h; rfl) | (obtain ⟨_, _, _, _, _, _, _, rfl, _⟩ := h; rfl) | (obtain ⟨rfl | rfl, _⟩ := h <;> rfl) | (obtain ⟨_, rfl | rfl, _⟩ := h <;> rfl) | (obtain ⟨_, _, rfl | rfl, _⟩ := h <;> rfl) | (obtain ⟨_, _, _, rfl | rfl, _⟩ := h <;> rfl) | (obtain ⟨_, _, _, _, rfl | rfl, _⟩ := h <;> rfl)) fun cdv A outer s H E c XD hgd hr eK hp lk => ?_
  subst eK
  have hK : c.K = c.K := rfl
  have nd := sc_wished_voices.nd
  exact ⟨t_wished_voices c.K C XD, (dss_cons (ds_set (i := 2) nd rfl (.inl rfl) (de_get1T (hu_of hr) (de_call G_changes_by_sums hK hgd (hr.mono (by decide)) rfl lk (da_cons (dv 0) da_nil)) (de_tup (da_cons (dv 1) (da_cons de_int da_nil)))))
      (dss_one (ds_ret (de_if (dt_cmp od_isN op_isN (dv 2) de_non (nomark _)) de_non (de_tup (da_cons de_str (da_cons (dv 2) da_nil))))))), fun ds QD h => pure_wished_voices h⟩
theorem ok_l_at {C : Nm} {f : Addr} {fd : FuncData} (gb : GB mg C) (st : CS K C) (G_l_made : Callee P w K mg base 6 "_law_made" (sp_l_made C)) (F : Fun K "_law_at" "_law_at" s_l_at f fd) : FnG P w K mg base 7 f fd ["_law_world_here", "_law_spots_here"] (spD K (sp_l_at C)) := by
  refine fnD F sc_l_at (fun ds QD XD h => by first | (rcases h with h | h <;> first | (obtain ⟨rfl, _⟩ := h; rfl) | (obtain ⟨_, rfl, _⟩ := h; rfl) | (obtain ⟨_, _, rfl, _⟩ := h; rfl) | (obtain ⟨_, _, _, rfl, _⟩ := h; rfl) | (obtain ⟨_, _, _, _, rfl, _⟩ := h; rfl) | (obtain ⟨_, _, _, _, _, rfl, _⟩ := h; rfl) | (obtain ⟨_, _, _, _, _, _, rfl, _⟩ := h; rfl) | (obtain ⟨_, _, _, _, _, _, _, rfl, _⟩ := h; rfl)) | (obtain ⟨rfl, _⟩ := h; rfl) | (obtain ⟨_, rfl, _⟩ := h; rfl) | (obtain ⟨_, _, rfl, _⟩ := h; rfl) | (obtain ⟨_, _, _, rfl, _⟩ := h; rfl) | (obtain ⟨_, _, _, _, rfl, _⟩ := h; rfl) | (obtain ⟨_, _, _, _, _, rfl, _⟩ := h; rfl) | (obtain ⟨_, _, _, _, _, _, rfl, _⟩ := h; rfl) | (obtain ⟨_, _, _, _, _, _, _, rfl, _⟩ := h; rfl) | (obtain ⟨rfl | rfl, _⟩ := h <;> rfl) | (obtain ⟨_, rfl | rfl, _⟩ := h <;> rfl) | (obtain ⟨_, _, rfl | rfl, _⟩ := h <;> rfl) | (obtain ⟨_, _, _, rfl | rfl, _⟩ := h <;> rfl) | (obtain ⟨_, _, _, _, rfl | rfl, _⟩ := h <;> rfl)) fun cdv A outer s H E c XD hgd hr eK hp lk => ?_
  subst eK
  have hK : c.K = c.K := rfl
  have nd := sc_l_at.nd
  exact ⟨t_l_at c.K C XD, (dss_one (ds_ret (de_call G_l_made hK hgd (hr.mono (by decide)) rfl lk (da_cons (de_lc (own := [("_law_one", 2), ("_law_spot", 3)]) rfl nd  (di_or (di_zipLT hK rfl gb.zip (da_cons (de_dctIx (hu_of hr) (dv 0) de_str (fun _ _ => rfl)) (da_cons (dv 1) da_nil))) (di_zip hK rfl gb.zip (da_cons (de_dctIx (hu_of hr) (dv 0) de_str (fun _ _ => rfl)) (da_cons (dv 1) da_nil)))) (blkOk_by (own := [("_law_one", 2), ("_law_spot", 3)]) (N := N_l_at) (sc := defScope s_l_at) (by decide +kernel)) (by decide) (fun _ _ _ _ _ => (dg_tup rfl hK (dgs_cons (dg_name (i := 2) nd rfl (.inl rfl)) (dgs_cons (dg_name (i := 3) nd rfl (.inl rfl)) dgs_nil)))) (fun _ _ _ _ _ => dts_nil) (fun _ _ _ _ _ => (de_tup (da_cons (de_ix od_ix ix_seq (dv 2) de_int (fun _ _ => rfl)) (da_cons (dv 3) (da_cons (de_ix od_ix ix_seq (dv 2) de_int (fun _ _ => rfl)) da_nil)))))) da_nil)))), fun ds QD h => pure_l_at h⟩
theorem ok_w_spots {C : Nm} {f : Addr} {fd : FuncData} (gb : GB mg C) (st : CS K C)  (F : Fun K "_law_spots" "_law_spots" s_w_spots f fd) : FnG P w K mg base 1 f fd ["_law_world_here"] (spD K (sp_w_spots C)) := by
  refine fnD F sc_w_spots (fun ds QD XD h => by first | (rcases h with h | h <;> first | (obtain ⟨rfl, _⟩ := h; rfl) | (obtain ⟨_, rfl, _⟩ := h; rfl) | (obtain ⟨_, _, rfl, _⟩ := h; rfl) | (obtain ⟨_, _, _, rfl, _⟩ := h; rfl) | (obtain ⟨_, _, _, _, rfl, _⟩ := h; rfl) | (obtain ⟨_, _, _, _, _, rfl, _⟩ := h; rfl) | (obtain ⟨_, _, _, _, _, _, rfl, _⟩ := h; rfl) | (obtain ⟨_, _, _, _, _, _, _, rfl, _⟩ := h; rfl)) | (obtain ⟨rfl, _⟩ := h; rfl) | (obtain ⟨_, rfl, _⟩ := h; rfl) | (obtain ⟨_, _, rfl, _⟩ := h; rfl) | (obtain ⟨_, _, _, rfl, _⟩ := h; rfl) | (obtain ⟨_, _, _, _, rfl, _⟩ := h; rfl) | (obtain ⟨_, _, _, _, _, rfl, _⟩ := h; rfl) | (obtain ⟨_, _, _, _, _, _, rfl, _⟩ := h; rfl) | (obtain ⟨_, _, _, _, _, _, _, rfl, _⟩ := h; rfl) | (obtain ⟨rfl | rfl, _⟩ := h <;> rfl) | (obtain ⟨_, rfl | rfl, _⟩ := h <;> rfl) | (obtain ⟨_, _, rfl | rfl, _⟩ := h <;> rfl) | (obtain ⟨_, _, _, rfl | rfl, _⟩ := h <;> rfl) | (obtain ⟨_, _, _, _, rfl | rfl, _⟩ := h <;> rfl)) fun cdv A outer s H E c XD hgd hr eK hp lk => ?_
  subst eK
  have hK : c.K = c.K := rfl
  have nd := sc_w_spots.nd
  exact ⟨t_w_spots c.K C XD, (dss_one (ds_ret (de_callTy cd_tupOf call_tuple_of rfl gb.tuple (by decide +kernel) (da_cons (de_lc (own := [("_law_one", 1)]) rfl nd  (di_list hK (de_dctIx (hu_of hr) (dv 0) de_str (fun _ _ => rfl))) (blkOk_by (own := [("_law_one", 1)]) (N := N_w_spots) (sc := defScope s_w_spots) (by decide +kernel)) (by decide) (fun _ _ _ _ _ => (dg_name (i := 1) nd rfl (.inl rfl))) (fun _ _ _ _ _ => dts_nil) (fun _ _ _ _ _ => (de_ix od_ix ix_seq (dv 1) de_int (fun _ _ => rfl)))) da_nil)))), fun ds QD h => pure_w_spots h⟩
theorem ok_l_turned_voices {C : Nm} {f : Addr} {fd : FuncData} (gb : GB mg C) (st : CS K C) (G_l_made : Callee P w K mg base 6 "_law_made" (sp_l_made C)) (F : Fun K "_law_turned_voices" "_law_turned_voices" s_l_turned_voices f fd) : FnG P w K mg base 7 f fd ["_law_world_here", "_law_names_here"] (spD K (sp_l_turned_voices C)) := by
  refine fnD F sc_l_turned_voices (fun ds QD XD h => by first | (rcases h with h | h <;> first | (obtain ⟨rfl, _⟩ := h; rfl) | (obtain ⟨_, rfl, _⟩ := h; rfl) | (obtain ⟨_, _, rfl, _⟩ := h; rfl) | (obtain ⟨_, _, _, rfl, _⟩ := h; rfl) | (obtain ⟨_, _, _, _, rfl, _⟩ := h; rfl) | (obtain ⟨_, _, _, _, _, rfl, _⟩ := h; rfl) | (obtain ⟨_, _, _, _, _, _, rfl, _⟩ := h; rfl) | (obtain ⟨_, _, _, _, _, _, _, rfl, _⟩ := h; rfl)) | (obtain ⟨rfl, _⟩ := h; rfl) | (obtain ⟨_, rfl, _⟩ := h; rfl) | (obtain ⟨_, _, rfl, _⟩ := h; rfl) | (obtain ⟨_, _, _, rfl, _⟩ := h; rfl) | (obtain ⟨_, _, _, _, rfl, _⟩ := h; rfl) | (obtain ⟨_, _, _, _, _, rfl, _⟩ := h; rfl) | (obtain ⟨_, _, _, _, _, _, rfl, _⟩ := h; rfl) | (obtain ⟨_, _, _, _, _, _, _, rfl, _⟩ := h; rfl) | (obtain ⟨rfl | rfl, _⟩ := h <;> rfl) | (obtain ⟨_, rfl | rfl, _⟩ := h <;> rfl) | (obtain ⟨_, _, rfl | rfl, _⟩ := h <;> rfl) | (obtain ⟨_, _, _, rfl | rfl, _⟩ := h <;> rfl) | (obtain ⟨_, _, _, _, rfl | rfl, _⟩ := h <;> rfl)) fun cdv A outer s H E c XD hgd hr eK hp lk => ?_
  subst eK
  have hK : c.K = c.K := rfl
  have nd := sc_l_turned_voices.nd
  exact ⟨t_l_turned_voices c.K C XD, (dss_one (ds_ret (de_call G_l_made hK hgd (hr.mono (by decide)) rfl lk (da_cons (de_lc (own := [("_law_name", 2), ("_law_place", 3), ("_law_voice", 4)]) rfl nd  (di_list hK (de_dctIx (hu_of hr) (dv 0) de_str (fun _ _ => rfl))) (blkOk_by (own := [("_law_name", 2), ("_law_place", 3), ("_law_voice", 4)]) (N := N_l_turned_voices) (sc := defScope s_l_turned_voices) (by decide +kernel)) (by decide) (fun _ _ _ _ _ => (dg_tup rfl hK (dgs_cons (dg_name (i := 2) nd rfl (.inl rfl)) (dgs_cons (dg_name (i := 3) nd rfl (.inl rfl)) (dgs_cons (dg_name (i := 4) nd rfl (.inl rfl)) dgs_nil))))) (fun _ _ _ _ _ => dts_nil) (fun _ _ _ _ _ => (de_tup (da_cons (dv 2) (da_cons (dv 3) (da_cons (de_if (dt_cmp (od_in (neg := false)) op_in_seq (dv 2) (dv 1) (by rfl)) (de_op od_sub op_sub de_int (dv 4)) (dv 4)) da_nil)))))) da_nil)))), fun ds QD h => pure_l_turned_voices h⟩
theorem ok_l_fewest {C : Nm} {f : Addr} {fd : FuncData} (gb : GB mg C) (st : CS K C)  (F : Fun K "_law_fewest" "_law_fewest" s_l_fewest f fd) : FnG P w K mg base 1 f fd ["_law_world_here"] (spD K (sp_l_fewest C)) := by
  refine fnD F sc_l_fewest (fun ds QD XD h => by first | (rcases h with h | h <;> first | (obtain ⟨rfl, _⟩ := h; rfl) | (obtain ⟨_, rfl, _⟩ := h; rfl) | (obtain ⟨_, _, rfl, _⟩ := h; rfl) | (obtain ⟨_, _, _, rfl, _⟩ := h; rfl) | (obtain ⟨_, _, _, _, rfl, _⟩ := h; rfl) | (obtain ⟨_, _, _, _, _, rfl, _⟩ := h; rfl) | (obtain ⟨_, _, _, _, _, _, rfl, _⟩ := h; rfl) | (obtain ⟨_, _, _, _, _, _, _, rfl, _⟩ := h; rfl)) | (obtain ⟨rfl, _⟩ := h; rfl) | (obtain ⟨_, rfl, _⟩ := h; rfl) | (obtain ⟨_, _, rfl, _⟩ := h; rfl) | (obtain ⟨_, _, _, rfl, _⟩ := h; rfl) | (obtain ⟨_, _, _, _, rfl, _⟩ := h; rfl) | (obtain ⟨_, _, _, _, _, rfl, _⟩ := h; rfl) | (obtain ⟨_, _, _, _, _, _, rfl, _⟩ := h; rfl) | (obtain ⟨_, _, _, _, _, _, _, rfl, _⟩ := h; rfl) | (obtain ⟨rfl | rfl, _⟩ := h <;> rfl) | (obtain ⟨_, rfl | rfl, _⟩ := h <;> rfl) | (obtain ⟨_, _, rfl | rfl, _⟩ := h <;> rfl) | (obtain ⟨_, _, _, rfl | rfl, _⟩ := h <;> rfl) | (obtain ⟨_, _, _, _, rfl | rfl, _⟩ := h <;> rfl)) fun cdv A outer s H E c XD hgd hr eK hp lk => ?_
  subst eK
  have hK : c.K = c.K := rfl
  have nd := sc_l_fewest.nd
  exact ⟨t_l_fewest c.K C XD, (dss_cons (ds_par (i := 1) (j := 2) rfl nd rfl rfl (by decide) rfl rfl de_dct0 (de_lc (own := [("_law_one", 3)]) rfl nd  (di_list hK (de_dctIx (hu_of hr) (dv 0) de_str (fun _ _ => rfl))) (blkOk_by (own := [("_law_one", 3)]) (N := N_l_fewest) (sc := defScope s_l_fewest) (by decide +kernel)) (by decide) (fun _ _ _ _ _ => (dg_name (i := 3) nd rfl (.inl rfl))) (fun _ _ _ _ _ => dts_nil) (fun _ _ _ _ _ => (de_ix od_ix ix_seq (dv 3) de_int (fun _ _ => rfl)))) (by rfl))
      (dss_cons (ds_set (i := 4) nd rfl (.inl rfl) (de_lst (da_cons (de_lst da_nil) da_nil)))
      (dss_cons (ds_for hp rfl (di_list hK (dv 2)) (dg_name (i := 5) nd rfl (.inr rfl)) (dss_one (ds_set (i := 4) nd rfl (.inl rfl) (de_op od_add op_addD (dv 4) (de_lc (own := [("_law_some", 6)]) rfl nd  (di_list hK (dv 4)) (blkOk_by (own := [("_law_some", 6)]) (N := N_l_fewest) (sc := defScope s_l_fewest) (by decide +kernel)) (by decide) (fun _ _ _ _ _ => (dg_name (i := 6) nd rfl (.inl rfl))) (fun _ _ _ _ _ => dts_nil) (fun _ _ _ _ _ => (de_op od_add op_addD (dv 6) (de_lst (da_cons (dv 5) da_nil)))))))))
      (dss_cons (ds_for hp rfl (di_list hK (dv 4)) (dg_name (i := 6) nd rfl (.inr rfl)) (dss_cons (ds_setLc (i := 7) (own := [("_law_name", 5), ("_law_place", 8), ("_law_voice", 9)]) rfl nd rfl rfl (sw_true rfl rfl rfl (by decide +kernel)) (di_list hK (de_dctIx (hu_of hr) (dv 0) de_str (fun _ _ => rfl))) (blkOk_by (own := [("_law_name", 5), ("_law_place", 8), ("_law_voice", 9)]) (N := N_l_fewest) (sc := defScope s_l_fewest) (by decide +kernel)) (by decide) (fun _ _ _ _ _ => (dg_tup rfl hK (dgs_cons (dg_name (i := 5) nd rfl (.inl rfl)) (dgs_cons (dg_name (i := 8) nd rfl (.inl rfl)) (dgs_cons (dg_name (i := 9) nd rfl (.inl rfl)) dgs_nil))))) (fun _ _ _ _ _ => dts_nil) (fun _ _ _ _ _ => (de_tup (da_cons (dv 8) (da_cons (de_if (dt_cmp (od_in (neg := false)) op_in_seq (dv 5) (dv 6) (by rfl)) (de_op od_sub op_sub de_int (dv 9)) (dv 9)) da_nil)))))
      (dss_cons (ds_set (i := 10) nd rfl (.inl rfl) (de_callB cd_sortL cr_sorted rfl gb.sorted (by decide +kernel) (da_cons (de_lc (own := [("_law_place", 8), ("_law_voice", 9)]) rfl nd  (di_list hK (dv 7)) (blkOk_by (own := [("_law_place", 8), ("_law_voice", 9)]) (N := N_l_fewest) (sc := defScope s_l_fewest) (by decide +kernel)) (by decide) (fun _ _ _ _ _ => (dg_tup rfl hK (dgs_cons (dg_name (i := 8) nd rfl (.inl rfl)) (dgs_cons (dg_name (i := 9) nd rfl (.inl rfl)) dgs_nil)))) (fun _ _ _ _ _ => (dts_one (dt_cmp od_eq2 (op_eq2 hr.units) (dv 9) de_int (nomark _)))) (fun _ _ _ _ _ => (dv 8))) da_nil)))
      (dss_one (ds_if (dt_cmp od_eq2 (op_eq2 hr.units) (de_op od_mod op_mod (de_callTy cd_int1 call_int1 rfl gb.int (by decide +kernel) (da_cons (de_callB cd_len call_len rfl gb.len (by decide +kernel) (da_cons (dv 10) da_nil)) da_nil)) de_int) de_int (nomark _)) (dss_cons (ds_set (i := 11) nd rfl (.inl rfl) (de_op od_sub op_sub (de_callB cd_sum (cr_sum rfl) rfl gb.sum (by decide +kernel) (da_cons (de_step2_0 hK (dv 10)) da_nil)) (de_callB cd_sum (cr_sum rfl) rfl gb.sum (by decide +kernel) (da_cons (de_step2_1 hK (dv 10)) da_nil))))
      (dss_one (ds_put (i := 1) (hu_of hr) (pv 1) (dv 11) (de_callB cd_min2 (call_min2 rfl) rfl gb.min (by decide +kernel) (da_cons (de_getS (i := 1) (hu_of hr) (pv 1) (dv 11) (de_callB cd_len call_len rfl gb.len (by decide +kernel) (da_cons (dv 2) da_nil))) (da_cons (de_callB cd_len call_len rfl gb.len (by decide +kernel) (da_cons (dv 6) da_nil)) da_nil)))))) dss_nil)))))
      (dss_one (dretv 1)))))), fun ds QD h => pure_l_fewest h⟩
theorem ok_l_names {C : Nm} {f : Addr} {fd : FuncData} (gb : GB mg C) (st : CS K C) (G_l_pick : Callee P w K mg base 1 "_law_pick" (sp_l_pick C)) (F : Fun K "_law_names" "_law_names" s_l_names f fd) : FnG P w K mg base 2 f fd ["_law_source_here", "_law_many"] (spD K (sp_l_names C)) := by
  refine fnD F sc_l_names (fun ds QD XD h => by first | (rcases h with h | h <;> first | (obtain ⟨rfl, _⟩ := h; rfl) | (obtain ⟨_, rfl, _⟩ := h; rfl) | (obtain ⟨_, _, rfl, _⟩ := h; rfl) | (obtain ⟨_, _, _, rfl, _⟩ := h; rfl) | (obtain ⟨_, _, _, _, rfl, _⟩ := h; rfl) | (obtain ⟨_, _, _, _, _, rfl, _⟩ := h; rfl) | (obtain ⟨_, _, _, _, _, _, rfl, _⟩ := h; rfl) | (obtain ⟨_, _, _, _, _, _, _, rfl, _⟩ := h; rfl)) | (obtain ⟨rfl, _⟩ := h; rfl) | (obtain ⟨_, rfl, _⟩ := h; rfl) | (obtain ⟨_, _, rfl, _⟩ := h; rfl) | (obtain ⟨_, _, _, rfl, _⟩ := h; rfl) | (obtain ⟨_, _, _, _, rfl, _⟩ := h; rfl) | (obtain ⟨_, _, _, _, _, rfl, _⟩ := h; rfl) | (obtain ⟨_, _, _, _, _, _, rfl, _⟩ := h; rfl) | (obtain ⟨_, _, _, _, _, _, _, rfl, _⟩ := h; rfl) | (obtain ⟨rfl | rfl, _⟩ := h <;> rfl) | (obtain ⟨_, rfl | rfl, _⟩ := h <;> rfl) | (obtain ⟨_, _, rfl | rfl, _⟩ := h <;> rfl) | (obtain ⟨_, _, _, rfl | rfl, _⟩ := h <;> rfl) | (obtain ⟨_, _, _, _, rfl | rfl, _⟩ := h <;> rfl)) fun cdv A outer s H E c XD hgd hr eK hp lk => ?_
  subst eK
  have hK : c.K = c.K := rfl
  have nd := sc_l_names.nd
  exact ⟨t_l_names c.K C XD, (dss_cons (ds_par3 (i := 2) (j := 3) (l := 4) rfl nd rfl rfl rfl (by decide) (by decide) (by decide) rfl rfl rfl (de_call G_l_pick hK hgd (hr.mono (by decide)) rfl lk (da_cons (dv 0) (da_cons de_int da_nil))) (de_lst da_nil) (de_lst (da_cons de_str (da_cons de_str (da_cons de_str (da_cons de_str (da_cons de_str da_nil)))))) (by rfl))
      (dss_cons (ds_for hp rfl (di_range1 rfl gb.range (da_cons (dv 1) da_nil)) (dg_name (i := 5) nd rfl (.inl rfl)) (dss_cons (ds_set (i := 6) nd rfl (.inl rfl) (de_ix od_ix ix_seq de_str (de_call G_l_pick hK hgd (hr.mono (by decide)) rfl lk (da_cons (dv 0) (da_cons de_int da_nil))) (fun _ _ => rfl)))
      (dss_one (ds_append (i := 3) rfl (by first | exact Or.inl rfl | exact Or.inr (Or.inl rfl)) (de_op od_add op_addD (de_op od_add op_addD (dv 6) (de_slice hK (de_callTy cd_strI call_str_int rfl gb.str (by decide +kernel) (da_cons (de_op od_add op_addD de_int (de_op od_mod op_mod (de_callTy cd_int1 call_int1 rfl gb.int (by decide +kernel) (da_cons (de_op od_add op_addD (dv 2) (de_op od_mul op_mulD de_int (dv 5))) da_nil)) de_int)) da_nil)) (do_some de_int) do_none)) (de_ix od_ix ix_seq (dv 4) (de_call G_l_pick hK hgd (hr.mono (by decide)) rfl lk (da_cons (dv 0) (da_cons de_int da_nil))) (fun _ _ => rfl))) (h1 := pe_bm PySem.F.plainAttrs_list PySem.F.slot_list_append PySem.F.type_list_append mt_append (pe_var (i := 3) rfl (by first | exact Or.inl rfl | exact Or.inr (Or.inl rfl))) (pa_cons (froze (de_op od_add op_addD (de_op od_add op_addD (dv 6) (de_slice hK (de_callTy cd_strI call_str_int rfl gb.str (by decide +kernel) (da_cons (de_op od_add op_addD de_int (de_op od_mod op_mod (de_callTy cd_int1 call_int1 rfl gb.int (by decide +kernel) (da_cons (de_op od_add op_addD (dv 2) (de_op od_mul op_mulD de_int (dv 5))) da_nil)) de_int)) da_nil)) (do_some de_int) do_none)) (de_ix od_ix ix_seq (dv 4) (de_call G_l_pick hK hgd (hr.mono (by decide)) rfl lk (da_cons (dv 0) (da_cons de_int da_nil))) (fun _ _ => rfl)))) pa_nil))))))
      (dss_one (dretv 3)))), fun ds QD h => pure_l_names h⟩
theorem ok_l_of {C : Nm} {f : Addr} {fd : FuncData} (gb : GB mg C) (st : CS K C) (G_l_pick : Callee P w K mg base 1 "_law_pick" (sp_l_pick C)) (F : Fun K "_law_of" "_law_of" s_l_of f fd) : FnG P w K mg base 2 f fd ["_law_source_here", "_law_some"] (spD K (sp_l_of C)) := by
  refine fnD F sc_l_of (fun ds QD XD h => by first | (rcases h with h | h <;> first | (obtain ⟨rfl, _⟩ := h; rfl) | (obtain ⟨_, rfl, _⟩ := h; rfl) | (obtain ⟨_, _, rfl, _⟩ := h; rfl) | (obtain ⟨_, _, _, rfl, _⟩ := h; rfl) | (obtain ⟨_, _, _, _, rfl, _⟩ := h; rfl) | (obtain ⟨_, _, _, _, _, rfl, _⟩ := h; rfl) | (obtain ⟨_, _, _, _, _, _, rfl, _⟩ := h; rfl) | (obtain ⟨_, _, _, _, _, _, _, rfl, _⟩ := h; rfl)) | (obtain ⟨rfl, _⟩ := h; rfl) | (obtain ⟨_, rfl, _⟩ := h; rfl) | (obtain ⟨_, _, rfl, _⟩ := h; rfl) | (obtain ⟨_, _, _, rfl, _⟩ := h; rfl) | (obtain ⟨_, _, _, _, rfl, _⟩ := h; rfl) | (obtain ⟨_, _, _, _, _, rfl, _⟩ := h; rfl) | (obtain ⟨_, _, _, _, _, _, rfl, _⟩ := h; rfl) | (obtain ⟨_, _, _, _, _, _, _, rfl, _⟩ := h; rfl) | (obtain ⟨rfl | rfl, _⟩ := h <;> rfl) | (obtain ⟨_, rfl | rfl, _⟩ := h <;> rfl) | (obtain ⟨_, _, rfl | rfl, _⟩ := h <;> rfl) | (obtain ⟨_, _, _, rfl | rfl, _⟩ := h <;> rfl) | (obtain ⟨_, _, _, _, rfl | rfl, _⟩ := h <;> rfl)) fun cdv A outer s H E c XD hgd hr eK hp lk => ?_
  subst eK
  have hK : c.K = c.K := rfl
  have nd := sc_l_of.nd
  exact ⟨t_l_of c.K C XD, (dss_one (ds_ret (de_ix od_ix ix_seq (dv 1) (de_call G_l_pick hK hgd (hr.mono (by decide)) rfl lk (da_cons (dv 0) (da_cons (de_callB cd_len call_len rfl gb.len (by decide +kernel) (da_cons (dv 1) da_nil)) da_nil))) (fun _ _ => rfl)))), fun ds QD h => pure_l_of h⟩
theorem ok_l_world {C : Nm} {f : Addr} {fd : FuncData} (gb : GB mg C) (st : CS K C) (G_l_made : Callee P w K mg base 6 "_law_made" (sp_l_made C)) (G_l_mixed : Callee P w K mg base 2 "_law_mixed" (sp_l_mixed C)) (G_l_names : Callee P w K mg base 2 "_law_names" (sp_l_names C)) (G_l_pick : Callee P w K mg base 1 "_law_pick" (sp_l_pick C)) (G_l_of : Callee P w K mg base 2 "_law_of" (sp_l_of C)) (F : Fun K "_law_world" "_law_world" s_l_world f fd) : FnG P w K mg base 7 f fd ["_law_source_here", "_law_most", "_law_far", "_law_parity"] (spD K (sp_l_world C)) := by
  refine fnD F sc_l_world (fun ds QD XD h => by first | (rcases h with h | h <;> first | (obtain ⟨rfl, _⟩ := h; rfl) | (obtain ⟨_, rfl, _⟩ := h; rfl) | (obtain ⟨_, _, rfl, _⟩ := h; rfl) | (obtain ⟨_, _, _, rfl, _⟩ := h; rfl) | (obtain ⟨_, _, _, _, rfl, _⟩ := h; rfl) | (obtain ⟨_, _, _, _, _, rfl, _⟩ := h; rfl) | (obtain ⟨_, _, _, _, _, _, rfl, _⟩ := h; rfl) | (obtain ⟨_, _, _, _, _, _, _, rfl, _⟩ := h; rfl)) | (obtain ⟨rfl, _⟩ := h; rfl) | (obtain ⟨_, rfl, _⟩ := h; rfl) | (obtain ⟨_, _, rfl, _⟩ := h; rfl) | (obtain ⟨_, _, _, rfl, _⟩ := h; rfl) | (obtain ⟨_, _, _, _, rfl, _⟩ := h; rfl) | (obtain ⟨_, _, _, _, _, rfl, _⟩ := h; rfl) | (obtain ⟨_, _, _, _, _, _, rfl, _⟩ := h; rfl) | (obtain ⟨_, _, _, _, _, _, _, rfl, _⟩ := h; rfl) | (obtain ⟨rfl | rfl, _⟩ := h <;> rfl) | (obtain ⟨_, rfl | rfl, _⟩ := h <;> rfl) | (obtain ⟨_, _, rfl | rfl, _⟩ := h <;> rfl) | (obtain ⟨_, _, _, rfl | rfl, _⟩ := h <;> rfl) | (obtain ⟨_, _, _, _, rfl | rfl, _⟩ := h <;> rfl)) fun cdv A outer s H E c XD hgd hr eK hp lk => ?_
  subst eK
  have hK : c.K = c.K := rfl
  have nd := sc_l_world.nd
  exact ⟨t_l_world c.K C XD, (dss_cons (ds_par (i := 4) (j := 5) rfl nd rfl rfl (by decide) rfl rfl (de_op od_sub op_sub (de_call G_l_pick hK hgd (hr.mono (by decide)) rfl lk (da_cons (dv 0) (da_cons de_int da_nil))) de_int) (de_lst da_nil) (by rfl))
      (dss_cons (ds_for hp rfl (di_list hK (de_call G_l_names hK hgd (hr.mono (by decide)) rfl lk (da_cons (dv 0) (da_cons (de_op od_add op_addD de_int (de_call G_l_pick hK hgd (hr.mono (by decide)) rfl lk (da_cons (dv 0) (da_cons (dv 1) da_nil)))) da_nil)))) (dg_name (i := 6) nd rfl (.inl rfl)) (dss_cons (ds_append (i := 5) rfl (by first | exact Or.inl rfl | exact Or.inr (Or.inl rfl)) (de_tup (da_cons (dv 6) (da_cons (dv 4) (da_cons (de_callTy cd_int1 call_int1 rfl gb.int (by decide +kernel) (da_cons (de_cmp od_gt op_gt (de_call G_l_pick hK hgd (hr.mono (by decide)) rfl lk (da_cons (dv 0) (da_cons de_int da_nil))) de_int (nomark _)) da_nil)) da_nil)))) (h1 := pe_bm PySem.F.plainAttrs_list PySem.F.slot_list_append PySem.F.type_list_append mt_append (pe_var (i := 5) rfl (by first | exact Or.inl rfl | exact Or.inr (Or.inl rfl))) (pa_cons (froze (de_tup (da_cons (dv 6) (da_cons (dv 4) (da_cons (de_callTy cd_int1 call_int1 rfl gb.int (by decide +kernel) (da_cons (de_cmp od_gt op_gt (de_call G_l_pick hK hgd (hr.mono (by decide)) rfl lk (da_cons (dv 0) (da_cons de_int da_nil))) de_int (nomark _)) da_nil)) da_nil))))) pa_nil)))
      (dss_one (ds_set (i := 4) nd rfl (.inl rfl) (de_op od_add op_addD (dv 4) (de_call G_l_of hK hgd (hr.mono (by decide)) rfl lk (da_cons (dv 0) (da_cons (de_lst (da_cons de_int (da_cons de_int (da_cons de_int (da_cons de_int (da_cons (de_op od_add op_addD de_int (de_call G_l_pick hK hgd (hr.mono (by decide)) rfl lk (da_cons (dv 0) (da_cons (dv 2) da_nil)))) da_nil)))))) da_nil))))))))
      (dss_cons (ds_if (PW.pt (dw_and (dt_cmp od_lt op_lt (dv 3) de_int (nomark _)) (dw_and1 (dt_cmp od_ne2 (op_ne2 hr.units) (de_op od_mod op_mod (de_callTy cd_int1 call_int1 rfl gb.int (by decide +kernel) (da_cons (de_callB cd_sum (cr_sum rfl) rfl gb.sum (by decide +kernel) (da_cons (de_lcV (own := [("_law_one", 7)]) hK rfl nd  (pv 5) (blkOk_by (own := [("_law_one", 7)]) (N := N_l_world) (sc := defScope s_l_world) (by decide +kernel)) (by decide) (fun _ _ _ _ _ => (dg_name (i := 7) nd rfl (.inl rfl))) (fun _ _ _ _ _ => dts_nil) (fun _ _ _ _ _ => (de_ix od_ix ix_seq (dv 7) de_int (fun _ _ => rfl)))) da_nil)) da_nil)) de_int) (dv 3) (nomark _))))) (dss_one (ds_setV (i := 5) (pg_sub (pv 5) (froze (de_un ud_neg un_neg de_int)) set_list) (de_tup (da_cons (de_ix od_ix ix_seq (de_ixV hK (pv 5) (de_un ud_neg un_neg de_int) (fun _ _ => rfl)) de_int (fun _ _ => rfl)) (da_cons (de_ix od_ix ix_seq (de_ixV hK (pv 5) (de_un ud_neg un_neg de_int) (fun _ _ => rfl)) de_int (fun _ _ => rfl)) (da_cons (de_op od_sub op_sub de_int (de_ix od_ix ix_seq (de_ixV hK (pv 5) (de_un ud_neg un_neg de_int) (fun _ _ => rfl)) de_int (fun _ _ => rfl))) da_nil)))))) dss_nil)
      (dss_one (ds_ret (de_call G_l_made hK hgd (hr.mono (by decide)) rfl lk (da_cons (de_call G_l_mixed hK hgd (hr.mono (by decide)) rfl lk (da_cons (dv 0) (da_cons (dv 5) da_nil))) da_nil))))))), fun ds QD h => pure_l_world h⟩
theorem ok_law {C : Nm} {f fs : Addr} {fd fds : FuncData} (gb : GB mg C) (st : CS K C) (G_places_by_voices : Callee P w K mg base 9 "places_by_voices" (sp_places_by_voices C)) (G_l_made : Callee P w K mg base 6 "_law_made" (sp_l_made C)) (G_l_mixed : Callee P w K mg base 2 "_law_mixed" (sp_l_mixed C)) (G_wished_voices : Callee P w K mg base 9 "wished_voices" (sp_wished_voices C)) (G_l_at : Callee P w K mg base 7 "_law_at" (sp_l_at C)) (G_w_spots : Callee P w K mg base 1 "_law_spots" (sp_w_spots C)) (G_l_turned_voices : Callee P w K mg base 7 "_law_turned_voices" (sp_l_turned_voices C)) (G_l_pick : Callee P w K mg base 1 "_law_pick" (sp_l_pick C)) (G_l_fewest : Callee P w K mg base 1 "_law_fewest" (sp_l_fewest C)) (G_l_world : Callee P w K mg base 7 "_law_world" (sp_l_world C)) (Gs : FnG P w K mg base 1 fs fds ["_law_script"] (spSrc K)) (ms : mg "_law_source" = some (.ref fs)) (ks : PySem.W.keepIn K (.ref fs) = true) (bs : Binds K fds ["_law_script"] []) (F : Fun K "law" "law" s_law f fd) : FnG P w K mg base 10 f fd ["_law_script"] (spLaw K) := by
  refine fnLaw (k := 9) F sc_law rfl (t_law_k78 K C XNo) rfl ?_ ?_ pure_law_k78
  · intro cdv A outer s H E hgd hr hp
    exact ps_set (i := 1) sc_law.nd rfl (by first | exact .inl rfl | exact .inr rfl) (pe_callG Gs hgd (hr.mono (by decide)) rfl ms ks bs (pa_cons (pv 0) pa_nil))
  · intro cdv A outer s H E c hgd hr eK hp lk
    subst eK
    have hK : c.K = c.K := rfl
    have nd := sc_law.nd
    exact (dss_cons (ds_for hp rfl (di_range1 rfl gb.range (da_cons de_int da_nil)) (dg_name (i := 2) nd rfl (.inl rfl)) (dss_cons (ds_set (i := 3) nd rfl (.inl rfl) (de_call G_l_world hK hgd (hr.mono (by decide)) rfl lk (da_cons (dv 1) (da_cons (de_ix od_ix ix_seq (de_lst (da_cons de_int (da_cons de_int (da_cons de_int (da_cons de_int da_nil))))) (dv 2) (fun _ _ => rfl)) (da_cons de_int (da_cons de_int da_nil))))))
      (dss_cons (ds_if (dt_cmp od_eq2 (op_eq2 hr.units) (de_call G_l_pick hK hgd (hr.mono (by decide)) rfl lk (da_cons (dv 1) (da_cons de_int da_nil))) de_int (nomark _)) (dss_one (ds_set (i := 3) nd rfl (.inl rfl) (de_call G_l_at hK hgd (hr.mono (by decide)) rfl lk (da_cons (dv 3) (da_cons (de_callTy cd_tupOf call_tuple_of rfl gb.tuple (by decide +kernel) (da_cons (de_lc (own := [("_law_spot", 4)]) rfl nd  (di_tup hK (de_call G_w_spots hK hgd (hr.mono (by decide)) rfl lk (da_cons (dv 3) da_nil))) (blkOk_by (own := [("_law_spot", 4)]) (N := N_law) (sc := defScope s_law) (by decide +kernel)) (by decide) (fun _ _ _ _ _ => (dg_name (i := 4) nd rfl (.inl rfl))) (fun _ _ _ _ _ => dts_nil) (fun _ _ _ _ _ => (de_op od_sub op_sub (de_call G_l_pick hK hgd (hr.mono (by decide)) rfl lnk_blk (da_cons (dv 1) (da_cons de_int da_nil))) de_int))) da_nil)) da_nil))))) dss_nil)
      (dss_cons (ds_set (i := 5) nd rfl (.inl rfl) (de_callB cd_sortDA (call_sortedDA rfl) rfl gb.sorted (by decide +kernel) (da_cons (de_call G_l_fewest hK hgd (hr.mono (by decide)) rfl lk (da_cons (dv 3) da_nil)) da_nil)))
      (dss_cons (ds_for hp rfl (di_range1 rfl gb.range (da_cons de_int da_nil)) (dg_name (i := 6) nd rfl (.inl rfl)) (dss_cons (ds_set (i := 7) nd rfl (.inl rfl) (de_call G_places_by_voices hK hgd (hr.mono (by decide)) rfl lk (da_cons (de_dctIx (hu_of hr) (dv 3) de_str (fun _ _ => rfl)) da_nil)))
      (dss_cons (ds_if (dt_cmp od_ne2 (op_ne2 hr.units) (de_callBB cd_repr (cr_repr hgd hr.units) rfl gb.repr (by decide +kernel) (dab_bor (hr := dab_nil))) (de_callB cd_repr (cr_repr hgd hr.units) rfl gb.repr (by decide +kernel) (da_cons (dv 5) da_nil)) (nomark _)) (dss_one (ds_ret de_bl)) dss_nil)
      (dss_one (ds_append (i := 7) rfl (by first | exact Or.inl rfl | exact Or.inr (Or.inl rfl)) de_non (h1 := pe_bm PySem.F.plainAttrs_list PySem.F.slot_list_append PySem.F.type_list_append mt_append (pe_var (i := 7) rfl (by first | exact Or.inl rfl | exact Or.inr (Or.inl rfl))) (pa_cons (froze de_non) pa_nil)))))))
      (dss_cons (ds_setLc (i := 8) (own := [("_law_one", 9)]) rfl nd rfl rfl (sw_true rfl rfl rfl (by decide +kernel)) (di_list hK (de_dctIx (hu_of hr) (dv 3) de_str (fun _ _ => rfl))) (blkOk_by (own := [("_law_one", 9)]) (N := N_law) (sc := defScope s_law) (by decide +kernel)) (by decide) (fun _ _ _ _ _ => (dg_name (i := 9) nd rfl (.inl rfl))) (fun _ _ _ _ _ => dts_nil) (fun _ _ _ _ _ => (de_ix od_ix ix_seq (dv 9) de_int (fun _ _ => rfl))))
      (dss_cons (ds_set (i := 10) nd rfl (.inl rfl) (de_call G_l_turned_voices hK hgd (hr.mono (by decide)) rfl lk (da_cons (dv 3) (da_cons (de_slice hK (de_call G_l_mixed hK hgd (hr.mono (by decide)) rfl lk (da_cons (dv 1) (da_cons (dv 8) da_nil))) do_none (do_some (de_call G_l_pick hK hgd (hr.mono (by decide)) rfl lk (da_cons (dv 1) (da_cons (de_op od_add op_addD (de_callB cd_len call_len rfl gb.len (by decide +kernel) (da_cons (dv 8) da_nil)) de_int) da_nil))))) da_nil))))
      (dss_cons (ds_if (dt_cmp od_ne2 (op_ne2 hr.units) (de_call G_places_by_voices hK hgd (hr.mono (by decide)) rfl lk (da_cons (de_dctIx (hu_of hr) (dv 10) de_str (fun _ _ => rfl)) da_nil)) (dv 5) (nomark _)) (dss_one (ds_ret de_bl)) dss_nil)
      (dss_cons (ds_set (i := 11) nd rfl (.inl rfl) (de_call G_l_at hK hgd (hr.mono (by decide)) rfl lk (da_cons (dv 3) (da_cons (de_callTy cd_tupOf call_tuple_of rfl gb.tuple (by decide +kernel) (da_cons (de_lc (own := [("_law_spot", 4)]) rfl nd  (di_tup hK (de_call G_w_spots hK hgd (hr.mono (by decide)) rfl lk (da_cons (dv 3) da_nil))) (blkOk_by (own := [("_law_spot", 4)]) (N := N_law) (sc := defScope s_law) (by decide +kernel)) (by decide) (fun _ _ _ _ _ => (dg_name (i := 4) nd rfl (.inl rfl))) (fun _ _ _ _ _ => dts_nil) (fun _ _ _ _ _ => (de_op od_sub op_sub de_int (dv 4)))) da_nil)) da_nil))))
      (dss_cons (ds_if (dt_cmp od_ne2 (op_ne2 hr.units) (de_call G_places_by_voices hK hgd (hr.mono (by decide)) rfl lk (da_cons (de_dctIx (hu_of hr) (dv 11) de_str (fun _ _ => rfl)) da_nil)) (de_lc (own := [("_law_place", 12)]) rfl nd  (di_list hK (de_revL hK (dv 5))) (blkOk_by (own := [("_law_place", 12)]) (N := N_law) (sc := defScope s_law) (by decide +kernel)) (by decide) (fun _ _ _ _ _ => (dg_name (i := 12) nd rfl (.inl rfl))) (fun _ _ _ _ _ => dts_nil) (fun _ _ _ _ _ => (de_op od_sub op_sub de_int (dv 12)))) (nomark _)) (dss_one (ds_ret de_bl)) dss_nil)
      (dss_one (ds_for hp rfl (di_list hK (de_slice hK (de_call G_l_mixed hK hgd (hr.mono (by decide)) rfl lk (da_cons (dv 1) (da_cons (dv 5) da_nil))) do_none (do_some de_int))) (dg_name (i := 12) nd rfl (.inl rfl)) (dss_one (ds_if (dt_cmp od_isN op_isN (de_call G_wished_voices hK hgd (hr.mono (by decide)) rfl lk (da_cons (de_dctIx (hu_of hr) (dv 10) de_str (fun _ _ => rfl)) (da_cons (dv 12) da_nil))) de_non (nomark _)) (dss_one (ds_ret de_bl)) dss_nil))))))))))))))
      (dss_one (ds_ret (de_cmp od_eq2 (op_eq2 hr.units) (de_call G_places_by_voices hK hgd (hr.mono (by decide)) rfl lk (da_cons (de_dctIx (hu_of hr) (de_call G_l_made hK hgd (hr.mono (by decide)) rfl lk (da_cons (de_lst da_nil) da_nil)) de_str (fun _ _ => rfl)) da_nil)) (de_lst da_nil) (nomark _)))))
end
theorem facts {P : Program} {w : World} {K : PySem.W.Frag} {h : Heap} {mg : Str → Option Value} {f : Addr} (X : K.In h) (G : h.Ns mainGlobals mg) (hfa : mg ("law" : Str) = some (.ref f)) (cy : SaysY fa fn gs xs K) (hP : P = PySem.Challenge.pw_oddcrowds_k78_whole_places_by_voices) :
    ∃ fd : FuncData, (∀ (s : Shared) (v : Value), BindsTo s fd ⟨[v], []⟩ [("_law_script", v)]) ∧ ∀ base : Heap, K.In base → base.Ns mainGlobals mg → FnG P w K mg base 10 f fd ["_law_script"] (spLaw K) := by
  have cc := cy.x
  have c : He.SaysD fa fn K := cc.d
  obtain ⟨fd_l_source, D_l_source⟩ := c.def_ 0 rfl
  have F_l_source : Fun K "_law_source" "_law_source" s_l_source (He.fAd K ("_law_source", none)) fd_l_source := fun_ofD (st := s_l_source) D_l_source
  obtain ⟨fd_Standing_names, D_Standing_names⟩ := c.def_ 1 rfl
  have F_Standing_names : Fun K "names" "Standing.names" s_Standing_names (He.fAd K ("Standing", some "names")) fd_Standing_names := fun_ofD (st := s_Standing_names) D_Standing_names
  obtain ⟨fd_is_word, D_is_word⟩ := c.def_ 2 rfl
  have F_is_word : Fun K "is_word" "is_word" s_is_word (He.fAd K ("is_word", none)) fd_is_word := fun_ofD (st := s_is_word) D_is_word
  obtain ⟨fd_Standing_has_name, D_Standing_has_name⟩ := c.def_ 3 rfl
  have F_Standing_has_name : Fun K "has_name" "Standing.has_name" s_Standing_has_name (He.fAd K ("Standing", some "has_name")) fd_Standing_has_name := fun_ofD (st := s_Standing_has_name) D_Standing_has_name
  obtain ⟨fd_Standing_person, D_Standing_person⟩ := c.def_ 4 rfl
  have F_Standing_person : Fun K "person" "Standing.person" s_Standing_person (He.fAd K ("Standing", some "person")) fd_Standing_person := fun_ofD (st := s_Standing_person) D_Standing_person
  obtain ⟨fd_Standing_place, D_Standing_place⟩ := c.def_ 5 rfl
  have F_Standing_place : Fun K "place" "Standing.place" s_Standing_place (He.fAd K ("Standing", some "place")) fd_Standing_place := fun_ofD (st := s_Standing_place) D_Standing_place
  obtain ⟨fd_Standing_line, D_Standing_line⟩ := c.def_ 6 rfl
  have F_Standing_line : Fun K "line" "Standing.line" s_Standing_line (He.fAd K ("Standing", some "line")) fd_Standing_line := fun_ofD (st := s_Standing_line) D_Standing_line
  obtain ⟨fd_Standing_voice, D_Standing_voice⟩ := c.def_ 7 rfl
  have F_Standing_voice : Fun K "voice" "Standing.voice" s_Standing_voice (He.fAd K ("Standing", some "voice")) fd_Standing_voice := fun_ofD (st := s_Standing_voice) D_Standing_voice
  obtain ⟨fd_changes_by_sums, D_changes_by_sums⟩ := c.def_ 8 rfl
  have F_changes_by_sums : Fun K "changes_by_sums" "changes_by_sums" s_changes_by_sums (He.fAd K ("changes_by_sums", none)) fd_changes_by_sums := fun_ofD (st := s_changes_by_sums) D_changes_by_sums
  obtain ⟨fd_places_by_voices, D_places_by_voices⟩ := c.def_ 9 rfl
  have F_places_by_voices : Fun K "places_by_voices" "places_by_voices" s_places_by_voices (He.fAd K ("places_by_voices", none)) fd_places_by_voices := fun_ofD (st := s_places_by_voices) D_places_by_voices
  obtain ⟨fd_is_integer, D_is_integer⟩ := c.def_ 10 rfl
  have F_is_integer : Fun K "is_integer" "is_integer" s_is_integer (He.fAd K ("is_integer", none)) fd_is_integer := fun_ofD (st := s_is_integer) D_is_integer
  obtain ⟨fd_is_row, D_is_row⟩ := c.def_ 11 rfl
  have F_is_row : Fun K "is_row" "is_row" s_is_row (He.fAd K ("is_row", none)) fd_is_row := fun_ofD (st := s_is_row) D_is_row
  obtain ⟨fd_wrong_person, D_wrong_person⟩ := c.def_ 12 rfl
  have F_wrong_person : Fun K "wrong_person" "wrong_person" s_wrong_person (He.fAd K ("wrong_person", none)) fd_wrong_person := fun_ofD (st := s_wrong_person) D_wrong_person
  obtain ⟨fd_wrong_people, D_wrong_people⟩ := c.def_ 13 rfl
  have F_wrong_people : Fun K "wrong_people" "wrong_people" s_wrong_people (He.fAd K ("wrong_people", none)) fd_wrong_people := fun_ofD (st := s_wrong_people) D_wrong_people
  obtain ⟨fd_Standing_init, D_Standing_init⟩ := c.def_ 14 rfl
  have F_Standing_init : Fun K "__init__" "Standing.__init__" s_Standing_init (He.fAd K ("Standing", some "__init__")) fd_Standing_init := fun_ofD (st := s_Standing_init) D_Standing_init
  obtain ⟨fd_l_made, D_l_made⟩ := c.def_ 15 rfl
  have F_l_made : Fun K "_law_made" "_law_made" s_l_made (He.fAd K ("_law_made", none)) fd_l_made := fun_ofD (st := s_l_made) D_l_made
  obtain ⟨fd_l_pick, D_l_pick⟩ := c.def_ 16 rfl
  have F_l_pick : Fun K "_law_pick" "_law_pick" s_l_pick (He.fAd K ("_law_pick", none)) fd_l_pick := fun_ofD (st := s_l_pick) D_l_pick
  obtain ⟨fd_l_mixed, D_l_mixed⟩ := c.def_ 17 rfl
  have F_l_mixed : Fun K "_law_mixed" "_law_mixed" s_l_mixed (He.fAd K ("_law_mixed", none)) fd_l_mixed := fun_ofD (st := s_l_mixed) D_l_mixed
  obtain ⟨fd_wished_voices, D_wished_voices⟩ := c.def_ 18 rfl
  have F_wished_voices : Fun K "wished_voices" "wished_voices" s_wished_voices (He.fAd K ("wished_voices", none)) fd_wished_voices := fun_ofD (st := s_wished_voices) D_wished_voices
  obtain ⟨fd_l_at, D_l_at⟩ := c.def_ 19 rfl
  have F_l_at : Fun K "_law_at" "_law_at" s_l_at (He.fAd K ("_law_at", none)) fd_l_at := fun_ofD (st := s_l_at) D_l_at
  obtain ⟨fd_w_spots, D_w_spots⟩ := c.def_ 20 rfl
  have F_w_spots : Fun K "_law_spots" "_law_spots" s_w_spots (He.fAd K ("_law_spots", none)) fd_w_spots := fun_ofD (st := s_w_spots) D_w_spots
  obtain ⟨fd_l_turned_voices, D_l_turned_voices⟩ := c.def_ 21 rfl
  have F_l_turned_voices : Fun K "_law_turned_voices" "_law_turned_voices" s_l_turned_voices (He.fAd K ("_law_turned_voices", none)) fd_l_turned_voices := fun_ofD (st := s_l_turned_voices) D_l_turned_voices
  obtain ⟨fd_l_fewest, D_l_fewest⟩ := c.def_ 22 rfl
  have F_l_fewest : Fun K "_law_fewest" "_law_fewest" s_l_fewest (He.fAd K ("_law_fewest", none)) fd_l_fewest := fun_ofD (st := s_l_fewest) D_l_fewest
  obtain ⟨fd_l_names, D_l_names⟩ := c.def_ 23 rfl
  have F_l_names : Fun K "_law_names" "_law_names" s_l_names (He.fAd K ("_law_names", none)) fd_l_names := fun_ofD (st := s_l_names) D_l_names
  obtain ⟨fd_l_of, D_l_of⟩ := c.def_ 24 rfl
  have F_l_of : Fun K "_law_of" "_law_of" s_l_of (He.fAd K ("_law_of", none)) fd_l_of := fun_ofD (st := s_l_of) D_l_of
  obtain ⟨fd_l_world, D_l_world⟩ := c.def_ 25 rfl
  have F_l_world : Fun K "_law_world" "_law_world" s_l_world (He.fAd K ("_law_world", none)) fd_l_world := fun_ofD (st := s_l_world) D_l_world
  obtain ⟨fd_law, D_law⟩ := c.def_ 26 rfl
  have F_law : Fun K "law" "law" s_law (He.fAd K ("law", none)) fd_law := fun_ofD (st := s_law) D_law
  have e := hfa.symm.trans (He.glo_ok X G (c.fact 19 rfl))
  cases e
  have gb : GB mg (He.ga K) := ⟨He.free_ok X G (c.fact 31 rfl), He.free_ok X G (c.fact 32 rfl), He.free_ok X G (c.fact 33 rfl), He.free_ok X G (c.fact 34 rfl), He.free_ok X G (c.fact 35 rfl), He.free_ok X G (c.fact 36 rfl), He.free_ok X G (c.fact 37 rfl), He.free_ok X G (c.fact 38 rfl), He.free_ok X G (c.fact 39 rfl), He.free_ok X G (c.fact 40 rfl), He.free_ok X G (c.fact 41 rfl), He.free_ok X G (c.fact 42 rfl), He.free_ok X G (c.fact 43 rfl), He.free_ok X G (c.fact 44 rfl), He.free_ok X G (c.fact 45 rfl), He.free_ok X G (c.fact 46 rfl), He.free_ok X G (c.fact 47 rfl), He.str_ok X G (c.fact 48 rfl), He.str_ok X G (c.fact 49 rfl), He.glo_ok X G (c.fact 20 rfl)⟩
  have c_Standing := He.cls_ok (c.fact 21 rfl)
  have st : CS K (He.ga K) := ⟨c_Standing, He.noat_ok (c.fact 23 rfl), insB_ok c_Standing (cc.more 0 rfl)⟩
  have E_UnknownName : CalleeE P w K mg "UnknownName" (He.ga K "UnknownName") ["name"] := by
    have T := exbB_ok PySem.F.excBase_LookupError PySem.F.store_LookupError PySem.W.kxs_LookupError (cc.more 1 rfl)
    have D := exiB_ok (d := ⟨"UnknownName", "UnknownName.__init__", defArgs s_UnknownName_init, defBody s_UnknownName_init, defScope s_UnknownName_init⟩) (cc.more 2 rfl) (cy.ini 0 rfl)
    refine ⟨He.glo_ok X G (c.fact 24 rfl), T.kp, exMk1 (st := s_UnknownName_init) (self := "self") (a := "name") T D rfl ⟨by decide +kernel, by decide +kernel, by decide +kernel, rfl, rfl, rfl, by decide +kernel⟩ (fun _ _ _ _ _ _ _ _ => rfl) ⟨fun _ _ _ _ => ⟨_, rfl⟩, fun _ _ _ _ => rfl, fun _ _ _ _ => rfl⟩ rfl rfl (by decide) (by decide) (He.eqO_ok (cc.more 3 rfl)) (fun _ _ _ _ => rfl) (by rw [hP]; decide +kernel) (by rw [hP]; decide +kernel) (He.eqO_ok (cc.more 4 rfl))⟩
  have b_l_source : Binds K fd_l_source ["_law_script"] [] := F_l_source.binds fun _ _ _ _ _ _ us hl => match us, hl with | [_], _ => rfl
  have b_Standing_names : Binds K fd_Standing_names ["self"] [] := F_Standing_names.binds fun _ _ _ _ _ _ us hl => match us, hl with | [_], _ => rfl
  have b_is_word : Binds K fd_is_word ["value"] [] := F_is_word.binds fun _ _ _ _ _ _ us hl => match us, hl with | [_], _ => rfl
  have b_Standing_has_name : Binds K fd_Standing_has_name ["self", "value"] [] := F_Standing_has_name.binds fun _ _ _ _ _ _ us hl => match us, hl with | [_, _], _ => rfl
  have b_Standing_person : Binds K fd_Standing_person ["self", "name"] [] := F_Standing_person.binds fun _ _ _ _ _ _ us hl => match us, hl with | [_, _], _ => rfl
  have b_Standing_place : Binds K fd_Standing_place ["self", "name"] [] := F_Standing_place.binds fun _ _ _ _ _ _ us hl => match us, hl with | [_, _], _ => rfl
  have b_Standing_line : Binds K fd_Standing_line ["self"] [] := F_Standing_line.binds fun _ _ _ _ _ _ us hl => match us, hl with | [_], _ => rfl
  have b_Standing_voice : Binds K fd_Standing_voice ["self", "name"] [] := F_Standing_voice.binds fun _ _ _ _ _ _ us hl => match us, hl with | [_, _], _ => rfl
  have b_changes_by_sums : Binds K fd_changes_by_sums ["standing"] [] := F_changes_by_sums.binds fun _ _ _ _ _ _ us hl => match us, hl with | [_], _ => rfl
  have b_places_by_voices : Binds K fd_places_by_voices ["standing"] [] := F_places_by_voices.binds fun _ _ _ _ _ _ us hl => match us, hl with | [_], _ => rfl
  have b_is_integer : Binds K fd_is_integer ["value"] [] := F_is_integer.binds fun _ _ _ _ _ _ us hl => match us, hl with | [_], _ => rfl
  have b_is_row : Binds K fd_is_row ["value", "many"] [] := F_is_row.binds fun _ _ _ _ _ _ us hl => match us, hl with | [_, _], _ => rfl
  have b_wrong_person : Binds K fd_wrong_person ["value", "names"] [] := F_wrong_person.binds fun _ _ _ _ _ _ us hl => match us, hl with | [_, _], _ => rfl
  have b_wrong_people : Binds K fd_wrong_people ["value"] [] := F_wrong_people.binds fun _ _ _ _ _ _ us hl => match us, hl with | [_], _ => rfl
  have b_Standing_init : Binds K fd_Standing_init ["self", "people"] [] := F_Standing_init.binds fun _ _ _ _ _ _ us hl => match us, hl with | [_, _], _ => rfl
  have b_l_made : Binds K fd_l_made ["_law_people"] [] := F_l_made.binds fun _ _ _ _ _ _ us hl => match us, hl with | [_], _ => rfl
  have b_l_pick : Binds K fd_l_pick ["_law_source_here", "_law_many"] [] := F_l_pick.binds fun _ _ _ _ _ _ us hl => match us, hl with | [_, _], _ => rfl
  have b_l_mixed : Binds K fd_l_mixed ["_law_source_here", "_law_things"] [] := F_l_mixed.binds fun _ _ _ _ _ _ us hl => match us, hl with | [_, _], _ => rfl
  have b_wished_voices : Binds K fd_wished_voices ["standing", "place"] [] := F_wished_voices.binds fun _ _ _ _ _ _ us hl => match us, hl with | [_, _], _ => rfl
  have b_l_at : Binds K fd_l_at ["_law_world_here", "_law_spots_here"] [] := F_l_at.binds fun _ _ _ _ _ _ us hl => match us, hl with | [_, _], _ => rfl
  have b_w_spots : Binds K fd_w_spots ["_law_world_here"] [] := F_w_spots.binds fun _ _ _ _ _ _ us hl => match us, hl with | [_], _ => rfl
  have b_l_turned_voices : Binds K fd_l_turned_voices ["_law_world_here", "_law_names_here"] [] := F_l_turned_voices.binds fun _ _ _ _ _ _ us hl => match us, hl with | [_, _], _ => rfl
  have b_l_fewest : Binds K fd_l_fewest ["_law_world_here"] [] := F_l_fewest.binds fun _ _ _ _ _ _ us hl => match us, hl with | [_], _ => rfl
  have b_l_names : Binds K fd_l_names ["_law_source_here", "_law_many"] [] := F_l_names.binds fun _ _ _ _ _ _ us hl => match us, hl with | [_, _], _ => rfl
  have b_l_of : Binds K fd_l_of ["_law_source_here", "_law_some"] [] := F_l_of.binds fun _ _ _ _ _ _ us hl => match us, hl with | [_, _], _ => rfl
  have b_l_world : Binds K fd_l_world ["_law_source_here", "_law_most", "_law_far", "_law_parity"] [] := F_l_world.binds fun _ _ _ _ _ _ us hl => match us, hl with | [_, _, _, _], _ => rfl
  have b_law : Binds K fd_law ["_law_script"] [] := F_law.binds fun _ _ _ _ _ _ us hl => match us, hl with | [_], _ => rfl
  have bl := FunD.bindsA (ps := ["_law_script"]) D_law fun _ _ _ _ _ _ us hl => match us, hl with | [_], _ => rfl
  refine ⟨fd_law, fun s v => bl s [v] rfl, fun base hb nb => ?_⟩
  have Gs := ok_l_source (P := P) (w := w) (base := base) gb F_l_source
  have M_names : CalleeM P w K mg base 1 (He.ga K "Standing") "names" (sp_Standing_names (He.ga K)) := ⟨c_Standing, _, _, _, He.meth_ok (c.fact 25 rfl), ok_Standing_names gb st  F_Standing_names, b_Standing_names⟩
  have G_is_word : Callee P w K mg base 1 "is_word" (sp_is_word (He.ga K)) := ⟨_, _, _, ok_is_word gb st  F_is_word, He.glo_ok X G (c.fact 1 rfl), D_is_word.kp, b_is_word⟩
  have M_has_name : CalleeM P w K mg base 2 (He.ga K "Standing") "has_name" (sp_Standing_has_name (He.ga K)) := ⟨c_Standing, _, _, _, He.meth_ok (c.fact 26 rfl), ok_Standing_has_name gb st G_is_word F_Standing_has_name, b_Standing_has_name⟩
  have M_person : CalleeM P w K mg base 3 (He.ga K "Standing") "person" (sp_Standing_person (He.ga K)) := ⟨c_Standing, _, _, _, He.meth_ok (c.fact 27 rfl), ok_Standing_person gb st M_has_name E_UnknownName F_Standing_person, b_Standing_person⟩
  have M_place : CalleeM P w K mg base 4 (He.ga K "Standing") "place" (sp_Standing_place (He.ga K)) := ⟨c_Standing, _, _, _, He.meth_ok (c.fact 28 rfl), ok_Standing_place gb st M_person F_Standing_place, b_Standing_place⟩
  have B_place : CalleeB P w K mg base 4 (He.ga K "Standing") "place" (sp_Standing_place (He.ga K)) := ⟨c_Standing, _, _, _, bm_ok (cc.more 5 rfl) (He.meth_ok (c.fact 28 rfl)), ok_Standing_place gb st M_person F_Standing_place, b_Standing_place⟩
  have M_line : CalleeM P w K mg base 7 (He.ga K "Standing") "line" (sp_Standing_line (He.ga K)) := ⟨c_Standing, _, _, _, He.meth_ok (c.fact 29 rfl), ok_Standing_line gb st M_names B_place F_Standing_line, b_Standing_line⟩
  have M_voice : CalleeM P w K mg base 4 (He.ga K "Standing") "voice" (sp_Standing_voice (He.ga K)) := ⟨c_Standing, _, _, _, He.meth_ok (c.fact 30 rfl), ok_Standing_voice gb st M_person F_Standing_voice, b_Standing_voice⟩
  have G_changes_by_sums : Callee P w K mg base 8 "changes_by_sums" (sp_changes_by_sums (He.ga K)) := ⟨_, _, _, ok_changes_by_sums gb st M_line M_place M_voice F_changes_by_sums, He.glo_ok X G (c.fact 2 rfl), D_changes_by_sums.kp, b_changes_by_sums⟩
  have G_places_by_voices : Callee P w K mg base 9 "places_by_voices" (sp_places_by_voices (He.ga K)) := ⟨_, _, _, ok_places_by_voices gb st G_changes_by_sums F_places_by_voices, He.glo_ok X G (c.fact 3 rfl), D_places_by_voices.kp, b_places_by_voices⟩
  have G_is_integer : Callee P w K mg base 1 "is_integer" (sp_is_integer (He.ga K)) := ⟨_, _, _, ok_is_integer gb st  F_is_integer, He.glo_ok X G (c.fact 4 rfl), D_is_integer.kp, b_is_integer⟩
  have G_is_row : Callee P w K mg base 1 "is_row" (sp_is_row (He.ga K)) := ⟨_, _, _, ok_is_row gb st  F_is_row, He.glo_ok X G (c.fact 5 rfl), D_is_row.kp, b_is_row⟩
  have G_wrong_person : Callee P w K mg base 2 "wrong_person" (sp_wrong_person (He.ga K)) := ⟨_, _, _, ok_wrong_person gb st G_is_integer G_is_word G_is_row F_wrong_person, He.glo_ok X G (c.fact 6 rfl), D_wrong_person.kp, b_wrong_person⟩
  have G_wrong_people : Callee P w K mg base 3 "wrong_people" (sp_wrong_people (He.ga K)) := ⟨_, _, _, ok_wrong_people gb st G_wrong_person F_wrong_people, He.glo_ok X G (c.fact 7 rfl), D_wrong_people.kp, b_wrong_people⟩
  have G_Standing : CalleeC P w K mg base 4 "Standing" (sp_Standing (He.ga K)) := calleeC (He.mkr_ok (c.fact 22 rfl)) (ok_Standing_init gb st G_wrong_people F_Standing_init) (He.glo_ok X G (c.fact 20 rfl)) b_Standing_init
  have G_l_made : Callee P w K mg base 6 "_law_made" (sp_l_made (He.ga K)) := ⟨_, _, _, ok_l_made gb st G_Standing F_l_made, He.glo_ok X G (c.fact 8 rfl), D_l_made.kp, b_l_made⟩
  have G_l_pick : Callee P w K mg base 1 "_law_pick" (sp_l_pick (He.ga K)) := ⟨_, _, _, ok_l_pick gb st  F_l_pick, He.glo_ok X G (c.fact 9 rfl), D_l_pick.kp, b_l_pick⟩
  have G_l_mixed : Callee P w K mg base 2 "_law_mixed" (sp_l_mixed (He.ga K)) := ⟨_, _, _, ok_l_mixed gb st G_l_pick F_l_mixed, He.glo_ok X G (c.fact 10 rfl), D_l_mixed.kp, b_l_mixed⟩
  have G_wished_voices : Callee P w K mg base 9 "wished_voices" (sp_wished_voices (He.ga K)) := ⟨_, _, _, ok_wished_voices gb st G_changes_by_sums F_wished_voices, He.glo_ok X G (c.fact 11 rfl), D_wished_voices.kp, b_wished_voices⟩
  have G_l_at : Callee P w K mg base 7 "_law_at" (sp_l_at (He.ga K)) := ⟨_, _, _, ok_l_at gb st G_l_made F_l_at, He.glo_ok X G (c.fact 12 rfl), D_l_at.kp, b_l_at⟩
  have G_w_spots : Callee P w K mg base 1 "_law_spots" (sp_w_spots (He.ga K)) := ⟨_, _, _, ok_w_spots gb st  F_w_spots, He.glo_ok X G (c.fact 13 rfl), D_w_spots.kp, b_w_spots⟩
  have G_l_turned_voices : Callee P w K mg base 7 "_law_turned_voices" (sp_l_turned_voices (He.ga K)) := ⟨_, _, _, ok_l_turned_voices gb st G_l_made F_l_turned_voices, He.glo_ok X G (c.fact 14 rfl), D_l_turned_voices.kp, b_l_turned_voices⟩
  have G_l_fewest : Callee P w K mg base 1 "_law_fewest" (sp_l_fewest (He.ga K)) := ⟨_, _, _, ok_l_fewest gb st  F_l_fewest, He.glo_ok X G (c.fact 15 rfl), D_l_fewest.kp, b_l_fewest⟩
  have G_l_names : Callee P w K mg base 2 "_law_names" (sp_l_names (He.ga K)) := ⟨_, _, _, ok_l_names gb st G_l_pick F_l_names, He.glo_ok X G (c.fact 16 rfl), D_l_names.kp, b_l_names⟩
  have G_l_of : Callee P w K mg base 2 "_law_of" (sp_l_of (He.ga K)) := ⟨_, _, _, ok_l_of gb st G_l_pick F_l_of, He.glo_ok X G (c.fact 17 rfl), D_l_of.kp, b_l_of⟩
  have G_l_world : Callee P w K mg base 7 "_law_world" (sp_l_world (He.ga K)) := ⟨_, _, _, ok_l_world gb st G_l_made G_l_mixed G_l_names G_l_pick G_l_of F_l_world, He.glo_ok X G (c.fact 18 rfl), D_l_world.kp, b_l_world⟩
  exact ok_law gb st G_places_by_voices G_l_made G_l_mixed G_wished_voices G_l_at G_w_spots G_l_turned_voices G_l_pick G_l_fewest G_l_world Gs (He.glo_ok X G (c.fact 0 rfl)) D_l_source.kp b_l_source F_law
end K78
open PySem PySem.W PySem.Calls PyProof.Rows
set_option maxRecDepth 100000 in
set_option maxHeartbeats 0 in
theorem PySem.Challenge.cw_oddcrowds_k78_whole_places_by_voices_holds : PySem.Challenge.rw_oddcrowds_k78_whole_places_by_voices.Holds := by
  w_on; o_law
  refine HandSHeadRun.head_any (r := OpenLaw.row PySem.Challenge.rw_oddcrowds_k78_whole_places_by_voices) (q := view (OpenLaw.row PySem.Challenge.rw_oddcrowds_k78_whole_places_by_voices).prog [32]) (H := K78.hk) (ob := K78.ob) (M := 4000) (loose := K78.loose) (d := HandSHeadRun.topDef (OpenLaw.row PySem.Challenge.rw_oddcrowds_k78_whole_places_by_voices).prog 32) (kwd := []) K78.ob_eq
    (by kernel_rfl) (fun s => by kernel_rfl) K78.run (by kernel_rfl) (by kernel_rfl) (by kernel_rfl) (by rfl) (by first | assumption | decide +kernel) (by decide +kernel) ⟨rfl, rfl, rfl, rfl, rfl, by decide +kernel⟩ ?hw ?hc
  case hw => w_witness2
  case hc =>
    refine L2.DL.walk_ofG (l := PySem.Challenge.rw_oddcrowds_k78_whole_places_by_voices) (n := 63) (k := 10) (x := "_law_script") rfl (by decide) (by kernel_rfl) ⟨rfl, by decide, by decide⟩ ?F
    intro w mg fa h Y G hmg0
    obtain ⟨K, KX, c⟩ := Y
    have hmg : mg ("law" : PySem.Str) = some (.ref fa) := by
      have e : (HandSHeadRun.topDef (OpenLaw.row PySem.Challenge.rw_oddcrowds_k78_whole_places_by_voices).prog 32).name = ("law" : PySem.Str) := by kernel_rfl
      rw [← e]
      exact hmg0
    obtain ⟨fd, hb, hF⟩ := K78.facts (P := (PySem.Challenge.rw_oddcrowds_k78_whole_places_by_voices).prog) (w := w) KX G hmg c rfl
    exact ⟨K, fd, L2.DL.spLaw K, KX, hb, fun H a ns hl _ hS => ⟨a, ns, rfl, hS, hl, fun _ => rfl⟩, hF⟩

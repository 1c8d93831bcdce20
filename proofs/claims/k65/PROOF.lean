import PyProof.Rows.All
import Wide.All
import OpenK.AllK
import Wide.FinOn
import HandS.ForMost
import HandS.Strs
import HandS.Sort
import HandS.Wide
import HandS.IsInst
import HandS.DictComp
import HandS.Conv
import HandS.SetFor
import HandS.SetBool
import KE.KDictList
import PyProof.ReprRoads
import PyProof.LongRange
import PyProof.AutoRange
import HandS.ForExc
import HandS.Lambda
import HandS.Style
import HandS.Star
import HandS.HeadEnd
import HandS.HeadHook2
import HandS.Dict
import PyProof.CallFns
import HandS.Exc
import KE.KExcSuper
import KE.RegKSuper
import HandS.ExcInit
import HandS.ExcOwn
import HandS.Head0
import HandS.Head1
import HandS.Head2
import HandS.HeadWalk
import HandS.HeadHook4
import HandS.ExcField
import HandS.DictEq
import PyProof.NeKinds
import KE.KEqDict
import HandS.Zip
import HandS.Flt
import HandS.SortKw
import KE.SortKeyHeap
import KE.FramesApart
import KE.DataMinMax
import HandS.TryOnly
import PyProof.ListRange
import KE.GoesEnum
import KE.GoesMore
import HandS.TupLen
import HandS.DictTup
import HandS.Iter
import KE.KDictZip
import KE.KItemsList
import KE.GoesZip
import HandS.OwnEq
import PyProof.InstNe
import PySem.Challenge.RW_oddcrowds_k65_whole_free_meetings
set_option Elab.async false
set_option linter.all false
set_option autoImplicit false
set_option maxRecDepth 100000
set_option maxHeartbeats 1000000
namespace L2.DL
open PySem PySem.Spec PyProof.Rows
theorem meets_range_contains (r : Addr) (a b i : Int) (t u v ti : Tok) :
    Meets (Builtin.«range.__contains__» ⟨[.ref r, .int i ti], []⟩) (fun _ R s => s.heap.get? r = some { cls := .type "range", dict := none, data := .fields #[.int a t, .int b u, .int 1 v], slots := #[] } ∧ R (.ok (.ret (.bool (Builtin.Range.rangePlace? a b 1 i).isSome))) s) :=
  .of_wp fun prog w A R s h => by obtain ⟨hp, g, d, tk, os⟩ := s; obtain ⟨hl, h⟩ := h; wp_walk; exact ⟨_, rfl, h⟩
theorem rngPlace (a b i : Int) : (Builtin.Range.rangePlace? a b 1 i).isSome = decide (a ≤ i ∧ i < b) := by
  unfold Builtin.Range.rangePlace?
  simp only [show (1 : Int) > 0 from by decide, if_true, Int.emod_one]
  by_cases h1 : a ≤ i <;> by_cases h2 : i < b <;> simp [h1, h2]
theorem contains_rng {prog : Program} {w : World} {A : Around} {E : Value → Shared → Prop} {s : Shared} {r : Addr} {a b i : Int} {t u v ti : Tok} {Q : Bool → Shared → Prop} (hr : s.heap.get? r = some { cls := .type "range", data := .fields #[.int a t, .int b u, .int 1 v] })
    (h : Q (decide (a ≤ i ∧ i < b)) s) : wpAny (model prog w) A (contains (.ref r) (.int i ti)) Q E s := by
  have hT : s.TypeIs (.ref r) "range" := ⟨_, hr, rfl⟩
  unfold contains
  try with_reducible refine wpAny_holding ?_
  refine wpAny_bind (wpAny_specialOf hT F.slot_range_contains.lookup ?_)
  show wpAny _ _ (if (some (Value.builtin "range.__contains__") == some Value.none) = true then _ else _) _ E s
  rw [if_neg (by rw [beq_builtin_none]; exact Bool.false_ne_true)]
  refine wpAny_bind (wpAny_callSpecialUnlessNone?_slot (name := Str.ofString "__contains__") hT F.slot_range_contains
    (call_meets F.slot_range_contains hT F.entry_range_contains (F.args_range_contains_2 _ _) (meets_range_contains r a b i t u v ti) ⟨hr, ?_⟩))
  rw [rngPlace]
  exact wpAny_truthy_bool h
section
variable {X : Cx}
def rInRng (neg : Bool) : R2 := fun x y H Q => ∃ i p lo hi, x = .int i ∧ y = .ref p ∧ H p = some (.rng lo hi) ∧ Q (.bl (if neg then !decide (lo ≤ i ∧ i < hi) else decide (lo ≤ i ∧ i < hi))) H
theorem op_notInRng : OpR X (compareOp .NotIn) (rInRng true) := by
  intro pins s σ H x y v u Q I rx ry h
  obtain ⟨i, p, lo, hi, rfl, rfl, hp, q⟩ := h
  obtain ⟨tk, rfl⟩ := rx
  cases ry
  obtain ⟨t1, t2, t3, e⟩ := (show ObjOk X.prog X.w H s.heap p (.rng lo hi) from I.hok p _ hp)
  show wpAny _ _ (do return Value.bool (!(← contains (.ref p) (.int i tk)))) _ _ s
  exact wpAny_bind (contains_rng e (wpAny_pure ⟨.bl _, H, I, rfl, q⟩))
end
section
variable {P : Program} {w : World} {A : Around} {E : Value → Shared → Prop} {s : Shared}
abbrev emptySet (w : World) : Obj := { cls := .type "set", dict := none, data := .set #[] 0 (.fresh 0 0 (!w.params.followText "set-order")) }
set_option maxRecDepth 100000 in
set_option maxHeartbeats 3200000 in
theorem call_set_lstI {l : Addr} {items : Array Value} (ns : List Int) {Q : Value → Shared → Prop} (nh : A.handled = none) (isl : s.heap.IsList l items) (hin : IntsAre items.toList ns) (few : ns.length + 1 < scanBound)
    (fin : ∀ (h' : Heap) (tk c : Nat), SetR w h' s.heap.objs.size (fun j => decide (j ∈ ns)) c → c ≤ ns.length → (∀ b o, s.heap.get? b = some o → h'.get? b = some o) → Q (.ref s.heap.objs.size) { s with heap := h', toks := tk }) : wpAny (model P w) A (call (.type "set") [.ref l]) Q E s := by
  have sz : items.size = ns.length := by have q := IntsAre.length hin; rw [Array.length_toList] at q; exact q
  obtain ⟨c, tl, hmro⟩ := F.called_set.mro
  have hmade := F.called_set.made; have hsub := F.called_set.sub
  generalize hS0 : s.heap.push (emptySet w) = h1
  have at1 : h1.get? s.heap.objs.size = some (emptySet w) := by rw [← hS0]; exact Heap.get?_push_size _ rfl
  refine wpAny_call (codeAny_of_tree ?_)
  show wpAny _ _ (callAny (.type "set") _) _ _ _
  refine wpAny_pure ⟨Code.quiet_builtin _ (by decide +kernel), codeAny_builtin F.entry_type_call ?_⟩
  rw [Around.under_plain (weight_type_call_type "set" [.ref l] []) rfl]
  have g1 := F.called_set.notType; have g2 := F.called_set.canCreate; have g3 := F.typeCall_set_1 (.ref l)
  repeat (any_goals (first | assumption | wp_step))
  refine codeAny_mono (code_set_led1 (.ref l) (E := E) (Q₁ := fun obj s₁ => obj = .ref s.heap.objs.size ∧ s₁ = { s with heap := h1 }) ⟨rfl, by rw [← hS0]⟩) fun r s₁ hr => ?_
  match r with
  | .error e => exact hr
  | .ok .next => exact hr.elim
  | .ok .brk => exact hr.elim
  | .ok .cont => exact hr.elim
  | .ok (.ret obj) =>
    obtain ⟨rfl, rfl⟩ := hr
    have isT : Shared.TypeIs { s with heap := h1 } (.ref s.heap.objs.size) "set" := ⟨_, at1, rfl⟩
    have i1 := F.called_set.init.lookup; have i2 := F.called_set.init.bind (.ref s.heap.objs.size)
    repeat (any_goals (first | assumption | wp_step))
    refine codeAny_mono (codeAny_call_builtin (R := wants (fun r s₂ => r = .none ∧ ∃ h' tk c, s₂ = { s with heap := h', toks := tk } ∧ SetR w h' s.heap.objs.size (fun j => decide (j ∈ ns)) c ∧ c ≤ ns.length ∧ (∀ b o, s.heap.get? b = some o → h'.get? b = some o)) E) F.called_set.init.plain F.entry_set_init (check_set_init_1 isT ?_)) fun r₂ s₂ hr₂ => ?_
    · obtain ⟨ol, hol, hcl, nl, hdl⟩ := isl
      obtain ⟨ocls, odict, odata, oslots⟩ := ol
      simp only at hcl hdl
      subst hcl; subst hdl
      have lt : l < s.heap.objs.size := Heap.lt_size hol
      have hol' : h1.get? l = some { cls := .type "list", dict := odict, data := .seq items nl, slots := oslots } := by rw [← hS0]; exact Heap.get?_push_of_some _ hol
      have n1 := F.sub_list_set; have n2 := F.sub_list_frozenset
      have n3 : (Value.type "list" == Value.type "dict") = false := by decide
      have hl1 : h1.IsList l items := ⟨_, hol', rfl, nl, rfl⟩
      have h1s : h1.objs.size = s.heap.objs.size + 1 := by rw [← hS0]; exact Heap.size_push ..
      unfold Builtin.«set.__init__» noKeywords Builtin.Frozenset.updateFrom
      generalize hPI : pyIter = PI
      wp_walk
      subst hPI
      refine wpAny_pyIter_list hl1 ?_
      refine wpAny_bind (wpAny_runValue ?_)
      have nh3 : A.in1.in1.in1.handled = none := by simp [nh]
      have neI : l ≠ h1.objs.size := by rw [h1s]; exact Nat.ne_of_lt (Nat.lt_succ_of_lt lt)
      have off : s.heap.objs.size ∉ [h1.objs.size, l] := by
        rw [h1s]; simp only [List.mem_cons, List.mem_singleton, List.not_mem_nil, or_false, not_or]
        exact ⟨Nat.ne_of_lt (Nat.lt_succ_self _), Nat.ne_of_gt lt⟩
      have vals : ∀ (i : Nat) (v : Value), items[i]? = some v → ∃ k t, ns[i]? = some k ∧ v = .int k t := fun i v hv => by
        have hi : i < ns.length := by rw [← sz]; exact (Array.getElem?_eq_some_iff.mp hv).1
        obtain ⟨t, e⟩ := PyProof.Rows.IntsAre.int_at hin i v (by rw [Array.getElem?_toList]; exact hv)
        exact ⟨ns[i], t, List.getElem?_eq_getElem hi, by rw [e, List.getD_eq_getElem?_getD, List.getElem?_eq_getElem hi] <;> rfl⟩
      refine set_update_ints ((Walks.list nh3 _ l neI items).toS) s.heap.objs.size off ns sz few vals (items.size - 0) 0 _ (by omega) (Nat.zero_le _) ⟨⟨_, Heap.get?_push_size _ rfl, rfl, rfl⟩, hl1.push _⟩ ⟨0, Nat.le_refl 0, setR_new_at (Heap.get?_push_of_some _ at1)⟩ fun s' c' hm hc' hS' => ?_
      obtain ⟨h', g2', d', tk', os'⟩ := s'
      obtain rfl : g2' = s.gens := hm.gens
      obtain rfl : d' = s.drawn := hm.drawn
      obtain rfl : os' = s.os := hm.os
      show wpAny _ _ _ _ _ _
      refine wpAny_pure ?_
      show wpAny _ _ (ret Value.none) _ _ _
      rw [sz] at hc'
      refine wpAny_pure ⟨rfl, h', tk', c', rfl, hS', hc', fun b o e => ?_⟩
      have b0 : b < s.heap.objs.size := Heap.lt_size e
      refine hm.heap b o ?_ (Heap.get?_push_of_some _ (by rw [← hS0]; exact Heap.get?_push_of_some _ e))
      rw [h1s]; simp only [List.mem_cons, List.mem_singleton, List.not_mem_nil, or_false, not_or]
      exact ⟨Nat.ne_of_lt b0, Nat.ne_of_lt (Nat.lt_succ_of_lt b0)⟩
    · match r₂ with
      | .error e => exact hr₂
      | .ok .next => exact hr₂.elim
      | .ok .brk => exact hr₂.elim
      | .ok .cont => exact hr₂.elim
      | .ok (.ret r) =>
        obtain ⟨rfl, h', tk, c', rfl, q1, q2, q3⟩ := hr₂
        repeat (any_goals (first | assumption | wp_step))
        exact fin _ _ _ q1 q2 q3
end
end L2.DL
set_option Elab.async false
set_option linter.all false
set_option autoImplicit false
set_option maxRecDepth 100000
set_option maxHeartbeats 1000000
namespace L2.DL
open PySem PySem.Spec PyProof.Rows
section
variable {X : Cx}
/-- set(xs), ints of a list or a tuple -/
def rSetI (K : PySem.W.Frag) (w : World) : List V → Hp → VK → Prop := fun xs H Q => ∃ (a : Addr) (ns : List Int), xs = [.ref a] ∧ (SqL K H a (ns.map V.int) ∨ SqT K H a (ns.map V.int)) ∧ ns.length + 1 < scanBound ∧
  ∀ p c, H p = none → c ≤ ns.length → Q (.ref p) (upd H p (SetO w p (fun j => decide (j ∈ ns)) c))
theorem cr_setI (hc : X.calm = true) : CallR X (.type "set") (rSetI X.K X.w) := by
  intro pins s σ H xs us Q I r ⟨a, ns, e, hq, few, q⟩
  subst e
  rw [Vals.ref1 r]
  have fin : ∀ (h' : Heap) (tk c : Nat), SetR X.w h' s.heap.objs.size (fun j => decide (j ∈ ns)) c → c ≤ ns.length → (∀ b o, s.heap.get? b = some o → h'.get? b = some o) → EP X pins σ Q (.ref s.heap.objs.size) { s with heap := h', toks := tk } := fun h' tk c R hl hk =>
    ⟨.ref s.heap.objs.size, _, I.laid (t' := tk) hk (Nat.le_refl _) (setO_new R), rfl, q _ c (I.hok.fresh (Nat.le_refl _)) hl⟩
  rcases hq with hq | hq
  · obtain ⟨its, rv, pl, hz⟩ := I.list hq
    exact call_set_lstI ns (I.ok.hd hc) pl.isList (by simpa using Vals.ints rv) few fin
  · obtain ⟨its, rv, pl, hz⟩ := I.tuple hq
    exact call_set_tupI ns (I.ok.hd hc) pl (by simpa using Vals.ints rv) few fin
def tScI (w : World) (wi : TI) (g : TG) (tt : TT) (te : TE) (vs : List Nat) : TE := fun σ H Q => wi σ H fun J H1 => ∀ D, H1 D = none → ∃ W : Nat → Nat → Hp → Prop, (∃ m, W 0 m (upd H1 D (SetO w D (fun _ => false) 0))) ∧ ∀ i m H, W i m H →
  (J.stop i H ∧ Q (.ref D) H) ∨ (J.go i H ∧ ∃ Nx : Hp → Prop, (∀ H', Nx H' → ∃ m', m' < m ∧ W (i + 1) m' H') ∧ ∀ x H', J.yld i H x H' → g x (wipe σ vs) H' fun σ2 H2 => wipe σ2 vs = wipe σ vs ∧ tt σ2 H2 fun b H3 =>
    if b = true then te σ2 H3 fun y H4 => ∃ (k : Int) (T : Int → Bool) (n : Nat), y = .int k ∧ H4 D = some (SetO w D T n) ∧ n + 1 < scanBound ∧ Nx (upd H4 D (SetO w D (fun j => T j || decide (j = k)) (if T k = true then n else n + 1))) else Nx H3)
theorem addI_ok {pins : List (Addr × Obj)} {σ : L2.St} {H : Hp} {s : Shared} {E : Value → Shared → Prop} {D : Addr} {T : Int → Bool} {n : Nat} {k : Int} {tk : Tok} {Q : Value → Shared → Prop} (I : Inv X pins σ H s) (hD : H D = some (SetO X.w D T n)) (room : n + 1 < scanBound)
    (h : ∀ s', Inv X pins σ (upd H D (SetO X.w D (fun j => T j || decide (j = k)) (if T k = true then n else n + 1))) s' → Q .none s') : wpAny (model X.prog X.w) X.A (call (.builtin "set.add") [.ref D, .int k tk]) Q E s :=
  setR_add (setO_get I hD) room fun h' sb new => h _ (I.write (e := D) (t' := s.toks + 1) (by rw [hD]; trivial) (.inl rfl) (fun b u hb hu => (sb.2 b hb).trans hu) (let ⟨o, _, _, _, ho, _⟩ := new; ⟨o, ho⟩) (setO_new new))
theorem pe_scI {elt tg iter : Expr} {ifs : List Expr} {scope : Scope} {own : List (PySem.Str × Nat)} {pos : Pos} {wi : TI} {g : TG} {tt : TT} {te : TE} (hc : X.calm = true) (hN : X.N.Nodup) (hi : PI X tg iter wi) (ok : BlkOk X.N X.env.scope scope own)
    (hg : ∀ (s : Shared) (H : Hp) (C : Addr) (cl : List (PySem.Str × Addr)) (fp : List Addr), PG (X.blk s H scope (compEnvC scope cl C X.env) fp) tg g) (ht : ∀ (s : Shared) (H : Hp) (C : Addr) (cl : List (PySem.Str × Addr)) (fp : List Addr), PTs (X.blk s H scope (compEnvC scope cl C X.env) fp) ifs tt)
    (he : ∀ (s : Shared) (H : Hp) (C : Addr) (cl : List (PySem.Str × Addr)) (fp : List Addr), PE (X.blk s H scope (compEnvC scope cl C X.env) fp) elt te) (hs : ∀ x, foldedSetIterable iter X.env x = pure x := by intro _; rfl) :
    PE X (.SetComp elt [⟨tg, iter, ifs, 0⟩] scope pos) (tScI X.w wi g tt te (own.map (·.2))) := by
  refine ⟨fun pins s σ H Q I h => ?_⟩
  rw [PpSet.eval_SetComp]
  have cap : ∀ y ∈ scope.names, y.2 = .free → ∃ c, X.env.cells.lookup y.1 = some c := fun y hy e => (ok.free y hy e).elim (fun k => I.ok.has _ (.inl k)) fun k => I.ok.has _ (.inr k)
  refine wpAny_comprehension_free (use := none) rfl hs (closure_ok cap) ok.kind (fun y hy e => by rw [ok.uniq y hy, e]) (thn (hi.run pins s σ H _ I h) fun xv s1 hx => thn hx fun itv s2 h2 => ?_)
  obtain ⟨it, fp, tn, J, H2, e, I2, T, st2, f2, q⟩ := h2
  subst e
  refine PpSet.newSet_ok (newEnv_comp ?_)
  generalize hD : s2.heap.objs.size = D
  have Dn : H2 D = none := I2.hok.fresh (Nat.le_of_eq hD)
  obtain ⟨W, ⟨m0, w0⟩, turn⟩ := q D Dn
  -- the new set stands
  generalize hs3 : ({ s2 with heap := s2.heap.push (emptySet X.w) } : Shared) = s3
  have h3 : s3.heap = s2.heap.push (emptySet X.w) := by rw [← hs3]
  generalize hH3 : upd H2 D (SetO X.w D (fun _ => false) 0) = H3 at w0
  have I3 : Inv X pins σ H3 s3 := by
    rw [← hs3, ← hH3]
    exact I2.laid (t' := s2.toks) (fun b o e => Heap.get?_push_of_some _ e) (Nat.le_of_eq hD) (by rw [← hD]; exact setO_new (setR_fresh X.w))
  have old : ∀ b ∈ fp, b < s2.heap.objs.size := fun b hb => let ⟨o, e, _⟩ := T.obj _ _ st2 b hb; Heap.lt_size e
  have f3 : ∀ b ∈ fp, FpOk X pins H3 b ∧ b < s3.heap.objs.size := fun b hb => by
    have lt := old b hb
    refine ⟨⟨?_, (f2 b hb).2⟩, by rw [h3, Heap.size_push]; exact Nat.lt_succ_of_lt lt⟩
    rw [← hH3, upd_ne (by rw [← hD]; exact Nat.ne_of_lt lt)]
    exact (f2 b hb).1
  have st3 : tn 0 s3.heap := T.keep _ _ _ st2 fun b _ o e => by rw [h3]; exact Heap.get?_push_of_some _ e
  have I4 := block_start I3 ok hN f3
  generalize hcl : cellsFrom (s3.heap.objs.size + 1) scope.names (cloFrom X.env.cells scope.names []) = cl at I4
  have pg := hg s3 H3 s3.heap.objs.size cl fp
  have pt := ht s3 H3 s3.heap.objs.size cl fp
  have pe := he s3 H3 s3.heap.objs.size cl fp
  generalize hce : compEnvC scope cl s3.heap.objs.size X.env = ce at I4 pg pt pe
  have cL : ce.locals = s3.heap.objs.size := by rw [← hce]; rfl
  generalize hs4 : ({ s3 with heap := pushCells (s3.heap.push { cls := .type "dict", data := .dict #[] }) scope.names } : Shared) = s4 at I4
  have st4 : tn 0 s4.heap := T.keep _ _ _ st3 fun b _ o e => by rw [← hs4]; exact pushCells_keeps _ _ _ _ (Heap.get?_push_of_some _ e)
  have still : ∀ {σ' : L2.St} {H' : Hp} {s' : Shared}, Inv (X.blk s3 H3 scope ce fp) [] σ' H' s' → (∀ b ∈ fp, H' b = none) → ∀ b ∈ fp, FpOk (X.blk s3 H3 scope ce fp) [] H' b := fun {σ' H' s'} J' hn b hb =>
    ⟨hn b hb, (J'.ok.exf b hb).1, J'.ok.exfs b hb, .inl hb, fun x c e => (J'.ok.exf b hb).2 x c e, fun p hp => absurd (show p ∈ ([] : List (Addr × Obj)) ++ [] from hp) (by simp)⟩
  have go : codeAny (model X.prog X.w) X.A (.compStart (.SetComp elt [⟨tg, iter, ifs, 0⟩] scope pos) 0 (.ref it) (.ref D) ce) (compPost (model X.prog X.w) X.A X.xe none (EP X pins σ Q) (.ref D) s3.heap.objs.size) s4 := by
    have loop : codeAny (model X.prog X.w) X.A (.compLoop (.SetComp elt [⟨tg, iter, ifs, 0⟩] scope pos) 0 (.ref it) (.ref D) ce) (compPost (model X.prog X.w) X.A X.xe none (EP X pins σ Q) (.ref D) s3.heap.objs.size) s4 := by
      refine PpSet.compLoopS_any (fun n s' => ∃ i H', Inv (X.blk s3 H3 scope ce fp) [] (wipe σ (own.map (·.2))) H' s' ∧ tn i s'.heap ∧ (∀ b ∈ fp, H' b = none) ∧ W i n H') ?_ m0 ⟨0, H3, I4, st4, fun b hb => (f3 b hb).1.1, w0⟩
      rintro n s5 ⟨i, H5, I5, st5, n5, w5⟩
      rcases turn i n H5 w5 with ⟨stop, qq⟩ | ⟨gon, Nx, hNx, step⟩
      · refine thnF (T.done (X.blk s3 H3 scope ce fp) rfl rfl rfl hc i [] s5 _ H5 (fun _ _ => False) I5 (still I5 n5) st5 stop) fun r s6 ⟨hr, I6⟩ => ?_
        subst hr
        have I7 : Inv X pins σ H5 s6 := I3.call' (ch := fp) I6.os I6.base I6.hok I6.bare fun b hb => let z := (f3 b hb).1.2; ⟨z.2.2.1, z.1, z.2.2.2.1, z.2.2.2.2⟩
        have nC : H5 s3.heap.objs.size = none := by rw [← cL]; exact I6.free
        obtain ⟨m, hn, _⟩ := I6.loc
        have hn : s6.heap.Ns ce.locals m := hn
        rw [cL] at hn
        refine ⟨m, hn, fun h'' sb => ?_⟩
        obtain ⟨a0, a1, a2, a3, a4, a5⟩ := I3.fpOk (H' := H5) (Nat.le_refl _) nC
        exact ⟨.ref D, H5, I7.turned (t' := s6.toks) (fun b o hb e => (sb.2 b hb).trans e) a0 a1 a3 a4 a5, rfl, qq⟩
      · refine thnF (T.item (X.blk s3 H3 scope ce fp) rfl rfl rfl hc i [] s5 _ H5 (fun _ _ => False) I5 (still I5 n5) st5 gon) fun r s6 ⟨u, hr, h6⟩ => ?_
        subst hr
        refine thnF h6 fun _ s7 ⟨x, H7, I7, r7, y7, st7, n7⟩ => ?_
        have I7' := I7.pinned (still I7 n7) (T.obj _ _ st7)
        refine thnF (pg.run _ s7 _ H7 x u _ I7' r7 (step x H7 y7)) fun _ s8 ⟨σ8, H8, I8, hw8, q8⟩ => ?_
        refine thnF (pt.run _ s8 σ8 H8 _ I8 q8) fun b s9 ⟨H9, I9, q9⟩ => ?_
        have fin : ∀ {s' : Shared} {H' : Hp}, Inv (X.blk s3 H3 scope ce fp) ([] ++ pinsAt fp s7.heap) σ8 H' s' → Nx H' → ∃ m, m < n ∧ ∃ i H', Inv (X.blk s3 H3 scope ce fp) [] (wipe σ (own.map (·.2))) H' s' ∧ tn i s'.heap ∧ (∀ b ∈ fp, H' b = none) ∧ W i m H' := fun {s' H'} I' nx => by
          obtain ⟨m', hm, w'⟩ := hNx H' nx
          have pin' : ∀ b ∈ fp, ∀ o, s7.heap.get? b = some o → s'.heap.get? b = some o ∧ H' b = none := fun b hb o e => let z := I'.pin (b, o) (List.mem_append_right _ (List.mem_append_right _ (mem_pinsAt hb e))); ⟨z.1, z.2.1⟩
          refine ⟨m', hm, i + 1, H', (I'.unpinned (pins := [])).weak (by rw [← hw8, wipe_length]) (fun j v e => by rw [← hw8] at e; exact (wipe_some e).1), T.keep _ _ _ st7 fun b hb o e => (pin' b hb o e).1, fun b hb => ?_, w'⟩
          obtain ⟨o, e, _⟩ := T.obj _ _ st7 b hb
          exact (pin' b hb o e).2
        cases b
        · simp only [Bool.false_eq_true, if_false] at q9 ⊢
          exact fin I9 q9
        · simp only [if_true] at q9 ⊢
          refine thnF (pe.run _ s9 σ8 H9 _ I9 q9) fun z s10 ⟨yv, H10, I10, r10, k, S0, n0, ey, hD10, few, nx⟩ => ?_
          subst ey
          obtain ⟨tz, rfl⟩ : ∃ t, z = Value.int k t := r10
          exact addI_ok (X := X.blk s3 H3 scope ce fp) I10 hD10 few fun s11 I11 => fin I11 nx
    exact PpSet.codeAny_compStart_set loop (T.self X.A 0 _ _ _ st4 loop)
  subst hs4 hce hcl
  exact go
end
end L2.DL
set_option Elab.async false
set_option linter.all false
set_option autoImplicit false
set_option maxRecDepth 100000
set_option maxHeartbeats 1000000
namespace L2.DL
open PySem PySem.Spec PyProof.Rows
/-- pure data -/
inductive D where
  | non | bl (b : Bool) | int (i : Int) | str (x : Str)
  | lst (xs : List D) | tup (xs : List D)
  | dct (kvs : List (Key × D))
  /-- a dict with tuple keys; one that is locked for good -/
  | dcT (kvs : List (List Key × D)) | dcL (kvs : List (List Key × D))
  /-- a dict with int and text keys that is locked for good -/
  | dcI (kvs : List (Key × D))
  | ins (C : Addr) (fs : List (Str × D))
  | iset (xs : List Int)
  | src
  | ty (n : String)
  | me (p : Addr) (x : D)
/-- what is known of a heap: tables of code objects may grow -/
def kn (H : Hp) : Hp := fun p => match H p with
  | some (.tbl _) => none
  | o => o
theorem kn_none {H : Hp} {p : Addr} (h : H p = none) : kn H p = none := by unfold kn; rw [h]
theorem kn_nt {H : Hp} {p : Addr} {o : HO} (h : kn H p = some o) : ∀ ps, o ≠ .tbl ps := by
  unfold kn at h
  split at h
  · cases h
  · rename_i q
    intro ps e
    subst e
    exact q ps h
theorem kn_some {H : Hp} {p : Addr} {o : HO} (h : kn H p = some o) : H p = some o := by
  unfold kn at h
  split at h
  · cases h
  · exact h
theorem kn_of {H : Hp} {p : Addr} {o : HO} (h : H p = some o) (n : ∀ ps, o ≠ .tbl ps := by intro _ z; cases z) : kn H p = some o := by
  unfold kn
  rw [h]
  cases o <;> first | rfl | exact absurd rfl (n _)
theorem kn_same {H H' : Hp} {p : Addr} (h : H' p = H p) : kn H' p = kn H p := by unfold kn; rw [h]
/-- the source's dict and its list of cells; the table of a def that makes lambdas, and their name -/
abbrev Src := Option (Addr × Addr) × Option (Addr × Str)
def inS (S : Src) (p : Addr) : Prop := (∃ a c, S.1 = some (a, c) ∧ (p = a ∨ p = c)) ∨ ∃ q, S.2 = some (p, q)
/-- unknown, or a tuple (which never changes) -/
def TF (H : Hp) (p : Addr) : Prop := kn H p = none ∨ ∃ vs, H p = some (.tup vs)
theorem TF.no {H : Hp} {p : Addr} {o : HO} (h : TF H p) (e : H p = some o) (n : ∀ ps, o ≠ .tbl ps) (n' : ∀ vs, o ≠ .tup vs) : False := by
  rcases h with h | ⟨vs, h⟩
  · rw [kn_of e n] at h; cases h
  · rw [e] at h; cases h; exact n' _ rfl
/-- a list: in the heap, or in the text -/
def LstAt (K : PySem.W.Frag) (F : Hp) (a : Addr) (vs : List V) : Prop :=
  F a = some (.lst vs) ∨ ∃ (o : Obj) (its : Array Value) (n : Nat), K.lookup a = some o ∧ o.cls = .type "list" ∧ o.dict = none ∧ o.data = .seq its n ∧ its.size ≤ sizeLine ∧ Vals vs its.toList
mutual
inductive Rep (K : PySem.W.Frag) (S : Src) (F : Hp) : V → D → Prop where
  | non : Rep K S F .non .non
  | bl (b : Bool) : Rep K S F (.bl b) (.bl b)
  | int (i : Int) : Rep K S F (.int i) (.int i)
  | str (x : Str) : Rep K S F (.str x) (.str x)
  | ty (n : String) : Rep K S F (.ty n) (.ty n)
  | lst {a : Addr} {vs : List V} {ds : List D} : LstAt K F a vs → Reps K S F vs ds → Rep K S F (.ref a) (.lst ds)
  | tup {a : Addr} {vs : List V} {ds : List D} : F a = some (.tup vs) → Reps K S F vs ds → Rep K S F (.ref a) (.tup ds)
  | dct {a : Addr} {kvs : List (Key × V)} {kds : List (Key × D)} : F a = some (.dK kvs) → kvs.map (·.1) = kds.map (·.1) → Reps K S F (kvs.map (·.2)) (kds.map (·.2)) → Rep K S F (.ref a) (.dct kds)
  | dcT {a : Addr} {kvs : List (List Key × V)} {kds : List (List Key × D)} : F a = some (.dT kvs) → kvs.map (·.1) = kds.map (·.1) → Reps K S F (kvs.map (·.2)) (kds.map (·.2)) → Rep K S F (.ref a) (.dcT kds)
  | dcL {a : Addr} {o : Obj} {kvs : List (List Key × V)} {kds : List (List Key × D)} : F a = some (.frz o (.dT kvs)) → kvs.map (·.1) = kds.map (·.1) → Reps K S F (kvs.map (·.2)) (kds.map (·.2)) → Rep K S F (.ref a) (.dcL kds)
  | dcI {a : Addr} {o : Obj} {kvs : List (Key × V)} {kds : List (Key × D)} : F a = some (.frz o (.dK kvs)) → kvs.map (·.1) = kds.map (·.1) → Reps K S F (kvs.map (·.2)) (kds.map (·.2)) → Rep K S F (.ref a) (.dcI kds)
  | ins {a C dx : Addr} {fs : List (Str × V)} {fds : List (Str × D)} : F a = some (.ins C dx fs) → fs.map (·.1) = fds.map (·.1) → Reps K S F (fs.map (·.2)) (fds.map (·.2)) → Rep K S F (.ref a) (.ins C fds)
  | iset {a : Addr} {T : Int → Bool} {n : Nat} {xs : List Int} : F a = some (.set T n) → (∀ i, T i = true ↔ i ∈ xs) → xs.Nodup → n = xs.length → Rep K S F (.ref a) (.iset xs)
  | src {a c : Addr} : S.1 = some (a, c) → Rep K S F (.ref a) .src
inductive Reps (K : PySem.W.Frag) (S : Src) (F : Hp) : List V → List D → Prop where
  | nil : Reps K S F [] []
  | cons {v : V} {vs : List V} {d : D} {ds : List D} : Rep K S F v d → Reps K S F vs ds → Reps K S F (v :: vs) (d :: ds)
end
def Le (F F' : Hp) : Prop := ∀ p o, F p = some o → F' p = some o
theorem Le.refl (F : Hp) : Le F F := fun _ _ h => h
theorem Le.trans {F G H : Hp} (a : Le F G) (b : Le G H) : Le F H := fun p o h => b p o (a p o h)
section
variable {K : PySem.W.Frag} {S : Src} {F F' : Hp}
theorem Le.lst {a : Addr} {xs : List V} (e : Le F F') (h : LstAt K F a xs) : LstAt K F' a xs := h.imp (fun h => e _ _ h) id
theorem LstAt.sq {a : Addr} {xs : List V} (e : Le F F') (h : LstAt K F a xs) : SqL K F' a xs := h.imp (fun h => .inl (e _ _ h)) id
theorem LstAt.here {a : Addr} {xs : List V} (h : LstAt K F a xs) : SqL K F a xs := h.imp .inl id
theorem Le.seqT {a : Addr} {xs : List V} (e : Le F F') (h : SqT K F a xs) : SqT K F' a xs := by
  rcases h with (h | ⟨o, h⟩) | h
  · exact .inl (.inl (e _ _ h))
  · exact .inl (.inr ⟨o, e _ _ h⟩)
  · exact .inr h
mutual
theorem Rep.mono (e : Le F F') : ∀ {v : V} {d : D}, Rep K S F v d → Rep K S F' v d
  | _, _, .non => .non
  | _, _, .bl b => .bl b
  | _, _, .int i => .int i
  | _, _, .str x => .str x
  | _, _, .ty x => .ty x
  | _, _, .lst h r => .lst (e.lst h) (Reps.mono e r)
  | _, _, .tup h r => .tup (e _ _ h) (Reps.mono e r)
  | _, _, .dct h k r => .dct (e _ _ h) k (Reps.mono e r)
  | _, _, .dcT h k r => .dcT (e _ _ h) k (Reps.mono e r)
  | _, _, .dcL h k r => .dcL (e _ _ h) k (Reps.mono e r)
  | _, _, .dcI h k r => .dcI (e _ _ h) k (Reps.mono e r)
  | _, _, .ins h k r => .ins (e _ _ h) k (Reps.mono e r)
  | _, _, .iset h a b c => .iset (e _ _ h) a b c
  | _, _, .src h => .src h
theorem Reps.mono (e : Le F F') : ∀ {vs : List V} {ds : List D}, Reps K S F vs ds → Reps K S F' vs ds
  | _, _, .nil => .nil
  | _, _, .cons a b => .cons (Rep.mono e a) (Reps.mono e b)
end
theorem Reps.length : ∀ {vs : List V} {ds : List D}, Reps K S F vs ds → vs.length = ds.length
  | _, _, .nil => rfl
  | _, _, .cons _ b => by rw [List.length_cons, List.length_cons, Reps.length b]
theorem Reps.get : ∀ {vs : List V} {ds : List D} {i : Nat} {d : D}, Reps K S F vs ds → ds[i]? = some d → ∃ v, vs[i]? = some v ∧ Rep K S F v d
  | _, _, i, d, .nil, h => by simp at h
  | _, _, 0, d, .cons a b, h => by simp at h; subst h; exact ⟨_, rfl, a⟩
  | _, _, i + 1, d, .cons a b, h => by
    obtain ⟨v, h1, h2⟩ := Reps.get (i := i) (d := d) b (by simpa using h)
    exact ⟨v, by simpa using h1, h2⟩
theorem Reps.append : ∀ {vs ws : List V} {ds es : List D}, Reps K S F vs ds → Reps K S F ws es → Reps K S F (vs ++ ws) (ds ++ es)
  | _, _, _, _, .nil, s => s
  | _, _, _, _, .cons r t, s => .cons r (Reps.append t s)
theorem Reps.take (n : Nat) : ∀ {vs : List V} {ds : List D}, Reps K S F vs ds → Reps K S F (vs.take n) (ds.take n) := by
  induction n with
  | zero => intro vs ds _; exact .nil
  | succ n ih =>
    intro vs ds h
    cases h with
    | nil => exact .nil
    | cons a b => exact .cons a (ih b)
theorem Reps.drop (n : Nat) : ∀ {vs : List V} {ds : List D}, Reps K S F vs ds → Reps K S F (vs.drop n) (ds.drop n) := by
  induction n with
  | zero => intro vs ds h; exact h
  | succ n ih =>
    intro vs ds h
    cases h with
    | nil => exact .nil
    | cons a b => exact ih b
theorem Reps.snoc {vs : List V} {ds : List D} {v : V} {d : D} (r : Reps K S F vs ds) (h : Rep K S F v d) : Reps K S F (vs ++ [v]) (ds ++ [d]) := r.append (.cons h .nil)
theorem Reps.ints : ∀ {ns : List Int}, Reps K S F (ns.map V.int) (ns.map D.int)
  | [] => .nil
  | _ :: r => .cons (.int _) (Reps.ints (ns := r))
theorem Reps.of_ints : ∀ {vs : List V} {ns : List Int}, Reps K S F vs (ns.map D.int) → vs = ns.map V.int
  | _, [], .nil => rfl
  | _, n :: ns, .cons a b => by cases a; rw [List.map_cons, Reps.of_ints b]
end
/-- an object of the heap at p, as data -/
inductive HRep (K : PySem.W.Frag) (S : Src) (F : Hp) : Addr → HO → D → Prop where
  | lst {p : Addr} {vs : List V} {ds : List D} : Reps K S F vs ds → HRep K S F p (.lst vs) (.lst ds)
  | dct {p : Addr} {kvs : List (Key × V)} {kds : List (Key × D)} : kvs.map (·.1) = kds.map (·.1) → Reps K S F (kvs.map (·.2)) (kds.map (·.2)) → HRep K S F p (.dK kvs) (.dct kds)
  | dcT {p : Addr} {kvs : List (List Key × V)} {kds : List (List Key × D)} : kvs.map (·.1) = kds.map (·.1) → Reps K S F (kvs.map (·.2)) (kds.map (·.2)) → HRep K S F p (.dT kvs) (.dcT kds)
  | ins {p C dx : Addr} {fs : List (Str × V)} {fds : List (Str × D)} : fs.map (·.1) = fds.map (·.1) → Reps K S F (fs.map (·.2)) (fds.map (·.2)) → HRep K S F p (.ins C dx fs) (.ins C fds)
  | me {p C dx : Addr} {fs : List (Str × V)} {fds : List (Str × D)} : fs.map (·.1) = fds.map (·.1) → Reps K S F (fs.map (·.2)) (fds.map (·.2)) → HRep K S F p (.ins C dx fs) (.me p (.ins C fds))
/-- known by its place no more -/
def unAt : D → D
  | .me _ x => x
  | x => x
theorem HRep.mono {K : PySem.W.Frag} {S : Src} {F F' : Hp} {o : HO} {p : Addr} {d : D} (e : Le F F') (h : HRep K S F p o d) : HRep K S F' p o d := by
  cases h with
  | lst r => exact .lst (Reps.mono e r)
  | dct k r => exact .dct k (Reps.mono e r)
  | dcT k r => exact .dcT k (Reps.mono e r)
  | ins k r => exact .ins k (Reps.mono e r)
  | me k r => exact .me k (Reps.mono e r)
theorem HRep.rep {K : PySem.W.Frag} {S : Src} {F : Hp} {o : HO} {d : D} {p : Addr} (h : HRep K S F p o d) (e : F p = some o) : Rep K S F (.ref p) (unAt d) := by
  cases h with
  | lst r => exact .lst (.inl e) r
  | dct k r => exact .dct e k r
  | dcT k r => exact .dcT e k r
  | ins k r => exact .ins e k r
  | me k r => exact .ins e k r
/-- a result: data, or a new list that nobody else has -/
inductive Res where
  | v (d : D)
  | ow (x : D)
/-- a new list -/
abbrev Res.own (xs : List D) : Res := .ow (.lst xs)
def fz : Res → D
  | .v d => d
  | .ow x => unAt x
/-- a slot -/
inductive Sl where
  | un
  | d (x : D)
  | o (x : D)
def toSl : Res → Sl
  | .v d => .d d
  | .ow x => .o x
abbrev Rho := List Sl
/-- the entry -/
structure C where
  K : PySem.W.Frag
  S : Src
  F0 : Hp
  H0 : Hp
def kc : Key := .inr "cells"
def kl : Key := .inr "left"
def km : Key := .inr "mixed"
def kt : Key := .inr "turn"
structure SrcOk (S : Src) (H : Hp) : Prop where
  ok : ∀ a c, S.1 = some (a, c) → ∃ (l m t : Int) (cs : List Int),
    H a = some (.dK [(kc, .ref c), (kl, .int l), (km, .int m), (kt, .int t)]) ∧ H c = some (.lst (cs.map V.int)) ∧ (∀ x, x ∈ cs → 0 ≤ x) ∧ 0 ≤ l ∧ 0 ≤ m ∧ m < 4294967296 ∧ 0 ≤ t
  tab : ∀ P q, S.2 = some (P, q) → LamX.TabS H P q
/-- a known object that is no code object changes -/
theorem tab_upd {H : Hp} {P p : Addr} {q : Str} {o : HO} (h : LamX.TabS H P q) (hp : P ≠ p) (hc : ∀ c, H p ≠ some (LamX.CodeO c q)) : LamX.TabS (upd H p o) P q := by
  obtain ⟨ps, h1, h2, h3⟩ := h
  refine ⟨ps, by rw [upd_ne hp]; exact h1, h2, fun pos cv z => ?_⟩
  obtain ⟨c, e, hc2⟩ := h3 pos cv z
  refine ⟨c, e, ?_⟩
  have : c ≠ p := fun y => hc c (by rw [← y]; exact hc2)
  rw [upd_ne this]
  exact hc2
/-- no source, no table, no code: it may change -/
def Plain (o : HO) : Prop := (∀ ps, o ≠ .tbl ps) ∧ ∀ c q, o ≠ LamX.CodeO c q
theorem tab_put {H : Hp} {P p : Addr} {q : Str} {o u : HO} (h : LamX.TabS H P q) (hp : H p = some u) (hu : Plain u := by exact ⟨fun _ z => (by cases z), fun _ _ z => (by unfold LamX.CodeO at z; cases z)⟩) : LamX.TabS (upd H p o) P q :=
  tab_upd h (fun z => by
    obtain ⟨ps, h1, _⟩ := h
    rw [z, hp] at h1
    cases h1
    exact hu.1 _ rfl) fun c z => by
    rw [hp] at z
    cases z
    exact hu.2 _ _ rfl
theorem SrcOk.upd {S : Src} {H : Hp} {p : Addr} {o u : HO} (h : SrcOk S H) (hs : ¬ inS S p) (hp : H p = some u) (hu : Plain u := by exact ⟨fun _ z => (by cases z), fun _ _ z => (by unfold LamX.CodeO at z; cases z)⟩) : SrcOk S (L2.upd H p o) where
  ok := fun a c e => by
    obtain ⟨l, m, t, cs, h1, h2, h3⟩ := h.ok a c e
    refine ⟨l, m, t, cs, ?_, ?_, h3⟩
    · have : a ≠ p := fun z => hs (.inl ⟨a, c, e, .inl z.symm⟩)
      rw [upd_ne this]; exact h1
    · have : c ≠ p := fun z => hs (.inl ⟨a, c, e, .inr z.symm⟩)
      rw [upd_ne this]; exact h2
  tab := fun P q e => tab_upd (h.tab P q e) (fun z => hs (.inr ⟨q, by rw [e, z]⟩)) fun c z => hu.2 c q (by rw [hp] at z; exact Option.some.inj z)
theorem SrcOk.ext {S : Src} {H H' : Hp} (h : SrcOk S H) (e : ∀ b o, H b = some o → H' b = some o) : SrcOk S H' where
  ok := fun a c z => by
    obtain ⟨l, m, t, cs, h1, h2, h3⟩ := h.ok a c z
    exact ⟨l, m, t, cs, e _ _ h1, e _ _ h2, h3⟩
  tab := fun P q z => (h.tab P q z).ext e
theorem SrcOk.there {S : Src} {H : Hp} (h : SrcOk S H) {p : Addr} (hs : inS S p) : H p ≠ none := by
  rcases hs with ⟨a, q, e, hp⟩ | ⟨q, e⟩
  · obtain ⟨l, m, t, cs, h1, h2, _⟩ := h.ok a q e
    rcases hp with hp | hp
    · rw [hp, h1]; simp
    · rw [hp, h2]; simp
  · obtain ⟨ps, h1, _⟩ := h.tab p q e
    rw [h1]; simp
theorem SrcOk.notT {S : Src} {H : Hp} (h : SrcOk S H) {p : Addr} (hs : inS S p) {vs : List V} (e : H p = some (.tup vs)) : False := by
  rcases hs with ⟨a, q, e1, hp⟩ | ⟨q, e1⟩
  · obtain ⟨l, m, t, cs, h1, h2, _⟩ := h.ok a q e1
    rcases hp with hp | hp
    · rw [hp, h1] at e; cases e
    · rw [hp, h2] at e; cases e
  · obtain ⟨ps, h1, _⟩ := h.tab p q e1
    rw [h1] at e; cases e
/-- what is known of the source's and the table's places stays known -/
theorem SrcOk.kn_there {S : Src} {H H' : Hp} (k : SrcOk S H') (h : SrcOk S H) {p : Addr} (hs : inS S p) (n : kn H p ≠ none) : kn H' p ≠ none := by
  rcases hs with ⟨a, q, e, hp⟩ | ⟨q, e⟩
  · obtain ⟨l, m, t, cs, h1, h2, _⟩ := k.ok a q e
    rcases hp with hp | hp
    · rw [hp, kn_of h1]; simp
    · rw [hp, kn_of h2]; simp
  · obtain ⟨ps, h1, _⟩ := h.tab p q e
    exact absurd (by unfold kn; rw [h1]) n
def Own (σ : St) (ρ : Rho) (p : Addr) : Prop := ∃ (i : Nat) (xs : D), ρ[i]? = some (Sl.o xs) ∧ σ[i]? = some (some (V.ref p))
theorem HRep.notup {K : PySem.W.Frag} {S : Src} {F : Hp} {o : HO} {p : Addr} {d : D} (h : HRep K S F p o d) : ∀ vs, o ≠ .tup vs := by
  cases h <;> exact fun _ z => (by cases z)
structure SR (c : C) (F H : Hp) (σ : St) (ρ : Rho) : Prop where
  sub' : Le F (kn H)
  f0 : Le c.F0 F
  h0 : ∀ p o, kn c.H0 p = some o → ¬ inS c.S p → H p = some o
  n0 : ∀ p, F p ≠ none → c.F0 p ≠ none ∨ TF c.H0 p
  src : SrcOk c.S H
  srcF : ∀ p, inS c.S p → F p = none
  len : ρ.length = σ.length
  sl : ∀ (i : Nat) (d : D), ρ[i]? = some (Sl.d d) → ∃ v, σ[i]? = some (some v) ∧ Rep c.K c.S F v d
  ow : ∀ (i : Nat) (xs : D), ρ[i]? = some (Sl.o xs) → ∃ p vs, σ[i]? = some (some (V.ref p)) ∧ H p = some vs ∧ F p = none ∧ HRep c.K c.S F p vs xs ∧ kn c.H0 p = none ∧ ¬ inS c.S p
  dis : ∀ (i j : Nat) (xs ys : D), ρ[i]? = some (Sl.o xs) → ρ[j]? = some (Sl.o ys) → σ[i]? = σ[j]? → i = j
theorem SR.sub {c : C} {F H : Hp} {σ : St} {ρ : Rho} (s : SR c F H σ ρ) : Le F H := fun p o z => kn_some (s.sub' p o z)
theorem HRep.plain {K : PySem.W.Frag} {S : Src} {F : Hp} {o : HO} {p : Addr} {d : D} (h : HRep K S F p o d) : Plain o := by
  cases h <;> exact ⟨fun _ z => (by cases z), fun _ _ z => (by unfold LamX.CodeO at z; cases z)⟩
structure Stp (c : C) (σ : St) (F H : Hp) (ρ : Rho) (F' H' : Hp) (ρ' : Rho) : Prop where
  ff : Le F F'
  hh : ∀ p o, kn H p = some o → ¬ inS c.S p → ¬ Own σ ρ p → H' p = some o
  nn : ∀ p, F' p ≠ none → F p ≠ none ∨ TF H p ∨ Own σ ρ p ∨ inS c.S p
  oo : ∀ p, Own σ ρ' p → Own σ ρ p
  tr : ∀ p, kn H p ≠ none → kn H' p ≠ none
def RR (c : C) (σ : St) (F H : Hp) (ρ : Rho) (v : V) : Res → Prop
  | .v d => Rep c.K c.S F v d
  | .ow xs => ∃ p vs, v = .ref p ∧ H p = some vs ∧ F p = none ∧ HRep c.K c.S F p vs xs ∧ ¬ inS c.S p ∧ ¬ Own σ ρ p ∧ kn c.H0 p = none
def New (σ : St) (H : Hp) (ρ : Rho) (v : V) : Res → Prop
  | .v _ => True
  | .ow _ => ∃ p, v = .ref p ∧ kn H p = none
section
variable {c : C} {σ : St} {F H F' H' F'' H'' : Hp} {ρ ρ' ρ'' : Rho}
theorem Stp.refl : Stp c σ F H ρ F H ρ := ⟨Le.refl _, fun _ _ h _ _ => kn_some h, fun _ h => .inl h, fun _ h => h, fun _ h => h⟩
theorem Stp.trans (a : Stp c σ F H ρ F' H' ρ') (b : Stp c σ F' H' ρ' F'' H'' ρ'') : Stp c σ F H ρ F'' H'' ρ'' where
  ff := a.ff.trans b.ff
  hh := fun p o h1 h2 h3 => b.hh p o (kn_of (a.hh p o h1 h2 h3) (kn_nt h1)) h2 fun z => h3 (a.oo p z)
  nn := fun p h => by
    rcases b.nn p h with z | z | z | z
    · exact a.nn p z
    · by_cases hs : inS c.S p
      · exact .inr (.inr (.inr hs))
      · by_cases ho : Own σ ρ p
        · exact .inr (.inr (.inl ho))
        · cases e : kn H p with
          | none => exact .inr (.inl (.inl e))
          | some o =>
            rcases z with z | ⟨vs, z⟩
            · rw [kn_of (a.hh p o e hs ho) (kn_nt e)] at z; cases z
            · rw [a.hh p o e hs ho] at z
              cases z
              exact .inr (.inl (.inr ⟨vs, kn_some e⟩))
    · exact .inr (.inr (.inl (a.oo p z)))
    · exact .inr (.inr (.inr z))
  oo := fun p h => a.oo p (b.oo p h)
  tr := fun p h => b.tr p (a.tr p h)
theorem SR.srcH (s : SR c F H σ ρ) {p : Addr} (h : inS c.S p) : H p ≠ none := by
  exact s.src.there h
/-- an own result stays while other things are done -/
theorem RR.keep {v : V} {r : Res} (h : RR c σ F H ρ v r) (st : Stp c σ F H ρ F' H' ρ') (s' : SR c F' H' σ ρ') : RR c σ F' H' ρ' v r := by
  cases r with
  | v d => exact Rep.mono st.ff h
  | ow xs =>
    obtain ⟨p, vs, e, h1, h2, h3, h4, h5, h6⟩ := h
    refine ⟨p, vs, e, st.hh p _ (kn_of h1 h3.plain.1) h4 h5, ?_, HRep.mono st.ff h3, h4, fun z => h5 (st.oo p z), h6⟩
    cases q : F' p with
    | none => rfl
    | some o =>
      rcases st.nn p (by rw [q]; simp) with z | z | z | z
      · exact absurd h2 z
      · exact (z.no h1 h3.plain.1 h3.notup).elim
      · exact absurd z h5
      · exact absurd z h4
/-- a result is frozen -/
theorem frozen {v : V} {r : Res} {Hb Fb : Hp} {ρb : Rho} (s : SR c F H σ ρ) (st : Stp c σ Fb Hb ρb F H ρ) (h : RR c σ F H ρ v r) (nw : New σ Hb ρb v r) :
    ∃ F1, SR c F1 H σ ρ ∧ Stp c σ Fb Hb ρb F1 H ρ ∧ Le F F1 ∧ Rep c.K c.S F1 v (fz r) := by
  cases r with
  | v d => exact ⟨F, s, st, Le.refl _, h⟩
  | ow xs =>
    obtain ⟨p, vs, e, h1, h2, h3, h4, h5, h6⟩ := h
    subst e
    obtain ⟨p', e', nw⟩ := nw
    cases e'
    have le : Le F (upd F p vs) := fun q o z => by rw [upd_ne (ne_of_none z h2)]; exact z
    have own_ne : ∀ (i : Nat) (ys : D) (q : Addr), ρ[i]? = some (Sl.o ys) → σ[i]? = some (some (V.ref q)) → q ≠ p := fun i ys q a b z => h5 ⟨i, ys, a, by rw [b, z]⟩
    refine ⟨upd F p vs, ⟨fun q o z => ?_, s.f0.trans le, s.h0, fun q z => ?_, s.src, fun q z => ?_, s.len, fun i d z => ?_, fun i ys z => ?_, s.dis⟩, ⟨st.ff.trans le, st.hh, fun q z => ?_, st.oo, st.tr⟩, le, (HRep.mono le h3).rep upd_same⟩
    · by_cases hq : q = p
      · subst hq; rw [upd_same] at z; cases z; exact kn_of h1 h3.plain.1
      · rw [upd_ne hq] at z; exact s.sub' q o z
    · by_cases hq : q = p
      · subst hq; exact .inr (.inl h6)
      · rw [upd_ne hq] at z; exact s.n0 q z
    · by_cases hq : q = p
      · subst hq; exact absurd z h4
      · rw [upd_ne hq]; exact s.srcF q z
    · obtain ⟨w, a, b⟩ := s.sl i d z
      exact ⟨w, a, b.mono le⟩
    · obtain ⟨q, ws, a, b, d, e, f, g⟩ := s.ow i ys z
      exact ⟨q, ws, a, b, by rw [upd_ne (own_ne i ys q z a)]; exact d, HRep.mono le e, f, g⟩
    · by_cases hq : q = p
      · subst hq
        exact .inr (.inl (.inl nw))
      · rw [upd_ne hq] at z; exact st.nn q z
end
abbrev DQ := Res → Rho → Prop
abbrev DTE := Rho → DQ → Prop
abbrev DTV := Rho → (D → Rho → Prop) → Prop
abbrev DTT := Rho → (Bool → Rho → Prop) → Prop
abbrev DTA := Rho → (List D → Rho → Prop) → Prop
structure DEnds where
  nx : Rho → Prop
  rt : Res → Prop
  bk : Rho → Prop := fun _ => False
  ct : Rho → Prop := fun _ => False
abbrev DTS := DEnds → Rho → Prop
def frz (t : DTE) : DTV := fun ρ Q => t ρ fun r ρ' => Q (fz r) ρ'
section
variable (c : C)
def liftE (t : DTE) : TE := fun σ H Q => ∃ F ρ QD, SR c F H σ ρ ∧ t ρ QD ∧ ∀ v H' F' ρ' r, SR c F' H' σ ρ' → Stp c σ F H ρ F' H' ρ' → RR c σ F' H' ρ' v r → New σ H ρ v r → QD r ρ' → Q v H'
def liftV (t : DTV) : TE := fun σ H Q => ∃ F ρ QD, SR c F H σ ρ ∧ t ρ QD ∧ ∀ v H' F' ρ' d, SR c F' H' σ ρ' → Stp c σ F H ρ F' H' ρ' → Rep c.K c.S F' v d → QD d ρ' → Q v H'
def liftT (t : DTT) : TT := fun σ H Q => ∃ F ρ QD, SR c F H σ ρ ∧ t ρ QD ∧ ∀ b H' F' ρ', SR c F' H' σ ρ' → Stp c σ F H ρ F' H' ρ' → QD b ρ' → Q b H'
def liftA (t : DTA) : TA := fun σ H Q => ∃ F ρ QD, SR c F H σ ρ ∧ t ρ QD ∧ ∀ vs H' F' ρ' ds, SR c F' H' σ ρ' → Stp c σ F H ρ F' H' ρ' → Reps c.K c.S F' vs ds → QD ds ρ' → Q vs H'
/-- what is wanted behind a return -/
def RtOk (Fb : Hp) (D : Ends) (DD : DEnds) : Prop := ∀ σ v H F ρ r, Le Fb F → SR c F H σ ρ → RR c σ F H ρ v r → DD.rt r → D.rt v H
structure EndsOk (Fb : Hp) (D : Ends) (DD : DEnds) : Prop where
  nx : ∀ σ H F ρ, Le Fb F → SR c F H σ ρ → DD.nx ρ → D.nx σ H
  rt : RtOk c Fb D DD
  bk : ∀ σ H F ρ, Le Fb F → SR c F H σ ρ → DD.bk ρ → D.bk σ H
  ct : ∀ σ H F ρ, Le Fb F → SR c F H σ ρ → DD.ct ρ → D.ct σ H
def liftS (t : DTS) : TS := fun D σ H => ∃ F ρ DD, SR c F H σ ρ ∧ t DD ρ ∧ EndsOk c F D DD
end
theorem PE_imp {X : Cx} {e : Expr} {t t' : TE} (h : PE X e t) (i : ∀ σ H Q, t' σ H Q → t σ H Q) : PE X e t' := ⟨fun pins s σ H Q I q => h.run pins s σ H Q I (i σ H Q q)⟩
theorem PT_imp {X : Cx} {e : Expr} {t t' : TT} (h : PT X e t) (i : ∀ σ H Q, t' σ H Q → t σ H Q) : PT X e t' := ⟨fun pins s σ H Q I q => h.run pins s σ H Q I (i σ H Q q)⟩
theorem PW_imp {X : Cx} {e : Expr} {t t' : TT} (h : PW X e t) (i : ∀ σ H Q, t' σ H Q → t σ H Q) : PW X e t' := ⟨fun wh pins s σ H Q I q => h.run wh pins s σ H Q I (i σ H Q q)⟩
theorem PA_imp {X : Cx} {es : List Expr} {t t' : TA} (h : PA X es t) (i : ∀ σ H Q, t' σ H Q → t σ H Q) : PA X es t' := ⟨fun pos pins s σ H Q I q => h.run pos pins s σ H Q I (i σ H Q q)⟩
theorem PS_imp {X : Cx} {st : Stmt} {t t' : TS} (h : PS X st t) (i : ∀ D σ H, t' D σ H → t D σ H) : PS X st t' := ⟨fun pins s σ H D I q => h.run pins s σ H D I (i D σ H q)⟩
theorem PSs_imp {X : Cx} {st : List Stmt} {t t' : TS} (h : PSs X st t) (i : ∀ D σ H, t' D σ H → t D σ H) : PSs X st t' := ⟨fun pins s σ H D I q => h.run pins s σ H D I (i D σ H q)⟩
theorem PTs_imp {X : Cx} {ifs : List Expr} {t t' : TT} (h : PTs X ifs t) (i : ∀ σ H Q, t' σ H Q → t σ H Q) : PTs X ifs t' := ⟨fun pins s σ H Q I q => h.run pins s σ H Q I (i σ H Q q)⟩
theorem PG_imp {X : Cx} {e : Expr} {t t' : TG} (h : PG X e t) (i : ∀ v σ H Q, t' v σ H Q → t v σ H Q) : PG X e t' := ⟨fun pins s σ H v u Q I r q => h.run pins s σ H v u Q I r (i v σ H Q q)⟩
theorem PGs_imp {X : Cx} {e : List Expr} {t t' : TGs} (h : PGs X e t) (i : ∀ v σ H Q, t' v σ H Q → t v σ H Q) : PGs X e t' := ⟨fun pins s σ H v u Q I r q => h.run pins s σ H v u Q I r (i v σ H Q q)⟩
theorem PI_imp {X : Cx} {tg e : Expr} {t t' : TI} (h : PI X tg e t) (i : ∀ σ H Q, t' σ H Q → t σ H Q) : PI X tg e t' := ⟨fun pins s σ H Q I q => h.run pins s σ H Q I (i σ H Q q)⟩
section
variable {c : C} {X : Cx} {e : Expr} {t : DTE}
/-- a subexpression's value is frozen -/
theorem froze (h : PE X e (liftE c t)) : PE X e (liftV c (frz t)) := PE_imp h fun σ H Q ⟨F, ρ, QD, s, ht, k⟩ =>
  ⟨F, ρ, fun r ρ' => QD (fz r) ρ', s, ht, fun v H' F' ρ' r s' st rr nw q => by
    obtain ⟨F1, s1, st1, _, rp⟩ := frozen s' st rr nw
    exact k v H' F1 ρ' (fz r) s1 st1 rp q⟩
end
end L2.DL
set_option Elab.async false
set_option linter.all false
set_option autoImplicit false
set_option maxRecDepth 100000
set_option maxHeartbeats 1000000
namespace L2.DL
open PySem PySem.Spec PyProof.Rows
structure PExt (F H F' H' : Hp) : Prop where
  sub : Le F' H'
  ff : Le F F'
  hh : Le H H'
  nn : ∀ p, F' p ≠ none → F p ≠ none ∨ H p = none ∨ ∃ vs, H p = some (.tup vs)
  kb : Le F (kn H) → Le F' (kn H')
def RR0 (K : PySem.W.Frag) (S : Src) (F' H H' : Hp) (v : V) : Res → Prop
  | .v d => Rep K S F' v d
  | .ow xs => ∃ p vs, v = .ref p ∧ H p = none ∧ H' p = some vs ∧ F' p = none ∧ HRep K S F' p vs xs
theorem PExt.refl {F H : Hp} (s : Le F H) : PExt F H F H := ⟨s, Le.refl _, Le.refl _, fun _ h => .inl h, id⟩
theorem PExt.trans {F H F' H' F'' H'' : Hp} (a : PExt F H F' H') (b : PExt F' H' F'' H'') : PExt F H F'' H'' :=
  ⟨b.sub, a.ff.trans b.ff, a.hh.trans b.hh, fun p h => by
    rcases b.nn p h with z | z | ⟨vs, z⟩
    · exact a.nn p z
    · cases e : H p with
      | none => exact .inr (.inl rfl)
      | some o => (rw [a.hh p o e] at z; cases z)
    · cases e : H p with
      | none => exact .inr (.inl rfl)
      | some o => (rw [a.hh p o e] at z; cases z; exact .inr (.inr ⟨vs, rfl⟩)), fun k => b.kb (a.kb k)⟩
theorem kn_new {H : Hp} {p q : Addr} {o u : HO} (h : H p = none) (z : kn H q = some u) : kn (upd H p o) q = some u :=
  kn_of (by rw [upd_ne (ne_of_none (kn_some z) h)]; exact kn_some z) (kn_nt z)
/-- a new object, frozen at once -/
theorem PExt.new {F H : Hp} {p : Addr} {o : HO} (s : Le F H) (h : H p = none) (n : ∀ ps, o ≠ .tbl ps := by intro _ z; cases z) : PExt F H (upd F p o) (upd H p o) :=
  ⟨fun q u z => by
    by_cases hq : q = p
    · subst hq; rw [upd_same] at z ⊢; exact z
    · rw [upd_ne hq] at z ⊢; exact s q u z,
   fun q u z => by rw [upd_ne (ne_of_none (s q u z) h)]; exact z,
   fun q u z => by rw [upd_ne (ne_of_none z h)]; exact z,
   fun q z => by
    by_cases hq : q = p
    · subst hq; exact .inr (.inl h)
    · rw [upd_ne hq] at z; exact .inl z,
   fun k q u z => by
    by_cases hq : q = p
    · subst hq; rw [upd_same] at z; cases z; exact kn_of upd_same n
    · rw [upd_ne hq] at z; exact kn_new h (k q u z)⟩
/-- a new object, not frozen -/
theorem PExt.own {F H : Hp} {p : Addr} {o : HO} (s : Le F H) (h : H p = none) : PExt F H F (upd H p o) :=
  ⟨fun q u z => by rw [upd_ne (ne_of_none (s q u z) h)]; exact s q u z, Le.refl _, fun q u z => by rw [upd_ne (ne_of_none z h)]; exact z, fun q z => .inl z, fun k q u z => kn_new h (k q u z)⟩
theorem free_of {F H : Hp} {p : Addr} (s : Le F H) (h : H p = none) : F p = none := by
  cases e : F p with
  | none => rfl
  | some o => rw [s p o e] at h; cases h
section
variable {c : C} {σ : St} {F H F' H' : Hp} {ρ : Rho}
theorem SR.newH (s : SR c F H σ ρ) {p : Addr} (h : H p = none) : kn c.H0 p = none := by
  cases e : kn c.H0 p with
  | none => rfl
  | some o =>
    by_cases hs : inS c.S p
    · exact absurd h (s.srcH hs)
    · rw [s.h0 p o e hs] at h; cases h
theorem SR.newK (s : SR c F H σ ρ) {p : Addr} (h : kn H p = none) (hs : ¬ inS c.S p) : kn c.H0 p = none := by
  cases e : kn c.H0 p with
  | none => rfl
  | some o => rw [kn_of (s.h0 p o e hs) (kn_nt e)] at h; cases h
theorem SR.newT (s : SR c F H σ ρ) {p : Addr} {vs : List V} (h : H p = some (.tup vs)) : TF c.H0 p := by
  cases e : kn c.H0 p with
  | none => exact .inl e
  | some o =>
    by_cases hs : inS c.S p
    · exact (s.src.notT hs h).elim
    · have := s.h0 p o e hs
      rw [h] at this; cases this; exact .inr ⟨vs, kn_some e⟩
theorem SR.newTF (s : SR c F H σ ρ) {p : Addr} (h : TF H p) (hs : ¬ inS c.S p) : TF c.H0 p := h.elim (fun z => .inl (s.newK z hs)) fun ⟨_, z⟩ => s.newT z
theorem SR.newS (s : SR c F H σ ρ) {p : Addr} (h : H p = none) : ¬ inS c.S p := fun hs => s.srcH hs h
theorem SR.newO (s : SR c F H σ ρ) {p : Addr} (h : H p = none) : ¬ Own σ ρ p := fun ⟨i, xs, a, b⟩ => by
  obtain ⟨q, vs, e, f, _⟩ := s.ow i xs a
  rw [b] at e
  cases e
  rw [f] at h; cases h
theorem PExt.sr (e : PExt F H F' H') (s : SR c F H σ ρ) : SR c F' H' σ ρ where
  sub' := e.kb s.sub'
  f0 := s.f0.trans e.ff
  h0 := fun p o h1 h2 => e.hh p o (s.h0 p o h1 h2)
  n0 := fun p h => by
    rcases e.nn p h with z | z | ⟨vs, z⟩
    · exact s.n0 p z
    · exact .inr (.inl (s.newH z))
    · exact .inr (s.newT z)
  src := s.src.ext e.hh
  srcF := fun p h => by
    cases q : F' p with
    | none => rfl
    | some o =>
      rcases e.nn p (by rw [q]; simp) with z | z | ⟨vs, z⟩
      · exact absurd (s.srcF p h) z
      · exact absurd z (s.srcH h)
      · exact (s.src.notT h z).elim
  len := s.len
  sl := fun i d h => let ⟨v, a, b⟩ := s.sl i d h; ⟨v, a, b.mono e.ff⟩
  ow := fun i xs h => by
    obtain ⟨p, vs, a, b, d, f, g, k⟩ := s.ow i xs h
    refine ⟨p, vs, a, e.hh _ _ b, ?_, HRep.mono e.ff f, g, k⟩
    cases q : F' p with
    | none => rfl
    | some o =>
      rcases e.nn p (by rw [q]; simp) with z | z | ⟨vs, z⟩
      · exact absurd d z
      · rw [b] at z; cases z
      · rw [b] at z; cases z; exact (f.notup _ rfl).elim
  dis := s.dis
theorem PExt.stp (e : PExt F H F' H') : Stp c σ F H ρ F' H' ρ := ⟨e.ff, fun p o h _ _ => e.hh p o (kn_some h), fun p h => (e.nn p h).elim .inl fun z => z.elim (fun z => .inr (.inl (.inl (kn_none z)))) fun z => .inr (.inl (.inr z)), fun _ h => h, fun p h => by
  cases q : kn H p with
  | none => exact absurd q h
  | some o => rw [kn_of (e.hh p o (kn_some q)) (kn_nt q)]; simp⟩
theorem RR0.rr {v : V} {r : Res} (h : RR0 c.K c.S F' H H' v r) (s : SR c F H σ ρ) : RR c σ F' H' ρ v r ∧ New σ H ρ v r := by
  cases r with
  | v d => exact ⟨h, trivial⟩
  | ow xs =>
    obtain ⟨p, vs, e, a, b, d, f⟩ := h
    exact ⟨⟨p, vs, e, b, d, f, s.newS a, s.newO a, s.newH a⟩, ⟨p, e, kn_none a⟩⟩
end
def OpD (K : PySem.W.Frag) (r : R2) (dr : D → D → (Res → Prop) → Prop) : Prop :=
  ∀ (S : Src) (F H : Hp) (x y : V) (d e : D) (QD : Res → Prop) (Q : VK), Le F H → Rep K S F x d → Rep K S F y e → dr d e QD →
    (∀ v H' F' r', PExt F H F' H' → RR0 K S F' H H' v r' → QD r' → Q v H') → r x y H Q
def UnD (K : PySem.W.Frag) (r : V → Hp → VK → Prop) (dr : D → (Res → Prop) → Prop) : Prop :=
  ∀ (S : Src) (F H : Hp) (x : V) (d : D) (QD : Res → Prop) (Q : VK), Le F H → Rep K S F x d → dr d QD →
    (∀ v H' F' r', PExt F H F' H' → RR0 K S F' H H' v r' → QD r' → Q v H') → r x H Q
def CallD (K : PySem.W.Frag) (r : List V → Hp → VK → Prop) (dr : List D → (Res → Prop) → Prop) : Prop :=
  ∀ (S : Src) (F H : Hp) (xs : List V) (ds : List D) (QD : Res → Prop) (Q : VK), Le F H → Reps K S F xs ds → dr ds QD →
    (∀ v H' F' r', PExt F H F' H' → RR0 K S F' H H' v r' → QD r' → Q v H') → r xs H Q
theorem OpD.or {K : PySem.W.Frag} {r r' : R2} {dr dr' : D → D → (Res → Prop) → Prop} (h : OpD K r dr) (h' : OpD K r' dr') : OpD K (fun x y H Q => r x y H Q ∨ r' x y H Q) (fun d e Q => dr d e Q ∨ dr' d e Q) :=
  fun S F H x y d e QD Q s a b q k => q.elim (fun q => .inl (h S F H x y d e QD Q s a b q k)) fun q => .inr (h' S F H x y d e QD Q s a b q k)
theorem CallD.or {K : PySem.W.Frag} {r r' : List V → Hp → VK → Prop} {dr dr' : List D → (Res → Prop) → Prop} (h : CallD K r dr) (h' : CallD K r' dr') : CallD K (fun x H Q => r x H Q ∨ r' x H Q) (fun d Q => dr d Q ∨ dr' d Q) :=
  fun S F H x d QD Q s a q k => q.elim (fun q => .inl (h S F H x d QD Q s a q k)) fun q => .inr (h' S F H x d QD Q s a q k)
theorem OpD.imp {K : PySem.W.Frag} {r r' : R2} {dr : D → D → (Res → Prop) → Prop} (h : OpD K r dr) (i : ∀ x y H Q, r x y H Q → r' x y H Q) : OpD K r' dr :=
  fun S F H x y d e QD Q s a b q k => i x y H Q (h S F H x y d e QD Q s a b q k)
def dOp (dr : D → D → (Res → Prop) → Prop) (ta tb : DTE) : DTE := fun ρ Q => ta ρ fun r1 ρ1 => tb ρ1 fun r2 ρ2 => dr (fz r1) (fz r2) fun r => Q r ρ2
def dUn (dr : D → (Res → Prop) → Prop) (ta : DTE) : DTE := fun ρ Q => ta ρ fun r1 ρ1 => dr (fz r1) fun r => Q r ρ1
def dC (d : D) : DTE := fun ρ Q => Q (.v d) ρ
def dVar (i : Nat) : DTE := fun ρ Q => match ρ[i]? with
  | some (.d x) => Q (.v x) ρ
  | some (.o xs) => Q (.v (unAt xs)) (ρ.set i (.d (unAt xs)))
  | _ => False
def dNil : DTA := fun ρ Q => Q [] ρ
def dCons (te : DTE) (t : DTA) : DTA := fun ρ Q => te ρ fun r ρ1 => t ρ1 fun ds ρ2 => Q (fz r :: ds) ρ2
def dCB (dr : List D → (Res → Prop) → Prop) (t : DTA) : DTE := fun ρ Q => t ρ fun ds ρ1 => dr ds fun r => Q r ρ1
section
variable {c : C} {X : Cx} {a b e : Expr} {es : List Expr} {ta tb te : DTE} {t : DTA} {pos : Pos}
/-- what is new behind steps is new ahead of them -/
theorem New.back {σ : St} {F H F1 H1 : Hp} {ρ ρ1 : Rho} {v : V} {r : Res} (st : Stp c σ F H ρ F1 H1 ρ1) (s1 : SR c F1 H1 σ ρ1) (n : New σ H1 ρ1 v r) : New σ H ρ v r := by
  cases r with
  | v d => trivial
  | ow xs =>
    obtain ⟨p, e1, n1⟩ := n
    refine ⟨p, e1, ?_⟩
    cases eh : kn H p with
    | none => rfl
    | some o => exact absurd n1 (st.tr p (by rw [eh]; simp))
theorem bin_lift {r : R2} {dr : D → D → (Res → Prop) → Prop} (hd : OpD c.K r dr) {σ : St} {H : Hp} {Q : VK} (h : liftE c (dOp dr ta tb) σ H Q) :
    liftV c (frz ta) σ H fun x H1 => liftV c (frz tb) σ H1 fun y H2 => r x y H2 Q := by
  obtain ⟨F, ρ, QD, s, ht, k⟩ := h
  refine ⟨F, ρ, (fun d ρ1 => tb ρ1 fun r2 ρ2 => dr d (fz r2) fun r => QD r ρ2), s, ht, fun x H1 F1 ρ1 d s1 st1 rx q1 => ?_⟩
  refine ⟨F1, ρ1, (fun e ρ2 => dr d e fun r => QD r ρ2), s1, q1, fun y H2 F2 ρ2 e s2 st2 ry q2 => ?_⟩
  refine hd c.S F2 H2 x y d e _ _ s2.sub (rx.mono st2.ff) ry q2 fun v H' F' r' pe rr q => ?_
  obtain ⟨r1, n1⟩ := rr.rr s2
  exact k v H' F' ρ2 r' (pe.sr s2) ((st1.trans st2).trans pe.stp) r1 (New.back (st1.trans st2) s2 n1) q
theorem de_op {op : Operator} {r : R2} {dr : D → D → (Res → Prop) → Prop} (hd : OpD c.K r dr) (ho : OpR X (binaryOp op) r) (ha : PE X a (liftE c ta)) (hb : PE X b (liftE c tb)) : PE X (.BinOp a op b pos) (liftE c (dOp dr ta tb)) :=
  PE_imp (pe_op ho (froze ha) (froze hb)) fun _ _ _ h => bin_lift hd h
theorem de_cmp {op : CmpOp} {r : R2} {dr : D → D → (Res → Prop) → Prop} (hd : OpD c.K r dr) (ho : OpR X (compareOp op) r) (ha : PE X a (liftE c ta)) (hb : PE X b (liftE c tb)) (hm : behindInMarks op b = false) : PE X (.Compare a [op] [b] pos) (liftE c (dOp dr ta tb)) :=
  PE_imp (pe_cmpR ho (froze ha) (froze hb) hm) fun _ _ _ h => bin_lift hd h
theorem de_ix {r : R2} {dr : D → D → (Res → Prop) → Prop} (hd : OpD c.K r dr) (ho : IxR X r) (ha : PE X a (liftE c ta)) (hb : PE X b (liftE c tb)) (hs : PlainIx b) : PE X (.Subscript a b pos) (liftE c (dOp dr ta tb)) :=
  PE_imp (pe_ix ho (froze ha) (froze hb) hs) fun _ _ _ h => bin_lift hd h
theorem un_lift {r : V → Hp → VK → Prop} {dr : D → (Res → Prop) → Prop} (hd : UnD c.K r dr) {σ : St} {H : Hp} {Q : VK} (h : liftE c (dUn dr ta) σ H Q) :
    liftV c (frz ta) σ H fun x H1 => r x H1 Q := by
  obtain ⟨F, ρ, QD, s, ht, k⟩ := h
  refine ⟨F, ρ, (fun d ρ1 => dr d fun r => QD r ρ1), s, ht, fun x H1 F1 ρ1 d s1 st1 rx q1 => ?_⟩
  refine hd c.S F1 H1 x d _ _ s1.sub rx q1 fun v H' F' r' pe rr q => ?_
  obtain ⟨r1, n1⟩ := rr.rr s1
  exact k v H' F' ρ1 r' (pe.sr s1) (st1.trans pe.stp) r1 (New.back st1 s1 n1) q
theorem de_un {op : UnaryOp} {r : V → Hp → VK → Prop} {dr : D → (Res → Prop) → Prop} (hd : UnD c.K r dr) (ho : UnR X (unaryOp op) r) (ha : PE X a (liftE c ta)) : PE X (.UnaryOp op a pos) (liftE c (dUn dr ta)) :=
  PE_imp (pe_un ho (froze ha)) fun _ _ _ h => un_lift hd h
theorem de_c {te : TE} {v : V} {d : D} (h : PE X e (tC v)) (r : ∀ F, Rep c.K c.S F v d) : PE X e (liftE c (dC d)) :=
  PE_imp h fun σ H Q ⟨F, ρ, QD, s, ht, k⟩ => k v H F ρ (.v d) s Stp.refl (r F) trivial ht
theorem de_int {i j pos} : PE X (.Constant (.int i) j pos) (liftE c (dC (.int i))) := de_c (te := tC (.int i)) pe_int fun _ => .int i
theorem de_bl {i j pos} : PE X (.Constant (.bool i) j pos) (liftE c (dC (.bl i))) := de_c (te := tC (.bl i)) pe_bl fun _ => .bl i
theorem de_non {j pos} : PE X (.Constant .none j pos) (liftE c (dC .non)) := de_c (te := tC .non) pe_non fun _ => .non
theorem de_str {i j pos} : PE X (.Constant (.str i) j pos) (liftE c (dC (.str i))) := de_c (te := tC (.str i)) pe_str fun _ => .str i
/-- an owned slot is frozen -/
theorem slot_freeze {σ : St} {F H : Hp} {ρ : Rho} {i : Nat} {xs : D} (s : SR c F H σ ρ) (hi : ρ[i]? = some (Sl.o xs)) :
    ∃ p vs, σ[i]? = some (some (V.ref p)) ∧ H p = some vs ∧ SR c (upd F p vs) H σ (ρ.set i (.d (unAt xs))) ∧ Stp c σ F H ρ (upd F p vs) H (ρ.set i (.d (unAt xs))) ∧ Rep c.K c.S (upd F p vs) (.ref p) (unAt xs) := by
  obtain ⟨p, vs, e1, e2, e3, e4, e5, e6⟩ := s.ow i xs hi
  have le : Le F (upd F p vs) := fun q o z => by rw [upd_ne (ne_of_none z e3)]; exact z
  have rp : Rep c.K c.S (upd F p vs) (.ref p) (unAt xs) := (HRep.mono le e4).rep upd_same
  have ho : Own σ ρ p := ⟨i, xs, hi, e1⟩
  have set_d : ∀ (j : Nat) (d : D), (ρ.set i (.d (unAt xs)))[j]? = some (Sl.d d) → (j = i ∧ d = unAt xs) ∨ ρ[j]? = some (Sl.d d) := fun j d z => by
    by_cases hj : i = j
    · subst hj
      have hl : i < ρ.length := (List.getElem?_eq_some_iff.mp hi).1
      rw [List.getElem?_set_self hl] at z
      cases z
      exact .inl ⟨rfl, rfl⟩
    · rw [List.getElem?_set_ne hj] at z
      exact .inr z
  have set_o : ∀ (j : Nat) (ys : D), (ρ.set i (.d (unAt xs)))[j]? = some (Sl.o ys) → j ≠ i ∧ ρ[j]? = some (Sl.o ys) := fun j ys z => by
    by_cases hj : i = j
    · subst hj
      have hl : i < ρ.length := (List.getElem?_eq_some_iff.mp hi).1
      rw [List.getElem?_set_self hl] at z
      cases z
    · rw [List.getElem?_set_ne hj] at z
      exact ⟨fun e => hj e.symm, z⟩
  refine ⟨p, vs, e1, e2, ⟨fun q o z => ?_, s.f0.trans le, s.h0, fun q z => ?_, s.src, fun q z => ?_, by rw [List.length_set]; exact s.len, fun j d z => ?_, fun j ys z => ?_, fun j k ys zs z1 z2 z3 => ?_⟩, ⟨le, fun _ _ h _ _ => kn_some h, fun q z => ?_, fun q ⟨j, ys, z1, z2⟩ => ?_, fun _ h => h⟩, rp⟩
  · by_cases hq : q = p
    · subst hq; rw [upd_same] at z; cases z; exact kn_of e2 e4.plain.1
    · rw [upd_ne hq] at z; exact s.sub' q o z
  · by_cases hq : q = p
    · subst hq; exact .inr (.inl e5)
    · rw [upd_ne hq] at z; exact s.n0 q z
  · by_cases hq : q = p
    · subst hq; exact absurd z e6
    · rw [upd_ne hq]; exact s.srcF q z
  · rcases set_d j d z with ⟨z1, z2⟩ | z
    · subst z1; subst z2; exact ⟨_, e1, rp⟩
    · obtain ⟨v, a, b⟩ := s.sl j d z
      exact ⟨v, a, b.mono le⟩
  · obtain ⟨nj, z⟩ := set_o j ys z
    obtain ⟨q, ws, a, b, d, f, g, h⟩ := s.ow j ys z
    have hq : q ≠ p := fun e => nj (s.dis j i ys xs z hi (by rw [a, e1, e]))
    exact ⟨q, ws, a, b, by rw [upd_ne hq]; exact d, HRep.mono le f, g, h⟩
  · exact s.dis j k ys zs (set_o j ys z1).2 (set_o k zs z2).2 z3
  · by_cases hq : q = p
    · subst hq; exact .inr (.inr (.inl ho))
    · rw [upd_ne hq] at z; exact .inl z
  · exact ⟨j, ys, (set_o j ys z1).2, z2⟩
theorem de_var {i : Nat} {x : Str} (hN : X.N[i]? = some x) (hv : Vis X.env.scope x) (hd : (x == ("__debug__" : Str)) = false := by decide) (hcd : (x == ("__classdict__" : Str)) = false := by decide) : PE X (.Name x pos) (liftE c (dVar i)) :=
  PE_imp (pe_var hN hv hd hcd) fun σ H Q ⟨F, ρ, QD, s, ht, k⟩ => by
    unfold dVar at ht
    split at ht
    · rename_i d hi
      obtain ⟨v, a, b⟩ := s.sl i d hi
      exact ⟨v, a, k v H F ρ (.v d) s Stp.refl b trivial ht⟩
    · rename_i xs hi
      obtain ⟨p, vs, e1, e2, s1, st1, rp⟩ := slot_freeze s hi
      exact ⟨.ref p, e1, k _ H _ _ (.v (unAt xs)) s1 st1 rp trivial ht⟩
    · exact ht.elim
theorem dv (i : Nat) {x : Str} (hN : X.N[i]? = some x := by rfl) (hv : Vis X.env.scope x := by first | exact Or.inl rfl | exact Or.inr (Or.inl rfl) | exact Or.inr (Or.inr rfl)) (hd : (x == ("__debug__" : Str)) = false := by decide)
    (hcd : (x == ("__classdict__" : Str)) = false := by decide) : PE X (.Name x pos) (liftE c (dVar i)) := de_var hN hv hd hcd
/-- a module's constant -/
theorem de_glob {x : Str} {v : V} {u : Value} {d : D} (hg : Gl X x) (hm : X.mg x = some u) (r : RelV v u) (rd : ∀ F, Rep c.K c.S F v d) (hd : (x == ("__debug__" : Str)) = false := by decide) : PE X (.Name x pos) (liftE c (dC d)) := de_c (te := tC v) (pe_glob hg hm r hd) rd
theorem da_nil : PA X [] (liftA c dNil) := PA_imp pa_nil fun σ H Q ⟨F, ρ, QD, s, ht, k⟩ => k [] H F ρ [] s Stp.refl .nil ht
theorem da_cons (ha : PE X e (liftE c te)) (hr : PA X es (liftA c t)) (hs : starEach (e :: es) X.env = (false, eval e X.env) :: starEach es X.env := by rfl) : PA X (e :: es) (liftA c (dCons te t)) :=
  PA_imp (pa_cons (froze ha) hr hs) fun σ H Q ⟨F, ρ, QD, s, ht, k⟩ =>
    ⟨F, ρ, (fun d ρ1 => t ρ1 fun ds ρ2 => QD (d :: ds) ρ2), s, ht, fun x H1 F1 ρ1 d s1 st1 rx q1 => ⟨F1, ρ1, (fun ds ρ2 => QD (d :: ds) ρ2), s1, q1, fun xs H2 F2 ρ2 ds s2 st2 rxs q2 => k (x :: xs) H2 F2 ρ2 (d :: ds) s2 (st1.trans st2) (.cons (rx.mono st2.ff) rxs) q2⟩⟩
theorem call_lift {r : List V → Hp → VK → Prop} {dr : List D → (Res → Prop) → Prop} (hd : CallD c.K r dr) {σ : St} {H : Hp} {Q : VK} (h : liftE c (dCB dr t) σ H Q) : liftA c t σ H fun vs H1 => r vs H1 Q := by
  obtain ⟨F, ρ, QD, s, ht, k⟩ := h
  refine ⟨F, ρ, (fun ds ρ1 => dr ds fun r => QD r ρ1), s, ht, fun xs H1 F1 ρ1 ds s1 st1 rx q1 => ?_⟩
  refine hd c.S F1 H1 xs ds _ _ s1.sub rx q1 fun v H' F' r' pe rr q => ?_
  obtain ⟨r1, n1⟩ := rr.rr s1
  exact k v H' F' ρ1 r' (pe.sr s1) (st1.trans pe.stp) r1 (New.back st1 s1 n1) q
theorem de_callB {r : List V → Hp → VK → Prop} {dr : List D → (Res → Prop) → Prop} {id : String} {x : Str} {p : Pos} (hd : CallD c.K r dr) (hc : CallR X (.builtin id) r) (hg : Gl X x) (hm : X.mg x = none) (hv : bootBuiltins x = some (.builtin id)) (ha : PA X (e :: es) (liftA c t))
    (hn : x ≠ "__name__" := by decide) (hdb : (x == ("__debug__" : Str)) = false := by decide)
    (he : starEach (e :: es) X.env = (false, eval e X.env) :: starEach es X.env := by rfl) (hpl : (backTo pos (starEach es X.env)).any (·.1) = false := by rfl) : PE X (.Call (.Name x p) (e :: es) [] pos) (liftE c (dCB dr t)) :=
  PE_imp (pe_callB hc hg hm hv ha hn hdb he hpl) fun _ _ _ h => call_lift hd h
theorem de_callTy {r : List V → Hp → VK → Prop} {dr : List D → (Res → Prop) → Prop} {T : String} {x : Str} {p : Pos} (hd : CallD c.K r dr) (hc : CallR X (.type T) r) (hg : Gl X x) (hm : X.mg x = none) (hv : bootBuiltins x = some (.type T)) (ha : PA X (e :: es) (liftA c t))
    (hn : x ≠ "__name__" := by decide) (hdb : (x == ("__debug__" : Str)) = false := by decide)
    (he : starEach (e :: es) X.env = (false, eval e X.env) :: starEach es X.env := by rfl) (hpl : (backTo pos (starEach es X.env)).any (·.1) = false := by rfl) : PE X (.Call (.Name x p) (e :: es) [] pos) (liftE c (dCB dr t)) :=
  PE_imp (pe_callTy hc hg hm hv ha hn hdb he hpl) fun _ _ _ h => call_lift hd h
def dTup (t : DTA) : DTE := dCB (fun ds Q => ds.length ≤ sizeLine ∧ Q (.v (.tup ds))) t
def dLst (t : DTA) : DTE := dCB (fun ds Q => ds.length ≤ sizeLine ∧ Q (.own ds)) t
theorem cd_tup (K : PySem.W.Frag) : CallD K (fun xs H Q => xs.length ≤ sizeLine ∧ ∀ p, H p = none → Q (.ref p) (upd H p (.tup xs))) (fun ds Q => ds.length ≤ sizeLine ∧ Q (.v (.tup ds))) := by
  intro S F H xs ds QD Q s r ⟨h1, h2⟩ k
  refine ⟨by rw [r.length]; exact h1, fun p hp => ?_⟩
  have pe := PExt.new (o := .tup xs) s hp
  exact k _ _ _ (.v (.tup ds)) pe (.tup upd_same (Reps.mono pe.ff r)) h2
theorem cd_lst (K : PySem.W.Frag) : CallD K (fun xs H Q => xs.length ≤ sizeLine ∧ ∀ p, H p = none → Q (.ref p) (upd H p (.lst xs))) (fun ds Q => ds.length ≤ sizeLine ∧ Q (.own ds)) := by
  intro S F H xs ds QD Q s r ⟨h1, h2⟩ k
  refine ⟨by rw [r.length]; exact h1, fun p hp => ?_⟩
  have pe := PExt.own (o := .lst xs) s hp
  exact k _ _ _ (.own ds) pe ⟨p, .lst xs, rfl, hp, upd_same, free_of s hp, .lst r⟩ h2
theorem de_tup {k : Nat} (h : PA X es (liftA c t)) : PE X (.Tuple es k pos) (liftE c (dTup t)) := PE_imp (pe_tup h) fun _ _ _ q => call_lift (cd_tup c.K) q
theorem de_lst (h : PA X es (liftA c t)) : PE X (.List es pos) (liftE c (dLst t)) := PE_imp (pe_lst h) fun _ _ _ q => call_lift (cd_lst c.K) q
def dIf (tt : DTT) (ta tb : DTE) : DTE := fun ρ Q => tt ρ fun b ρ1 => if b = true then ta ρ1 Q else tb ρ1 Q
theorem de_if {cnd : Expr} {tt : DTT} (hc : PT X cnd (liftT c tt)) (ha : PE X a (liftE c ta)) (hb : PE X b (liftE c tb)) : PE X (.IfExp cnd a b pos) (liftE c (dIf tt ta tb)) :=
  PE_imp (pe_ifExp hc ha hb) fun σ H Q ⟨F, ρ, QD, s, ht, k⟩ => by
    refine ⟨F, ρ, (fun b ρ1 => if b = true then ta ρ1 QD else tb ρ1 QD), s, ht, fun d H1 F1 ρ1 s1 st1 q1 => ?_⟩
    cases d with
    | true =>
      rw [if_pos rfl] at q1 ⊢
      exact ⟨F1, ρ1, QD, s1, q1, fun v H2 F2 ρ2 r s2 st2 rr nw q2 => k v H2 F2 ρ2 r s2 (st1.trans st2) rr (New.back st1 s1 nw) q2⟩
    | false =>
      rw [if_neg Bool.false_ne_true] at q1 ⊢
      exact ⟨F1, ρ1, QD, s1, q1, fun v H2 F2 ρ2 r s2 st2 rr nw q2 => k v H2 F2 ρ2 r s2 (st1.trans st2) rr (New.back st1 s1 nw) q2⟩
/-- a value that is True or False, as a test -/
def dTst (te : DTE) : DTT := fun ρ Q => te ρ fun r ρ1 => ∃ b, r = .v (.bl b) ∧ Q b ρ1
theorem tst_lift {σ : St} {H : Hp} {Q : Bool → Hp → Prop} (h : liftT c (dTst te) σ H Q) : liftE c te σ H fun x H1 => ∃ k, x = .bl k ∧ Q k H1 := by
  obtain ⟨F, ρ, QD, s, ht, k⟩ := h
  refine ⟨F, ρ, (fun r ρ1 => ∃ b, r = .v (.bl b) ∧ QD b ρ1), s, ht, fun v H1 F1 ρ1 r s1 st1 rr nw q => ?_⟩
  obtain ⟨b, e, q⟩ := q
  subst e
  cases rr
  exact ⟨b, rfl, k b H1 F1 ρ1 s1 st1 q⟩
theorem dt_cmp {op : CmpOp} {r : R2} {dr : D → D → (Res → Prop) → Prop} (hd : OpD c.K r dr) (ho : OpR X (compareOp op) r) (ha : PE X a (liftE c ta)) (hb : PE X b (liftE c tb)) (hm : behindInMarks op b = false) : PT X (.Compare a [op] [b] pos) (liftT c (dTst (dOp dr ta tb))) :=
  PT_imp (pt_cmpR ho (froze ha) (froze hb) hm) fun _ _ _ q => bin_lift hd (tst_lift q)
def dAnd (t u : DTT) : DTT := fun ρ Q => t ρ fun b ρ1 => if b = true then u ρ1 Q else Q false ρ1
def dOr (t u : DTT) : DTT := fun ρ Q => t ρ fun b ρ1 => if b = true then Q true ρ1 else u ρ1 Q
def dNot (t : DTT) : DTT := fun ρ Q => t ρ fun b ρ1 => Q (!b) ρ1
section
variable {tA tB : DTT} {rest : List Expr}
theorem dw_and1 (ha : PT X a (liftT c tA)) : PW X (.BoolOp .And [a] pos) (liftT c tA) := pw_and1 ha
theorem dw_or1 (ha : PT X a (liftT c tA)) : PW X (.BoolOp .Or [a] pos) (liftT c tA) := pw_or1 ha
theorem dw_and (ha : PT X a (liftT c tA)) (hb : PW X (.BoolOp .And (b :: rest) pos) (liftT c tB)) : PW X (.BoolOp .And (a :: b :: rest) pos) (liftT c (dAnd tA tB)) :=
  PW_imp (pw_and ha hb) fun σ H Q ⟨F, ρ, QD, s, ht, k⟩ => by
    refine ⟨F, ρ, (fun b ρ1 => if b = true then tB ρ1 QD else QD false ρ1), s, ht, fun d H1 F1 ρ1 s1 st1 q1 => ?_⟩
    cases d with
    | true =>
      rw [if_pos rfl] at q1 ⊢
      exact ⟨F1, ρ1, QD, s1, q1, fun v H2 F2 ρ2 s2 st2 q2 => k v H2 F2 ρ2 s2 (st1.trans st2) q2⟩
    | false =>
      rw [if_neg Bool.false_ne_true] at q1 ⊢
      exact k _ H1 F1 ρ1 s1 st1 q1
theorem dw_or (ha : PT X a (liftT c tA)) (hb : PW X (.BoolOp .Or (b :: rest) pos) (liftT c tB)) : PW X (.BoolOp .Or (a :: b :: rest) pos) (liftT c (dOr tA tB)) :=
  PW_imp (pw_or ha hb) fun σ H Q ⟨F, ρ, QD, s, ht, k⟩ => by
    refine ⟨F, ρ, (fun b ρ1 => if b = true then QD true ρ1 else tB ρ1 QD), s, ht, fun d H1 F1 ρ1 s1 st1 q1 => ?_⟩
    cases d with
    | true =>
      rw [if_pos rfl] at q1 ⊢
      exact k _ H1 F1 ρ1 s1 st1 q1
    | false =>
      rw [if_neg Bool.false_ne_true] at q1 ⊢
      exact ⟨F1, ρ1, QD, s1, q1, fun v H2 F2 ρ2 s2 st2 q2 => k v H2 F2 ρ2 s2 (st1.trans st2) q2⟩
theorem dt_not (ha : PT X a (liftT c tA)) : PT X (.UnaryOp .Not a pos) (liftT c (dNot tA)) :=
  PT_imp (pt_not ha) fun σ H Q ⟨F, ρ, QD, s, ht, k⟩ => ⟨F, ρ, (fun b ρ1 => QD (!b) ρ1), s, ht, fun d H1 F1 ρ1 s1 st1 q1 => k _ H1 F1 ρ1 s1 st1 q1⟩
end
/-- and, or as values: True or False -/
def dAndV (ta tb : DTE) : DTE := fun ρ Q => ta ρ fun r ρ1 => ∃ b, r = .v (.bl b) ∧ if b = true then tb ρ1 Q else Q (.v (.bl false)) ρ1
def dOrV (ta tb : DTE) : DTE := fun ρ Q => ta ρ fun r ρ1 => ∃ b, r = .v (.bl b) ∧ if b = true then Q (.v (.bl true)) ρ1 else tb ρ1 Q
def dNotV (ta : DTE) : DTE := fun ρ Q => ta ρ fun r ρ1 => ∃ b, r = .v (.bl b) ∧ Q (.v (.bl (!b))) ρ1
section
variable {rest : List Expr}
theorem de_one {op} (h : PE X a (liftE c ta)) : PE X (.BoolOp op [a] pos) (liftE c ta) := pe_one h
theorem de_and (ha : PE X a (liftE c ta)) (hb : PE X (.BoolOp .And (b :: rest) pos) (liftE c tb)) : PE X (.BoolOp .And (a :: b :: rest) pos) (liftE c (dAndV ta tb)) :=
  PE_imp (pe_and ha hb) fun σ H Q ⟨F, ρ, QD, s, ht, k⟩ => by
    refine ⟨F, ρ, (fun r ρ1 => ∃ b, r = .v (.bl b) ∧ if b = true then tb ρ1 QD else QD (.v (.bl false)) ρ1), s, ht, fun v H1 F1 ρ1 r s1 st1 rr nw q1 => ?_⟩
    obtain ⟨d, e, q1⟩ := q1
    subst e
    cases rr
    refine ⟨d, rfl, ?_⟩
    cases d with
    | true =>
      rw [if_pos rfl] at q1 ⊢
      exact ⟨F1, ρ1, QD, s1, q1, fun v H2 F2 ρ2 r s2 st2 rr nw q2 => k v H2 F2 ρ2 r s2 (st1.trans st2) rr (New.back st1 s1 nw) q2⟩
    | false =>
      rw [if_neg Bool.false_ne_true] at q1 ⊢
      exact k _ H1 F1 ρ1 (.v (.bl false)) s1 st1 (Rep.bl false) trivial q1
theorem de_or (ha : PE X a (liftE c ta)) (hb : PE X (.BoolOp .Or (b :: rest) pos) (liftE c tb)) : PE X (.BoolOp .Or (a :: b :: rest) pos) (liftE c (dOrV ta tb)) :=
  PE_imp (pe_or ha hb) fun σ H Q ⟨F, ρ, QD, s, ht, k⟩ => by
    refine ⟨F, ρ, (fun r ρ1 => ∃ b, r = .v (.bl b) ∧ if b = true then QD (.v (.bl true)) ρ1 else tb ρ1 QD), s, ht, fun v H1 F1 ρ1 r s1 st1 rr nw q1 => ?_⟩
    obtain ⟨d, e, q1⟩ := q1
    subst e
    cases rr
    refine ⟨d, rfl, ?_⟩
    cases d with
    | true =>
      rw [if_pos rfl] at q1 ⊢
      exact k _ H1 F1 ρ1 (.v (.bl true)) s1 st1 (Rep.bl true) trivial q1
    | false =>
      rw [if_neg Bool.false_ne_true] at q1 ⊢
      exact ⟨F1, ρ1, QD, s1, q1, fun v H2 F2 ρ2 r s2 st2 rr nw q2 => k v H2 F2 ρ2 r s2 (st1.trans st2) rr (New.back st1 s1 nw) q2⟩
theorem de_not (ha : PE X a (liftE c ta)) : PE X (.UnaryOp .Not a pos) (liftE c (dNotV ta)) :=
  PE_imp (pe_not ha) fun σ H Q ⟨F, ρ, QD, s, ht, k⟩ => by
    refine ⟨F, ρ, (fun r ρ1 => ∃ b, r = .v (.bl b) ∧ QD (.v (.bl (!b))) ρ1), s, ht, fun v H1 F1 ρ1 r s1 st1 rr nw q1 => ?_⟩
    obtain ⟨d, e, q1⟩ := q1
    subst e
    cases rr
    exact ⟨d, rfl, k _ H1 F1 ρ1 (.v (.bl (!d))) s1 st1 (Rep.bl (!d)) trivial q1⟩
end
end
end L2.DL
set_option Elab.async false
set_option linter.all false
set_option autoImplicit false
set_option maxRecDepth 100000
set_option maxHeartbeats 1000000
namespace L2.DL
open PySem PySem.Spec PyProof.Rows
section
variable {c : C} {σ : St} {F H F' H' : Hp} {ρ : Rho}
theorem getElem?_set_cases {α : Type} {l : List α} {i j : Nat} {x y : α} (h : (l.set i x)[j]? = some y) : (j = i ∧ y = x ∧ i < l.length) ∨ (j ≠ i ∧ l[j]? = some y) := by
  by_cases hj : i = j
  · subst hj
    by_cases hl : i < l.length
    · rw [List.getElem?_set_self hl] at h
      exact .inl ⟨rfl, (Option.some.inj h).symm, hl⟩
    · rw [List.getElem?_eq_none (by rw [List.length_set]; omega)] at h
      cases h
  · rw [List.getElem?_set_ne hj] at h
    exact .inr ⟨fun e => hj e.symm, h⟩
theorem SR.store {v : V} {r : Res} {i : Nat} (s : SR c F H σ ρ) (rr : RR c σ F H ρ v r) : SR c F H (σ.set i (some v)) (ρ.set i (toSl r)) where
  sub' := s.sub'
  f0 := s.f0
  h0 := s.h0
  n0 := s.n0
  src := s.src
  srcF := s.srcF
  len := by rw [List.length_set, List.length_set]; exact s.len
  sl := fun j d h => by
    rcases getElem?_set_cases h with ⟨e1, e2, e3⟩ | ⟨e1, e2⟩
    · subst e1
      refine ⟨v, List.getElem?_set_self (by rw [← s.len]; exact e3), ?_⟩
      cases r with
      | v d' => cases e2; exact rr
      | ow xs => cases e2
    · rw [List.getElem?_set_ne e1.symm]
      exact s.sl j d e2
  ow := fun j xs h => by
    rcases getElem?_set_cases h with ⟨e1, e2, e3⟩ | ⟨e1, e2⟩
    · subst e1
      cases r with
      | v d' => cases e2
      | ow ys =>
        cases e2
        obtain ⟨p, vs, e, h1, h2, h3, h4, h5, h6⟩ := rr
        exact ⟨p, vs, by rw [e]; exact List.getElem?_set_self (by rw [← s.len]; exact e3), h1, h2, h3, h6, h4⟩
    · rw [List.getElem?_set_ne e1.symm]
      exact s.ow j xs e2
  dis := fun j k xs ys h1 h2 h3 => by
    have key : ∀ (j k : Nat) (xs ys : D), j = i → k ≠ i → (ρ.set i (toSl r))[j]? = some (Sl.o xs) → ρ[k]? = some (Sl.o ys) → i < ρ.length → (σ.set i (some v))[j]? = σ[k]? → False := fun j k xs ys e1 e2 k1 k2 hl k3 => by
      rw [e1] at k1 k3
      rw [List.getElem?_set_self hl] at k1
      rw [List.getElem?_set_self (by rw [← s.len]; exact hl)] at k3
      cases r with
      | v d' => cases k1
      | ow zs =>
        obtain ⟨p, vs, e, g1, g2, g3, g4, g5, g6⟩ := rr
        exact g5 ⟨k, ys, k2, by rw [← k3, e]⟩
    rcases getElem?_set_cases h1 with ⟨e1, e2, e3⟩ | ⟨e1, e2⟩
    · rcases getElem?_set_cases h2 with ⟨f1, f2, f3⟩ | ⟨f1, f2⟩
      · rw [e1, f1]
      · exact (key j k xs ys e1 f1 h1 f2 e3 (by rw [h3, List.getElem?_set_ne f1.symm])).elim
    · rcases getElem?_set_cases h2 with ⟨f1, f2, f3⟩ | ⟨f1, f2⟩
      · exact (key k j ys xs f1 e1 h2 e2 f3 (by rw [← h3, List.getElem?_set_ne e1.symm])).elim
      · refine s.dis j k xs ys e2 f2 ?_
        rw [List.getElem?_set_ne e1.symm, List.getElem?_set_ne f1.symm] at h3
        exact h3
/-- a slot is forgotten -/
theorem SR.drop (i : Nat) (s : SR c F H σ ρ) : SR c F H σ (ρ.set i .un) where
  sub' := s.sub'
  f0 := s.f0
  h0 := s.h0
  n0 := s.n0
  src := s.src
  srcF := s.srcF
  len := by rw [List.length_set]; exact s.len
  sl := fun j d h => by
    rcases getElem?_set_cases h with ⟨e1, e2, e3⟩ | ⟨e1, e2⟩
    · cases e2
    · exact s.sl j d e2
  ow := fun j xs h => by
    rcases getElem?_set_cases h with ⟨e1, e2, e3⟩ | ⟨e1, e2⟩
    · cases e2
    · exact s.ow j xs e2
  dis := fun j k xs ys h1 h2 h3 => by
    rcases getElem?_set_cases h1 with ⟨e1, e2, e3⟩ | ⟨e1, e2⟩
    · cases e2
    · rcases getElem?_set_cases h2 with ⟨f1, f2, f3⟩ | ⟨f1, f2⟩
      · cases f2
      · exact s.dis j k xs ys e2 f2 h3
/-- an owned list is changed -/
theorem SR.grow {i : Nat} {p : Addr} {xs ys : D} {ws : HO} (s : SR c F H σ ρ) (hi : ρ[i]? = some (Sl.o xs)) (hp : σ[i]? = some (some (V.ref p))) (hr : HRep c.K c.S F p ws ys) :
    SR c F (upd H p ws) σ (ρ.set i (.o ys)) := by
  obtain ⟨p', vs, e1, e2, e3, e4, e5, e6⟩ := s.ow i xs hi
  rw [hp] at e1
  cases e1
  have hl : i < ρ.length := (List.getElem?_eq_some_iff.mp hi).1
  refine ⟨fun q o z => ?_, s.f0, fun q o z1 z2 => ?_, s.n0, s.src.upd e6 e2 e4.plain, s.srcF, by rw [List.length_set]; exact s.len, fun j d h => ?_, fun j zs h => ?_, fun j k zs zs' h1 h2 h3 => ?_⟩
  · exact kn_of (by rw [upd_ne (ne_of_none z e3)]; exact s.sub q o z) (kn_nt (s.sub' q o z))
  · rw [upd_ne (ne_of_none z1 e5)]; exact s.h0 q o z1 z2
  · rcases getElem?_set_cases h with ⟨f1, f2, f3⟩ | ⟨f1, f2⟩
    · cases f2
    · exact s.sl j d f2
  · rcases getElem?_set_cases h with ⟨f1, f2, f3⟩ | ⟨f1, f2⟩
    · cases f2; subst f1
      exact ⟨p, ws, hp, upd_same, e3, hr, e5, e6⟩
    · obtain ⟨q, us, a, b, d, f, g, k⟩ := s.ow j zs f2
      have hq : q ≠ p := fun e => f1 (s.dis j i zs xs f2 hi (by rw [a, hp, e]))
      exact ⟨q, us, a, by rw [upd_ne hq]; exact b, d, f, g, k⟩
  · have old : ∀ (j : Nat) (zs : D), (ρ.set i (.o ys))[j]? = some (Sl.o zs) → ∃ zs', ρ[j]? = some (Sl.o zs') := fun j zs h => by
      rcases getElem?_set_cases h with ⟨f1, f2, f3⟩ | ⟨f1, f2⟩
      · subst f1; exact ⟨_, hi⟩
      · exact ⟨_, f2⟩
    obtain ⟨_, a⟩ := old j zs h1
    obtain ⟨_, b⟩ := old k zs' h2
    exact s.dis j k _ _ a b h3
end
def dSeq (t u : DTS) : DTS := fun D ρ => t { D with nx := u D } ρ
def dNext : DTS := fun D ρ => D.nx ρ
def dSet (i : Nat) (te : DTE) : DTS := fun D ρ => te ρ fun r ρ1 => D.nx (ρ1.set i (toSl r))
def dPar (i j : Nat) (ta tb : DTE) : DTS := fun D ρ => ta ρ fun r1 ρ1 => tb ρ1 fun r2 ρ2 => D.nx ((ρ2.set i (toSl r1)).set j (toSl r2))
def dRet (te : DTE) : DTS := fun D ρ => te ρ fun r _ => D.rt r
def dRetN : DTS := fun D _ => D.rt (.v .non)
def dRetVar (i : Nat) : DTS := fun D ρ => match ρ[i]? with
  | some (.d x) => D.rt (.v x)
  | some (.o xs) => D.rt (.ow xs)
  | _ => False
def dDrop (te : DTE) : DTS := fun D ρ => te ρ fun _ ρ1 => D.nx ρ1
def dIfS (tt : DTT) (t u : DTS) : DTS := fun D ρ => tt ρ fun b ρ1 => if b = true then t D ρ1 else u D ρ1
def dBrk : DTS := fun D ρ => D.bk ρ
def dCnt : DTS := fun D ρ => D.ct ρ
def dApp (i : Nat) (te : DTE) : DTS := fun D ρ => (∃ xs, ρ[i]? = some (Sl.o (.lst xs))) ∧ te ρ fun r ρ1 => ∃ xs, ρ1[i]? = some (Sl.o (.lst xs)) ∧ xs.length < sizeLine ∧ D.nx (ρ1.set i (.o (.lst (xs ++ [fz r]))))
section
variable {c : C} {X : Cx} {st : Stmt} {rest : List Stmt} {t u : DTS} {a b e : Expr} {te ta tb : DTE} {tt : DTT} {pos : Pos}
theorem EndsOk.mono {D : Ends} {DD : DEnds} {F F' : Hp} (k : EndsOk c F D DD) (l : Le F F') : EndsOk c F' D DD :=
  ⟨fun σ H G ρ z s h => k.nx σ H G ρ (l.trans z) s h, fun σ v H G ρ r z s h => k.rt σ v H G ρ r (l.trans z) s h, fun σ H G ρ z s h => k.bk σ H G ρ (l.trans z) s h, fun σ H G ρ z s h => k.ct σ H G ρ (l.trans z) s h⟩
theorem EndsOk.seq {D : Ends} {DD : DEnds} {F : Hp} (k : EndsOk c F D DD) : EndsOk c F { D with nx := liftS c u D } { DD with nx := u DD } :=
  ⟨fun σ H F' ρ l s h => ⟨F', ρ, DD, s, h, k.mono l⟩, k.rt, k.bk, k.ct⟩
theorem dss_nil : PSs X [] (liftS c dNext) := PSs_imp pss_nil fun D σ H ⟨F, ρ, DD, s, h, k⟩ => k.nx σ H F ρ (Le.refl _) s h
theorem dss_cons (h1 : PS X st (liftS c t)) (h2 : PSs X rest (liftS c u)) : PSs X (st :: rest) (liftS c (dSeq t u)) :=
  PSs_imp (pss_cons h1 h2) fun D σ H ⟨F, ρ, DD, s, h, k⟩ => ⟨F, ρ, { DD with nx := u DD }, s, h, k.seq⟩
theorem dss_one (h1 : PS X st (liftS c t)) : PSs X [st] (liftS c t) := pss_one h1
theorem set_lift {i : Nat} {D : Ends} {σ : St} {H : Hp} (h : liftS c (dSet i te) D σ H) : tAsg (liftE c te) (gName i) D σ H := by
  obtain ⟨F, ρ, DD, s, h, k⟩ := h
  exact ⟨F, ρ, _, s, h, fun v H1 F1 ρ1 r s1 st1 rr nw q => k.nx _ H1 F1 _ st1.ff (s1.store rr) q⟩
theorem ds_set {i : Nat} {x : Str} {pos' : Pos} (hN : X.N.Nodup) (hi : X.N[i]? = some x) (hx : Loc X.env.scope x) (he : PE X e (liftE c te)) (hs : swapsWith e (some (.Name x pos')) pos.line X.env = pure false := by rfl) (hf : X.fn x = true ∨ X.env.scope.names.lookup x = some .local := by first | exact .inl rfl | exact .inr rfl | assumption) :
    PS X (.Assign [.Name x pos'] e pos) (liftS c (dSet i te)) := PS_imp (ps_set hN hi hx he hs hf) fun D σ H h => set_lift h
theorem store2 {σ : St} {F H Fb Hb : Hp} {ρ ρb : Rho} {i j : Nat} {v w : V} {r1 r2 : Res} (s : SR c F H σ ρ) (h1 : RR c σ F H ρ v r1) (h2 : RR c σ F H ρ w r2) (h1b : RR c σ Fb Hb ρb v r1) (n2 : New σ Hb ρb w r2) :
    SR c F H ((σ.set i (some v)).set j (some w)) ((ρ.set i (toSl r1)).set j (toSl r2)) := by
  refine (s.store h1).store ?_
  cases r2 with
  | v d => exact h2
  | ow ys =>
    obtain ⟨p, vs, e, a, b, d, f, g, k⟩ := h2
    refine ⟨p, vs, e, a, b, d, f, fun ⟨m, zs, z1, z2⟩ => ?_, k⟩
    rcases getElem?_set_cases z1 with ⟨f1, f2, f3⟩ | ⟨f1, f2⟩
    · subst f1
      rw [List.getElem?_set_self (by rw [← s.len]; exact f3)] at z2
      cases r1 with
      | v d' => cases f2
      | ow xs =>
        obtain ⟨p1, vs1, e1, a1, b1, d1, f1, g1, k1⟩ := h1b
        subst e1
        cases z2
        obtain ⟨p2, e2, n2⟩ := n2
        rw [e] at e2
        cases e2
        rw [kn_of a1 d1.plain.1] at n2; cases n2
    · rw [List.getElem?_set_ne f1.symm] at z2
      exact g ⟨m, zs, f2, z2⟩
theorem ds_par {i j : Nat} {x y : Str} {px py pt : Pos} {kt k2 pt2} (hc : X.calm = true) (hN : X.N.Nodup) (hi : X.N[i]? = some x) (hj : X.N[j]? = some y) (hij : i ≠ j)
    (hx : X.env.scope.names.lookup x = some .local) (hy : X.env.scope.names.lookup y = some .local) (ha : PE X a (liftE c ta)) (hb : PE X b (liftE c tb))
    (hw : swappedStores [.Tuple [.Name x px, .Name y py] kt pt] (.Tuple [a, b] k2 pt2) X.env = pure (some [x, y]))
    (he : starEach [a, b] X.env = (false, eval a X.env) :: starEach [b] X.env := by rfl) (he2 : starEach [b] X.env = (false, eval b X.env) :: starEach [] X.env := by rfl)
    (hs : swapsWithSole [.Tuple [.Name x px, .Name y py] kt pt] (.Tuple [a, b] k2 pt2) pos.line X.env = pure false := by rfl) :
    PS X (.Assign [.Tuple [.Name x px, .Name y py] kt pt] (.Tuple [a, b] k2 pt2) pos) (liftS c (dPar i j ta tb)) :=
  PS_imp (ps_par hc hN hi hj hij hx hy (pa_cons ha (pa_cons hb pa_nil he2) he) hw hs) fun D σ H ⟨F, ρ, DD, s, h, k⟩ =>
    ⟨F, ρ, (fun r1 ρ1 => tb ρ1 fun r2 ρ2 => DD.nx ((ρ2.set i (toSl r1)).set j (toSl r2))), s, h, fun v H1 F1 ρ1 r1 s1 st1 rr1 nw1 q1 =>
      ⟨F1, ρ1, (fun r2 ρ2 => DD.nx ((ρ2.set i (toSl r1)).set j (toSl r2))), s1, q1, fun w H2 F2 ρ2 r2 s2 st2 rr2 nw2 q2 =>
        ⟨v, w, rfl, k.nx _ H2 F2 _ (st1.ff.trans st2.ff) (store2 s2 (rr1.keep st2 s2) rr2 rr1 nw2) q2⟩⟩⟩
theorem ds_ret (he : PE X e (liftE c te)) : PS X (.Return (some e) pos) (liftS c (dRet te)) :=
  PS_imp (ps_ret he) fun D σ H ⟨F, ρ, DD, s, h, k⟩ => ⟨F, ρ, _, s, h, fun v H1 F1 ρ1 r s1 st1 rr nw q => k.rt σ v H1 F1 ρ1 r st1.ff s1 rr q⟩
theorem ds_retVar {i : Nat} {x : Str} {pos' : Pos} (hN : X.N[i]? = some x) (hv : Vis X.env.scope x) (hd : (x == ("__debug__" : Str)) = false := by decide) (hcd : (x == ("__classdict__" : Str)) = false := by decide) : PS X (.Return (some (.Name x pos')) pos) (liftS c (dRetVar i)) :=
  PS_imp (ps_ret (pe_var hN hv hd hcd)) fun D σ H ⟨F, ρ, DD, s, h, k⟩ => by
    unfold dRetVar at h
    split at h
    · rename_i d hi
      obtain ⟨v, a, b⟩ := s.sl i d hi
      exact ⟨v, a, k.rt σ v H F ρ (.v d) (Le.refl _) s b h⟩
    · rename_i xs hi
      obtain ⟨p, vs, e1, e2, e3, e4, e5, e6⟩ := s.ow i xs hi
      refine ⟨_, e1, k.rt σ _ H F _ (.ow xs) (Le.refl _) (s.drop i) ⟨p, vs, rfl, e2, e3, e4, e6, fun ⟨m, zs, z1, z2⟩ => ?_, e5⟩ h⟩
      rcases getElem?_set_cases z1 with ⟨f1, f2, f3⟩ | ⟨f1, f2⟩
      · cases f2
      · exact f1 (s.dis m i zs xs f2 hi (by rw [z2, e1]))
    · exact h.elim
theorem dretv (i : Nat) {x : Str} {pos' : Pos} (hN : X.N[i]? = some x := by rfl) (hv : Vis X.env.scope x := by first | exact Or.inl rfl | exact Or.inr (Or.inl rfl) | exact Or.inr (Or.inr rfl)) (hd : (x == ("__debug__" : Str)) = false := by decide) (hcd : (x == ("__classdict__" : Str)) = false := by decide) :
    PS X (.Return (some (.Name x pos')) pos) (liftS c (dRetVar i)) := ds_retVar hN hv hd hcd
theorem ds_if {cnd : Expr} {sa sb : List Stmt} (hc : PT X cnd (liftT c tt)) (ha : PSs X sa (liftS c t)) (hb : PSs X sb (liftS c u)) : PS X (.If cnd sa sb pos) (liftS c (dIfS tt t u)) :=
  PS_imp (ps_if hc ha hb) fun D σ H ⟨F, ρ, DD, s, h, k⟩ => by
    refine ⟨F, ρ, (fun b ρ1 => if b = true then t DD ρ1 else u DD ρ1), s, h, fun d H1 F1 ρ1 s1 st1 q1 => ?_⟩
    cases d with
    | true => rw [if_pos rfl] at q1 ⊢; exact ⟨F1, ρ1, DD, s1, q1, k.mono st1.ff⟩
    | false => rw [if_neg Bool.false_ne_true] at q1 ⊢; exact ⟨F1, ρ1, DD, s1, q1, k.mono st1.ff⟩
/-- x.append(e), x an owned slot -/
theorem ds_append {i : Nat} {x : Str} {p1 p2 p3 : Pos} (hN : X.N[i]? = some x) (hv : Vis X.env.scope x) (he : PE X e (liftE c te)) (hd : (x == ("__debug__" : Str)) = false := by decide) (hcd : (x == ("__classdict__" : Str)) = false := by decide)
    (hst : starEach [e] X.env = (false, eval e X.env) :: starEach [] X.env := by rfl) (hs : swapsWith (.Call (.Attribute (.Name x p1) "append" p2) [e] [] p3) none pos.line X.env = pure false := by rfl)
    (h1 : PE X (.Call (.Attribute (.Name x p1) "append" p2) [e] [] p3) (tBM X.K "list" rAppend (tVar i) (tCons (liftV c (frz te)) tNil)) := by exact (pe_bm PySem.F.plainAttrs_list PySem.F.slot_list_append PySem.F.type_list_append mt_append (pe_var ‹_› ‹_›) (pa_cons (froze ‹_›) pa_nil))) :
    PS X (.Expr (.Call (.Attribute (.Name x p1) "append" p2) [e] [] p3) pos) (liftS c (dApp i te)) :=
  PS_imp (ps_expr h1 hs) fun D σ H ⟨F, ρ, DD, s, h, k⟩ => by
    obtain ⟨⟨xs, hx⟩, h⟩ := h
    obtain ⟨p, vs, e1, e2, e3, e4, e5, e6⟩ := s.ow i _ hx
    cases e4
    refine ⟨.ref p, e1, .inl ⟨rfl, _, .inl (.inl e2)⟩, F, ρ, (fun d ρ1 => ∃ xs, ρ1[i]? = some (Sl.o (.lst xs)) ∧ xs.length < sizeLine ∧ DD.nx (ρ1.set i (.o (.lst (xs ++ [d]))))), s, h, fun v H1 F1 ρ1 d s1 st1 rv q => ?_⟩
    obtain ⟨ys, hy, hz, q⟩ := q
    obtain ⟨p', ws, g1, g2, g3, g4, g5, g6⟩ := s1.ow i _ hy
    cases g4
    rename_i ws g4
    rw [e1] at g1
    cases g1
    exact ⟨p, ws, v, rfl, rfl, g2, by rw [g4.length]; exact hz, k.nx σ _ F1 _ st1.ff (s1.grow hy e1 (.lst (g4.snoc rv))) q⟩
end
abbrev DTG := D → Rho → (Rho → Prop) → Prop
abbrev DTGs := List D → Rho → (Rho → Prop) → Prop
def liftG (c : C) (is : List Nat) (g : DTG) : TG := fun v σ H Q => ∃ F ρ d QD, SR c F H σ ρ ∧ Rep c.K c.S F v d ∧ g d ρ QD ∧
  ∀ σ' ρ', SR c F H σ' ρ' → (∀ j, j ∉ is → σ'[j]? = σ[j]? ∧ ρ'[j]? = ρ[j]?) → (∀ p, Own σ' ρ' p → Own σ ρ p) → σ'.length = σ.length → QD ρ' → Q σ' H
def liftGs (c : C) (is : List Nat) (g : DTGs) : TGs := fun vs σ H Q => ∃ F ρ ds QD, SR c F H σ ρ ∧ Reps c.K c.S F vs ds ∧ g ds ρ QD ∧
  ∀ σ' ρ', SR c F H σ' ρ' → (∀ j, j ∉ is → σ'[j]? = σ[j]? ∧ ρ'[j]? = ρ[j]?) → (∀ p, Own σ' ρ' p → Own σ ρ p) → σ'.length = σ.length → QD ρ' → Q σ' H
def dgName (i : Nat) : DTG := fun d ρ Q => Q (ρ.set i (.d d))
def dgNil : DTGs := fun ds ρ Q => ds = [] ∧ Q ρ
def dgCons (t : DTG) (u : DTGs) : DTGs := fun ds ρ Q => ∃ d r, ds = d :: r ∧ t d ρ fun ρ' => u r ρ' Q
def dgTup (n : Nat) (t : DTGs) : DTG := fun d ρ Q => ∃ ds, d = .tup ds ∧ ds.length = n ∧ t ds ρ Q
section
variable {c : C} {X : Cx} {pos : Pos}
theorem own_set {σ : St} {ρ : Rho} {i : Nat} {v : V} {d : D} {F H : Hp} (s : SR c F H σ ρ) {p : Addr} (h : Own (σ.set i (some v)) (ρ.set i (.d d)) p) : Own σ ρ p := by
  obtain ⟨m, zs, z1, z2⟩ := h
  rcases getElem?_set_cases z1 with ⟨f1, f2, f3⟩ | ⟨f1, f2⟩
  · cases f2
  · rw [List.getElem?_set_ne f1.symm] at z2
    exact ⟨m, zs, f2, z2⟩
theorem dg_name {i : Nat} {x : Str} (hN : X.N.Nodup) (hi : X.N[i]? = some x) (hx : Loc X.env.scope x) (hf : X.fn x = true ∨ X.env.scope.names.lookup x = some .local := by first | exact .inl rfl | exact .inr rfl | assumption) : PG X (.Name x pos) (liftG c [i] (dgName i)) :=
  PG_imp (pg_name hN hi hx hf) fun v σ H Q ⟨F, ρ, d, QD, s, r, h, k⟩ => by
    refine k (σ.set i (some v)) (ρ.set i (.d d)) (s.store (r := .v d) r) (fun j hj => ?_) (fun p z => own_set s z) (List.length_set ..) h
    have hj' : i ≠ j := fun e => hj (by rw [e]; exact List.mem_singleton_self _)
    exact ⟨List.getElem?_set_ne hj', List.getElem?_set_ne hj'⟩
theorem dgs_nil : PGs X [] (liftGs c [] dgNil) := PGs_imp pgs_nil fun vs σ H Q ⟨F, ρ, ds, QD, s, r, ⟨e, h⟩, k⟩ => by
  subst e
  cases r
  exact ⟨rfl, k σ ρ s (fun _ _ => ⟨rfl, rfl⟩) (fun _ z => z) rfl h⟩
theorem dgs_cons {e : Expr} {es : List Expr} {t : DTG} {u : DTGs} {is js : List Nat} (h1 : PG X e (liftG c is t)) (h2 : PGs X es (liftGs c js u))
    (hs : (assignEach (e :: es) X.env).map (·.2) = assign e X.env :: (assignEach es X.env).map (·.2) := by rfl) : PGs X (e :: es) (liftGs c (is ++ js) (dgCons t u)) :=
  PGs_imp (pgs_cons h1 h2 hs) fun vs σ H Q ⟨F, ρ, ds, QD, s, r, ⟨d, rd, e, h⟩, k⟩ => by
    subst e
    cases r with
    | cons r1 r2 =>
      refine ⟨_, _, rfl, F, ρ, d, _, s, r1, h, fun σ' ρ' s' f1 o1 l1 q => ?_⟩
      exact ⟨F, ρ', rd, QD, s', r2, q, fun σ'' ρ'' s'' f2 o2 l2 q2 => k σ'' ρ'' s'' (fun j hj => by
        have h1 := f1 j fun z => hj (List.mem_append_left _ z)
        have h2 := f2 j fun z => hj (List.mem_append_right _ z)
        exact ⟨h2.1.trans h1.1, h2.2.trans h1.2⟩) (fun p z => o1 p (o2 p z)) (l2.trans l1) q2⟩
theorem dg_tup {es : List Expr} {k : Nat} {t : DTGs} {n : Nat} {is : List Nat} (hc : X.calm = true) (hK : X.K = c.K) (h : PGs X es (liftGs c is t))
    (hn : (assignEach es X.env).length = n := by rfl) (hst : (assignEach es X.env).findIdx? (·.1) = none := by rfl) : PG X (.Tuple es k pos) (liftG c is (dgTup n t)) :=
  PG_imp (pg_tup hc h hn hst) fun v σ H Q ⟨F, ρ, d, QD, s, r, ⟨ds, e, hl, h⟩, k⟩ => by
    subst e
    cases r with
    | tup h1 h2 =>
      refine ⟨_, _, rfl, by rw [hK]; exact s.sub.seqT (.inl (.inl h1)), by rw [h2.length]; exact hl, F, ρ, ds, QD, s, h2, h, k⟩
end
/-- target = value, the target a tuple of names -/
def dAsg (te : DTE) (g : DTG) : DTS := fun D ρ => te ρ fun r ρ1 => g (fz r) ρ1 D.nx
end L2.DL
set_option Elab.async false
set_option linter.all false
set_option autoImplicit false
set_option maxRecDepth 100000
set_option maxHeartbeats 1000000
namespace L2.DL
open PySem PySem.Spec PyProof.Rows
/-- J gives out the data ds, as long as what is frozen in F1 stands -/
structure Walk (K : PySem.W.Frag) (S : Src) (J : It) (F1 : Hp) (ds : List D) : Prop where
  go : ∀ (F H : Hp) (i : Nat) (d : D), Le F1 F → Le F H → ds[i]? = some d → J.go i H ∧ ∀ x H', J.yld i H x H' → ∃ F', PExt F H F' H' ∧ Rep K S F' x d
  stop : ∀ (F H : Hp) (i : Nat), Le F1 F → Le F H → ds.length ≤ i → J.stop i H
abbrev DTI := Rho → (List D → Rho → Prop) → Prop
def liftI (c : C) (ti : DTI) : TI := fun σ H R => ∃ F ρ QD, SR c F H σ ρ ∧ ti ρ QD ∧ ∀ J H' F' ρ' ds, SR c F' H' σ ρ' → Stp c σ F H ρ F' H' ρ' → Walk c.K c.S J F' ds → QD ds ρ' → R J H'
def dLoop (g : DTG) (tb : DTS) (E : DEnds) : List D → Rho → Prop
  | [], ρ => E.nx ρ
  | x :: xs, ρ => g x ρ fun ρ2 => tb { E with nx := dLoop g tb E xs, ct := dLoop g tb E xs, bk := E.nx } ρ2
def dFor (ti : DTI) (g : DTG) (tb : DTS) : DTS := fun D ρ => ti ρ fun ds ρ1 => dLoop g tb D ds ρ1
def dItL (te : DTE) : DTI := fun ρ Q => te ρ fun r ρ1 => ∃ ds, fz r = .lst ds ∧ Q ds ρ1
def dItT (te : DTE) : DTI := fun ρ Q => te ρ fun r ρ1 => ∃ ds, fz r = .tup ds ∧ Q ds ρ1
section
variable {c : C} {X : Cx} {tg e iter : Expr} {te : DTE} {pos : Pos}
theorem walk_list {K : PySem.W.Frag} {S : Src} {F1 : Hp} {a : Addr} {vs : List V} {ds : List D} (h : LstAt K F1 a vs) (r : Reps K S F1 vs ds) : Walk K S (Itl K a) F1 ds where
  go := fun F H i d l1 l2 hd => by
    obtain ⟨v, hv, rv⟩ := r.get hd
    have hH : SqL K H a vs := (l1.lst h).sq l2
    exact ⟨⟨vs, v, hH, hv⟩, fun x H' y => by
      obtain ⟨e, y⟩ := y
      subst e
      have := y vs hH
      rw [hv] at this
      cases this
      exact ⟨F, .refl l2, rv.mono l1⟩⟩
  stop := fun F H i l1 l2 hl => ⟨vs, (l1.lst h).sq l2, by rw [r.length]; exact hl⟩
theorem walk_tup {K : PySem.W.Frag} {S : Src} {F1 : Hp} {a : Addr} {vs : List V} {ds : List D} (h : SqT K F1 a vs) (r : Reps K S F1 vs ds) : Walk K S (Itt K a) F1 ds where
  go := fun F H i d l1 l2 hd => by
    obtain ⟨v, hv, rv⟩ := r.get hd
    have hH : SqT K H a vs := l2.seqT (l1.seqT h)
    exact ⟨⟨vs, v, hH, hv⟩, fun x H' y => by
      obtain ⟨e, y⟩ := y
      subst e
      have := y vs hH
      rw [hv] at this
      cases this
      exact ⟨F, .refl l2, rv.mono l1⟩⟩
  stop := fun F H i l1 l2 hl => ⟨vs, l2.seqT (l1.seqT h), by rw [r.length]; exact hl⟩
theorem walk_rng {K : PySem.W.Frag} {S : Src} {F1 : Hp} (lo : Int) (n : Nat) : Walk K S (Itr lo n) F1 ((List.range n).map fun i => D.int (lo + (i : Nat))) where
  go := fun F H i d l1 l2 hd => by
    have hi : i < n := by
      have := (List.getElem?_eq_some_iff.mp hd).1
      simpa using this
    refine ⟨hi, fun x H' y => ?_⟩
    obtain ⟨e, y⟩ := y
    subst e; subst y
    rw [List.getElem?_map, List.getElem?_range hi] at hd
    cases hd
    exact ⟨F, .refl l2, .int _⟩
  stop := fun F H i l1 l2 hl => by
    have : n ≤ i := by simpa using hl
    exact this
theorem di_list (hK : X.K = c.K) (he : PE X e (liftE c te)) : PI X tg e (liftI c (dItL te)) :=
  PI_imp (pi_list (froze he)) fun σ H R ⟨F, ρ, QD, s, h, k⟩ =>
    ⟨F, ρ, (fun d ρ1 => ∃ ds, d = .lst ds ∧ QD ds ρ1), s, h, fun v H1 F1 ρ1 d s1 st1 rv q => by
      obtain ⟨ds, e, q⟩ := q
      subst e
      cases rv with
      | lst h1 h2 => exact ⟨_, rfl, ⟨_, by rw [hK]; exact h1.sq s1.sub⟩, k _ H1 F1 ρ1 ds s1 st1 (by rw [hK]; exact walk_list h1 h2) q⟩⟩
theorem di_tup (hK : X.K = c.K) (he : PE X e (liftE c te)) : PI X tg e (liftI c (dItT te)) :=
  PI_imp (pi_tup (froze he)) fun σ H R ⟨F, ρ, QD, s, h, k⟩ =>
    ⟨F, ρ, (fun d ρ1 => ∃ ds, d = .tup ds ∧ QD ds ρ1), s, h, fun v H1 F1 ρ1 d s1 st1 rv q => by
      obtain ⟨ds, e, q⟩ := q
      subst e
      cases rv with
      | tup h1 h2 => exact ⟨_, rfl, ⟨_, by rw [hK]; exact s1.sub.seqT (.inl (.inl h1))⟩, k _ H1 F1 ρ1 ds s1 st1 (by rw [hK]; exact walk_tup (.inl (.inl h1)) h2) q⟩⟩
/-- lo, lo + 1, .. -/
def rngD (lo : Int) (n : Nat) : List D := (List.range n).map fun i => D.int (lo + (i : Nat))
def dRng1 (t : DTA) : DTI := fun ρ Q => t ρ fun ds ρ1 => ∃ j : Int, ds = [.int j] ∧ -(2 ^ 62) ≤ j ∧ j < 2 ^ 62 ∧ Q (rngD 0 j.toNat) ρ1
def dRng2 (t : DTA) : DTI := fun ρ Q => t ρ fun ds ρ1 => ∃ i j : Int, ds = [.int i, .int j] ∧ (-(2 ^ 62) ≤ i ∧ i < 2 ^ 62 ∧ -(2 ^ 62) ≤ j ∧ j < 2 ^ 62) ∧ Q (rngD i (j - i).toNat) ρ1
theorem di_range1 {a : Expr} {t : DTA} {p : Pos} (hg : Gl X "range") (hm : X.mg "range" = none) (ha : PA X [a] (liftA c t)) (hs : starEach [a] X.env = [(false, eval a X.env)] := by rfl) : PI X tg (.Call (.Name "range" p) [a] [] pos) (liftI c (dRng1 t)) :=
  PI_imp (pi_range1 hg hm ha hs) fun σ H R ⟨F, ρ, QD, s, h, k⟩ =>
    ⟨F, ρ, _, s, h, fun vs H1 F1 ρ1 ds s1 st1 rv q => by
      obtain ⟨j, e, h1, h2, q⟩ := q
      subst e
      cases rv with
      | cons a b =>
        cases a; cases b
        exact ⟨j, rfl, h1, h2, k _ H1 F1 ρ1 _ s1 st1 (walk_rng 0 j.toNat) q⟩⟩
theorem di_range2 {a b : Expr} {t : DTA} {p : Pos} (hg : Gl X "range") (hm : X.mg "range" = none) (ha : PA X [a, b] (liftA c t)) (hs : starEach [a, b] X.env = [(false, eval a X.env), (false, eval b X.env)] := by rfl) (hs2 : starEach [b] X.env = [(false, eval b X.env)] := by rfl) :
    PI X tg (.Call (.Name "range" p) [a, b] [] pos) (liftI c (dRng2 t)) :=
  PI_imp (pi_range2 hg hm ha hs hs2) fun σ H R ⟨F, ρ, QD, s, h, k⟩ =>
    ⟨F, ρ, _, s, h, fun vs H1 F1 ρ1 ds s1 st1 rv q => by
      obtain ⟨i, j, e, h1, q⟩ := q
      subst e
      cases rv with
      | cons a b =>
        cases a
        cases b with
        | cons a b =>
          cases a; cases b
          exact ⟨i, j, rfl, h1, k _ H1 F1 ρ1 _ s1 st1 (walk_rng i (j - i).toNat) q⟩⟩
theorem ds_for {body : List Stmt} {ti : DTI} {g : DTG} {tb : DTS} {is : List Nat} (hp : PassesOwn (model X.prog X.w) X.A X.env X.xe) (hc : X.calm = true) (hi : PI X tg iter (liftI c ti)) (hg : PG X tg (liftG c is g)) (hb : PSs X body (liftS c tb))
    (hs : ∀ x, foldedSetIterable iter X.env x = pure x := by intro _; rfl) : PS X (.For tg iter body [] pos) (liftS c (dFor ti g tb)) :=
  PS_imp (ps_for hp hc hi hg hb hs) fun D σ H ⟨F, ρ, DD, s, h, k⟩ =>
    ⟨F, ρ, _, s, h, fun J H1 F1 ρ1 ds s1 st1 w q => by
      refine ⟨fun i m σ H => m = ds.length - i ∧ i ≤ ds.length ∧ ∃ F ρ, SR c F H σ ρ ∧ Le F1 F ∧ dLoop g tb DD (ds.drop i) ρ, ⟨ds.length, by simp, Nat.zero_le _, F1, ρ1, s1, Le.refl _, q⟩, ?_⟩
      rintro i m σ H ⟨rfl, hi, F2, ρ2, s2, l2, q2⟩
      by_cases hlt : i < ds.length
      · have hd : ds[i]? = some ds[i] := List.getElem?_eq_getElem hlt
        obtain ⟨go, yl⟩ := w.go F2 H i ds[i] l2 s2.sub hd
        refine .inr ⟨go, fun σ' H' => ∃ F ρ, SR c F H' σ' ρ ∧ Le F1 F ∧ dLoop g tb DD (ds.drop (i + 1)) ρ, fun σ' H' ⟨F', ρ', s', l', q'⟩ => ⟨ds.length - (i + 1), by omega, rfl, hlt, F', ρ', s', l', q'⟩, fun x H' y => ?_⟩
        obtain ⟨F3, pe, rx⟩ := yl x H' y
        rw [List.drop_eq_getElem_cons hlt] at q2
        have s3 := pe.sr s2
        have l3 : Le F1 F3 := l2.trans pe.ff
        refine ⟨F3, ρ2, ds[i], _, s3, rx, q2, fun σ' ρ' s' _ _ _ q' => ?_⟩
        refine ⟨F3, ρ', { DD with nx := dLoop g tb DD (ds.drop (i + 1)), ct := dLoop g tb DD (ds.drop (i + 1)), bk := DD.nx }, s', q', ?_⟩
        have lF : Le F F3 := st1.ff.trans l3
        exact ⟨fun σ4 H4 F4 ρ4 l4 s4 q4 => ⟨F4, ρ4, s4, l3.trans l4, q4⟩, fun σ4 v4 H4 F4 ρ4 r4 l4 s4 rr q4 => k.rt σ4 v4 H4 F4 ρ4 r4 (lF.trans l4) s4 rr q4, fun σ4 H4 F4 ρ4 l4 s4 q4 => k.nx σ4 H4 F4 ρ4 (lF.trans l4) s4 q4, fun σ4 H4 F4 ρ4 l4 s4 q4 => ⟨F4, ρ4, s4, l3.trans l4, q4⟩⟩
      · have e : i = ds.length := by omega
        subst e
        rw [List.drop_length] at q2
        exact .inl ⟨w.stop F2 H _ l2 s2.sub (Nat.le_refl _), k.nx σ H F2 ρ2 (st1.ff.trans l2) s2 q2⟩⟩
end
end L2.DL
set_option Elab.async false
set_option linter.all false
set_option autoImplicit false
set_option maxRecDepth 100000
set_option maxHeartbeats 1000000
namespace L2.DL
open PySem PySem.Spec PyProof.Rows
def dwipe (ρ : Rho) : List Nat → Rho
  | [] => ρ
  | v :: vs => (dwipe ρ vs).set v .un
def WP (ρ : Rho) (vs : List Nat) : Prop := ∀ (j : Nat), j ∈ vs → ∀ (s : Sl), ρ[j]? = some s → s = .un
theorem dwipe_length (ρ : Rho) : ∀ vs : List Nat, (dwipe ρ vs).length = ρ.length
  | [] => rfl
  | v :: vs => by unfold dwipe; rw [List.length_set, dwipe_length ρ vs]
theorem dwipe_get {ρ : Rho} {j : Nat} {s : Sl} : ∀ {vs : List Nat}, (dwipe ρ vs)[j]? = some s → s = .un ∨ (j ∉ vs ∧ ρ[j]? = some s)
  | [], h => .inr ⟨by simp, h⟩
  | v :: vs, h => by
    unfold dwipe at h
    rcases getElem?_set_cases h with ⟨e1, e2, e3⟩ | ⟨e1, e2⟩
    · exact .inl e2
    · rcases dwipe_get e2 with z | ⟨z1, z2⟩
      · exact .inl z
      · exact .inr ⟨by simp only [List.mem_cons, not_or]; exact ⟨e1, z1⟩, z2⟩
theorem dwipe_wp (ρ : Rho) : ∀ vs : List Nat, WP (dwipe ρ vs) vs := fun vs j hj s h => by
  rcases dwipe_get h with z | ⟨z1, z2⟩
  · exact z
  · exact absurd hj z1
section
variable {c : C} {σ σ' : St} {F H F' H' : Hp} {ρ : Rho}
/-- other slots, as far as they are spoken of -/
theorem SR.slots {ρ' : Rho} (s : SR c F H σ ρ) (hl : ρ'.length = σ'.length) (h : ∀ (j : Nat) (x : Sl), ρ'[j]? = some x → x = .un ∨ (ρ[j]? = some x ∧ σ'[j]? = σ[j]?)) : SR c F H σ' ρ' where
  sub' := s.sub'
  f0 := s.f0
  h0 := s.h0
  n0 := s.n0
  src := s.src
  srcF := s.srcF
  len := hl
  sl := fun j d z => by
    rcases h j _ z with e | ⟨e1, e2⟩
    · cases e
    · rw [e2]; exact s.sl j d e1
  ow := fun j xs z => by
    rcases h j _ z with e | ⟨e1, e2⟩
    · cases e
    · rw [e2]; exact s.ow j xs e1
  dis := fun j k xs ys z1 z2 z3 => by
    rcases h j _ z1 with e | ⟨e1, e2⟩
    · cases e
    · rcases h k _ z2 with f | ⟨f1, f2⟩
      · cases f
      · exact s.dis j k xs ys e1 f1 (by rw [← e2, ← f2]; exact z3)
theorem SR.wiped {vs : List Nat} (s : SR c F H σ ρ) (w : WP ρ vs) : SR c F H (wipe σ vs) ρ :=
  s.slots (by rw [wipe_length]; exact s.len) fun j x h => by
    by_cases hj : j ∈ vs
    · exact .inl (w j hj x h)
    · exact .inr ⟨h, wipe_out hj⟩
theorem SR.unwiped {vs : List Nat} (s : SR c F H σ' ρ) (hl : σ'.length = σ.length) (h : ∀ j, j ∉ vs → σ'[j]? = σ[j]?) : SR c F H σ (dwipe ρ vs) :=
  s.slots (by rw [dwipe_length, s.len, hl]) fun j x z => by
    rcases dwipe_get z with e | ⟨e1, e2⟩
    · exact .inl e
    · exact .inr ⟨e2, (h j e1).symm⟩
theorem SR.dwiped {vs : List Nat} (s : SR c F H σ ρ) : SR c F H σ (dwipe ρ vs) := s.unwiped rfl fun _ _ => rfl
end
theorem wipe_wiped {σ σ' : St} {vs is : List Nat} (hs : ∀ i ∈ is, i ∈ vs) (hl : σ'.length = σ.length) (h : ∀ j, j ∉ is → σ'[j]? = (wipe σ vs)[j]?) : wipe σ' vs = wipe σ vs := by
  have key : ∀ (vs : List Nat) (σ : St) (j : Nat), j ∈ vs → j < σ.length → (wipe σ vs)[j]? = some none := by
    intro vs
    induction vs with
    | nil => intro σ j hj; cases hj
    | cons v vs ih =>
      intro σ j hj hl
      unfold wipe
      by_cases e : v = j
      · subst e; rw [List.getElem?_set_self (by rw [wipe_length]; exact hl)]
      · rw [List.getElem?_set_ne e]
        exact ih σ j ((List.mem_cons.mp hj).resolve_left fun z => e z.symm) hl
  apply List.ext_getElem?
  intro j
  by_cases hj : j ∈ vs
  · by_cases hlt : j < σ.length
    · rw [key vs σ' j hj (by rw [hl]; exact hlt), key vs σ j hj hlt]
    · rw [List.getElem?_eq_none (by rw [wipe_length]; omega), List.getElem?_eq_none (by rw [wipe_length]; omega)]
  · rw [wipe_out hj, h j fun z => hj (hs j z)]
def dYes : DTT := fun ρ Q => Q true ρ
def dLcL (g : DTG) (tt : DTT) (te : DTE) (vs : List Nat) (Q : DQ) : List D → List D → Rho → Prop
  | [], acc, ρ => Q (.own acc) ρ
  | x :: xs, acc, ρ => g x ρ fun ρ2 => tt ρ2 fun b ρ3 => if b = true then te ρ3 fun r ρ4 => acc.length < sizeLine ∧ dLcL g tt te vs Q xs (acc ++ [fz r]) (dwipe ρ4 vs) else dLcL g tt te vs Q xs acc (dwipe ρ3 vs)
def dLc (ti : DTI) (g : DTG) (tt : DTT) (te : DTE) (vs : List Nat) : DTE := fun ρ Q => ti ρ fun ds ρ1 => dLcL g tt te vs Q ds [] (dwipe ρ1 vs)
section
variable {c : C} {X : Cx} {elt tg e iter : Expr} {ti : DTI} {g : DTG} {tt : DTT} {te : DTE} {pos : Pos} {vs is : List Nat}
theorem dts_nil : PTs X [] (liftT c dYes) := PTs_imp pts_nil fun σ H Q ⟨F, ρ, QD, s, h, k⟩ => k true H F ρ s Stp.refl h
theorem dts_one (h : PT X e (liftT c tt)) : PTs X [e] (liftT c tt) := pts_one h
theorem lc_lift (hs : ∀ i ∈ is, i ∈ vs) {σ : St} {H : Hp} {Q : VK} (h : liftE c (dLc ti g tt te vs) σ H Q) : tLc (liftI c ti) (liftG c is g) (liftT c tt) (liftV c (frz te)) vs σ H Q := by
  obtain ⟨F, ρ, QD, s, ht, k⟩ := h
  refine ⟨F, ρ, (fun ds ρ1 => dLcL g tt te vs QD ds [] (dwipe ρ1 vs)), s, ht, fun J H1 F1 ρ1 ds s1 st1 w q => ?_⟩
  intro A hA
  have cH0 : kn c.H0 A = none := s1.newH hA
  have nS : ¬ inS c.S A := s1.newS hA
  have nO : ¬ Own σ ρ1 A := s1.newO hA
  have fA : F1 A = none := free_of s1.sub hA
  have e1 : PExt F1 H1 F1 (upd H1 A (.lst [])) := PExt.own s1.sub hA
  refine ⟨fun i m Hn => m = ds.length - i ∧ i ≤ ds.length ∧ ∃ Fn ρn acc vacc, SR c Fn Hn σ ρn ∧ WP ρn vs ∧ Stp c σ F1 H1 ρ1 Fn Hn ρn ∧ Hn A = some (.lst vacc) ∧ Fn A = none ∧ Reps c.K c.S Fn vacc acc ∧ dLcL g tt te vs QD (ds.drop i) acc ρn,
    ⟨ds.length, by simp, Nat.zero_le _, F1, dwipe ρ1 vs, [], [], (e1.sr s1).dwiped, dwipe_wp _ _, ⟨e1.ff, fun p o z _ _ => e1.hh p o (kn_some z), fun p z => .inl z, fun p ⟨j, xs, z1, z2⟩ => by
      rcases dwipe_get z1 with z | ⟨_, z⟩
      · cases z
      · exact ⟨j, xs, z, z2⟩, e1.stp.tr (c := c) (σ := σ) (ρ := ρ1)⟩, upd_same, fA, .nil, q⟩, ?_⟩
  rintro i m Hn ⟨rfl, hi, Fn, ρn, acc, vacc, sn, wn, stn, hAn, fAn, rn, qn⟩
  by_cases hlt : i < ds.length
  · have hd : ds[i]? = some ds[i] := List.getElem?_eq_getElem hlt
    obtain ⟨go, yl⟩ := w.go Fn Hn i ds[i] stn.ff sn.sub hd
    refine .inr ⟨go, fun H' => ∃ Fn ρn acc vacc, SR c Fn H' σ ρn ∧ WP ρn vs ∧ Stp c σ F1 H1 ρ1 Fn H' ρn ∧ H' A = some (.lst vacc) ∧ Fn A = none ∧ Reps c.K c.S Fn vacc acc ∧ dLcL g tt te vs QD (ds.drop (i + 1)) acc ρn,
      fun H' z => ⟨ds.length - (i + 1), by omega, rfl, hlt, z⟩, fun x H' y => ?_⟩
    obtain ⟨F3, pe, rx⟩ := yl x H' y
    rw [List.drop_eq_getElem_cons hlt] at qn
    have s3 := pe.sr sn
    have st3 : Stp c σ F1 H1 ρ1 F3 H' ρn := stn.trans pe.stp
    have nOn : ¬ Own σ ρn A := fun z => nO (stn.oo A z)
    have hA3 : H' A = some (.lst vacc) := pe.hh _ _ hAn
    have fA3 : F3 A = none := by
      cases q : F3 A with
      | none => rfl
      | some o =>
        rcases pe.nn A (by rw [q]; simp) with z | z | ⟨_, z⟩
        · exact absurd fAn z
        · rw [hAn] at z; cases z
        · rw [hAn] at z; cases z
    have ownW : ∀ p, Own (wipe σ vs) ρn p → Own σ ρn p := fun p ⟨j, xs, z1, z2⟩ => by
      by_cases hj : j ∈ vs
      · cases wn j hj _ z1
      · exact ⟨j, xs, z1, by rw [← wipe_out hj]; exact z2⟩
    refine ⟨F3, ρn, ds[i], _, s3.wiped wn, rx, qn, fun σ2 ρ2 s4 f4 o4 l4 q4 => ?_⟩
    have l2 : σ2.length = σ.length := l4.trans (wipe_length σ vs)
    have hj2 : ∀ j, j ∉ vs → σ2[j]? = σ[j]? := fun j hj => ((f4 j fun z => hj (hs j z)).1).trans (wipe_out hj)
    have own2 : ∀ p, Own σ2 ρ2 p → Own σ ρn p := fun p z => ownW p (o4 p z)
    have ownB : ∀ {ρ5 : Rho} p, Own σ (dwipe ρ5 vs) p → Own σ2 ρ5 p := fun {ρ5} p ⟨j, xs, z1, z2⟩ => by
      rcases dwipe_get z1 with z | ⟨z, z3⟩
      · cases z
      · exact ⟨j, xs, z3, by rw [hj2 j z]; exact z2⟩
    -- what a test or an element has done, said of the outer slots
    have back : ∀ {F5 H5 : Hp} {ρ5 : Rho}, Stp c σ2 F3 H' ρ2 F5 H5 ρ5 → SR c F5 H5 σ2 ρ5 → Stp c σ F1 H1 ρ1 F5 H5 (dwipe ρ5 vs) ∧ H5 A = some (.lst vacc) ∧ F5 A = none := fun {F5 H5 ρ5} st5 s5 => by
      have st' : Stp c σ F3 H' ρn F5 H5 (dwipe ρ5 vs) := ⟨st5.ff, fun p o z1 z2 z3 => st5.hh p o z1 z2 fun z => z3 (own2 p z), fun p z => by
        rcases st5.nn p z with z | z | z | z
        · exact .inl z
        · exact .inr (.inl z)
        · exact .inr (.inr (.inl (own2 p z)))
        · exact .inr (.inr (.inr z)), fun p z => own2 p (st5.oo p (ownB p z)), st5.tr⟩
      refine ⟨st3.trans st', st5.hh A _ (kn_of hA3) nS fun z => nOn (own2 A z), ?_⟩
      cases q : F5 A with
      | none => rfl
      | some o =>
        rcases st5.nn A (by rw [q]; simp) with z | z | z | z
        · exact absurd fA3 z
        · exact (z.no hA3 (fun _ y => by cases y) (fun _ y => by cases y)).elim
        · exact absurd (own2 A z) nOn
        · exact absurd z nS
    refine ⟨wipe_wiped hs (l4.trans (wipe_length σ vs)) (fun j hj => (f4 j hj).1), F3, ρ2, (fun b ρ3 => if b = true then te ρ3 fun r ρ4 => acc.length < sizeLine ∧ dLcL g tt te vs QD (ds.drop (i + 1)) (acc ++ [fz r]) (dwipe ρ4 vs) else dLcL g tt te vs QD (ds.drop (i + 1)) acc (dwipe ρ3 vs)), s4, q4, fun b H5 F5 ρ5 s5 st5 q5 => ?_⟩
    cases b with
    | false =>
      rw [if_neg Bool.false_ne_true] at q5 ⊢
      obtain ⟨a1, a2, a3⟩ := back st5 s5
      exact ⟨F5, dwipe ρ5 vs, acc, vacc, s5.unwiped l2 hj2, dwipe_wp _ _, a1, a2, a3, Reps.mono (pe.ff.trans st5.ff) rn, q5⟩
    | true =>
      rw [if_pos rfl] at q5 ⊢
      refine ⟨F5, ρ5, (fun d ρ4 => acc.length < sizeLine ∧ dLcL g tt te vs QD (ds.drop (i + 1)) (acc ++ [d]) (dwipe ρ4 vs)), s5, q5, fun y H6 F6 ρ6 d s6 st6 ry q6 => ?_⟩
      obtain ⟨q6a, q6⟩ := q6
      obtain ⟨a1, a2, a3⟩ := back (st5.trans st6) s6
      have s7 := s6.unwiped l2 hj2
      have nO6 : ¬ Own σ (dwipe ρ6 vs) A := fun z => nO (a1.oo A z)
      have rn6 : Reps c.K c.S F6 vacc acc := Reps.mono (pe.ff.trans (st5.ff.trans st6.ff)) rn
      refine ⟨vacc, a2, by rw [rn6.length]; exact q6a, F6, dwipe ρ6 vs, acc ++ [d], vacc ++ [y], ?_, dwipe_wp _ _, ⟨a1.ff, fun p o z1 z2 z3 => ?_, a1.nn, a1.oo, fun p z => ?_⟩, upd_same, a3, rn6.snoc ry, q6⟩
      · refine ⟨fun q o z => ?_, s7.f0, fun q o z1 z2 => ?_, s7.n0, s7.src.upd nS a2, s7.srcF, s7.len, s7.sl, fun j xs z => ?_, s7.dis⟩
        · exact kn_of (by rw [upd_ne (ne_of_none z a3)]; exact s7.sub q o z) (kn_nt (s7.sub' q o z))
        · rw [upd_ne (ne_of_none z1 cH0)]; exact s7.h0 q o z1 z2
        · obtain ⟨q, us, a, b, d, f, g, k⟩ := s7.ow j xs z
          have hq : q ≠ A := fun e => nO6 ⟨j, xs, z, by rw [a, e]⟩
          exact ⟨q, us, a, by rw [upd_ne hq]; exact b, d, f, g, k⟩
      · rw [upd_ne (ne_of_none z1 (kn_none hA))]; exact a1.hh p o z1 z2 z3
      · by_cases hq : p = A
        · rw [hq, kn_of upd_same]; simp
        · rw [kn_same (upd_ne hq)]; exact a1.tr p z
  · have e : i = ds.length := by omega
    subst e
    rw [List.drop_length] at qn
    have nOn : ¬ Own σ ρn A := fun z => nO (stn.oo A z)
    exact .inl ⟨w.stop Fn Hn _ stn.ff sn.sub (Nat.le_refl _), k (.ref A) Hn Fn ρn (.own acc) sn (st1.trans stn) ⟨A, _, rfl, hAn, fAn, .lst rn, nS, nOn, cH0⟩ (New.back st1 s1 (r := .own acc) ⟨A, rfl, kn_none hA⟩) qn⟩
theorem de_lc {ifs : List Expr} {scope : Scope} {own : List (Str × Nat)} (hc : X.calm = true) (hN : X.N.Nodup) (hi : PI X tg iter (liftI c ti)) (ok : BlkOk X.N X.env.scope scope own) (hsub : ∀ i ∈ is, i ∈ own.map (·.2))
    (hg : ∀ (s : Shared) (H : Hp) (C : Addr) (cl : List (Str × Addr)) (fp : List Addr), PG (X.blk s H scope (compEnvC scope cl C X.env) fp) tg (liftG c is g)) (ht : ∀ (s : Shared) (H : Hp) (C : Addr) (cl : List (Str × Addr)) (fp : List Addr), PTs (X.blk s H scope (compEnvC scope cl C X.env) fp) ifs (liftT c tt))
    (he : ∀ (s : Shared) (H : Hp) (C : Addr) (cl : List (Str × Addr)) (fp : List Addr), PE (X.blk s H scope (compEnvC scope cl C X.env) fp) elt (liftE c te)) (hs : ∀ x, foldedSetIterable iter X.env x = pure x := by intro _; rfl) :
    PE X (.ListComp elt [⟨tg, iter, ifs, 0⟩] scope pos) (liftE c (dLc ti g tt te (own.map (·.2)))) :=
  PE_imp (pe_lc hc hN hi ok hg ht (fun s H C cl fp => froze (he s H C cl fp)) hs) fun σ H Q h => lc_lift hsub h
end
end L2.DL
set_option Elab.async false
set_option linter.all false
set_option autoImplicit false
set_option maxRecDepth 100000
set_option maxHeartbeats 1000000
namespace L2.DL
open PySem PySem.Spec PyProof.Rows
def dWhile (tt : DTT) (tb : DTS) : DTS := fun D ρ => ∃ W : Nat → Rho → Prop, (∃ m, W m ρ) ∧ ∀ m ρ, W m ρ →
  tt ρ fun b ρ1 => if b = true then tb { D with nx := fun ρ' => ∃ m', m' < m ∧ W m' ρ', ct := fun ρ' => ∃ m', m' < m ∧ W m' ρ', bk := D.nx } ρ1 else D.nx ρ1
section
variable {c : C} {X : Cx} {pos : Pos}
theorem ds_while {cnd : Expr} {body : List Stmt} {tt : DTT} {tb : DTS} (hp : PassesOwn (model X.prog X.w) X.A X.env X.xe) (hc : PT X cnd (liftT c tt)) (hb : PSs X body (liftS c tb)) : PS X (.While cnd body [] pos) (liftS c (dWhile tt tb)) :=
  PS_imp (ps_while hp hc hb) fun D σ H ⟨F, ρ, DD, s, ⟨W, ⟨m0, w0⟩, turn⟩, k⟩ => by
    refine ⟨fun m σ H => ∃ F' ρ', Le F F' ∧ SR c F' H σ ρ' ∧ W m ρ', ⟨m0, F, ρ, Le.refl _, s, w0⟩, ?_⟩
    rintro m σ H ⟨F1, ρ1, l1, s1, w1⟩
    refine ⟨F1, ρ1, _, s1, turn m ρ1 w1, fun b H2 F2 ρ2 s2 st2 q2 => ?_⟩
    have l2 := l1.trans st2.ff
    cases b with
    | true =>
      rw [if_pos rfl] at q2
      refine iteT ?_
      refine ⟨fun σ' H' => ∃ m', m' < m ∧ ∃ F' ρ', Le F F' ∧ SR c F' H' σ' ρ' ∧ W m' ρ', fun σ' H' z => z, F2, ρ2, _, s2, q2, ?_⟩
      exact ⟨fun σ4 H4 F4 ρ4 l4 s4 ⟨m', h1, h2⟩ => ⟨m', h1, F4, ρ4, l2.trans l4, s4, h2⟩, fun σ4 v4 H4 F4 ρ4 r4 l4 s4 rr q4 => k.rt σ4 v4 H4 F4 ρ4 r4 (l2.trans l4) s4 rr q4, fun σ4 H4 F4 ρ4 l4 s4 q4 => k.nx σ4 H4 F4 ρ4 (l2.trans l4) s4 q4, fun σ4 H4 F4 ρ4 l4 s4 ⟨m', h1, h2⟩ => ⟨m', h1, F4, ρ4, l2.trans l4, s4, h2⟩⟩
    | false =>
      rw [if_neg Bool.false_ne_true] at q2
      exact iteF (k.nx σ H2 F2 ρ2 l2 s2 q2)
end
abbrev DX := Addr → List (Str × D) → Prop
abbrev DSp := List D → (Res → Prop) → DX → Prop
structure Post (S : Src) (F H F' H' : Hp) : Prop where
  sub' : Le F' (kn H')
  ff : Le F F'
  hh : ∀ p o, kn H p = some o → ¬ inS S p → H' p = some o
  nn : ∀ p, F' p ≠ none → F p ≠ none ∨ TF H p
  src : SrcOk S H'
  srcF : ∀ p, inS S p → F' p = none
theorem Post.sub {S : Src} {F H F' H' : Hp} (e : Post S F H F' H') : Le F' H' := fun p o z => kn_some (e.sub' p o z)
/-- an exception's fields -/
def XRep (K : PySem.W.Frag) (S : Src) (F' H' : Hp) (od : Option Addr) (fds : List (Str × D)) : Prop :=
  (od = none ∧ fds = []) ∨ ∃ dx fs, od = some dx ∧ H' dx = some (.xd fs) ∧ fs.map (·.1) = fds.map (·.1) ∧ Reps K S F' (fs.map (·.2)) (fds.map (·.2))
/-- a result, as who calls sees it -/
def RR1 (K : PySem.W.Frag) (S : Src) (F' H H' : Hp) (v : V) : Res → Prop
  | .v d => Rep K S F' v d
  | .ow xs => ∃ p vs, v = .ref p ∧ kn H p = none ∧ H' p = some vs ∧ F' p = none ∧ HRep K S F' p vs xs
def spD (K : PySem.W.Frag) (sp : DSp) : Sp := fun vs H Q E => ∃ S F ds QD XD, Le F (kn H) ∧ SrcOk S H ∧ (∀ p, inS S p → F p = none) ∧ Reps K S F vs ds ∧ sp ds QD XD ∧
  (∀ v H' F' r, Post S F H F' H' → RR1 K S F' H H' v r → QD r → Q v H') ∧
  (∀ C od fds H' F', Post S F H F' H' → XRep K S F' H' od fds → XD C fds → E (.ref C) od H')
section
variable {c : C} {σ : St} {F H F' H' : Hp} {ρ : Rho}
theorem SR.post (s : SR c F H σ ρ) : Post c.S c.F0 c.H0 F H := ⟨s.sub', s.f0, s.h0, s.n0, s.src, s.srcF⟩
theorem Post.trans {S : Src} {F H F' H' F'' H'' : Hp} (a : Post S F H F' H') (b : Post S F' H' F'' H'') : Post S F H F'' H'' where
  sub' := b.sub'
  ff := a.ff.trans b.ff
  hh := fun p o z1 z2 => b.hh p o (kn_of (a.hh p o z1 z2) (kn_nt z1)) z2
  nn := fun p z => by
    rcases b.nn p z with y | y
    · exact a.nn p y
    · cases e : kn H p with
      | none => exact .inr (.inl e)
      | some o =>
        by_cases hs : inS S p
        · exact absurd (b.srcF p hs) z
        · rcases y with y | ⟨vs, y⟩
          · rw [kn_of (a.hh p o e hs) (kn_nt e)] at y
            cases y
          · rw [a.hh p o e hs] at y
            cases y
            exact .inr (.inr ⟨vs, kn_some e⟩)
  src := b.src
  srcF := b.srcF
theorem Post.sr (e : Post c.S F H F' H') (s : SR c F H σ ρ) : SR c F' H' σ ρ where
  sub' := e.sub'
  f0 := s.f0.trans e.ff
  h0 := fun p o h1 h2 => e.hh p o (kn_of (s.h0 p o h1 h2) (kn_nt h1)) h2
  n0 := fun p h => by
    rcases e.nn p h with z | z
    · exact s.n0 p z
    · refine .inr ?_
      cases q : kn c.H0 p with
      | none => exact .inl q
      | some o =>
        by_cases hs : inS c.S p
        · exact absurd (e.srcF p hs) h
        · rcases z with z | ⟨vs, z⟩
          · rw [kn_of (s.h0 p o q hs) (kn_nt q)] at z
            cases z
          · rw [s.h0 p o q hs] at z
            cases z
            exact .inr ⟨vs, kn_some q⟩
  src := e.src
  srcF := e.srcF
  len := s.len
  sl := fun i d h => let ⟨v, a, b⟩ := s.sl i d h; ⟨v, a, b.mono e.ff⟩
  ow := fun i xs h => by
    obtain ⟨p, vs, a, b, d, f, g, k⟩ := s.ow i xs h
    refine ⟨p, vs, a, e.hh _ _ (kn_of b f.plain.1) k, ?_, HRep.mono e.ff f, g, k⟩
    cases q : F' p with
    | none => rfl
    | some o =>
      rcases e.nn p (by rw [q]; simp) with z | z
      · exact absurd d z
      · exact (z.no b f.plain.1 f.notup).elim
  dis := s.dis
theorem Post.stp (s : SR c F H σ ρ) (e : Post c.S F H F' H') : Stp c σ F H ρ F' H' ρ := ⟨e.ff, fun p o h z _ => e.hh p o h z, fun p h => (e.nn p h).elim .inl fun z => .inr (.inl z), fun _ h => h, fun p h => by
  by_cases hs : inS c.S p
  · exact e.src.kn_there s.src hs h
  · cases q : kn H p with
    | none => exact absurd q h
    | some o => rw [kn_of (e.hh p o q hs) (kn_nt q)]; simp⟩
end
/-- where what is raised in the body goes -/
def Lnk (X : Cx) (c : C) (XD : DX) : Prop := ∃ W : WX, Takes X W ∧ ∀ C od fds F H σ, Post c.S c.F0 c.H0 F H → XRep c.K c.S F H od fds → XD C fds → W (.ref C) od σ H
def XNo : DX := fun _ _ => False
theorem lnk_blk {X : Cx} {c : C} {s : Shared} {H : Hp} {scope : Scope} {cenv : Env} {fp : List Addr} : Lnk (X.blk s H scope cenv fp) c XNo := ⟨fun _ _ _ _ => False, takes0, fun _ _ _ _ _ _ _ _ z => z⟩
structure FnG (P : Program) (w : World) (K : PySem.W.Frag) (mg : Str → Option Value) (base : Heap) (k : Nat) (f : Addr) (fd : FuncData) (ps : List Str) (sp : Sp) : Prop where
  len : ∀ vs H Q E, sp vs H Q E → vs.length = ps.length
  run : ∀ (A : Around) (outer : List Env) (s : Shared) (H : Hp) (args : Args) (us : List Value) (vs : List V) (Q : VK) (E : XK), A.guards = some [] → Room k A → Env0 P w K mg base A outer s H → BindsTo s fd args (ps.zip us) → Vals vs us →
    sp vs H Q E → codeAny (model P w) A (.call (.ref f) args) (CR (L2.CX P w) outer P w H s Q E) s
theorem FnG.mono {P : Program} {w : World} {K : PySem.W.Frag} {mg : Str → Option Value} {base : Heap} {j k : Nat} {f : Addr} {fd : FuncData} {ps : List Str} {sp : Sp} (F : FnG P w K mg base j f fd ps sp) (h : j ≤ k) : FnG P w K mg base k f fd ps sp :=
  ⟨F.len, fun A o s H a us vs Q E g r => F.run A o s H a us vs Q E g (r.mono h)⟩
section
variable {X : Cx} {k : Nat} {f C : Addr} {fd : FuncData} {ps : List Str} {sp : Sp} {E : XK} {pins : List (Addr × Obj)} {σ : L2.St} {H : Hp} {s : Shared} {Q : VK} {us : List Value} {vs : List V}
theorem runG (F : FnG X.prog X.w X.K X.mg X.base k f fd ps sp) (hgd : X.A.guards = some []) (hr : Room k X.A) (hb : Binds X.K fd ps []) (hx : Passes (L2.CX X.prog X.w) X E) (I : Inv X pins σ H s) (r : Vals vs us) (h : sp vs H Q E) :
    wpAny (model X.prog X.w) X.A (call (.ref f) us) (EP X pins σ Q) X.xe s := by
  have hl : us.length = ps.length := r.length.symm.trans (F.len _ _ _ _ h)
  have bt := hb s us I.kIn (by rw [List.append_nil]; exact hl)
  rw [List.append_nil] at bt
  refine wpAny_call (codeAny_mono (F.run X.A X.stack s H ⟨us, []⟩ us vs Q E hgd hr I.env0 bt r h) fun res s' => ?_)
  match res with
  | .error e => exact fun z => hx pins σ H s e s' I z
  | .ok (.ret u) => exact fun z => I.after z
  | .ok .next => exact fun z => z.elim
  | .ok .brk => exact fun z => z.elim
  | .ok .cont => exact fun z => z.elim
theorem runMk (M : Mk X.K C f) (F : FnG X.prog X.w X.K X.mg X.base k f fd ps sp) (hgd : X.A.guards = some []) (hr : Room (k + 1) X.A) (hb : Binds X.K fd ps []) (hx : Passes (L2.CX X.prog X.w) X E) (I : Inv X pins σ H s) (r : Vals vs us)
    (h : ∀ y dx, H y = none → H dx = none → dx ≠ y → sp (.ref y :: vs) (upd (upd H dx (.own y)) y (.ins C dx [])) (fun v H2 => v = .non ∧ Q (.ref y) H2) E) :
    wpAny (model X.prog X.w) X.A (call (.ref C) us) (EP X pins σ Q) X.xe s := by
  generalize hn : s.heap.objs.size = n
  have f1 : H n = none := I.hok.fresh (Nat.le_of_eq hn)
  have f2 : H (n + 1) = none := I.hok.fresh (by rw [hn]; exact Nat.le_succ n)
  have q := h (n + 1) n f2 f1 (Nat.ne_of_lt (Nat.lt_succ_self n))
  have J := Inv.made (C := C) I
  rw [hn] at J
  have r2 : Vals (V.ref (n + 1) :: vs) (Value.ref (n + 1) :: us) := .cons rfl r
  have hl := r2.length.symm.trans (F.len _ _ _ _ q)
  have bt := hb _ (Value.ref (n + 1) :: us) J.kIn (by rw [List.append_nil]; exact hl)
  rw [List.append_nil] at bt
  have gm : (X.A.under (.builtin "type.__call__" ⟨.ref C :: us, []⟩)).guards = some [] := by
    simp [Around.under, hgd, pushGuards, Code.guards, Code.isGuard, guardIds]
  have body := F.run _ X.stack _ _ ⟨Value.ref (n + 1) :: us, []⟩ (Value.ref (n + 1) :: us) _ _ E gm (hr.make C us []) (J.env0.make C us []) bt r2 q
  refine wpAny_call (make_map (f := f) I.kIn M.makes M.init (beq_iff_eq.mp M.fn) ?_)
  rw [hn]
  refine codeAny_mono body fun res s' => ?_
  match res with
  | .error e => exact fun z => hx pins σ _ _ e s' J z
  | .ok (.ret u) =>
    intro z
    obtain ⟨v, H', J', rv, ev, q3⟩ := J.after z
    subst ev
    exact ⟨rv, ⟨V.ref (n + 1), H', J', rfl, q3⟩⟩
  | .ok .next => exact fun z => z.elim
  | .ok .brk => exact fun z => z.elim
  | .ok .cont => exact fun z => z.elim
end
/-- a def of the text as callers see it -/
structure Callee (P : Program) (w : World) (K : PySem.W.Frag) (mg : Str → Option Value) (base : Heap) (k : Nat) (x : Str) (sp : DSp) : Prop where
  ex : ∃ (f : Addr) (fd : FuncData) (ps : List Str), FnG P w K mg base k f fd ps (spD K sp) ∧ mg x = some (.ref f) ∧ PySem.W.keepIn K (.ref f) = true ∧ Binds K fd ps []
theorem Callee.mono {P : Program} {w : World} {K : PySem.W.Frag} {mg : Str → Option Value} {base : Heap} {j k : Nat} {x : Str} {sp : DSp} (G : Callee P w K mg base j x sp) (h : j ≤ k) : Callee P w K mg base k x sp :=
  let ⟨f, fd, ps, a, b⟩ := G.ex
  ⟨f, fd, ps, a.mono h, b⟩
def dCall (sp : DSp) (XD : DX) (t : DTA) : DTE := fun ρ Q => t ρ fun ds ρ1 => sp ds (fun r => Q r ρ1) XD
/-- a method -/
structure CalleeM (P : Program) (w : World) (K : PySem.W.Frag) (mg : Str → Option Value) (base : Heap) (k : Nat) (C : Addr) (m : Str) (sp : DSp) : Prop where
  cl : Cls K C
  ex : ∃ (f : Addr) (fd : FuncData) (ps : List Str), Meth K C m f ∧ FnG P w K mg base k f fd ps (spD K sp) ∧ Binds K fd ps []
theorem CalleeM.mono {P : Program} {w : World} {K : PySem.W.Frag} {mg : Str → Option Value} {base : Heap} {j k : Nat} {C : Addr} {x : Str} {sp : DSp} (G : CalleeM P w K mg base j C x sp) (h : j ≤ k) : CalleeM P w K mg base k C x sp :=
  let ⟨f, fd, ps, a, b, d⟩ := G.ex
  ⟨G.cl, f, fd, ps, a, b.mono h, d⟩
def dMeth (C : Addr) (m : Str) (sp : DSp) (XD : DX) (te : DTE) (t : DTA) : DTE := fun ρ Q => te ρ fun r ρ1 => ∃ fs, fz r = .ins C fs ∧ fs.lookup m = none ∧ t ρ1 fun ds ρ2 => sp (.ins C fs :: ds) (fun r => Q r ρ2) XD
/-- a class, as who makes its instances sees it: the promise of C(..) -/
structure CalleeC (P : Program) (w : World) (K : PySem.W.Frag) (mg : Str → Option Value) (base : Heap) (k : Nat) (x : Str) (sp : DSp) : Prop where
  ex : ∃ (C f : Addr) (fd : FuncData) (ps : List Str) (spI : Sp), Mk K C f ∧ FnG P w K mg base k f fd ps spI ∧ mg x = some (.ref C) ∧ Binds K fd ps [] ∧
    ∀ vs H Q E, spD K sp vs H Q E → ∀ y dx, H y = none → H dx = none → dx ≠ y → spI (.ref y :: vs) (upd (upd H dx (.own y)) y (.ins C dx [])) (fun v H2 => v = .non ∧ Q (.ref y) H2) E
theorem lookup_none {α β : Type} {f : Str} : ∀ {fs : List (Str × α)} {gs : List (Str × β)}, fs.map (·.1) = gs.map (·.1) → gs.lookup f = none → fs.lookup f = none
  | [], [], _, _ => rfl
  | [], _ :: _, h, _ => by simp at h
  | _ :: _, [], h, _ => by simp at h
  | (a, x) :: fs, (b, y) :: gs, h, e => by
    simp only [List.map_cons, List.cons.injEq] at h
    obtain ⟨h1, h2⟩ := h
    subst h1
    rw [List.lookup_cons] at e ⊢
    split
    · rename_i hb
      rw [hb] at e
      cases e
    · rename_i hb
      rw [hb] at e
      exact lookup_none h2 e
theorem lookup_some {K : PySem.W.Frag} {S : Src} {F : Hp} {f : Str} {d : D} : ∀ {fs : List (Str × V)} {gs : List (Str × D)}, fs.map (·.1) = gs.map (·.1) → Reps K S F (fs.map (·.2)) (gs.map (·.2)) → gs.lookup f = some d → ∃ v, fs.lookup f = some v ∧ Rep K S F v d
  | [], [], _, _, h => by simp at h
  | [], _ :: _, h, _, _ => by simp at h
  | _ :: _, [], h, _, _ => by simp at h
  | (a, x) :: fs, (b, y) :: gs, h, r, e => by
    simp only [List.map_cons, List.cons.injEq] at h
    obtain ⟨h1, h2⟩ := h
    subst h1
    cases r with
    | cons r1 r2 =>
      rw [List.lookup_cons] at e ⊢
      split
      · rename_i hb
        rw [hb] at e
        cases e
        exact ⟨x, rfl, r1⟩
      · rename_i hb
        rw [hb] at e
        exact lookup_some h2 r2 e
section
variable {c : C} {X : Cx} {pos : Pos} {k : Nat} {x m : Str} {p apos : Pos} {e o : Expr} {es : List Expr} {te : DTE} {t : DTA} {sp : DSp} {XD : DX}
theorem RR1.rr {F H F' H' : Hp} {σ : St} {ρ : Rho} {v : V} {r : Res} (h : RR1 c.K c.S F' H H' v r) (s : SR c F H σ ρ) (pe : Post c.S F H F' H') : RR c σ F' H' ρ v r ∧ New σ H ρ v r := by
  cases r with
  | v d => exact ⟨h, trivial⟩
  | ow xs =>
    obtain ⟨p, vs, e, a, b, d, f⟩ := h
    have nS : ¬ inS c.S p := fun hs => by
      rcases hs with ⟨a1, q, z, hp⟩ | ⟨q, z⟩
      · obtain ⟨l, m, t, cs, h1, h2, _⟩ := s.src.ok a1 q z
        rcases hp with hp | hp
        · rw [hp, kn_of h1] at a; cases a
        · rw [hp, kn_of h2] at a; cases a
      · obtain ⟨ps, h1, _⟩ := pe.src.tab p q z
        rw [h1] at b
        cases b
        exact f.plain.1 _ rfl
    have nO : ¬ Own σ ρ p := fun ⟨i, ys, z1, z2⟩ => by
      obtain ⟨q, us, w1, w2, _, w3, _⟩ := s.ow i ys z1
      rw [z2] at w1
      cases w1
      rw [kn_of w2 w3.plain.1] at a
      cases a
    refine ⟨⟨p, vs, e, b, d, f, nS, nO, ?_⟩, ⟨p, e, a⟩⟩
    cases q : kn c.H0 p with
    | none => rfl
    | some o => rw [kn_of (s.h0 p o q nS) (kn_nt q)] at a; cases a
/-- the end of a call: from spD's wish to what follows -/
theorem call_done {σ : St} {F H F1 H1 : Hp} {ρ ρ1 : Rho} {Q : VK} {QD : DQ} (s1 : SR c F1 H1 σ ρ1) (st1 : Stp c σ F H ρ F1 H1 ρ1) (k : ∀ v H' F' ρ' r, SR c F' H' σ ρ' → Stp c σ F H ρ F' H' ρ' → RR c σ F' H' ρ' v r → New σ H ρ v r → QD r ρ' → Q v H') :
    ∀ v H' F' r, Post c.S F1 H1 F' H' → RR1 c.K c.S F' H1 H' v r → QD r ρ1 → Q v H' := fun v H' F' r pe rr q => by
  obtain ⟨r1, n1⟩ := rr.rr s1 pe
  refine k v H' F' ρ1 r (pe.sr s1) (st1.trans (pe.stp s1)) ?_ (New.back st1 s1 n1) q
  cases r with
  | v d => exact rr
  | ow xs => exact r1
theorem de_call (G : Callee X.prog X.w X.K X.mg X.base k x sp) (hK : X.K = c.K) (hgd : X.A.guards = some []) (hr : Room k X.A) (hg : Gl X x) (lk : Lnk X c XD) (ha : PA X (e :: es) (liftA c t)) (hdb : (x == ("__debug__" : Str)) = false := by decide)
    (he : starEach (e :: es) X.env = (false, eval e X.env) :: starEach es X.env := by rfl) (hpl : (backTo pos (starEach es X.env)).any (·.1) = false := by rfl) : PE X (.Call (.Name x p) (e :: es) [] pos) (liftE c (dCall sp XD t)) := by
  obtain ⟨f, fd, ps, F, hm, hk, hb⟩ := G.ex
  obtain ⟨W, tk, hW⟩ := lk
  refine ⟨fun pins s σ H Q I ⟨F0, ρ, QD, sr, h, kk⟩ => wpAny_Call_Name_kw (ld_glob I hg hm ?_ hdb)⟩
  have arg := ha.run pos pins s σ H (fun vs H1 => spD X.K sp vs H1 Q fun cls d H => ∀ σ, W cls d σ H) I ⟨F0, ρ, _, sr, h, fun vs H1 F1 ρ1 ds s1 st1 rv q => by
    rw [hK]
    exact ⟨c.S, F1, ds, _, _, s1.sub', s1.src, s1.srcF, rv, q, call_done s1 st1 kk, fun C od fds H' F' pe xr xd σ' => hW C od fds F' H' σ' (pe.sr s1).post xr xd⟩⟩
  exact PySem.W.callWith_K (h₀ := X.base) I.ok.mod.kin hk (thn arg fun us s1 ⟨vs, H1, I1, r, q⟩ => ⟨I1.kIn, runG F hgd hr hb (passes_call tk fun cls d σ H z => z σ) I1 r q⟩) he hpl
theorem de_make (G : CalleeC X.prog X.w X.K X.mg X.base k x sp) (hK : X.K = c.K) (hgd : X.A.guards = some []) (hr : Room (k + 1) X.A) (hg : Gl X x) (lk : Lnk X c XD) (ha : PA X (e :: es) (liftA c t)) (hdb : (x == ("__debug__" : Str)) = false := by decide)
    (he : starEach (e :: es) X.env = (false, eval e X.env) :: starEach es X.env := by rfl) (hpl : (backTo pos (starEach es X.env)).any (·.1) = false := by rfl) : PE X (.Call (.Name x p) (e :: es) [] pos) (liftE c (dCall sp XD t)) := by
  obtain ⟨C, f, fd, ps, spI, M, F, hm, hb, hI⟩ := G.ex
  obtain ⟨W, tk, hW⟩ := lk
  refine ⟨fun pins s σ H Q I ⟨F0, ρ, QD, sr, h, kk⟩ => wpAny_Call_Name_kw (ld_glob I hg hm ?_ hdb)⟩
  have arg := ha.run pos pins s σ H (fun vs H1 => spD X.K sp vs H1 Q fun cls d H => ∀ σ, W cls d σ H) I ⟨F0, ρ, _, sr, h, fun vs H1 F1 ρ1 ds s1 st1 rv q => by
    rw [hK]
    exact ⟨c.S, F1, ds, _, _, s1.sub', s1.src, s1.srcF, rv, q, call_done s1 st1 kk, fun C od fds H' F' pe xr xd σ' => hW C od fds F' H' σ' (pe.sr s1).post xr xd⟩⟩
  exact PySem.W.callWith_K (h₀ := X.base) I.ok.mod.kin M.kp (thn arg fun us s1 ⟨vs, H1, I1, r, q⟩ => ⟨I1.kIn, runMk M F hgd hr hb (passes_call tk fun cls d σ H z => z σ) I1 r (hI vs H1 Q _ q)⟩) he hpl
theorem de_meth0 {C : Addr} {pl : Sem Bool} (ho : PE X o (liftE c te)) (G : CalleeM X.prog X.w X.K X.mg X.base k C m sp) (hK : X.K = c.K) (hgd : X.A.guards = some []) (hr : Room k X.A) (lk : Lnk X c XD)
    (ht : eval (.Call (.Attribute o m apos) [] [] pos) X.env = (do let ov ← eval o X.env; standAt apos.atName; let (f, first) ← holding [ov] (getMethod ov m pl); callWith pos f first (backTo pos (starEach [] X.env)) (backToKw pos (keywordEach [] X.env))) := by rfl) :
    PE X (.Call (.Attribute o m apos) [] [] pos) (liftE c (dMeth C m sp XD te dNil)) := by
  obtain ⟨f, fd, ps, hm, F, hb⟩ := G.ex
  obtain ⟨W, tk, hW⟩ := lk
  refine ⟨fun pins s σ H Q I ⟨F0, ρ, QD, sr, h, kk⟩ => PySem.W.methodCall_KW (pl := pl) ?_ ht⟩
  refine thn ((froze ho).run pins s σ H (fun v H1 => ∃ a dx fs, v = .ref a ∧ H1 a = some (.ins C dx fs) ∧ fs.lookup m = none ∧ spD X.K sp [.ref a] H1 Q fun cls d H => ∀ σ, W cls d σ H) I
    ⟨F0, ρ, (fun d ρ1 => ∃ fs, d = .ins C fs ∧ fs.lookup m = none ∧ sp [.ins C fs] (fun r => QD r ρ1) XD), sr, h, fun v H1 F1 ρ1 d s1 st1 rv q => ?_⟩) fun u s1 ⟨x, H1, I1, rx, a, dx, fs, ex, ea, l, q⟩ => ?_
  · obtain ⟨fds, e, hl, q⟩ := q
    subst e
    cases rv with
    | ins h1 h2 h3 =>
      rename_i a dx fs
      refine ⟨a, dx, fs, rfl, s1.sub _ _ h1, lookup_none h2 hl, ?_⟩
      rw [hK]
      exact ⟨c.S, F1, [.ins C fds], _, _, s1.sub', s1.src, s1.srcF, .cons (.ins h1 h2 h3) .nil, q, call_done s1 st1 kk, fun C od fds H' F' pe xr xd σ' => hW C od fds F' H' σ' (pe.sr s1).post xr xd⟩
  · subst ex
    obtain rfl : u = Value.ref a := rx
    exact getmeth_ok I1 ea G.cl hm l (PySem.W.callWith_K0 (first := [.ref a]) I1.kIn hm.kp (runG (us := [.ref a]) (vs := [.ref a]) F hgd hr hb (passes_call tk fun cls d σ H z => z σ) I1 (.cons rfl .nil) q))
/-- e.f of an instance -/
def dFld (C : Addr) (f : Str) (te : DTE) : DTE := fun ρ Q => te ρ fun r ρ1 => ∃ fs d, fz r = .ins C fs ∧ fs.lookup f = some d ∧ Q (.v d) ρ1
theorem de_fld {C : Addr} {f : Str} (cl : Cls c.K C) (na : NoAttr c.K C f) (hK : X.K = c.K) (ho : PE X o (liftE c te)) (h : PE X o (liftV c (frz te)) → PE X (.Attribute o f pos) (tFld X.K (liftV c (frz te)) f) := by intro z; exact pe_fld z rfl) :
    PE X (.Attribute o f pos) (liftE c (dFld C f te)) :=
  PE_imp (h (froze ho)) fun σ H Q ⟨F, ρ, QD, s, ht, k⟩ =>
    ⟨F, ρ, (fun d ρ1 => ∃ fs d', d = .ins C fs ∧ fs.lookup f = some d' ∧ QD (.v d') ρ1), s, ht, fun v H1 F1 ρ1 d s1 st1 rv q => by
      obtain ⟨fds, d', e, hl, q⟩ := q
      subst e
      cases rv with
      | ins h1 h2 h3 =>
        rename_i a dx fs
        obtain ⟨u, hu, ru⟩ := lookup_some h2 h3 hl
        exact ⟨a, C, dx, fs, u, rfl, s1.sub _ _ h1, by rw [hK]; exact cl, by rw [hK]; exact na, hu, k u H1 F1 ρ1 (.v d') s1 st1 ru trivial q⟩⟩
end
def startD (N : List Str) (ds : List D) : Rho := ds.map Sl.d ++ List.replicate (N.length - ds.length) Sl.un
theorem start_sr {c : C} {N : List Str} {vs : List V} {ds : List D} {F H : Hp} (s : Le F (kn H)) (src : SrcOk c.S H) (srcF : ∀ p, inS c.S p → F p = none) (r : Reps c.K c.S F vs ds) (e1 : c.F0 = F) (e2 : c.H0 = H) : SR c F H (start N vs) (startD N ds) where
  sub' := s
  f0 := by rw [e1]; exact Le.refl _
  h0 := fun p o z _ => by rw [← e2]; exact kn_some z
  n0 := fun p z => .inl (by rw [e1]; exact z)
  src := src
  srcF := srcF
  len := by
    unfold startD start
    rw [List.length_append, List.length_append, List.length_map, List.length_map, List.length_replicate, List.length_replicate, r.length]
  sl := fun i d h => by
    unfold startD at h
    by_cases hi : i < ds.length
    · rw [List.getElem?_append_left (by rw [List.length_map]; exact hi), List.getElem?_map] at h
      cases e : ds[i]? with
      | none => rw [e] at h; cases h
      | some d' =>
        rw [e] at h
        cases h
        obtain ⟨v, hv, rv⟩ := r.get e
        refine ⟨v, ?_, rv⟩
        unfold start
        rw [List.getElem?_append_left (by rw [List.length_map, r.length]; exact hi), List.getElem?_map, hv]
        rfl
    · rw [List.getElem?_append_right (by rw [List.length_map]; omega), List.getElem?_replicate] at h
      split at h <;> cases h
  ow := fun i xs h => by
    unfold startD at h
    by_cases hi : i < ds.length
    · rw [List.getElem?_append_left (by rw [List.length_map]; exact hi), List.getElem?_map] at h
      cases e : ds[i]? with
      | none => rw [e] at h; cases h
      | some d' => rw [e] at h; cases h
    · rw [List.getElem?_append_right (by rw [List.length_map]; omega), List.getElem?_replicate] at h
      split at h <;> cases h
  dis := fun i j xs ys h => by
    unfold startD at h
    by_cases hi : i < ds.length
    · rw [List.getElem?_append_left (by rw [List.length_map]; exact hi), List.getElem?_map] at h
      cases e : ds[i]? with
      | none => rw [e] at h; cases h
      | some d' => rw [e] at h; cases h
    · rw [List.getElem?_append_right (by rw [List.length_map]; omega), List.getElem?_replicate] at h
      split at h <;> cases h
section
variable {P : Program} {w : World} {K : PySem.W.Frag} {mg : Str → Option Value} {base : Heap}
/-- a def by its body, where no repr is under way -/
theorem okGc {x qual : Str} {st : Stmt} {f : Addr} {fd : FuncData} {N ps : List Str} {k : Nat} {sp : Sp} (F : Fun K x qual st f fd) (S : FnScope N ps (defScope st)) (len : ∀ vs H Q E, sp vs H Q E → vs.length = ps.length)
    (body : ∀ (cdv : Value) (A : Around) (outer : List Env) (s : Shared) (H : Hp) (vs : List V) (Q : VK) (E : XK), (A.deeper (envOfC qual (defScope st) s.heap.objs.size f cdv)).guards = some [] → Room k (A.deeper (envOfC qual (defScope st) s.heap.objs.size f cdv)) → sp vs H Q E → fd.code = cdv →
      ∃ t, PSs (cxOf (L2.CX P w) P w K mg base N qual (defScope st) f cdv A outer s H E) (defBody st) t ∧ t { nx := fun _ H' => Q .non H', rt := Q } (start N vs) H) : FnG P w K mg base (k + 1) f fd ps sp := by
  obtain ⟨oc, od, kV, doc, pm, an, cdv, ct, osl, rfl, lk, hcd⟩ := F.ex
  refine ⟨len, fun A outer s H args us vs Q E hg hr e0 hb r hsp => ?_⟩
  have here : ∀ {b : Addr} {o : Obj}, base.get? b = some o → s.heap.get? b = some o := fun {b o} z => (e0.bs b o z).1
  have KX : K.In s.heap := e0.mod.kin.keeps fun _ _ z => here z
  have par : ∀ y ∈ ps.zip us, (defScope st).names.lookup y.1 = some .local ∨ ((defScope st).names.lookup y.1 = some .cell ∧ ((cellsFrom (s.heap.objs.size + 1) (defScope st).names []).lookup y.1).isSome = true) := by
    rintro ⟨n, v⟩ hy
    have hn := S.par n (List.of_mem_zip hy).1
    exact hn.imp id fun q => ⟨q, PySem.W.cellsFrom_some _ _ _ (.inl q)⟩
  obtain ⟨t, ht, hq⟩ := body cdv A outer s H vs Q E hg (hr.deeper _) hsp rfl
  refine codeAny_call_function hr.depth (KX _ _ lk) rfl S.co S.gen rfl (PySem.W.codeRec_of KX hcd) (hb _ _ _ _ (wpAny_newFunctionEnv_cells S.kind par fun env he s1 x => ?_))
  subst he
  refine ⟨(e0.mod.nolimit.keeps fun _ _ z => here z).keeps x.toInCall.keep, codeAny_func ?_⟩
  have I : Inv (cxOf (L2.CX P w) P w K mg base N qual (defScope st) f cdv A outer s H E) [] (start N vs) H s1 := inv_start S hr.hd e0 (len _ _ _ _ hsp) r x
  refine wpAny_mono (ht.run [] s1 (start N vs) H _ I hq) (fun fl s' => ?_) fun _ _ z => z
  match fl with
  | .ret u => exact fun ⟨v, σ', H', J, rv, q⟩ => ⟨v, H', J.os, J.bare, J.base, J.hok, rv, q⟩
  | .next => exact fun ⟨σ', H', J, q⟩ => ⟨V.non, H', J.os, J.bare, J.base, J.hok, rfl, q⟩
  | .brk => exact fun ⟨_, _, _, q⟩ => q.elim
  | .cont => exact fun ⟨_, _, _, q⟩ => q.elim
/-- a def by its body, where no repr is under way -/
theorem okG {x qual : Str} {st : Stmt} {f : Addr} {fd : FuncData} {N ps : List Str} {k : Nat} {sp : Sp} (F : Fun K x qual st f fd) (S : FnScope N ps (defScope st)) (len : ∀ vs H Q E, sp vs H Q E → vs.length = ps.length)
    (body : ∀ (cdv : Value) (A : Around) (outer : List Env) (s : Shared) (H : Hp) (vs : List V) (Q : VK) (E : XK), (A.deeper (envOfC qual (defScope st) s.heap.objs.size f cdv)).guards = some [] → Room k (A.deeper (envOfC qual (defScope st) s.heap.objs.size f cdv)) → sp vs H Q E →
      ∃ t, PSs (cxOf (L2.CX P w) P w K mg base N qual (defScope st) f cdv A outer s H E) (defBody st) t ∧ t { nx := fun _ H' => Q .non H', rt := Q } (start N vs) H) : FnG P w K mg base (k + 1) f fd ps sp := okGc F S len fun cdv A outer s H vs Q E hg hr h _ => body cdv A outer s H vs Q E hg hr h
/-- from the body's reading over data to the def's promise -/
theorem fnD {x qual : Str} {st : Stmt} {f : Addr} {fd : FuncData} {N ps : List Str} {k : Nat} {sp : DSp} (F : Fun K x qual st f fd) (S : FnScope N ps (defScope st)) (len : ∀ ds QD XD, sp ds QD XD → ds.length = ps.length)
    (hbody : ∀ (cdv : Value) (A : Around) (outer : List Env) (s : Shared) (H : Hp) (E : XK) (c : C) (XD : DX), (A.deeper (envOfC qual (defScope st) s.heap.objs.size f cdv)).guards = some [] → Room k (A.deeper (envOfC qual (defScope st) s.heap.objs.size f cdv)) → c.K = K →
      PassesOwn (model P w) (A.deeper (envOfC qual (defScope st) s.heap.objs.size f cdv)) (cxOf (L2.CX P w) P w K mg base N qual (defScope st) f cdv A outer s H E).env (cxOf (L2.CX P w) P w K mg base N qual (defScope st) f cdv A outer s H E).xe →
      Lnk (cxOf (L2.CX P w) P w K mg base N qual (defScope st) f cdv A outer s H E) c XD →
      ∃ t, PSs (cxOf (L2.CX P w) P w K mg base N qual (defScope st) f cdv A outer s H E) (defBody st) (liftS c t) ∧ ∀ ds QD, sp ds QD XD → t { nx := fun _ => QD (.v .non), rt := QD } (startD N ds)) :
    FnG P w K mg base (k + 1) f fd ps (spD K sp) := by
  refine okG F S (fun vs H Q E ⟨S', F', ds, QD, XD, _, _, _, r, h, _⟩ => by rw [r.length]; exact len ds QD XD h) fun cdv A outer s H vs Q E hgd hr h => ?_
  obtain ⟨S', F', ds, QD, XD, sub, src, srcF, r, h, hq, hx⟩ := h
  have tk : Takes (cxOf (L2.CX P w) P w K mg base N qual (defScope st) f cdv A outer s H E) (fun cls d _ H => E cls d H) := takes_of rfl rfl rfl rfl
  obtain ⟨t, ht, q⟩ := hbody cdv A outer s H E ⟨K, S', F', H⟩ XD hgd hr rfl (passes_of rfl) ⟨_, tk, fun C od fds F2 H2 _ pe xr xd => hx C od fds H2 F2 pe xr xd⟩
  refine ⟨_, ht, F', startD N ds, _, start_sr sub src srcF r rfl rfl, q ds QD h, ?_⟩
  have rt : RtOk ⟨K, S', F', H⟩ F' { nx := fun _ H' => Q .non H', rt := Q } { nx := fun _ => QD (.v .non), rt := QD } := fun σ v H2 F2 ρ r2 l2 s2 rr q2 => by
    refine hq v H2 F2 r2 s2.post ?_ q2
    cases r2 with
    | v d => exact rr
    | ow xs =>
      obtain ⟨p, vs, e, a, b, d, f, g, k⟩ := rr
      exact ⟨p, vs, e, k, a, b, d⟩
  exact ⟨fun σ H2 F2 ρ l2 s2 q2 => rt σ .non H2 F2 ρ (.v .non) l2 s2 .non q2, rt, fun _ _ _ _ _ _ z => z, fun _ _ _ _ _ _ z => z⟩
end
end L2.DL
set_option Elab.async false
set_option linter.all false
set_option autoImplicit false
set_option maxRecDepth 100000
set_option maxHeartbeats 1000000
namespace L2.DL
open PySem PySem.Spec PyProof.Rows
def rRepr (K : PySem.W.Frag) : List V → Hp → VK → Prop := fun xs H Q => ∃ (a : Addr) (d : PyData), xs = [.ref a] ∧ Dp K H (.ref a) d ∧ d.showable = true ∧ d.hasDict = false ∧ d.depth ≤ 60 ∧ d.shown.length ≤ sizeLine ∧ Q (.str d.shown) H
theorem cr_repr {X : Cx} (hgd : X.A.guards = some []) (hu : X.A.units + 64 < cLine) : CallR X (.builtin "repr") (rRepr X.K) := by
  intro pins s σ H xs us Q I r ⟨a, d, e, dp, sh, nd, dep, sz, q⟩
  subst e
  rw [Vals.ref1 r]
  obtain ⟨as, rd⟩ := Dp.reads I d (.ref a) (.ref a) dp rfl
  exact repr_of_reads' rd sh (PyData.noDict_hsm nd) hgd (by omega) (fun _ _ z => z) (fun h' u tk hk => ⟨.str d.shown, H, I.kept (t' := tk) hk, ⟨u, rfl⟩, q⟩) sz
theorem pairedAt {α β : Type} {G : α → β → Prop} : ∀ {xs : List α} {ys : List β} {i : Nat} {x : α}, Paired G xs ys → xs[i]? = some x → ∃ y, ys[i]? = some y ∧ G x y
  | _, _, i, x, .nil, h => by simp at h
  | _, _, 0, x, .cons a b, h => by simp at h; subst h; exact ⟨_, rfl, a⟩
  | _, _, i + 1, x, .cons a b, h => by
    obtain ⟨y, h1, h2⟩ := pairedAt (i := i) (x := x) b (by simpa using h)
    exact ⟨y, by simpa using h1, h2⟩
def tListVals (te : TE) : TE := fun σ H Q => te σ H fun x H1 => ∃ d kvs, x = .ref d ∧ H1 d = some (.dK kvs) ∧ ∀ p, H1 p = none → Q (.ref p) (upd H1 p (.lst (kvs.map (·.2))))
theorem pe_listVals {X : Cx} {e : Expr} {te : TE} {p apos cpos pos : Pos} (hc : X.calm = true) (he : PE X e te) (hg : Gl X "list") (hm : X.mg "list" = none) (hv : bootBuiltins "list" = some (.type "list") := by decide +kernel) (hbase : attributeBase e "values" X.env (eval e X.env) = eval e X.env := by rfl)
    (hline : (apos.endLine == cpos.line) = true := by rfl) (hs : starEach [.Call (.Attribute e "values" apos) [] [] cpos] X.env = (false, eval (.Call (.Attribute e "values" apos) [] [] cpos) X.env) :: starEach [] X.env := by rfl) :
    PE X (.Call (.Name "list" p) [.Call (.Attribute e "values" apos) [] [] cpos] [] pos) (tListVals te) := by
  refine ⟨fun pins s σ H Q I hq => wpAny_Call_Name_kw (ld_blt I hg hm hv (PyProof.Rows.callWith_type1 ?_ hs rfl))⟩
  rw [hs]
  show wpAny _ _ (spliced ((false, eval (.Call (.Attribute e "values" apos) [] [] cpos) X.env) :: backTo pos (starEach [] X.env))) _ _ s
  refine Calls.spliced_cons (wpAny_Call_method (T := "dict") (id := "dict.values") hbase rfl hline F.plainAttrs_dict F.slot_dict_values F.type_dict_values (thn (he.run pins s σ H _ I hq) fun u s1 ⟨x, H1, I1, rx, d, kvs, ex, hd, q⟩ => ?_))
  subst ex
  obtain rfl : u = Value.ref d := rx
  obtain ⟨hz, lo, vs, kv, hdo⟩ := I1.hok d _ hd
  obtain ⟨ep, hat⟩ := hdo.dictAt
  have lk : kvs.length = vs.length := Paired.length kv
  have I2 : Inv X pins σ H1 { s1 with heap := s1.heap.push { cls := .type "dict_values", data := .fields #[.ref d] } } := I1.kept (t' := s1.toks) fun b ob q => Heap.get?_push_of_some _ q
  refine ⟨hdo.typeIs, hdo.mapOf.noDict, ?_⟩
  show wpAny _ _ (callWith cpos (.builtin "dict.values") [.ref d] [] []) _ X.xe s1
  refine method_meetsIn F.slot_dict_values F.entry_dict_values rfl (PySem.evalArgs_none ⟨rfl, hdo.typeIs, F.args_dict_values_1 _, _, meets_dict_values (mixKind X.prog X.w) d lo, ⟨vs, hdo⟩, Calls.spliced_nil ?_⟩)
  refine PySem.W.kdl_call (PySem.W.kdl_values (knd := mixKind X.prog X.w) (kvs := vs) (ep := ep)) (I1.ok.hd hc) ⟨⟨_, Heap.get?_push_size _ rfl, rfl, rfl⟩, hat.push _⟩ (by omega) fun h' tk acc c hk hS hacc => ?_
  refine ⟨.ref _, _, I2.laid (t' := tk) hk (Nat.le_refl _) (show ObjOk X.prog X.w _ _ _ (.lst (kvs.map (·.2))) from ⟨by rw [List.length_map]; exact hz, acc.toList, c, ?_, by rw [Array.toArray_toList]; exact hS⟩), rfl, q _ (I2.hok.fresh (Nat.le_refl _))⟩
  have el : acc.toList.length = acc.size := by simp
  refine vals_of_at (by rw [List.length_map, el, hacc.1, lk]) fun j x w h1 h2 => ?_
  obtain ⟨k, hy⟩ := hacc.2 j w (by rw [← Array.getElem?_toList]; exact h2)
  rw [List.getElem?_map] at h1
  obtain ⟨⟨k', x'⟩, e1, e2⟩ := Option.map_eq_some_iff.mp h1
  subst e2
  obtain ⟨⟨k2, w2⟩, e3, r1, r2⟩ := pairedAt kv e1
  rw [hy] at e3
  cases e3
  exact r2
/-- two lists, wherever they stand -/
def rCatS (K : PySem.W.Frag) : R2 := fun x y H Q => ∃ l b xs zs, x = .ref l ∧ y = .ref b ∧ SqL K H l xs ∧ SqL K H b zs ∧ xs.length + zs.length ≤ sizeLine ∧ ∀ p, H p = none → Q (.ref p) (upd H p (.lst (xs ++ zs)))
theorem op_catS {X : Cx} : OpR X (binaryOp .Add) (rCatS X.K) := by
  intro pins s σ H x y v u Q I rx ry ⟨l, b, xs, zs, e1, e2, hH, hB, hz, q⟩
  subst e1; subst e2
  cases rx
  cases ry
  obtain ⟨its, r, pl, _⟩ := I.list hH
  obtain ⟨its2, r2, pl2, _⟩ := I.list hB
  obtain ⟨⟨c1, d1, da1, sl1⟩, g1, k1, n1, j1⟩ := id pl.isList
  obtain ⟨⟨c2, d2, da2, sl2⟩, g2, k2, n2, j2⟩ := id pl2.isList
  simp only at k1 j1 k2 j2
  subst k1 j1 k2 j2
  have hsz : its.toArray.size + its2.toArray.size ≤ sizeLine := by rw [List.size_toArray, List.size_toArray, ← r.length, ← r2.length]; exact hz
  refine concat_meets ⟨_, g1, rfl⟩ ⟨_, g2, rfl⟩ noFill_list_add seq_list_add PySem.F.slot_list_add PySem.F.entry_list_add (PySem.F.args_list_add_2 _ _) (list_addW l b its.toArray its2.toArray n1 n2 d1 d2 sl1 sl2 hsz) ⟨g1, g2, ?_⟩
  rw [show its.toArray ++ its2.toArray = (its ++ its2).toArray by simp]
  exact ⟨.ref _, _, I.lnew (t' := s.toks) (r.append r2) (by rw [List.length_append]; exact hz), rfl, q _ I.fresh⟩
end L2.DL
set_option Elab.async false
set_option linter.all false
set_option autoImplicit false
set_option maxRecDepth 100000
set_option maxHeartbeats 1000000
namespace L2.DL
open PySem PySem.Spec PyProof.Rows
mutual
def py : D → PyData
  | .bl b => .bool b
  | .int i => .int i
  | .str x => .str x
  | .lst xs => .list (pys xs)
  | .tup xs => .tuple (pys xs)
  | _ => .none
def pys : List D → List PyData
  | [] => []
  | x :: xs => py x :: pys xs
end
mutual
def plain : D → Bool
  | .non => true
  | .bl _ => true
  | .int _ => true
  | .str _ => true
  | .lst xs => plains xs
  | .tup xs => plains xs
  | _ => false
def plains : List D → Bool
  | [] => true
  | x :: xs => plain x && plains xs
end
mutual
theorem Rep.dp {K : PySem.W.Frag} {S : Src} {F : Hp} : ∀ {v : V} {d : D}, Rep K S F v d → plain d = true → Dp K F v (py d)
  | _, _, .non, _ => by simp only [py]; exact .non
  | _, _, .bl b, _ => by simp only [py]; exact .bl b
  | _, _, .int i, _ => by simp only [py]; exact .int i
  | _, _, .str x, _ => by simp only [py]; exact .str x
  | _, _, .lst h r, p => by simp only [py]; exact .lst h.here (Reps.dp r (by simpa only [plain] using p))
  | _, _, .tup h r, p => by simp only [py]; exact .tup (.inl (.inl h)) (Reps.dp r (by simpa only [plain] using p))
  | _, _, .ty n, p => by simp [plain] at p
  | _, _, .dct _ _ _, p => by simp [plain] at p
  | _, _, .dcT _ _ _, p => by simp [plain] at p
  | _, _, .dcL _ _ _, p => by simp [plain] at p
  | _, _, .dcI _ _ _, p => by simp [plain] at p
  | _, _, .ins _ _ _, p => by simp [plain] at p
  | _, _, .iset _ _ _ _, p => by simp [plain] at p
  | _, _, .src _, p => by simp [plain] at p
theorem Reps.dp {K : PySem.W.Frag} {S : Src} {F : Hp} : ∀ {vs : List V} {ds : List D}, Reps K S F vs ds → plains ds = true → DpAll K F vs (pys ds)
  | _, _, .nil, _ => by simp only [pys]; exact .nil
  | _, _, .cons a b, p => by
    simp only [plains, Bool.and_eq_true] at p
    simp only [pys]
    exact .cons (Rep.dp a p.1) (Reps.dp b p.2)
end
def uins (x : Int) : List Int → List Int
  | [] => [x]
  | y :: ys => if x < y then x :: y :: ys else if x = y then y :: ys else y :: uins x ys
def uset : List Int → List Int
  | [] => []
  | x :: xs => uins x (uset xs)
theorem mem_uins {x z : Int} : ∀ {l : List Int}, z ∈ uins x l ↔ z = x ∨ z ∈ l
  | [] => by simp [uins]
  | y :: ys => by
    unfold uins
    split
    · simp
    · split
      · rename_i h; subst h; simp
      · simp only [List.mem_cons, mem_uins (l := ys)]
        constructor
        · rintro (h | h | h) <;> simp [h]
        · rintro (h | h | h) <;> simp [h]
theorem mem_uset {z : Int} : ∀ {l : List Int}, z ∈ uset l ↔ z ∈ l
  | [] => by simp [uset]
  | x :: xs => by unfold uset; rw [mem_uins, mem_uset (l := xs), List.mem_cons]
theorem uins_lt {x : Int} : ∀ {l : List Int}, l.Pairwise (· < ·) → (uins x l).Pairwise (· < ·)
  | [], _ => by simp [uins]
  | y :: ys, h => by
    unfold uins
    rw [List.pairwise_cons] at h
    split
    · rename_i hx
      rw [List.pairwise_cons, List.pairwise_cons]
      exact ⟨fun z hz => (List.mem_cons.mp hz).elim (fun e => by rw [e]; exact hx) fun hz => Int.lt_trans hx (h.1 z hz), h⟩
    · split
      · exact List.pairwise_cons.mpr h
      · rename_i h1 h2
        rw [List.pairwise_cons]
        exact ⟨fun z hz => (mem_uins.mp hz).elim (fun e => by omega) fun hz => h.1 z hz, uins_lt h.2⟩
theorem uset_lt : ∀ {l : List Int}, (uset l).Pairwise (· < ·)
  | [] => .nil
  | x :: xs => uins_lt uset_lt
theorem lt_ext : ∀ {l m : List Int}, l.Pairwise (· < ·) → m.Pairwise (· < ·) → (∀ z, z ∈ l ↔ z ∈ m) → l = m
  | [], [], _, _, _ => rfl
  | [], y :: ys, _, _, h => by have := (h y).mpr List.mem_cons_self; cases this
  | x :: xs, [], _, _, h => by have := (h x).mp List.mem_cons_self; cases this
  | x :: xs, y :: ys, hl, hm, h => by
    rw [List.pairwise_cons] at hl hm
    have exy : x = y := by
      have h1 := (h x).mp List.mem_cons_self
      have h2 := (h y).mpr List.mem_cons_self
      rcases List.mem_cons.mp h1 with e | h1
      · exact e
      · rcases List.mem_cons.mp h2 with e | h2
        · exact e.symm
        · have a := hl.1 y h2
          have b := hm.1 x h1
          omega
    subst exy
    rw [lt_ext hl.2 hm.2 fun z => ?_]
    constructor
    · intro hz
      rcases List.mem_cons.mp ((h z).mp (List.mem_cons_of_mem _ hz)) with e | q
      · have := hl.1 z hz; omega
      · exact q
    · intro hz
      rcases List.mem_cons.mp ((h z).mpr (List.mem_cons_of_mem _ hz)) with e | q
      · have := hm.1 z hz; omega
      · exact q
theorem uins_len {x : Int} : ∀ {l : List Int}, (uins x l).length ≤ l.length + 1
  | [] => by simp [uins]
  | y :: ys => by
    unfold uins
    split
    · simp
    · split
      · simp
      · have := uins_len (x := x) (l := ys); simp; omega
theorem uset_len : ∀ {l : List Int}, (uset l).length ≤ l.length
  | [] => by simp [uset]
  | x :: xs => by unfold uset; have := uins_len (x := x) (l := uset xs); have := uset_len (l := xs); simp; omega
section
variable {K : PySem.W.Frag}
def dAdd (a b : D) (Q : Res → Prop) : Prop := match a, b with
  | .int i, .int j => Q (.v (.int (i + j)))
  | .str x, .str y => x.length + y.length ≤ sizeLine ∧ Q (.v (.str (x ++ y)))
  | .lst xs, .lst ys => xs.length + ys.length ≤ sizeLine ∧ Q (.own (xs ++ ys))
  | _, _ => False
def rAddD (K : PySem.W.Frag) : R2 := fun x y H Q => (∃ i j, x = .int i ∧ y = .int j ∧ Q (.int (i + j)) H) ∨ (∃ i j, x = .str i ∧ y = .str j ∧ i.length + j.length ≤ sizeLine ∧ Q (.str (i ++ j)) H) ∨ rCatS K x y H Q
theorem op_addD {X : Cx} : OpR X (binaryOp .Add) (rAddD X.K) := (op_add.or (op_add_str.or op_catS))
theorem od_add : OpD K (rAddD K) dAdd := by
  intro S F H x y d e QD Q s rx ry h k
  cases rx with
  | int i =>
    cases ry with
    | int j => exact .inl ⟨i, j, rfl, rfl, k _ H F (.v (.int (i + j))) (.refl s) (.int _) h⟩
    | _ => exact h.elim
  | str i =>
    cases ry with
    | str j => exact .inr (.inl ⟨i, j, rfl, rfl, h.1, k _ H F (.v (.str (i ++ j))) (.refl s) (.str _) h.2⟩)
    | _ => exact h.elim
  | lst h1 r1 =>
    cases ry with
    | lst h2 r2 => exact .inr (.inr ⟨_, _, _, _, rfl, rfl, h1.sq s, h2.sq s, by rw [r1.length, r2.length]; exact h.1, fun p hp => k _ _ F (.own _) (.own s hp) ⟨p, _, rfl, hp, upd_same, free_of s hp, .lst (r1.append r2)⟩ h.2⟩)
    | _ => exact h.elim
  | _ => exact h.elim
/-- two ints -/
def dI2 (C : Int → Int → Prop) (g : Int → Int → D) (a b : D) (Q : Res → Prop) : Prop := match a, b with
  | .int i, .int j => C i j ∧ Q (.v (g i j))
  | _, _ => False
theorem od_int {C : Int → Int → Prop} {g : Int → Int → V} {g' : Int → Int → D} (hg : ∀ S F i j, Rep K S F (g i j) (g' i j)) : OpD K (rI C g) (dI2 C g') := by
  intro S F H x y d e QD Q s rx ry h k
  cases rx with
  | int i =>
    cases ry with
    | int j => exact ⟨i, j, rfl, rfl, h.1, k _ H F (.v (g' i j)) (.refl s) (hg _ _ i j) h.2⟩
    | _ => exact h.elim
  | _ => exact h.elim
theorem od_int0 {g : Int → Int → V} {g' : Int → Int → D} (hg : ∀ S F i j, Rep K S F (g i j) (g' i j)) : OpD K (rI0 g) (dI2 (fun _ _ => True) g') := by
  intro S F H x y d e QD Q s rx ry h k
  cases rx with
  | int i =>
    cases ry with
    | int j => exact ⟨i, j, rfl, rfl, k _ H F (.v (g' i j)) (.refl s) (hg _ _ i j) h.2⟩
    | _ => exact h.elim
  | _ => exact h.elim
def dSub := dI2 (fun _ _ => True) fun i j => .int (i - j)
theorem od_sub : OpD K (rI0 fun i j => .int (i - j)) dSub := od_int0 fun _ _ _ _ => .int _
def dMul := dI2 (fun i j => CMul i j ∨ CMulW i j) fun i j => .int (i * j)
theorem op_mulD {X : Cx} : OpR X (binaryOp .Mult) (rI (fun i j => CMul i j ∨ CMulW i j) fun i j => .int (i * j)) := opI fun _ _ _ _ _ _ _ hc q => mul_int q (hc.elim (fun z => z.ok) fun z => z.ok)
theorem od_mul : OpD K (rI (fun i j => CMul i j ∨ CMulW i j) fun i j => .int (i * j)) dMul := od_int fun _ _ _ _ => .int _
def dFdv := dI2 CDivW fun i j => .int (i / j)
theorem od_fdv : OpD K (rI CDivW fun i j => .int (i / j)) dFdv := od_int fun _ _ _ _ => .int _
def dMod := dI2 (fun _ j => 0 < j) fun i j => .int (i % j)
theorem od_mod : OpD K (rI (fun _ j => 0 < j) fun i j => .int (i % j)) dMod := od_int fun _ _ _ _ => .int _
def dPow := dI2 CPow fun i j => .int (i ^ j.toNat)
theorem od_pow : OpD K (rI CPow fun i j => .int (i ^ j.toNat)) dPow := od_int fun _ _ _ _ => .int _
def dLt := dI2 (fun _ _ => True) fun i j => .bl (decide (i < j))
def dLe := dI2 (fun _ _ => True) fun i j => .bl (decide (i ≤ j))
def dGt := dI2 (fun _ _ => True) fun i j => .bl (decide (j < i))
def dGe := dI2 (fun _ _ => True) fun i j => .bl (decide (j ≤ i))
theorem od_lt : OpD K (rI0 fun i j => .bl (decide (i < j))) dLt := od_int0 fun _ _ _ _ => .bl _
theorem od_gt : OpD K (rI0 fun i j => .bl (decide (j < i))) dGt := od_int0 fun _ _ _ _ => .bl _
def dNeg (a : D) (Q : Res → Prop) : Prop := match a with
  | .int i => Q (.v (.int (-i)))
  | _ => False
theorem ud_neg : UnD K (rU fun i => .int (-i)) dNeg := by
  intro S F H x d QD Q s rx h k
  cases rx with
  | int i => exact ⟨i, rfl, k _ H F (.v (.int (-i))) (.refl s) (.int _) h⟩
  | _ => exact h.elim
def EqOk (a b : D) : Prop := plain a = true ∧ plain b = true ∧ SeqAt.shaped (py a) = true ∧ SeqAt.shaped (py b) = true
def dEq (a b : D) (Q : Res → Prop) : Prop := EqOk a b ∧ Q (.v (.bl (PyData.eqv (py a) (py b))))
def dNe (a b : D) (Q : Res → Prop) : Prop := EqOk a b ∧ Q (.v (.bl (!PyData.eqv (py a) (py b))))
theorem od_eq : OpD K (rEqD K) dEq := by
  intro S F H x y d e QD Q s rx ry ⟨⟨p1, p2, s1, s2⟩, h⟩ k
  exact ⟨_, _, (rx.mono s).dp p1, (ry.mono s).dp p2, s1, s2, k _ H F (.v (.bl _)) (.refl s) (.bl _) h⟩
theorem od_ne : OpD K (rNeD K) dNe := by
  intro S F H x y d e QD Q s rx ry ⟨⟨p1, p2, s1, s2⟩, h⟩ k
  exact ⟨_, _, (rx.mono s).dp p1, (ry.mono s).dp p2, s1, s2, k _ H F (.v (.bl _)) (.refl s) (.bl _) h⟩
def isN : D → Bool
  | .non => true
  | _ => false
theorem rep_non {S : Src} {F : Hp} {v : V} {d : D} (r : Rep K S F v d) : decide (v = .non) = isN d := by
  cases r <;> simp [isN]
def dIsN (a b : D) (Q : Res → Prop) : Prop := b = .non ∧ Q (.v (.bl (isN a)))
def dNotN (a b : D) (Q : Res → Prop) : Prop := b = .non ∧ Q (.v (.bl (!isN a)))
theorem od_notN : OpD K (fun x y H Q => y = .non ∧ Q (.bl (!decide (x = .non))) H) dNotN := by
  intro S F H x y d e QD Q s rx ry ⟨h1, h⟩ k
  subst h1
  cases ry
  exact ⟨rfl, by rw [rep_non rx]; exact k _ H F (.v (.bl _)) (.refl s) (.bl _) h⟩
def flatD : D → Bool
  | .non => true
  | .bl _ => true
  | .int _ => true
  | .str _ => true
  | _ => false
def eqD : D → D → Bool
  | .non, .non => true
  | .bl a, .bl b => a == b
  | .bl a, .int b => (if a then 1 else 0) == b
  | .int a, .bl b => a == (if b then 1 else 0)
  | .int a, .int b => a == b
  | .str a, .str b => a == b
  | _, _ => false
def inD (x : D) (xs : List D) : Bool := xs.any fun y => eqD y x
theorem flat_rep {S : Src} {F : Hp} {v : V} {d : D} (r : Rep K S F v d) (h : flatD d = true) : flatV v = true := by
  cases r <;> first | rfl | (simp [flatD] at h)
theorem flats_rep {S : Src} {F : Hp} : ∀ {vs : List V} {ds : List D}, Reps K S F vs ds → ds.all flatD = true → vs.all flatV = true
  | _, _, .nil, _ => rfl
  | _, _, .cons a b, h => by
    rw [List.all_cons, Bool.and_eq_true] at h ⊢
    exact ⟨flat_rep a h.1, flats_rep b h.2⟩
theorem eq_rep {S : Src} {F : Hp} {v u : V} {d e : D} (r : Rep K S F v d) (q : Rep K S F u e) (h : flatD d = true) (h' : flatD e = true) : eqV v u = eqD d e := by
  cases r <;> first | (simp [flatD] at h; done) | (cases q <;> first | rfl | (simp [flatD] at h'; done))
theorem in_rep {S : Src} {F : Hp} {v : V} {d : D} (r : Rep K S F v d) (h : flatD d = true) : ∀ {vs : List V} {ds : List D}, Reps K S F vs ds → ds.all flatD = true → inV v vs = inD d ds
  | _, _, .nil, _ => rfl
  | _, _, .cons a b, h' => by
    rw [List.all_cons, Bool.and_eq_true] at h'
    have ih := in_rep r h b h'.2
    unfold inV inD at ih ⊢
    rw [List.any_cons, List.any_cons, eq_rep a r h'.1 h, ih]
/-- in a list or a tuple -/
def dIn (neg : Bool) (a b : D) (Q : Res → Prop) : Prop := ∃ xs, (b = .lst xs ∨ b = .tup xs) ∧ flatD a = true ∧ xs.all flatD = true ∧ Q (.v (.bl (if neg then !inD a xs else inD a xs)))
theorem od_in {neg : Bool} : OpD K (rIn K neg) (dIn neg) := by
  intro S F H x y d e QD Q s rx ry ⟨xs, hb, f1, f2, h⟩ k
  rcases hb with hb | hb
  · subst hb
    cases ry with
    | lst h1 r1 => exact ⟨_, _, rfl, .inl (h1.sq s), flat_rep rx f1, flats_rep r1 f2, by rw [in_rep rx f1 r1 f2]; exact k _ H F (.v (.bl _)) (.refl s) (.bl _) h⟩
  · subst hb
    cases ry with
    | tup h1 r1 => exact ⟨_, _, rfl, .inr (s.seqT (.inl (.inl h1))), flat_rep rx f1, flats_rep r1 f2, by rw [in_rep rx f1 r1 f2]; exact k _ H F (.v (.bl _)) (.refl s) (.bl _) h⟩
/-- one sign in a text -/
def dInS (neg : Bool) (a b : D) (Q : Res → Prop) : Prop := ∃ (c : Nat) (z : Str), a = .str ⟨#[c]⟩ ∧ b = .str z ∧ Q (.v (.bl (if neg then !decide (c ∈ z.cps.toList) else decide (c ∈ z.cps.toList))))
theorem od_inS : OpD K (fun x y H Q => ∃ (c : Nat) (z : Str), x = .str ⟨#[c]⟩ ∧ y = .str z ∧ Q (.bl (decide (c ∈ z.cps.toList))) H) (dInS false) := by
  intro S F H x y d e QD Q s rx ry ⟨c, z, h1, h2, h⟩ k
  subst h1; subst h2
  cases rx; cases ry
  exact ⟨c, z, rfl, rfl, k _ H F (.v (.bl _)) (.refl s) (.bl _) h⟩
theorem od_notInS : OpD K (fun x y H Q => ∃ (c : Nat) (z : Str), x = .str ⟨#[c]⟩ ∧ y = .str z ∧ Q (.bl (!decide (c ∈ z.cps.toList))) H) (dInS true) := by
  intro S F H x y d e QD Q s rx ry ⟨c, z, h1, h2, h⟩ k
  subst h1; subst h2
  cases rx; cases ry
  exact ⟨c, z, rfl, rfl, k _ H F (.v (.bl _)) (.refl s) (.bl _) h⟩
/-- a list, a tuple, a text at an int -/
def dIx (a b : D) (Q : Res → Prop) : Prop := match a, b with
  | .lst xs, .int i => ∃ d, atI xs i = some d ∧ Q (.v d)
  | .tup xs, .int i => ∃ d, atI xs i = some d ∧ Q (.v d)
  | .str z, .int i => ∃ c, z.length ≤ sizeLine ∧ atI z.cps.toList i = some c ∧ Q (.v (.str ⟨#[c]⟩))
  | _, _ => False
theorem at_rep {S : Src} {F : Hp} {vs : List V} {ds : List D} (r : Reps K S F vs ds) {i : Int} {d : D} (h : atI ds i = some d) : ∃ v, atI vs i = some v ∧ Rep K S F v d := by
  unfold atI at h ⊢
  rw [r.length]
  cases e : ixN ds.length i with
  | none => rw [e] at h; cases h
  | some j =>
    rw [e] at h
    obtain ⟨v, a, b⟩ := r.get (show ds[j]? = some d from h)
    exact ⟨v, a, b⟩
theorem od_ix : OpD K (rIx K) dIx := by
  intro S F H x y d e QD Q s rx ry h k
  cases rx with
  | lst h1 r1 =>
    cases ry with
    | int i =>
      obtain ⟨d, h2, h⟩ := h
      obtain ⟨v, a, b⟩ := at_rep r1 h2
      exact .inl ⟨_, _, i, v, rfl, rfl, h1.sq s, a, k _ H F (.v d) (.refl s) b h⟩
    | _ => exact h.elim
  | tup h1 r1 =>
    cases ry with
    | int i =>
      obtain ⟨d, h2, h⟩ := h
      obtain ⟨v, a, b⟩ := at_rep r1 h2
      exact .inr (.inl ⟨_, _, i, v, rfl, rfl, s.seqT (.inl (.inl h1)), a, k _ H F (.v d) (.refl s) b h⟩)
    | _ => exact h.elim
  | str z =>
    cases ry with
    | int i =>
      obtain ⟨c, h1, h2, h⟩ := h
      exact .inr (.inr ⟨z, i, c, rfl, rfl, h1, h2, k _ H F (.v (.str ⟨#[c]⟩)) (.refl s) (.str _) h⟩)
    | _ => exact h.elim
  | _ => exact h.elim
end
abbrev DTO := Rho → (Option Int → Rho → Prop) → Prop
def liftO (c : C) (t : DTO) : TO := fun σ H Q => ∃ F ρ QD, SR c F H σ ρ ∧ t ρ QD ∧ ∀ o H' F' ρ', SR c F' H' σ ρ' → Stp c σ F H ρ F' H' ρ' → QD o ρ' → Q o H'
def dNoP : DTO := fun ρ Q => Q none ρ
def dPart (te : DTE) : DTO := fun ρ Q => te ρ fun r ρ1 => ∃ i, fz r = .int i ∧ Q (some i) ρ1
def cutD (xs : List D) (lo hi : Option Int) : List D := (xs.drop (HT.sIx xs.length 0 lo)).take (HT.sIx xs.length xs.length hi - HT.sIx xs.length 0 lo)
/-- a slice of a list, of a text -/
def dCut (a : D) (lo hi : Option Int) (Q : Res → Prop) : Prop := match a with
  | .lst xs => Q (.own (cutD xs lo hi))
  | .str z => z.length ≤ sizeLine ∧ Q (.v (.str (cutS z lo hi)))
  | _ => False
def dSl (te : DTE) (tl th : DTO) : DTE := fun ρ Q => te ρ fun r ρ1 => tl ρ1 fun l ρ2 => th ρ2 fun u ρ3 => dCut (fz r) l u fun r => Q r ρ3
section
variable {c : C} {X : Cx} {e : Expr} {te : DTE} {tl th : DTO} {lo hi : Option Expr} {pos p2 : Pos}
theorem do_none : PO X none (liftO c dNoP) := ⟨fun pins s σ H Q I ⟨F, ρ, QD, sr, h, k⟩ => po_none.run pins s σ H Q I (k none H F ρ sr Stp.refl h)⟩
theorem do_some (h : PE X e (liftE c te)) : PO X (some e) (liftO c (dPart te)) := ⟨fun pins s σ H Q I ⟨F, ρ, QD, sr, ht, k⟩ => (po_some (froze h)).run pins s σ H Q I
  ⟨F, ρ, (fun d ρ1 => ∃ i, d = .int i ∧ QD (some i) ρ1), sr, ht, fun v H1 F1 ρ1 d s1 st1 rv ⟨i, e, q⟩ => by
    subst e
    cases rv
    exact ⟨i, rfl, k (some i) H1 F1 ρ1 s1 st1 q⟩⟩⟩
theorem de_slice (hK : X.K = c.K) (he : PE X e (liftE c te)) (hl : PO X lo (liftO c tl)) (hu : PO X hi (liftO c th)) : PE X (.Subscript e (.Slice lo hi none p2) pos) (liftE c (dSl te tl th)) :=
  PE_imp (pe_slice (sl_list.or sl_str) (froze he) hl hu) fun σ H Q ⟨F, ρ, QD, s, h, k⟩ => by
    refine ⟨F, ρ, (fun d ρ1 => tl ρ1 fun l ρ2 => th ρ2 fun u ρ3 => dCut d l u fun r => QD r ρ3), s, h, fun v H1 F1 ρ1 d s1 st1 rv q => ?_⟩
    refine ⟨F1, ρ1, (fun l ρ2 => th ρ2 fun u ρ3 => dCut d l u fun r => QD r ρ3), s1, q, fun l H2 F2 ρ2 s2 st2 q => ?_⟩
    refine ⟨F2, ρ2, (fun u ρ3 => dCut d l u fun r => QD r ρ3), s2, q, fun u H3 F3 ρ3 s3 st3 q => ?_⟩
    have st := (st1.trans st2).trans st3
    have rv3 := rv.mono ((st2.trans st3).ff)
    cases rv3 with
    | lst h1 r1 =>
      rename_i ar vs ds qa qb
      refine .inl ⟨_, _, rfl, by rw [hK]; exact h1.sq s3.sub, fun p hp => ?_⟩
      have pe : PExt F3 H3 F3 (upd H3 p (.lst (cutV vs l u))) := PExt.own s3.sub hp
      have rr : RR0 c.K c.S F3 H3 (upd H3 p (.lst (cutV vs l u))) (.ref p) (.own (cutD ds l u)) := ⟨p, _, rfl, hp, upd_same, free_of s3.sub hp, .lst <| by
        unfold cutV cutD
        rw [r1.length]
        exact (r1.drop _).take _⟩
      obtain ⟨a, b⟩ := rr.rr s3
      exact k _ _ F3 ρ3 (.own (cutD ds l u)) (pe.sr s3) (st.trans pe.stp) a (New.back st s3 b) q
    | str z => exact .inr ⟨z, rfl, q.1, k _ H3 F3 ρ3 (.v (.str (cutS z l u))) s3 st (.str _) trivial q.2⟩
    | _ => exact q.elim
end
section
variable {K : PySem.W.Frag}
def dLen (ds : List D) (Q : Res → Prop) : Prop := match ds with
  | [.lst xs] => Q (.v (.int xs.length))
  | [.tup xs] => Q (.v (.int xs.length))
  | [.str z] => z.length ≤ sizeLine ∧ Q (.v (.int z.length))
  | _ => False
theorem cd_len : CallD K (fun xs H Q => ∃ x n, xs = [x] ∧ LenV K x H n ∧ Q (.int n) H) dLen := by
  intro S F H xs ds QD Q s r h k
  match r with
  | .nil => exact h.elim
  | .cons a .nil =>
    cases a with
    | lst h1 r1 => exact ⟨_, _, rfl, .inl ⟨_, h1.sq s, r1.length.symm⟩, k _ H F (.v (.int _)) (.refl s) (.int _) h⟩
    | tup h1 r1 => exact ⟨_, _, rfl, .inr ⟨_, s.seqT (.inl (.inl h1)), r1.length.symm⟩, k _ H F (.v (.int _)) (.refl s) (.int _) h⟩
    | str z => exact ⟨_, _, rfl, ⟨h.1, rfl⟩, k _ H F (.v (.int _)) (.refl s) (.int _) h.2⟩
    | _ => exact h.elim
  | .cons a (.cons _ _) => cases a <;> exact h.elim
def dInt1 (ds : List D) (Q : Res → Prop) : Prop := match ds with
  | [.int i] => Q (.v (.int i))
  | [.bl b] => Q (.v (.int (if b then 1 else 0)))
  | _ => False
theorem cd_int1 : CallD K (fun xs H Q => (∃ i, xs = [.int i] ∧ Q (.int i) H) ∨ ∃ k, xs = [.bl k] ∧ Q (.int (if k then 1 else 0)) H) dInt1 := by
  intro S F H xs ds QD Q s r h k
  match r with
  | .nil => exact h.elim
  | .cons a .nil =>
    cases a with
    | int i => exact .inl ⟨i, rfl, k _ H F (.v (.int _)) (.refl s) (.int _) h⟩
    | bl b => exact .inr ⟨b, rfl, k _ H F (.v (.int _)) (.refl s) (.int _) h⟩
    | _ => exact h.elim
  | .cons a (.cons _ _) => cases a <;> exact h.elim
def dStrI (ds : List D) (Q : Res → Prop) : Prop := ∃ i, ds = [.int i] ∧ i.natAbs.log2 < 1920 ∧ Q (.v (.str (toString i)))
theorem cd_strI : CallD K (fun xs H Q => ∃ i, xs = [.int i] ∧ i.natAbs.log2 < 1920 ∧ Q (.str (toString i)) H) dStrI := by
  intro S F H xs ds QD Q s r ⟨i, e, h1, h⟩ k
  subst e
  match r with
  | .cons (.int _) .nil => exact ⟨i, rfl, h1, k _ H F (.v (.str _)) (.refl s) (.str _) h⟩
def dAbs (ds : List D) (Q : Res → Prop) : Prop := ∃ i : Int, ds = [.int i] ∧ Q (.v (.int (if i < 0 then -i else i)))
def dMax2 (ds : List D) (Q : Res → Prop) : Prop := ∃ i j : Int, ds = [.int i, .int j] ∧ Q (.v (.int (if j > i then j else i)))
theorem cd_max2 : CallD K (fun xs H Q => ∃ i j, xs = [.int i, .int j] ∧ Q (.int (if j > i then j else i)) H) dMax2 := by
  intro S F H xs ds QD Q s r ⟨i, j, e, h⟩ k
  subst e
  match r with
  | .cons (.int _) (.cons (.int _) .nil) => exact ⟨i, j, rfl, k _ H F (.v (.int _)) (.refl s) (.int _) h⟩
def dMin2 (ds : List D) (Q : Res → Prop) : Prop := ∃ i j : Int, ds = [.int i, .int j] ∧ Q (.v (.int (if j < i then j else i)))
theorem cd_min2 : CallD K (fun xs H Q => ∃ i j, xs = [.int i, .int j] ∧ Q (.int (if j < i then j else i)) H) dMin2 := by
  intro S F H xs ds QD Q s r ⟨i, j, e, h⟩ k
  subst e
  match r with
  | .cons (.int _) (.cons (.int _) .nil) => exact ⟨i, j, rfl, k _ H F (.v (.int _)) (.refl s) (.int _) h⟩
def dSum (ds : List D) (Q : Res → Prop) : Prop := ∃ ns : List Int, ds = [.lst (ns.map .int)] ∧ Q (.v (.int ns.sum))
theorem cd_sum : CallD K (rSum K) dSum := by
  intro S F H xs ds QD Q s r ⟨ns, e, h⟩ k
  subst e
  match r with
  | .cons (.lst h1 r1) .nil =>
    have e := Reps.of_ints r1
    subst e
    exact ⟨_, ns, rfl, h1.sq s, k _ H F (.v (.int _)) (.refl s) (.int _) h⟩
def dAll (ds : List D) (Q : Res → Prop) : Prop := ∃ bs : List Bool, ds = [.lst (bs.map .bl)] ∧ Q (.v (.bl (bs.all id)))
theorem of_bls {S : Src} {F : Hp} : ∀ {vs : List V} {bs : List Bool}, Reps K S F vs (bs.map D.bl) → vs = bs.map V.bl
  | _, [], .nil => rfl
  | _, n :: ns, .cons a b => by cases a; rw [List.map_cons, of_bls b]
theorem cd_all : CallD K (rAll K) dAll := by
  intro S F H xs ds QD Q s r ⟨ns, e, h⟩ k
  subst e
  match r with
  | .cons (.lst h1 r1) .nil =>
    have e := of_bls r1
    subst e
    exact ⟨_, ns, rfl, h1.sq s, k _ H F (.v (.bl _)) (.refl s) (.bl _) h⟩
/-- what repr asks -/
def ShowOk (d : D) : Prop := plain d = true ∧ (py d).showable = true ∧ (py d).hasDict = false ∧ (py d).depth ≤ 60 ∧ (py d).shown.length ≤ sizeLine
def dRepr (ds : List D) (Q : Res → Prop) : Prop := ∃ xs, (ds = [.lst xs] ∧ ShowOk (.lst xs) ∧ Q (.v (.str (py (.lst xs)).shown))) ∨ (ds = [.tup xs] ∧ ShowOk (.tup xs) ∧ Q (.v (.str (py (.tup xs)).shown)))
theorem cd_repr : CallD K (rRepr K) dRepr := by
  intro S F H xs ds QD Q s r ⟨ys, h⟩ k
  rcases h with ⟨e, ⟨a, b, d, f, g⟩, h⟩ | ⟨e, ⟨a, b, d, f, g⟩, h⟩
  · subst e
    match r with
    | .cons (.lst h1 r1) .nil => exact ⟨_, _, rfl, ((Rep.lst h1 r1).mono s).dp a, b, d, f, g, k _ H F (.v (.str _)) (.refl s) (.str _) h⟩
  · subst e
    match r with
    | .cons (.tup h1 r1) .nil => exact ⟨_, _, rfl, ((Rep.tup h1 r1).mono s).dp a, b, d, f, g, k _ H F (.v (.str _)) (.refl s) (.str _) h⟩
/-- list(x) of a list or a tuple -/
def dListOf (ds : List D) (Q : Res → Prop) : Prop := ∃ xs, (ds = [.lst xs] ∨ ds = [.tup xs]) ∧ Q (.own xs)
theorem cd_listOf : CallD K (fun xs H Q => ∃ p ys, xs = [.ref p] ∧ (SqL K H p ys ∨ SqT K H p ys) ∧ ∀ l, H l = none → Q (.ref l) (upd H l (.lst ys))) dListOf := by
  intro S F H xs ds QD Q s r ⟨ys, e, h⟩ k
  rcases e with e | e
  · subst e
    match r with
    | .cons (.lst h1 r1) .nil => exact ⟨_, _, rfl, .inl (h1.sq s), fun l hl => k _ _ F (.own ys) (.own s hl) ⟨l, _, rfl, hl, upd_same, free_of s hl, .lst r1⟩ h⟩
  · subst e
    match r with
    | .cons (.tup h1 r1) .nil => exact ⟨_, _, rfl, .inr (s.seqT (.inl (.inl h1))), fun l hl => k _ _ F (.own ys) (.own s hl) ⟨l, _, rfl, hl, upd_same, free_of s hl, .lst r1⟩ h⟩
/-- tuple(x) of a list -/
def dTupOf (ds : List D) (Q : Res → Prop) : Prop := ∃ xs, (ds = [.lst xs] ∨ ds = [.tup xs]) ∧ Q (.v (.tup xs))
theorem cd_tupOf : CallD K (fun xs H Q => ∃ p ys, xs = [.ref p] ∧ ((SqL K H p ys ∧ ∀ l, H l = none → Q (.ref l) (upd H l (.tup ys))) ∨ (SqT K H p ys ∧ Q (.ref p) H))) dTupOf := by
  intro S F H xs ds QD Q s r ⟨ys, e, h⟩ k
  rcases e with e | e
  · subst e
    match r with
    | .cons (.lst (vs := vs) h1 r1) .nil =>
      refine ⟨_, _, rfl, .inl ⟨h1.sq s, fun l hl => ?_⟩⟩
      have pe := PExt.new (o := .tup vs) s hl
      exact k _ _ _ (.v (.tup ys)) pe (.tup upd_same (Reps.mono pe.ff r1)) h
  · subst e
    match r with
    | .cons (.tup h1 r1) .nil => exact ⟨_, _, rfl, .inr ⟨s.seqT (.inl (.inl h1)), k _ H F (.v (.tup ys)) (.refl s) (.tup h1 r1) h⟩⟩
/-- isinstance against a built-in class -/
def tyD : D → Option String
  | .non => some "NoneType"
  | .bl _ => some "bool"
  | .int _ => some "int"
  | .str _ => some "str"
  | .lst _ => some "list"
  | .tup _ => some "tuple"
  | .dct _ => some "dict"
  | _ => none
theorem ty_rep {S : Src} {F H : Hp} {v : V} {d : D} (s : Le F H) (r : Rep K S F v d) {n : String} (h : tyD d = some n) : TyX K H v (.type n) := by
  cases r with
  | non => cases h; exact .base .non
  | bl b => cases h; exact .base (.bl b)
  | int i => cases h; exact .base (.int i)
  | str x => cases h; exact .base (.str x)
  | lst h1 _ =>
    cases h
    rcases h1 with h1 | ⟨o, _, _, h1, hc, _⟩
    · exact .base (.lst (s _ _ h1))
    · exact .kList h1 hc
  | tup h1 _ =>
    cases h
    rcases s.seqT (.inl (.inl h1)) with (h1 | ⟨o, h1⟩) | ⟨o, _, _, h1, hc, _⟩
    · exact .base (.tup h1)
    · exact .fTuple h1
    · exact .kTuple h1 hc
  | dct h1 _ _ => cases h; exact .base (.dK (s _ _ h1))
  | _ => cases h
def dIsi (ds : List D) (Q : Res → Prop) : Prop := match ds with
  | [d, .ty n] => ∃ m b, tyD d = some m ∧ PySem.W.kitOne K (.type m) (.type n) = some b ∧ Q (.v (.bl b))
  | _ => False
theorem cd_isi : CallD K (rIsi K) (dIsi (K := K)) := by
  intro S F H xs ds QD Q s r h k
  cases r with
  | nil => exact h.elim
  | cons a r =>
    cases r with
    | nil => exact h.elim
    | cons a' r =>
      cases r with
      | nil =>
        cases a' with
        | ty n =>
          obtain ⟨m, b, h1, h2, h⟩ := h
          exact ⟨_, _, _, _, b, rfl, .ty n, ty_rep s a h1, h2, k _ H F (.v (.bl b)) (.refl s) (.bl b) h⟩
        | _ => exact h.elim
      | cons _ _ => cases a' <;> exact h.elim
end
end L2.DL
set_option Elab.async false
set_option linter.all false
set_option autoImplicit false
set_option maxRecDepth 100000
set_option maxHeartbeats 1000000
namespace L2.DL
open PySem PySem.Spec PyProof.Rows
def dSortSet (te : DTE) : DTE := fun ρ Q => te ρ fun r ρ1 => ∃ ns : List Int, (fz r = .lst (ns.map .int) ∨ fz r = .tup (ns.map .int)) ∧ ns.length < 64 ∧ Q (.own ((uset ns).map .int)) ρ1
section
variable {c : C} {X : Cx} {e : Expr} {te : DTE} {pos p1 p2 ps : Pos}
theorem rep_ints {K : PySem.W.Frag} {S : Src} {F : Hp} {v : V} {d : D} {ns : List Int} (r : Rep K S F v d) (h : d = .lst (ns.map .int) ∨ d = .tup (ns.map .int)) : ∃ a, v = .ref a ∧ (SqL K F a (ns.map V.int) ∨ SqT K F a (ns.map V.int)) := by
  rcases h with h | h
  · subst h
    cases r with
    | lst h1 r1 => exact ⟨_, rfl, .inl (by rw [← Reps.of_ints r1]; exact h1.here)⟩
  · subst h
    cases r with
    | tup h1 r1 => exact ⟨_, rfl, .inr (by rw [← Reps.of_ints r1]; exact .inl (.inl h1))⟩
/-- two new objects, one behind the other -/
theorem PExt.own2 {F H : Hp} {p q : Addr} {o u : HO} (s : Le F H) (h : H p = none) (h2 : (upd H p o) q = none) : PExt F H F (upd (upd H p o) q u) := (PExt.own s h).trans (PExt.own (PExt.own s h).sub h2)
theorem de_sortSet (hK : X.K = c.K) (hc : X.calm = true) (hg : Gl X "sorted") (hm : X.mg "sorted" = none) (hg2 : Gl X "set") (hm2 : X.mg "set" = none) (he : PE X e (liftE c te)) (hv : bootBuiltins "sorted" = some (.builtin "sorted") := by decide +kernel) (hv2 : bootBuiltins "set" = some (.type "set") := by decide +kernel)
    (s1 : starEach [.Call (.Name "set" p2) [e] [] ps] X.env = (false, eval (.Call (.Name "set" p2) [e] [] ps) X.env) :: starEach [] X.env := by rfl) (s2 : starEach [e] X.env = (false, eval e X.env) :: starEach [] X.env := by rfl) :
    PE X (.Call (.Name "sorted" p1) [.Call (.Name "set" p2) [e] [] ps] [] pos) (liftE c (dSortSet te)) :=
  PE_imp (pe_callB (cr_sortedSet hc) hg hm hv (pa_cons (pe_callTy (cr_setI hc) hg2 hm2 hv2 (pa_cons (froze he) pa_nil s2) (he := s2)) pa_nil s1) (he := s1)) fun σ H Q ⟨F, ρ, QD, s, h, k⟩ =>
    ⟨F, ρ, (fun d ρ1 => ∃ ns : List Int, (d = .lst (ns.map .int) ∨ d = .tup (ns.map .int)) ∧ ns.length < 64 ∧ QD (.own ((uset ns).map .int)) ρ1), s, h, fun v H1 F1 ρ1 d t1 st1 rv ⟨ns, hd, few, q⟩ => by
      obtain ⟨a, ea, ha⟩ := rep_ints (rv.mono t1.sub) hd
      refine ⟨a, ns, by rw [ea], by rw [hK]; exact ha, by rw [show scanBound = 4096 from rfl]; omega, fun p cnt hp hcnt => ?_⟩
      refine ⟨p, (fun j => decide (j ∈ ns)), cnt, rfl, upd_same, by omega, fun ms qd hlt hmem hlen hq => ?_⟩
      have ems : ms = uset ns := lt_ext hlt uset_lt fun z => by rw [hmem, mem_uset, decide_eq_true_iff]
      subst ems
      have pe : PExt F1 H1 F1 (upd (upd H1 p (SetO X.w p (fun j => decide (j ∈ ns)) cnt)) qd (.lst ((uset ns).map V.int))) := PExt.own2 t1.sub hp hq
      have nq : qd ≠ p := fun e => by rw [e, upd_same] at hq; cases hq
      have rr : RR0 c.K c.S F1 H1 (upd (upd H1 p (SetO X.w p (fun j => decide (j ∈ ns)) cnt)) qd (.lst ((uset ns).map V.int))) (.ref qd) (.own ((uset ns).map .int)) := ⟨qd, _, rfl, by rw [upd_ne nq] at hq; exact hq, upd_same, free_of (PExt.own t1.sub hp).sub hq, .lst Reps.ints⟩
      obtain ⟨a1, b1⟩ := rr.rr t1
      exact k _ _ F1 ρ1 _ (pe.sr t1) (st1.trans pe.stp) a1 (New.back st1 t1 b1) q⟩
end
def dScL (g : DTG) (tt : DTT) (te : DTE) (vs : List Nat) (Q : List Int → Rho → Prop) : List D → List Int → Rho → Prop
  | [], acc, ρ => Q acc ρ
  | x :: xs, acc, ρ => g x ρ fun ρ2 => tt ρ2 fun b ρ3 => if b = true then te ρ3 fun r ρ4 => ∃ k, fz r = .int k ∧ acc.length < 63 ∧ dScL g tt te vs Q xs (acc ++ [k]) (dwipe ρ4 vs) else dScL g tt te vs Q xs acc (dwipe ρ3 vs)
theorem setO_ne {w : World} {a c : Addr} {S : Int → Bool} {n : Nat} {q : Str} (z : SetO w a S n = LamX.CodeO c q) : False := by
  unfold SetO LamX.CodeO at z
  have e := HO.ext.inj z
  let ob : Obj := { cls := .none, data := .fields #[.none, .str q 0] }
  let h : Heap := { objs := Array.replicate (c + 1) ob }
  have gt : ∀ b, h.get? b = some ob ∨ h.get? b = none := fun b => by
    show (match (Array.replicate (c + 1) ob)[b]? with
      | some ⟨_, _, .freed, _⟩ => none
      | o => o) = some ob ∨ _
    by_cases hb : b < c + 1
    · rw [Array.getElem?_replicate, if_pos hb]; exact .inl rfl
    · right
      show (match (Array.replicate (c + 1) ob)[b]? with
        | some ⟨_, _, .freed, _⟩ => none
        | o => o) = none
      rw [Array.getElem?_replicate, if_neg hb]
  have hc : h.get? c = some ob := by
    show (match (Array.replicate (c + 1) ob)[c]? with
      | some ⟨_, _, .freed, _⟩ => none
      | o => o) = some ob
    rw [Array.getElem?_replicate, if_pos (Nat.lt_succ_self c)]
  have y : (∃ (oc : Obj) (vs : Array Value) (t : Tok), h.get? c = some oc ∧ oc.data = .fields vs ∧ vs[1]? = some (.str q t)) := ⟨ob, _, 0, hc, rfl, rfl⟩
  rw [← congrFun e h] at y
  obtain ⟨o, es, ep, t, ho, _, hd, _⟩ := y
  rcases gt a with g | g
  · rw [g] at ho
    cases ho
    cases hd
  · rw [g] at ho
    cases ho
def dSortSc (ti : DTI) (g : DTG) (tt : DTT) (te : DTE) (vs : List Nat) : DTE := fun ρ Q => ti ρ fun ds ρ1 => dScL g tt te vs (fun ns ρ' => Q (.own ((uset ns).map .int)) ρ') ds [] (dwipe ρ1 vs)
section
variable {c : C} {X : Cx} {elt tg iter : Expr} {ti : DTI} {g : DTG} {tt : DTT} {te : DTE} {pos p1 cp : Pos} {vs is : List Nat}
theorem sc_lift {w : World} (hs : ∀ i ∈ is, i ∈ vs) {σ : L2.St} {H : Hp} {Q : VK} (h : liftE c (dSortSc ti g tt te vs) σ H Q) :
    tScI w (liftI c ti) (liftG c is g) (liftT c tt) (liftV c (frz te)) vs σ H fun x H1 => rSortedSet w [x] H1 Q := by
  obtain ⟨F, ρ, QD, s, ht, k⟩ := h
  let QN : List Int → Rho → Prop := fun ns ρ' => QD (.own ((uset ns).map .int)) ρ'
  refine ⟨F, ρ, (fun ds ρ1 => dScL g tt te vs QN ds [] (dwipe ρ1 vs)), s, ht, fun J H1 F1 ρ1 ds s1 st1 wk q => ?_⟩
  intro A hA
  have cH0 : kn c.H0 A = none := s1.newH hA
  have nS : ¬ inS c.S A := s1.newS hA
  have nO : ¬ Own σ ρ1 A := s1.newO hA
  have fA : F1 A = none := free_of s1.sub hA
  have e1 : PExt F1 H1 F1 (upd H1 A (SetO w A (fun _ => false) 0)) := PExt.own s1.sub hA
  have inv0 : ∀ (T : Int → Bool), (∀ j, T j = decide (j ∈ ([] : List Int))) ↔ T = fun _ => false := fun T => ⟨fun h => funext fun j => by rw [h j]; simp, fun h j => by rw [h]; simp⟩
  refine ⟨fun i m Hn => m = ds.length - i ∧ i ≤ ds.length ∧ ∃ Fn ρn acc T n, SR c Fn Hn σ ρn ∧ WP ρn vs ∧ Stp c σ F1 H1 ρ1 Fn Hn ρn ∧ Hn A = some (SetO w A T n) ∧ Fn A = none ∧ (∀ j, T j = decide (j ∈ acc)) ∧ n ≤ acc.length ∧ acc.length ≤ 63 ∧ dScL g tt te vs QN (ds.drop i) acc ρn,
    ⟨ds.length, by simp, Nat.zero_le _, F1, dwipe ρ1 vs, [], _, 0, (e1.sr s1).dwiped, dwipe_wp _ _, ⟨e1.ff, fun p o z _ _ => e1.hh p o (kn_some z), fun p z => .inl z, fun p ⟨j, xs, z1, z2⟩ => by
      rcases dwipe_get z1 with z | ⟨_, z⟩
      · cases z
      · exact ⟨j, xs, z, z2⟩, e1.stp.tr (c := c) (σ := σ) (ρ := ρ1)⟩, upd_same, fA, (inv0 _).mpr rfl, Nat.le_refl _, Nat.zero_le _, q⟩, ?_⟩
  rintro i m Hn ⟨rfl, hi, Fn, ρn, acc, T, n, sn, wn, stn, hAn, fAn, hT, hn, h63, qn⟩
  have nOn : ¬ Own σ ρn A := fun z => nO (stn.oo A z)
  by_cases hlt : i < ds.length
  · have hd : ds[i]? = some ds[i] := List.getElem?_eq_getElem hlt
    obtain ⟨go, yl⟩ := wk.go Fn Hn i ds[i] stn.ff sn.sub hd
    refine .inr ⟨go, fun H' => ∃ Fn ρn acc T n, SR c Fn H' σ ρn ∧ WP ρn vs ∧ Stp c σ F1 H1 ρ1 Fn H' ρn ∧ H' A = some (SetO w A T n) ∧ Fn A = none ∧ (∀ j, T j = decide (j ∈ acc)) ∧ n ≤ acc.length ∧ acc.length ≤ 63 ∧ dScL g tt te vs QN (ds.drop (i + 1)) acc ρn,
      fun H' z => ⟨ds.length - (i + 1), by omega, rfl, hlt, z⟩, fun x H' y => ?_⟩
    obtain ⟨F3, pe, rx⟩ := yl x H' y
    rw [List.drop_eq_getElem_cons hlt] at qn
    have s3 := pe.sr sn
    have st3 : Stp c σ F1 H1 ρ1 F3 H' ρn := stn.trans pe.stp
    have hA3 : H' A = some (SetO w A T n) := pe.hh _ _ hAn
    have fA3 : F3 A = none := by
      cases q : F3 A with
      | none => rfl
      | some o =>
        rcases pe.nn A (by rw [q]; simp) with z | z | ⟨_, z⟩
        · exact absurd fAn z
        · rw [hAn] at z; cases z
        · rw [hAn] at z; cases z
    have ownW : ∀ p, Own (wipe σ vs) ρn p → Own σ ρn p := fun p ⟨j, xs, z1, z2⟩ => by
      by_cases hj : j ∈ vs
      · cases wn j hj _ z1
      · exact ⟨j, xs, z1, by rw [← wipe_out hj]; exact z2⟩
    refine ⟨F3, ρn, ds[i], _, s3.wiped wn, rx, qn, fun σ2 ρ2 s4 f4 o4 l4 q4 => ?_⟩
    have l2 : σ2.length = σ.length := l4.trans (wipe_length σ vs)
    have hj2 : ∀ j, j ∉ vs → σ2[j]? = σ[j]? := fun j hj => ((f4 j fun z => hj (hs j z)).1).trans (wipe_out hj)
    have own2 : ∀ p, Own σ2 ρ2 p → Own σ ρn p := fun p z => ownW p (o4 p z)
    have ownB : ∀ {ρ5 : Rho} p, Own σ (dwipe ρ5 vs) p → Own σ2 ρ5 p := fun {ρ5} p ⟨j, xs, z1, z2⟩ => by
      rcases dwipe_get z1 with z | ⟨z, z3⟩
      · cases z
      · exact ⟨j, xs, z3, by rw [hj2 j z]; exact z2⟩
    have back : ∀ {F5 H5 : Hp} {ρ5 : Rho}, Stp c σ2 F3 H' ρ2 F5 H5 ρ5 → SR c F5 H5 σ2 ρ5 → Stp c σ F1 H1 ρ1 F5 H5 (dwipe ρ5 vs) ∧ H5 A = some (SetO w A T n) ∧ F5 A = none := fun {F5 H5 ρ5} st5 s5 => by
      have st' : Stp c σ F3 H' ρn F5 H5 (dwipe ρ5 vs) := ⟨st5.ff, fun p o z1 z2 z3 => st5.hh p o z1 z2 fun z => z3 (own2 p z), fun p z => by
        rcases st5.nn p z with z | z | z | z
        · exact .inl z
        · exact .inr (.inl z)
        · exact .inr (.inr (.inl (own2 p z)))
        · exact .inr (.inr (.inr z)), fun p z => own2 p (st5.oo p (ownB p z)), st5.tr⟩
      refine ⟨st3.trans st', st5.hh A _ (kn_of hA3) nS fun z => nOn (own2 A z), ?_⟩
      cases q : F5 A with
      | none => rfl
      | some o =>
        rcases st5.nn A (by rw [q]; simp) with z | z | z | z
        · exact absurd fA3 z
        · exact (z.no hA3 (fun _ y => by cases y) (fun _ y => by cases y)).elim
        · exact absurd (own2 A z) nOn
        · exact absurd z nS
    refine ⟨wipe_wiped hs (l4.trans (wipe_length σ vs)) (fun j hj => (f4 j hj).1), F3, ρ2, (fun b ρ3 => if b = true then te ρ3 fun r ρ4 => ∃ k, fz r = .int k ∧ acc.length < 63 ∧ dScL g tt te vs QN (ds.drop (i + 1)) (acc ++ [k]) (dwipe ρ4 vs) else dScL g tt te vs QN (ds.drop (i + 1)) acc (dwipe ρ3 vs)), s4, q4, fun b H5 F5 ρ5 s5 st5 q5 => ?_⟩
    cases b with
    | false =>
      rw [if_neg Bool.false_ne_true] at q5 ⊢
      obtain ⟨a1, a2, a3⟩ := back st5 s5
      exact ⟨F5, dwipe ρ5 vs, acc, T, n, s5.unwiped l2 hj2, dwipe_wp _ _, a1, a2, a3, hT, hn, h63, q5⟩
    | true =>
      rw [if_pos rfl] at q5 ⊢
      refine ⟨F5, ρ5, (fun d ρ4 => ∃ k, d = .int k ∧ acc.length < 63 ∧ dScL g tt te vs QN (ds.drop (i + 1)) (acc ++ [k]) (dwipe ρ4 vs)), s5, q5, fun y H6 F6 ρ6 d s6 st6 ry ⟨kk, ek, q6a, q6⟩ => ?_⟩
      subst ek
      cases ry
      obtain ⟨a1, a2, a3⟩ := back (st5.trans st6) s6
      have s7 := s6.unwiped l2 hj2
      have nO6 : ¬ Own σ (dwipe ρ6 vs) A := fun z => nO (a1.oo A z)
      refine ⟨kk, T, n, rfl, a2, by rw [show scanBound = 4096 from rfl]; omega, F6, dwipe ρ6 vs, acc ++ [kk], _, _, ?_, dwipe_wp _ _, ⟨a1.ff, fun p o z1 z2 z3 => ?_, a1.nn, a1.oo, fun p z => ?_⟩, upd_same, a3, fun j => ?_, ?_, by rw [List.length_append]; show acc.length + 1 ≤ 63; omega, q6⟩
      · refine ⟨fun q o z => ?_, s7.f0, fun q o z1 z2 => ?_, s7.n0, s7.src.upd nS a2 ⟨fun _ z => (by unfold SetO at z; cases z), fun _ _ z => setO_ne z⟩, s7.srcF, s7.len, s7.sl, fun j xs z => ?_, s7.dis⟩
        · exact kn_of (by rw [upd_ne (ne_of_none z a3)]; exact s7.sub q o z) (kn_nt (s7.sub' q o z))
        · rw [upd_ne (ne_of_none z1 cH0)]; exact s7.h0 q o z1 z2
        · obtain ⟨q, us, a, b, d, f, g, k⟩ := s7.ow j xs z
          have hq : q ≠ A := fun e => nO6 ⟨j, xs, z, by rw [a, e]⟩
          exact ⟨q, us, a, by rw [upd_ne hq]; exact b, d, f, g, k⟩
      · rw [upd_ne (ne_of_none z1 (kn_none hA))]; exact a1.hh p o z1 z2 z3
      · by_cases hq : p = A
        · rw [hq, kn_of upd_same]; simp
        · rw [kn_same (upd_ne hq)]; exact a1.tr p z
      · rw [hT j]; simp
      · rw [List.length_append]
        show _ ≤ acc.length + 1
        split <;> omega
  · have e : i = ds.length := by omega
    subst e
    rw [List.drop_length] at qn
    refine .inl ⟨wk.stop Fn Hn _ stn.ff sn.sub (Nat.le_refl _), A, T, n, rfl, hAn, by omega, fun ms qd hlt2 hmem hlen hq => ?_⟩
    have ems : ms = uset acc := lt_ext hlt2 uset_lt fun z => by rw [hmem, mem_uset, hT z, decide_eq_true_iff]
    subst ems
    have pe : PExt Fn Hn Fn (upd Hn qd (.lst ((uset acc).map V.int))) := PExt.own sn.sub hq
    have rr : RR0 c.K c.S Fn Hn (upd Hn qd (.lst ((uset acc).map V.int))) (.ref qd) (.own ((uset acc).map .int)) := ⟨qd, _, rfl, hq, upd_same, free_of sn.sub hq, .lst Reps.ints⟩
    obtain ⟨a1, b1⟩ := rr.rr sn
    exact k _ _ Fn ρn _ (pe.sr sn) ((st1.trans stn).trans pe.stp) a1 (New.back (st1.trans stn) sn b1) qn
theorem de_sortSc {ifs : List Expr} {scope : Scope} {own : List (Str × Nat)} (hc : X.calm = true) (hN : X.N.Nodup) (hgs : Gl X "sorted") (hms : X.mg "sorted" = none) (hi : PI X tg iter (liftI c ti)) (ok : BlkOk X.N X.env.scope scope own) (hsub : ∀ i ∈ is, i ∈ own.map (·.2))
    (hg : ∀ (s : Shared) (H : Hp) (C : Addr) (cl : List (Str × Addr)) (fp : List Addr), PG (X.blk s H scope (compEnvC scope cl C X.env) fp) tg (liftG c is g)) (ht : ∀ (s : Shared) (H : Hp) (C : Addr) (cl : List (Str × Addr)) (fp : List Addr), PTs (X.blk s H scope (compEnvC scope cl C X.env) fp) ifs (liftT c tt))
    (he : ∀ (s : Shared) (H : Hp) (C : Addr) (cl : List (Str × Addr)) (fp : List Addr), PE (X.blk s H scope (compEnvC scope cl C X.env) fp) elt (liftE c te)) (hs : ∀ x, foldedSetIterable iter X.env x = pure x := by intro _; rfl) (hv : bootBuiltins "sorted" = some (.builtin "sorted") := by decide +kernel)
    (s1 : starEach [.SetComp elt [⟨tg, iter, ifs, 0⟩] scope cp] X.env = (false, eval (.SetComp elt [⟨tg, iter, ifs, 0⟩] scope cp) X.env) :: starEach [] X.env := by rfl) :
    PE X (.Call (.Name "sorted" p1) [.SetComp elt [⟨tg, iter, ifs, 0⟩] scope cp] [] pos) (liftE c (dSortSc ti g tt te (own.map (·.2)))) :=
  PE_imp (pe_callB (cr_sortedSet hc) hgs hms hv (pa_cons (pe_scI hc hN hi ok hg ht (fun s H C cl fp => froze (he s H C cl fp)) hs) pa_nil s1) (he := s1)) fun σ H Q h => sc_lift hsub h
end
end L2.DL
set_option Elab.async false
set_option linter.all false
set_option autoImplicit false
set_option maxRecDepth 100000
set_option maxHeartbeats 1000000
namespace L2.DL
open PySem PySem.Spec PyProof.Rows
section
variable {c : C} {X : Cx} {a b e tg : Expr} {te ta tb : DTE} {t : DTA} {pos p p2 ps apos cpos tpos : Pos}
def dListVals (te : DTE) : DTE := fun ρ Q => te ρ fun r ρ1 => ∃ kds, fz r = .dct kds ∧ Q (.own (kds.map (·.2))) ρ1
theorem de_listVals (hc : X.calm = true) (he : PE X e (liftE c te)) (hg : Gl X "list") (hm : X.mg "list" = none) (h : PE X e (liftV c (frz te)) → PE X (.Call (.Name "list" p) [.Call (.Attribute e "values" apos) [] [] cpos] [] pos) (tListVals (liftV c (frz te)))) :
    PE X (.Call (.Name "list" p) [.Call (.Attribute e "values" apos) [] [] cpos] [] pos) (liftE c (dListVals te)) :=
  PE_imp (h (froze he)) fun σ H Q ⟨F, ρ, QD, s, ht, k⟩ =>
    ⟨F, ρ, (fun d ρ1 => ∃ kds : List (Key × D), d = .dct kds ∧ QD (.own (kds.map fun p : Key × D => p.2)) ρ1), s, ht, fun v H1 F1 ρ1 d s1 st1 rv ⟨kds, e, q⟩ => by
      subst e
      cases rv with
      | dct h1 h2 h3 =>
        rename_i ar kvs
        refine ⟨_, _, rfl, s1.sub _ _ h1, fun p hp => ?_⟩
        have pe := PExt.own (o := .lst (kvs.map (·.2))) s1.sub hp
        have rr : RR0 c.K c.S F1 H1 (upd H1 p (.lst (kvs.map (·.2)))) (.ref p) (.own (kds.map (·.2))) := ⟨p, _, rfl, hp, upd_same, free_of s1.sub hp, .lst h3⟩
        obtain ⟨a1, b1⟩ := rr.rr s1
        exact k _ _ F1 ρ1 _ (pe.sr s1) (st1.trans pe.stp) a1 (New.back st1 s1 b1) q⟩
/-- keys as data -/
def kD : Key → D
  | .inl i => .int i
  | .inr x => .str x
theorem rep_key {K : PySem.W.Frag} {S : Src} {F : Hp} (k : Key) : Rep K S F (kV k) (kD k) := by
  cases k with
  | inl i => exact .int i
  | inr x => exact .str x
theorem reps_keys {K : PySem.W.Frag} {S : Src} {F : Hp} : ∀ ks : List Key, Reps K S F (ks.map kV) (ks.map kD)
  | [] => .nil
  | k :: ks => .cons (rep_key k) (reps_keys ks)
def zipD : List D → List D → List D
  | x :: xs, y :: ys => .tup [x, y] :: zipD xs ys
  | _, _ => []
theorem zipD_get : ∀ {xs ys : List D} {i : Nat} {d : D}, (zipD xs ys)[i]? = some d → ∃ x y, xs[i]? = some x ∧ ys[i]? = some y ∧ d = .tup [x, y]
  | [], _, i, d, h => by simp [zipD] at h
  | x :: xs, [], i, d, h => by simp [zipD] at h
  | x :: xs, y :: ys, 0, d, h => by simp [zipD] at h; subst h; exact ⟨x, y, rfl, rfl, rfl⟩
  | x :: xs, y :: ys, i + 1, d, h => by
    obtain ⟨a, b, h1, h2, h3⟩ := zipD_get (xs := xs) (ys := ys) (i := i) (by simpa [zipD] using h)
    exact ⟨a, b, by simpa using h1, by simpa using h2, h3⟩
theorem zipD_len : ∀ {xs ys : List D} {i : Nat}, (zipD xs ys).length ≤ i → xs.length ≤ i ∨ ys.length ≤ i
  | [], _, i, _ => .inl (Nat.zero_le _)
  | x :: xs, [], i, _ => .inr (Nat.zero_le _)
  | x :: xs, y :: ys, 0, h => by simp [zipD] at h
  | x :: xs, y :: ys, i + 1, h => by
    rcases zipD_len (xs := xs) (ys := ys) (i := i) (by simpa [zipD] using h) with h | h
    · exact .inl (by simpa using h)
    · exact .inr (by simpa using h)
theorem walk_zip {K : PySem.W.Frag} {S : Src} {F1 : Hp} {a b : Addr} {vs ws : List V} {ds es : List D} (h : LstAt K F1 a vs) (r : Reps K S F1 vs ds) (h' : LstAt K F1 b ws) (r' : Reps K S F1 ws es) : Walk K S (Itz K a b) F1 (zipD ds es) where
  go := fun F H i d l1 l2 hd => by
    obtain ⟨x, y, hx, hy, e⟩ := zipD_get hd
    subst e
    obtain ⟨v, hv, rv⟩ := r.get hx
    obtain ⟨w, hw, rw'⟩ := r'.get hy
    have hA : SqL K H a vs := (l1.lst h).sq l2
    have hB : SqL K H b ws := (l1.lst h').sq l2
    refine ⟨⟨vs, ws, v, w, hA, hB, hv, hw⟩, fun z H' q => ?_⟩
    obtain ⟨T, x1, y1, e1, hT, e2, f1, f2⟩ := q
    have g1 := f1 vs hA
    have g2 := f2 ws hB
    rw [hv] at g1; cases g1
    rw [hw] at g2; cases g2
    subst e1; subst e2
    have pe := PExt.new (o := .tup [v, w]) l2 hT
    exact ⟨_, pe, .tup upd_same (.cons ((rv.mono l1).mono pe.ff) (.cons ((rw'.mono l1).mono pe.ff) .nil))⟩
  stop := fun F H i l1 l2 hl => ⟨vs, ws, (l1.lst h).sq l2, (l1.lst h').sq l2, by rw [r.length, r'.length]; exact zipD_len hl⟩
def dZip (t : DTA) : DTI := fun ρ Q => t ρ fun ds ρ1 => ∃ xs ys, ds = [.lst xs, .lst ys] ∧ Q (zipD xs ys) ρ1
theorem di_zip {e2 : Expr} {elts : List Expr} {kk : Nat} (hK : X.K = c.K) (hg : Gl X "zip") (hm : X.mg "zip" = none) (ha : PA X [e, e2] (liftA c t))
    (hs : starEach [e, e2] X.env = (false, eval e X.env) :: starEach [e2] X.env := by rfl) (hpl : (backTo pos (starEach [e2] X.env)).any (·.1) = false := by rfl) :
    PI X (.Tuple elts kk tpos) (.Call (.Name "zip" p) [e, e2] [] pos) (liftI c (dZip t)) :=
  PI_imp (pi_zip hg hm ha hs hpl) fun σ H R ⟨F, ρ, QD, s, h, k⟩ =>
    ⟨F, ρ, _, s, h, fun vs H1 F1 ρ1 ds s1 st1 rv ⟨xs, ys, e, q⟩ => by
      subst e
      match rv with
      | .cons (.lst h1 r1) (.cons (.lst h2 r2) .nil) =>
        exact ⟨_, _, _, _, rfl, by rw [hK]; exact h1.sq s1.sub, by rw [hK]; exact h2.sq s1.sub, k _ H1 F1 ρ1 _ s1 st1 (by rw [hK]; exact walk_zip h1 r1 h2 r2) q⟩⟩
def enumD : Nat → List D → List D
  | _, [] => []
  | n, x :: xs => .tup [.int (n : Nat), x] :: enumD (n + 1) xs
theorem enumD_get : ∀ {xs : List D} {n i : Nat} {d : D}, (enumD n xs)[i]? = some d → ∃ x, xs[i]? = some x ∧ d = .tup [.int ((n + i : Nat)), x]
  | [], n, i, d, h => by simp [enumD] at h
  | x :: xs, n, 0, d, h => by simp [enumD] at h; subst h; exact ⟨x, rfl, rfl⟩
  | x :: xs, n, i + 1, d, h => by
    obtain ⟨a, h1, h2⟩ := enumD_get (xs := xs) (n := n + 1) (i := i) (by simpa [enumD] using h)
    refine ⟨a, by simpa using h1, ?_⟩
    rw [h2]
    congr 4
    omega
theorem enumD_len : ∀ {xs : List D} {n : Nat}, (enumD n xs).length = xs.length
  | [], n => rfl
  | x :: xs, n => by simp [enumD, enumD_len (xs := xs) (n := n + 1)]
theorem walk_enum {K : PySem.W.Frag} {S : Src} {F1 : Hp} {a : Addr} {vs : List V} {ds : List D} (h : LstAt K F1 a vs) (r : Reps K S F1 vs ds) : Walk K S (Ite K a) F1 (enumD 0 ds) where
  go := fun F H i d l1 l2 hd => by
    obtain ⟨x, hx, e⟩ := enumD_get hd
    rw [Nat.zero_add] at e
    subst e
    obtain ⟨v, hv, rv⟩ := r.get hx
    have hA : SqL K H a vs := (l1.lst h).sq l2
    refine ⟨⟨vs, v, hA, hv⟩, fun z H' q => ?_⟩
    obtain ⟨T, x1, e1, hT, e2, f1⟩ := q
    have g1 := f1 vs hA
    rw [hv] at g1; cases g1
    subst e1; subst e2
    have pe := PExt.new (o := .tup [.int (i : Nat), v]) l2 hT
    exact ⟨_, pe, .tup upd_same (.cons (.int _) (.cons ((rv.mono l1).mono pe.ff) .nil))⟩
  stop := fun F H i l1 l2 hl => ⟨vs, (l1.lst h).sq l2, by rw [r.length]; rw [enumD_len] at hl; exact hl⟩
def dEnum (t : DTA) : DTI := fun ρ Q => t ρ fun ds ρ1 => ∃ xs, ds = [.lst xs] ∧ Q (enumD 0 xs) ρ1
theorem di_enum {elts : List Expr} {kk : Nat} (hK : X.K = c.K) (hg : Gl X "enumerate") (hm : X.mg "enumerate" = none) (ha : PA X [e] (liftA c t)) (hs : starEach [e] X.env = [(false, eval e X.env)] := by rfl) :
    PI X (.Tuple elts kk tpos) (.Call (.Name "enumerate" p) [e] [] pos) (liftI c (dEnum t)) :=
  PI_imp (pi_enum hg hm ha hs) fun σ H R ⟨F, ρ, QD, s, h, k⟩ =>
    ⟨F, ρ, _, s, h, fun vs H1 F1 ρ1 ds s1 st1 rv ⟨xs, e, q⟩ => by
      subst e
      match rv with
      | .cons (.lst h1 r1) .nil => exact ⟨_, _, rfl, by rw [hK]; exact h1.sq s1.sub, k _ H1 F1 ρ1 _ s1 st1 (by rw [hK]; exact walk_enum h1 r1) q⟩⟩
/-- a text sign by sign -/
def signsD (z : Str) : List D := z.cps.toList.map fun c => .str ⟨#[c]⟩
def dItS (te : DTE) : DTI := fun ρ Q => te ρ fun r ρ1 => ∃ z, fz r = .str z ∧ Q (signsD z) ρ1
theorem walk_str {K : PySem.W.Frag} {S : Src} {F1 : Hp} (z : Str) : Walk K S (Its z) F1 (signsD z) where
  go := fun F H i d l1 l2 hd => by
    unfold signsD at hd
    rw [List.getElem?_map] at hd
    obtain ⟨ch, h1, h2⟩ := Option.map_eq_some_iff.mp hd
    subst h2
    have h1' : z.cps[i]? = some ch := by rw [← Array.getElem?_toList]; exact h1
    refine ⟨(Array.getElem?_eq_some_iff.mp h1').1, fun v H' ⟨e1, c2, e2, e3⟩ => ?_⟩
    subst e1
    rw [h1'] at e2; cases e2
    subst e3
    exact ⟨F, .refl l2, .str _⟩
  stop := fun F H i l1 l2 hl => by
    unfold signsD at hl
    have : z.cps.size ≤ i := by simpa using hl
    exact this
theorem di_str (he : PE X e (liftE c te)) : PI X tg e (liftI c (dItS te)) :=
  PI_imp (pi_str (froze he)) fun σ H R ⟨F, ρ, QD, s, h, k⟩ =>
    ⟨F, ρ, (fun d ρ1 => ∃ z, d = .str z ∧ QD (signsD z) ρ1), s, h, fun v H1 F1 ρ1 d s1 st1 rv ⟨z, e, q⟩ => by
      subst e
      cases rv
      exact ⟨z, rfl, k _ H1 F1 ρ1 _ s1 st1 (walk_str z) q⟩⟩
def dInR (neg : Bool) (ta : DTE) (t : DTA) : DTE := fun ρ Q => ta ρ fun r ρ1 => t ρ1 fun ds ρ2 => ∃ i lo hi : Int, fz r = .int i ∧ ds = [.int lo, .int hi] ∧ Q (.v (.bl (if neg then !decide (lo ≤ i ∧ i < hi) else decide (lo ≤ i ∧ i < hi)))) ρ2
theorem inr_lift {neg : Bool} {σ : L2.St} {H : Hp} {Q : VK} (h : liftE c (dInR neg ta t) σ H Q) : liftV c (frz ta) σ H fun x H1 => tCB (fun vs H Q => ∃ i j, vs = [V.int i, V.int j] ∧ ∀ p, H p = none → Q (.ref p) (upd H p (.rng i j))) (liftA c t) σ H1 fun y H2 => rInRng neg x y H2 Q := by
  obtain ⟨F, ρ, QD, s, h, k⟩ := h
  refine ⟨F, ρ, (fun d ρ1 => t ρ1 fun ds ρ2 => ∃ i lo hi : Int, d = .int i ∧ ds = [.int lo, .int hi] ∧ QD (.v (.bl (if neg then !decide (lo ≤ i ∧ i < hi) else decide (lo ≤ i ∧ i < hi)))) ρ2), s, h, fun x H1 F1 ρ1 d s1 st1 rx q => ?_⟩
  refine ⟨F1, ρ1, _, s1, q, fun vs H2 F2 ρ2 ds s2 st2 rv ⟨i, lo, hi, e1, e2, qq⟩ => ?_⟩
  clear q
  subst e1; subst e2
  cases rx
  match rv with
  | .cons (.int _) (.cons (.int _) .nil) =>
    refine ⟨lo, hi, rfl, fun p hp => ⟨i, p, lo, hi, rfl, rfl, upd_same, ?_⟩⟩
    have pe : PExt F2 H2 F2 (upd H2 p (.rng lo hi)) := PExt.own s2.sub hp
    exact k _ _ F2 ρ2 (.v (.bl _)) (pe.sr s2) ((st1.trans st2).trans pe.stp) (Rep.bl _) trivial qq
theorem dt_notInRng {es : List Expr} (hg : Gl X "range") (hm : X.mg "range" = none) (ha : PE X a (liftE c ta)) (hb : PA X (b :: es) (liftA c t)) (hv : bootBuiltins "range" = some (.type "range") := by decide +kernel)
    (he : starEach (b :: es) X.env = (false, eval b X.env) :: starEach es X.env := by rfl) (hpl : (backTo ps (starEach es X.env)).any (·.1) = false := by rfl) (hmk : behindInMarks .NotIn (.Call (.Name "range" p2) (b :: es) [] ps) = false := by rfl) :
    PT X (.Compare a [.NotIn] [.Call (.Name "range" p2) (b :: es) [] ps] pos) (liftT c (dTst (dInR true ta t))) :=
  PT_imp (pt_cmpR op_notInRng (froze ha) (pe_callTy cr_range2 hg hm hv hb (he := he) (hpl := hpl)) hmk) fun σ H Q h => inr_lift (tst_lift h)
end
section
variable {K : PySem.W.Frag}
def keyOf : D → Option Key
  | .int i => some (.inl i)
  | .str x => some (.inr x)
  | _ => none
def valD (kds : List (Key × D)) (k : Key) : Option D := (kds.find? fun kv => decide (kv.1 = k)).map (·.2)
theorem val_rep {S : Src} {F : Hp} {k : Key} : ∀ {kvs : List (Key × V)} {kds : List (Key × D)}, kvs.map (·.1) = kds.map (·.1) → Reps K S F (kvs.map (·.2)) (kds.map (·.2)) → (valD kds k = none → valV kvs k = none) ∧ ∀ d, valD kds k = some d → ∃ v, valV kvs k = some v ∧ Rep K S F v d
  | [], [], _, _ => ⟨fun _ => rfl, fun d h => by simp [valD] at h⟩
  | [], _ :: _, h, _ => by simp at h
  | _ :: _, [], h, _ => by simp at h
  | (a, x) :: kvs, (b, y) :: kds, h, r => by
    simp only [List.map_cons, List.cons.injEq] at h
    obtain ⟨h1, h2⟩ := h
    subst h1
    cases r with
    | cons r1 r2 =>
      have ih := val_rep (k := k) h2 r2
      by_cases e : a = k
      · subst e
        refine ⟨fun z => by simp [valD] at z, fun d z => ⟨x, by simp [valV], ?_⟩⟩
        have : y = d := by simpa [valD] using z
        rw [← this]; exact r1
      · have e1 : valD ((a, y) :: kds) k = valD kds k := by simp [valD, e]
        have e2 : valV ((a, x) :: kvs) k = valV kvs k := by simp [valV, e]
        rw [e1, e2]; exact ih
theorem rep_keyOf {S : Src} {F : Hp} {v : V} {d : D} {k : Key} (r : Rep K S F v d) (h : keyOf d = some k) : v = kV k := by
  cases r <;> first | (simp [keyOf] at h; subst h; rfl) | (simp [keyOf] at h)
/-- k in d -/
def rInDct (neg : Bool) : R2 := fun y x H Q => ∃ a kvs k, x = .ref a ∧ H a = some (.dK kvs) ∧ y = kV k ∧ Q (.bl (if neg then !(valV kvs k).isSome else (valV kvs k).isSome)) H
theorem op_inDct {X : Cx} (hu : X.A.units + 1 < cLine) : OpR X (compareOp .In) (rInDct false) := by
  intro pins s σ H y x u v Q I ry rx ⟨a, kvs, k, e, h, ey, q⟩
  subst e; subst ey
  obtain rfl : v = Value.ref a := rx
  exact d_in hu I (DGet.k h) ry fun s' I' => ⟨.bl _, H, I', rfl, q⟩
def dInDct (neg : Bool) (a b : D) (Q : Res → Prop) : Prop := ∃ kds k, b = .dct kds ∧ keyOf a = some k ∧ Q (.v (.bl (if neg then !(valD kds k).isSome else (valD kds k).isSome)))
theorem od_inDct {neg : Bool} : OpD K (rInDct neg) (dInDct neg) := by
  intro S F H x y d e QD Q s rx ry ⟨kds, k0, hb, hk, h⟩ k
  subst hb
  cases ry with
  | dct h1 h2 h3 =>
    rename_i a kvs
    have e : (valV kvs k0).isSome = (valD kds k0).isSome := by
      obtain ⟨n, m⟩ := val_rep (k := k0) h2 h3
      cases z : valD kds k0 with
      | none => rw [n z] <;> rfl
      | some d => obtain ⟨v, hv, _⟩ := m d z; rw [hv]; rfl
    exact ⟨a, kvs, k0, rfl, s _ _ h1, rep_keyOf rx hk, by rw [e]; exact k _ H F (.v (.bl _)) (.refl s) (.bl _) h⟩
end
/-- d[k] -/
def dDctIx (td ty : DTE) : DTE := fun ρ Q => td ρ fun r ρ1 => ty ρ1 fun r2 ρ2 => ∃ kds k d, fz r = .dct kds ∧ keyOf (fz r2) = some k ∧ valD kds k = some d ∧ Q (.v d) ρ2
theorem de_dctIx {c : C} {X : Cx} {o i : Expr} {td ty : DTE} {pos : Pos} (hu : X.A.units + 1 < cLine) (ho : PE X o (liftE c td)) (hi : PE X i (liftE c ty)) (hs : NoSl i) : PE X (.Subscript o i pos) (liftE c (dDctIx td ty)) :=
  PE_imp (pe_dget hu (froze ho) (froze hi) hs) fun σ H Q ⟨F, ρ, QD, s, h, k⟩ =>
    ⟨F, ρ, (fun d ρ1 => ty ρ1 fun r2 ρ2 => ∃ kds k d', d = .dct kds ∧ keyOf (fz r2) = some k ∧ valD kds k = some d' ∧ QD (.v d') ρ2), s, h, fun x H1 F1 ρ1 d s1 st1 rx q =>
      ⟨F1, ρ1, (fun e ρ2 => ∃ kds k d', d = .dct kds ∧ keyOf e = some k ∧ valD kds k = some d' ∧ QD (.v d') ρ2), s1, q, fun y H2 F2 ρ2 e s2 st2 ry ⟨kds, k0, d', e1, e2, e3, qq⟩ => by
        clear q
        subst e1
        cases rx.mono st2.ff with
        | dct h1 h2 h3 =>
          obtain ⟨v, hv, rv⟩ := (val_rep (k := k0) h2 h3).2 d' e3
          exact ⟨_, v, rfl, by rw [rep_keyOf ry e2, ← hv]; exact DGet.k (s2.sub _ _ h1), k v H2 F2 ρ2 (.v d') s2 (st1.trans st2) rv trivial qq⟩⟩⟩
end L2.DL
set_option Elab.async false
set_option linter.all false
set_option autoImplicit false
set_option maxRecDepth 100000
set_option maxHeartbeats 1000000
namespace L2.DL
open PySem PySem.Spec PyProof.Rows
section
variable {c : C} {X : Cx} {a b e d : Expr} {te ta tb td : DTE} {t : DTA} {pos : Pos}
def dPar3 (i j l : Nat) (ta tb td : DTE) : DTS := fun D ρ => ta ρ fun r1 ρ1 => tb ρ1 fun r2 ρ2 => td ρ2 fun r3 ρ3 => D.nx (((ρ3.set i (toSl r1)).set j (toSl r2)).set l (toSl r3))
/-- an own result is none of an earlier state's -/
theorem own_apart {σ : L2.St} {F H Fb Hb : Hp} {ρ ρb : Rho} {v w : V} {r1 r2 : Res} {p : Addr} {xs ys : D} (h1 : RR c σ Fb Hb ρb v r1) (e1 : r1 = .ow xs) (ep : v = .ref p) (n2 : New σ Hb ρb w r2) (e2 : r2 = .ow ys) : w ≠ .ref p := by
  subst e1; subst e2
  obtain ⟨q, vs, e, a, b, d, f, g, k⟩ := h1
  rw [ep] at e; cases e
  obtain ⟨q, e2, n2⟩ := n2
  intro z
  rw [e2] at z
  cases z
  rw [kn_of a d.plain.1] at n2; cases n2
theorem RR.stored {σ : L2.St} {F H Fb Hb : Hp} {ρ ρb : Rho} {i : Nat} {v w : V} {r1 r2 : Res} (s : SR c F H σ ρ) (h2 : RR c σ F H ρ w r2) (h1b : RR c σ Fb Hb ρb v r1) (n2 : New σ Hb ρb w r2) : RR c (σ.set i (some v)) F H (ρ.set i (toSl r1)) w r2 := by
  cases r2 with
  | v d => exact h2
  | ow ys =>
    obtain ⟨p, vs, e, a, b, d, f, g, k⟩ := h2
    refine ⟨p, vs, e, a, b, d, f, fun ⟨m, zs, z1, z2⟩ => ?_, k⟩
    rcases getElem?_set_cases z1 with ⟨f1, f2, f3⟩ | ⟨f1, f2⟩
    · subst f1
      rw [List.getElem?_set_self (by rw [← s.len]; exact f3)] at z2
      cases r1 with
      | v d' => cases f2
      | ow xs =>
        cases z2
        exact own_apart (F := F) (H := H) (ρ := ρ) h1b rfl rfl n2 rfl e
    · rw [List.getElem?_set_ne f1.symm] at z2
      exact g ⟨m, zs, f2, z2⟩
theorem ds_par3 {i j l : Nat} {x y z : Str} {px py pz pt : Pos} {kt k2 pt2} (hc : X.calm = true) (hN : X.N.Nodup) (hi : X.N[i]? = some x) (hj : X.N[j]? = some y) (hl : X.N[l]? = some z) (hij : i ≠ j) (hil : i ≠ l) (hjl : j ≠ l)
    (hx : X.env.scope.names.lookup x = some .local) (hy : X.env.scope.names.lookup y = some .local) (hz : X.env.scope.names.lookup z = some .local) (ha : PE X a (liftE c ta)) (hb : PE X b (liftE c tb)) (hd : PE X d (liftE c td))
    (hw : swappedStores [.Tuple [.Name x px, .Name y py, .Name z pz] kt pt] (.Tuple [a, b, d] k2 pt2) X.env = pure (some [x, y, z]))
    (he : starEach [a, b, d] X.env = (false, eval a X.env) :: starEach [b, d] X.env := by rfl) (he2 : starEach [b, d] X.env = (false, eval b X.env) :: starEach [d] X.env := by rfl) (he3 : starEach [d] X.env = (false, eval d X.env) :: starEach [] X.env := by rfl)
    (hs : swapsWithSole [.Tuple [.Name x px, .Name y py, .Name z pz] kt pt] (.Tuple [a, b, d] k2 pt2) pos.line X.env = pure false := by rfl) :
    PS X (.Assign [.Tuple [.Name x px, .Name y py, .Name z pz] kt pt] (.Tuple [a, b, d] k2 pt2) pos) (liftS c (dPar3 i j l ta tb td)) :=
  PS_imp (ps_par3 hc hN hi hj hl hij hil hjl hx hy hz (pa_cons ha (pa_cons hb (pa_cons hd pa_nil he3) he2) he) hw hs) fun E σ H ⟨F, ρ, DD, s, h, k⟩ =>
    ⟨F, ρ, (fun r1 ρ1 => tb ρ1 fun r2 ρ2 => td ρ2 fun r3 ρ3 => DD.nx (((ρ3.set i (toSl r1)).set j (toSl r2)).set l (toSl r3))), s, h, fun v H1 F1 ρ1 r1 s1 st1 rr1 nw1 q1 =>
      ⟨F1, ρ1, (fun r2 ρ2 => td ρ2 fun r3 ρ3 => DD.nx (((ρ3.set i (toSl r1)).set j (toSl r2)).set l (toSl r3))), s1, q1, fun w H2 F2 ρ2 r2 s2 st2 rr2 nw2 q2 =>
        ⟨F2, ρ2, (fun r3 ρ3 => DD.nx (((ρ3.set i (toSl r1)).set j (toSl r2)).set l (toSl r3))), s2, q2, fun u H3 F3 ρ3 r3 s3 st3 rr3 nw3 q3 => by
          refine ⟨v, w, u, rfl, k.nx _ H3 F3 _ ((st1.ff.trans st2.ff).trans st3.ff) ?_ q3⟩
          have a1 := (rr1.keep st2 s2).keep st3 s3
          have a2 := rr2.keep st3 s3
          have b1 : SR c F3 H3 ((σ.set i (some v)).set j (some w)) ((ρ3.set i (toSl r1)).set j (toSl r2)) := store2 s3 a1 a2 rr1 nw2
          refine b1.store ?_
          -- the third one beside the first two
          have c1 : RR c (σ.set i (some v)) F3 H3 (ρ3.set i (toSl r1)) u r3 := RR.stored s3 rr3 (rr1.keep st2 s2) nw3
          have c2 : RR c (σ.set i (some v)) F2 H2 (ρ2.set i (toSl r1)) w r2 := RR.stored s2 rr2 rr1 nw2
          have n3 : New (σ.set i (some v)) H2 (ρ2.set i (toSl r1)) u r3 := by
            cases r3 with
            | v d => trivial
            | ow zs =>
              obtain ⟨p, ep, n⟩ := nw3
              exact ⟨p, ep, n⟩
          exact RR.stored (s3.store a1) c1 c2 n3⟩⟩⟩
def dAugI (g : Int → Int → Int) (i : Nat) (te : DTE) : DTS := fun D ρ => ∃ n : Int, ρ[i]? = some (Sl.d (.int n)) ∧ te ρ fun r ρ1 => ∃ m : Int, fz r = .int m ∧ D.nx (ρ1.set i (.d (.int (g n m))))
theorem ds_augI {g : Int → Int → Int} {op : Operator} {i : Nat} {x : Str} {pos' : Pos} (hN : X.N.Nodup) (hi : X.N[i]? = some x) (hx : Loc X.env.scope x) (he : PE X e (liftE c te)) (ho : PIp X op (ipI g)) (hf : X.fn x = true ∨ X.env.scope.names.lookup x = some .local := by first | exact .inl rfl | exact .inr rfl | assumption) :
    PS X (.AugAssign (.Name x pos') op e pos) (liftS c (dAugI g i te)) :=
  PS_imp (ps_aug hN hi hx (froze he) ho hf) fun E σ H ⟨F, ρ, DD, s, ⟨n, hn, h⟩, k⟩ => by
    obtain ⟨v, e1, rv⟩ := s.sl i _ hn
    cases rv
    refine ⟨_, e1, F, ρ, (fun d ρ1 => ∃ m : Int, d = .int m ∧ DD.nx (ρ1.set i (.d (.int (g n m))))), s, h, fun v H1 F1 ρ1 d s1 st1 rv ⟨m, em, q⟩ => ?_⟩
    subst em
    cases rv
    exact ⟨n, m, rfl, rfl, k.nx _ H1 F1 _ st1.ff (s1.store (r := .v (.int (g n m))) (Rep.int _)) q⟩
def truD : D → Option Bool
  | .non => some false
  | .bl b => some b
  | .int i => some (i != 0)
  | .str z => if z.length ≤ sizeLine then some ((z.length : Int) != 0) else none
  | .lst xs => some (!xs.isEmpty)
  | .tup xs => some (!xs.isEmpty)
  | .dct xs => some (!xs.isEmpty)
  | _ => none
theorem isEmpty_reps {K : PySem.W.Frag} {S : Src} {F : Hp} {vs : List V} {ds : List D} (r : Reps K S F vs ds) : vs.isEmpty = ds.isEmpty := by
  cases r <;> rfl
theorem isEmpty_keys {α β : Type} {xs : List (Key × α)} {ys : List (Key × β)} (h : xs.map (·.1) = ys.map (·.1)) : xs.isEmpty = ys.isEmpty := by
  cases xs <;> cases ys <;> first | rfl | (simp at h)
def dTru (te : DTE) : DTT := fun ρ Q => te ρ fun r ρ1 => ∃ b, truD (fz r) = some b ∧ Q b ρ1
theorem tru_rep {K : PySem.W.Frag} {S : Src} {F H : Hp} {v : V} {d : D} {b : Bool} (s : Le F H) (r : Rep K S F v d) (h : truD d = some b) : TruV K v H b := by
  cases r with
  | non => cases h; exact rfl
  | bl b => cases h; exact rfl
  | int i => cases h; exact rfl
  | str z =>
    have h : (if z.length ≤ sizeLine then some ((z.length : Int) != 0) else none) = some b := h
    by_cases hz : z.length ≤ sizeLine
    · rw [if_pos hz] at h
      cases h
      exact ⟨hz, rfl⟩
    · rw [if_neg hz] at h
      cases h
  | lst h1 r1 => cases h; exact .inl ⟨_, h1.sq s, by rw [isEmpty_reps r1]⟩
  | tup h1 r1 => cases h; exact .inr (.inl ⟨_, s.seqT (.inl (.inl h1)), by rw [isEmpty_reps r1]⟩)
  | dct h1 h2 h3 => cases h; exact .inr (.inr ⟨_, s _ _ h1, by rw [isEmpty_keys h2]⟩)
  | _ => cases h
theorem dt_tru (hK : X.K = c.K) (ha : PE X a (liftE c te)) (he : ∀ whole, isTrue a X.env whole = (do let v ← whole; standAt a.pos; holding [v] (truthy v)) := by intro _; rfl) : PT X a (liftT c (dTru te)) :=
  PT_imp (pt_truth (froze ha) he) fun σ H Q ⟨F, ρ, QD, s, h, k⟩ =>
    ⟨F, ρ, (fun d ρ1 => ∃ b, truD d = some b ∧ QD b ρ1), s, h, fun v H1 F1 ρ1 d s1 st1 rv ⟨b, hb, q⟩ => ⟨b, by rw [hK]; exact tru_rep s1.sub rv hb, k b H1 F1 ρ1 s1 st1 q⟩⟩
def dChain (dr dr' : D → D → (Res → Prop) → Prop) (ta tb td : DTE) : DTE := fun ρ Q => ta ρ fun r1 ρ1 => tb ρ1 fun r2 ρ2 => dr (fz r1) (fz r2) fun r => ∃ b, r = .v (.bl b) ∧ if b = true then td ρ2 fun r3 ρ3 => dr' (fz r2) (fz r3) fun r => Q r ρ3 else Q (.v (.bl false)) ρ2
end
end L2.DL
set_option Elab.async false
set_option linter.all false
set_option autoImplicit false
set_option maxRecDepth 100000
set_option maxHeartbeats 1000000
namespace L2.DL
open PySem PySem.Spec PyProof.Rows
theorem nlc : ¬ kc = kl := by decide +kernel
theorem nmc : ¬ kc = km := by decide +kernel
theorem nml : ¬ kl = km := by decide +kernel
theorem ntc : ¬ kc = kt := by decide +kernel
theorem ntl : ¬ kl = kt := by decide +kernel
theorem ntm : ¬ km = kt := by decide +kernel
theorem nlm : ¬ km = kl := by decide +kernel
theorem nlt : ¬ kt = kl := by decide +kernel
theorem nmt : ¬ kt = km := by decide +kernel
section
variable {q : Addr} {l m t : Int} {v : V}
abbrev srcK (q : Addr) (l m t : Int) : List (Key × V) := [(kc, .ref q), (kl, .int l), (km, .int m), (kt, .int t)]
theorem get_c : valV (srcK q l m t) kc = some (.ref q) := valV_pos rfl
theorem get_l : valV (srcK q l m t) kl = some (.int l) := (valV_neg nlc).trans (valV_pos rfl)
theorem get_m : valV (srcK q l m t) km = some (.int m) := (valV_neg nmc).trans ((valV_neg nml).trans (valV_pos rfl))
theorem get_t : valV (srcK q l m t) kt = some (.int t) := (valV_neg ntc).trans ((valV_neg ntl).trans ((valV_neg ntm).trans (valV_pos rfl)))
theorem put_l {l' : Int} : putK (srcK q l m t) kl (.int l') = srcK q l' m t := by unfold putK srcK; simp [nlc, nlm, nlt]
theorem put_m {m' : Int} : putK (srcK q l m t) km (.int m') = srcK q l m' t := by unfold putK srcK; simp [nmc, nml, nmt]
theorem put_t {t' : Int} : putK (srcK q l m t) kt (.int t') = srcK q l m t' := by unfold putK srcK; simp [ntc, ntl, ntm]
end
section
variable {c : C} {σ : L2.St} {F H H' : Hp} {ρ : Rho}
/-- the source alone has changed -/
theorem SR.src' (s : SR c F H σ ρ) (h : ∀ p, ¬ inS c.S p → H' p = H p) (k : SrcOk c.S H') : SR c F H' σ ρ where
  sub' := fun p o z => by
    rw [kn_same (h p fun y => by rw [s.srcF p y] at z; cases z)]
    exact s.sub' p o z
  f0 := s.f0
  h0 := fun p o z y => by rw [h p y]; exact s.h0 p o z y
  n0 := s.n0
  src := k
  srcF := s.srcF
  len := s.len
  sl := s.sl
  ow := fun i xs z => by
    obtain ⟨p, vs, a, b, d, f, g, y⟩ := s.ow i xs z
    exact ⟨p, vs, a, by rw [h p y]; exact b, d, f, g, y⟩
  dis := s.dis
end
/-- an int that the source keeps -/
def dSrcG (i : Nat) (lim : Int → Prop) : DTE := fun ρ Q => ρ[i]? = some (Sl.d .src) ∧ ∀ k : Int, 0 ≤ k → lim k → Q (.v (.int k)) ρ
def dSrcP (i : Nat) (lim : Int → Prop) (te : DTE) : DTS := fun D ρ => te ρ fun r ρ1 => ρ1[i]? = some (Sl.d .src) ∧ ∃ k : Int, fz r = .int k ∧ 0 ≤ k ∧ lim k ∧ D.nx ρ1
def limL : Int → Prop := fun _ => True
def limM : Int → Prop := fun m => m < 4294967296
section
variable {c : C} {X : Cx} {e : Expr} {te : DTE} {i : Nat} {x : Str} {pos p2 p3 : Pos} {j : Nat}
theorem src_at {F H : Hp} {σ : L2.St} {ρ : Rho} (s : SR c F H σ ρ) (h : ρ[i]? = some (Sl.d .src)) :
    ∃ (a q : Addr) (l m t : Int) (cs : List Int), σ[i]? = some (some (V.ref a)) ∧ c.S.1 = some (a, q) ∧ H a = some (.dK (srcK q l m t)) ∧ H q = some (.lst (cs.map V.int)) ∧ (∀ z, z ∈ cs → 0 ≤ z) ∧ 0 ≤ l ∧ 0 ≤ m ∧ m < 4294967296 ∧ 0 ≤ t := by
  obtain ⟨v, hv, rv⟩ := s.sl i _ h
  cases rv with
  | src hS =>
    rename_i a q
    obtain ⟨l, m, t, cs, h1, h2, h3, h4, h5, h6, h7⟩ := s.src.ok a q hS
    exact ⟨a, q, l, m, t, cs, hv, hS, h1, h2, h3, h4, h5, h6, h7⟩
theorem de_srcL (hu : X.A.units + 1 < cLine) (ho : PE X e (tVar i)) (hs : NoSl (.Constant (.str "left") j p2)) : PE X (.Subscript e (.Constant (.str "left") j p2) pos) (liftE c (dSrcG i limL)) :=
  PE_imp (pe_dget hu ho pe_str hs) fun σ H Q ⟨F, ρ, QD, s, ⟨h, q⟩, k⟩ => by
    obtain ⟨a, b, l, m, t, cs, h1, h2, h3, h4, h5, h6, h7, h8, h9⟩ := src_at s h
    exact ⟨_, h1, a, _, rfl, (show DGet H a (kV kl) (some (.int l)) from by rw [← get_l]; exact DGet.k h3), k _ H F ρ (.v (.int l)) s Stp.refl (.int l) trivial (q l h6 trivial)⟩
theorem de_srcM (hu : X.A.units + 1 < cLine) (ho : PE X e (tVar i)) (hs : NoSl (.Constant (.str "mixed") j p2)) : PE X (.Subscript e (.Constant (.str "mixed") j p2) pos) (liftE c (dSrcG i limM)) :=
  PE_imp (pe_dget hu ho pe_str hs) fun σ H Q ⟨F, ρ, QD, s, ⟨h, q⟩, k⟩ => by
    obtain ⟨a, b, l, m, t, cs, h1, h2, h3, h4, h5, h6, h7, h8, h9⟩ := src_at s h
    exact ⟨_, h1, a, _, rfl, (show DGet H a (kV km) (some (.int m)) from by rw [← get_m]; exact DGet.k h3), k _ H F ρ (.v (.int m)) s Stp.refl (.int m) trivial (q m h7 h8)⟩
theorem de_srcT (hu : X.A.units + 1 < cLine) (ho : PE X e (tVar i)) (hs : NoSl (.Constant (.str "turn") j p2)) : PE X (.Subscript e (.Constant (.str "turn") j p2) pos) (liftE c (dSrcG i limL)) :=
  PE_imp (pe_dget hu ho pe_str hs) fun σ H Q ⟨F, ρ, QD, s, ⟨h, q⟩, k⟩ => by
    obtain ⟨a, b, l, m, t, cs, h1, h2, h3, h4, h5, h6, h7, h8, h9⟩ := src_at s h
    exact ⟨_, h1, a, _, rfl, (show DGet H a (kV kt) (some (.int t)) from by rw [← get_t]; exact DGet.k h3), k _ H F ρ (.v (.int t)) s Stp.refl (.int t) trivial (q t h9 trivial)⟩
theorem srcok_at {S : Src} {H : Hp} {a q : Addr} {l m t : Int} {cs : List Int} (hS : S.1 = some (a, q)) (h1 : H a = some (.dK (srcK q l m t))) (h2 : H q = some (.lst (cs.map V.int))) (h3 : ∀ z, z ∈ cs → 0 ≤ z) (h4 : 0 ≤ l) (h5 : 0 ≤ m) (h6 : m < 4294967296) (h7 : 0 ≤ t) (ht : ∀ P q, S.2 = some (P, q) → LamX.TabS H P q) : SrcOk S H := by
  refine ⟨fun a' q' e => ?_, ht⟩
  rw [hS] at e
  cases e
  exact ⟨l, m, t, cs, h1, h2, h3, h4, h5, h6, h7⟩
theorem put_end {F H : Hp} {σ : L2.St} {ρ : Rho} {a q : Addr} {l m t : Int} {cs : List Int} (s : SR c F H σ ρ) (hS : c.S.1 = some (a, q)) {H0k : List (Key × V)} (hH : H a = some (.dK H0k)) (h2 : H q = some (.lst (cs.map V.int))) (h3 : ∀ z, z ∈ cs → 0 ≤ z) (h4 : 0 ≤ l) (h5 : 0 ≤ m) (h6 : m < 4294967296) (h7 : 0 ≤ t) :
    SR c F (upd H a (.dK (srcK q l m t))) σ ρ := by
  have nq : q ≠ a := fun e => by rw [e, hH] at h2; cases h2
  exact s.src' (fun p hp => upd_ne fun e => hp (.inl ⟨a, q, hS, .inl e⟩)) (srcok_at hS upd_same (by rw [upd_ne nq]; exact h2) h3 h4 h5 h6 h7 fun P q' e => tab_put (s.src.tab P q' e) hH)
theorem ds_srcL (hu : X.A.units + 1 < cLine) (hv : PE X e (liftE c te)) {o : Expr} (ho : PE X o (tVar i)) (hs : swapsWith e (some (.Subscript o (.Constant (.str "left") j p2) p3)) pos.line X.env = pure false) : PS X (.Assign [.Subscript o (.Constant (.str "left") j p2) p3] e pos) (liftS c (dSrcP i limL te)) :=
  PS_imp (ps_dput hu ho pe_str (froze hv) hs) fun E σ H ⟨F, ρ, DD, s, h, k⟩ => by
    refine ⟨F, ρ, (fun d ρ1 => ρ1[i]? = some (Sl.d .src) ∧ ∃ k : Int, d = .int k ∧ 0 ≤ k ∧ limL k ∧ DD.nx ρ1), s, h, fun v H1 F1 ρ1 d s1 st1 rv ⟨hi, n, ed, n0, _, qn⟩ => ?_⟩
    subst ed
    cases rv
    obtain ⟨a, b, l, m, t, cs, h1, h2, h3, h4, h5, h6, h7, h8, h9⟩ := src_at s1 hi
    exact ⟨_, h1, a, _, rfl, DPut.k (k := kl) h3 (show 4 < sizeLine by decide), by rw [put_l]; exact k.nx _ _ F1 ρ1 st1.ff (put_end s1 h2 h3 h4 h5 n0 h7 h8 h9) qn⟩
theorem ds_srcM (hu : X.A.units + 1 < cLine) (hv : PE X e (liftE c te)) {o : Expr} (ho : PE X o (tVar i)) (hs : swapsWith e (some (.Subscript o (.Constant (.str "mixed") j p2) p3)) pos.line X.env = pure false) : PS X (.Assign [.Subscript o (.Constant (.str "mixed") j p2) p3] e pos) (liftS c (dSrcP i limM te)) :=
  PS_imp (ps_dput hu ho pe_str (froze hv) hs) fun E σ H ⟨F, ρ, DD, s, h, k⟩ => by
    refine ⟨F, ρ, (fun d ρ1 => ρ1[i]? = some (Sl.d .src) ∧ ∃ k : Int, d = .int k ∧ 0 ≤ k ∧ limM k ∧ DD.nx ρ1), s, h, fun v H1 F1 ρ1 d s1 st1 rv ⟨hi, n, ed, n0, nl, qn⟩ => ?_⟩
    subst ed
    cases rv
    obtain ⟨a, b, l, m, t, cs, h1, h2, h3, h4, h5, h6, h7, h8, h9⟩ := src_at s1 hi
    exact ⟨_, h1, a, _, rfl, DPut.k (k := km) h3 (show 4 < sizeLine by decide), by rw [put_m]; exact k.nx _ _ F1 ρ1 st1.ff (put_end s1 h2 h3 h4 h5 h6 n0 nl h9) qn⟩
theorem ds_srcT (hu : X.A.units + 1 < cLine) (hv : PE X e (liftE c te)) {o : Expr} (ho : PE X o (tVar i)) (hs : swapsWith e (some (.Subscript o (.Constant (.str "turn") j p2) p3)) pos.line X.env = pure false) : PS X (.Assign [.Subscript o (.Constant (.str "turn") j p2) p3] e pos) (liftS c (dSrcP i limL te)) :=
  PS_imp (ps_dput hu ho pe_str (froze hv) hs) fun E σ H ⟨F, ρ, DD, s, h, k⟩ => by
    refine ⟨F, ρ, (fun d ρ1 => ρ1[i]? = some (Sl.d .src) ∧ ∃ k : Int, d = .int k ∧ 0 ≤ k ∧ limL k ∧ DD.nx ρ1), s, h, fun v H1 F1 ρ1 d s1 st1 rv ⟨hi, n, ed, n0, _, qn⟩ => ?_⟩
    subst ed
    cases rv
    obtain ⟨a, b, l, m, t, cs, h1, h2, h3, h4, h5, h6, h7, h8, h9⟩ := src_at s1 hi
    exact ⟨_, h1, a, _, rfl, DPut.k (k := kt) h3 (show 4 < sizeLine by decide), by rw [put_t]; exact k.nx _ _ F1 ρ1 st1.ff (put_end s1 h2 h3 h4 h5 h6 h7 h8 n0) qn⟩
end
def dFeed (i j : Nat) : DTS := fun D ρ => ρ[i]? = some (Sl.d .src) ∧ (∃ n : Int, ρ[j]? = some (Sl.d (.int n))) ∧ D.nx ρ
theorem last_get {cs : List Int} (h : 0 < cs.length) : ∃ z, (cs.map V.int)[(cs.map V.int).length - 1]? = some (V.int z) ∧ z ∈ cs := by
  have hl : cs.length - 1 < cs.length := by omega
  refine ⟨cs[cs.length - 1], ?_, List.getElem_mem hl⟩
  rw [List.length_map, List.getElem?_map, List.getElem?_eq_getElem hl]
  rfl
theorem map_dropLast {cs : List Int} : (cs.map V.int).dropLast = cs.dropLast.map V.int := by rw [List.dropLast_eq_take, List.dropLast_eq_take, List.length_map, List.map_take]
section
variable {c : C} {X : Cx} {em o o2 o3 o4 : Expr} {i j : Nat}
theorem ds_feed {a1 a2 a3 a4 a5 a6 a7 : Nat} {b1 b2 b3 b4 b5 b6 b7 c1 c2 c3 c4 c5 c6 p1 pa cp ap s1 s2 s3 pos wp : Pos} (hp : PassesOwn (model X.prog X.w) X.A X.env X.xe) (hu : X.A.units + 1 < cLine) (gl : Gl X "len") (ml : X.mg "len" = none)
    (hm : PE X em (tVar j)) (h1 : PE X o (tVar i)) (h2 : PE X o2 (tVar i)) (h3 : PE X o3 (tVar i)) (h4 : PE X o4 (tVar i))
    (n1 : NoSl (.Constant (.str "left") a2 b2)) (n2 : NoSl (.Constant (.str "cells") a4 b4)) (n3 : NoSl (.Constant (.str "cells") a7 b7))
    (k1 : behindInMarks .Gt (.Constant (.int 1) a1 b1) = false) (k2 : behindInMarks .Lt (.Constant (.int 2) a3 b3) = false) (k3 : behindInMarks .Gt (.Constant (.int 0) a5 b5) = false)
    (e1 : starEach [.Subscript o2 (.Constant (.str "cells") a4 b4) c4] X.env = (false, eval (.Subscript o2 (.Constant (.str "cells") a4 b4) c4) X.env) :: starEach [] X.env) (e2 : (backTo pa (starEach [] X.env)).any (·.1) = false)
    (hb : attributeBase (.Subscript o4 (.Constant (.str "cells") a7 b7) c6) "pop" X.env (eval (.Subscript o4 (.Constant (.str "cells") a7 b7) c6) X.env) = eval (.Subscript o4 (.Constant (.str "cells") a7 b7) c6) X.env) (hl : (ap.endLine == cp.line) = true)
    (hs : swapsWith (.Call (.Attribute (.Subscript o4 (.Constant (.str "cells") a7 b7) c6) "pop" ap) [] [] cp) (some (.Subscript o3 (.Constant (.str "left") a6 b6) s1)) s2.line X.env = pure false) :
    PS X (.While (.BoolOp .And [.Compare em [.Gt] [.Constant (.int 1) a1 b1] c1, .Compare (.Subscript o (.Constant (.str "left") a2 b2) c2) [.Lt] [.Constant (.int 2) a3 b3] c3, .Compare (.Call (.Name "len" p1) [.Subscript o2 (.Constant (.str "cells") a4 b4) c4] [] pa) [.Gt] [.Constant (.int 0) a5 b5] c5] pos)
      [.Assign [.Subscript o3 (.Constant (.str "left") a6 b6) s1] (.Call (.Attribute (.Subscript o4 (.Constant (.str "cells") a7 b7) c6) "pop" ap) [] [] cp) s2] [] wp) (liftS c (dFeed i j)) :=
  PS_imp (ps_while hp (pw_and (pt_cmpR op_gt hm pe_int k1) (pw_and (pt_cmpR op_lt (pe_dget hu h1 pe_str n1) pe_int k2) (pw_and1 (pt_cmpR op_gt (pe_callB call_len gl ml PySem.boot_len (pa_cons (pe_dget hu h2 pe_str n2) pa_nil e1) (he := e1) (hpl := e2)) pe_int k3)))).pt
      (pss_one (ps_dput hu h3 pe_str (pe_bm0 PySem.F.plainAttrs_list PySem.F.slot_list_pop PySem.F.type_list_pop mt_pop (pe_dget hu h4 pe_str n3) hb hl) hs)))
    fun E σ H ⟨F, ρ, DD, s, ⟨hi, ⟨n, hj⟩, hnx⟩, k⟩ => by
      refine ⟨fun m' σ' H' => σ' = σ ∧ SR c F H' σ ρ ∧ ∃ (a q : Addr) (l m t : Int) (cs : List Int), m' = cs.length ∧ σ[i]? = some (some (V.ref a)) ∧ c.S.1 = some (a, q) ∧ H' a = some (.dK (srcK q l m t)) ∧ H' q = some (.lst (cs.map V.int)) ∧ (∀ z, z ∈ cs → 0 ≤ z) ∧ 0 ≤ l ∧ 0 ≤ m ∧ m < 4294967296 ∧ 0 ≤ t, ?_, ?_⟩
      · obtain ⟨a, q, l, m, t, cs, z⟩ := src_at s hi
        exact ⟨_, rfl, s, a, q, l, m, t, cs, rfl, z⟩
      · rintro m' σ' H' ⟨rfl, s', a, q, l, m, t, cs, rfl, g1, g2, g3, g4, g5, g6, g7, g8, g9⟩
        obtain ⟨vn, gn, rn⟩ := s'.sl j _ hj
        cases rn
        have dl : DGet H' a (kV kl) (some (.int l)) := by rw [← get_l]; exact DGet.k g3
        have dc : DGet H' a (kV kc) (some (.ref q)) := by rw [← get_c (q := q) (l := l) (m := m) (t := t)]; exact DGet.k g3
        have fin : E.nx σ' H' := k.nx σ' H' F ρ (Le.refl _) s' hnx
        refine ⟨_, gn, n, 1, rfl, rfl, _, rfl, ?_⟩
        by_cases z1 : decide (1 < n) = true
        · rw [z1]
          refine iteT ⟨_, g1, a, _, rfl, dl, l, 2, rfl, rfl, _, rfl, ?_⟩
          by_cases z2 : decide (l < 2) = true
          · rw [z2]
            refine iteT ⟨_, g1, a, _, rfl, dc, _, cs.length, rfl, .inl ⟨_, .inl (.inl g4), (List.length_map ..).symm⟩, _, 0, rfl, rfl, _, rfl, ?_⟩
            by_cases z3 : decide ((0 : Int) < cs.length) = true
            · rw [z3]
              refine iteT ?_
              have hlen : 0 < cs.length := by have := of_decide_eq_true z3; omega
              obtain ⟨w, w1, w2⟩ := last_get hlen
              have nq : q ≠ a := fun e => by rw [e, g3] at g4; cases g4
              refine ⟨fun σ2 H2 => ∃ m2, m2 < cs.length ∧ σ2 = σ' ∧ SR c F H2 σ' ρ ∧ ∃ (a q : Addr) (l m t : Int) (cs : List Int), m2 = cs.length ∧ σ'[i]? = some (some (V.ref a)) ∧ c.S.1 = some (a, q) ∧ H2 a = some (.dK (srcK q l m t)) ∧ H2 q = some (.lst (cs.map V.int)) ∧ (∀ z, z ∈ cs → 0 ≤ z) ∧ 0 ≤ l ∧ 0 ≤ m ∧ m < 4294967296 ∧ 0 ≤ t, fun σ2 H2 z => z, ?_⟩
              refine ⟨_, g1, a, _, rfl, dc, .inl ⟨rfl, _, .inl (.inl g4)⟩, q, _, _, rfl, rfl, g4, w1, ?_⟩
              have ga : (upd H' q (.lst ((cs.map V.int).dropLast))) a = some (.dK (srcK q l m t)) := by rw [upd_ne nq.symm]; exact g3
              refine ⟨_, g1, a, _, rfl, DPut.k (k := kl) ga (show 4 < sizeLine by decide), ?_⟩
              rw [put_l, map_dropLast]
              have pos : ∀ z, z ∈ cs.dropLast → 0 ≤ z := fun z hz => g5 z (List.dropLast_subset _ hz)
              have ok : SrcOk c.S (upd (upd H' q (.lst (cs.dropLast.map V.int))) a (.dK (srcK q w m t))) := srcok_at g2 upd_same (by rw [upd_ne nq, upd_same]) pos (g5 w w2) g7 g8 g9 fun P q' e => tab_put (tab_put (s'.src.tab P q' e) g4) (by rw [upd_ne nq.symm]; exact g3)
              refine ⟨cs.length - 1, by omega, rfl, s'.src' (fun p hp => ?_) ok, a, q, w, m, t, cs.dropLast, by rw [List.length_dropLast], g1, g2, upd_same, by rw [upd_ne nq, upd_same], pos, g5 w w2, g7, g8, g9⟩
              rw [upd_ne fun e => hp (.inl ⟨a, q, g2, .inl e⟩), upd_ne fun e => hp (.inl ⟨a, q, g2, .inr e⟩)]
            · rw [Bool.eq_false_iff.mpr z3]
              exact iteF fin
          · rw [Bool.eq_false_iff.mpr z2]
            exact iteF (iteF fin)
        · rw [Bool.eq_false_iff.mpr z1]
          exact iteF (iteF fin)
end
end L2.DL
set_option Elab.async false
set_option linter.all false
set_option autoImplicit false
set_option maxRecDepth 100000
set_option maxHeartbeats 1000000
namespace L2.DL
open PySem PySem.Spec PyProof.Rows
section
variable {c : C} {X : Cx} {pos : Pos} {x : Str}
/-- a built-in class as a value -/
theorem de_bty {T : String} (hg : Gl X x) (hm : X.mg x = none) (hv : bootBuiltins x = some (.type T)) (hn : x ≠ "__name__" := by decide) (hd : (x == ("__debug__" : Str)) = false := by decide) : PE X (.Name x pos) (liftE c (dC (.ty T))) :=
  de_c (te := tC (.ty T)) (pe_bltn hg hm hv (show RelV (.ty T) (.type T) from rfl) hn hd) fun _ => .ty T
/-- a text of the module -/
theorem de_con {z : Str} (hg : Gl X x) (hm : ∃ t, X.mg x = some (.str z t)) (hd : (x == ("__debug__" : Str)) = false := by decide) : PE X (.Name x pos) (liftE c (dC (.str z))) :=
  let ⟨t, h⟩ := hm
  de_glob hg h (show RelV (.str z) (.str z t) from ⟨t, rfl⟩) (fun _ => .str z) hd
def dNever : DTS := fun _ _ => False
theorem ds_never {st : Stmt} : PS X st (liftS c dNever) := PS_imp ps_never fun D σ H ⟨F, ρ, DD, s, h, k⟩ => h.elim
theorem PSs_ex {α : Type} {p : α → Prop} {st : List Stmt} {t : α → TS} (h : ∀ a, p a → PSs X st (t a)) : PSs X st (fun D σ H => ∃ a, p a ∧ t a D σ H) := ⟨fun pins s σ H D I ⟨a, pa, q⟩ => (h a pa).run pins s σ H D I q⟩
end
/-- element by element; J is kept, what is kept of x is f x -/
theorem lcL_fun {α : Type} {g : DTG} {tt : DTT} {te : DTE} {vs : List Nat} {Q : DQ} (J : Rho → Prop) (inj : α → D) (p : α → Bool) (f : α → D)
    (step : ∀ (x : α) ρ, J ρ → ∀ (K1 : DQ) (K2 : Rho → Prop), (p x = true → ∀ r ρ4, fz r = f x → J (dwipe ρ4 vs) → K1 r ρ4) → (p x = false → ∀ ρ3, J (dwipe ρ3 vs) → K2 ρ3) → g (inj x) ρ fun ρ2 => tt ρ2 fun b ρ3 => if b = true then te ρ3 K1 else K2 ρ3) :
    ∀ (xs : List α) (acc : List D) (ρ : Rho), acc.length + xs.length ≤ 1000000 → J ρ → (∀ ρ', J ρ' → Q (.own (acc ++ (xs.filter p).map f)) ρ') → dLcL g tt te vs Q (xs.map inj) acc ρ
  | [], acc, ρ, _, j, q => by
    have := q ρ j
    simp only [List.filter_nil, List.map_nil, List.append_nil] at this
    exact this
  | x :: xs, acc, ρ, hl, j, q => by
    rw [List.length_cons] at hl
    have hz : (1000000 : Nat) < sizeLine := by decide
    refine step x ρ j _ _ (fun hp r ρ4 e j4 => ⟨by omega, ?_⟩) (fun hp ρ3 j3 => ?_)
    · rw [e]
      refine lcL_fun J inj p f step xs _ _ (by rw [List.length_append]; show acc.length + 1 + xs.length ≤ _; omega) j4 fun ρ' j' => ?_
      have := q ρ' j'
      rw [List.filter_cons_of_pos hp, List.map_cons] at this
      rw [List.append_assoc]
      exact this
    · refine lcL_fun J inj p f step xs _ _ (by omega) j3 fun ρ' j' => ?_
      have := q ρ' j'
      rw [List.filter_cons_of_neg (by rw [hp]; exact Bool.false_ne_true)] at this
      exact this
/-- pairwise, as many -/
inductive All2 {α β : Type} (P : α → β → Prop) : List α → List β → Prop where
  | nil : All2 P [] []
  | cons {a b as bs} : P a b → All2 P as bs → All2 P (a :: as) (b :: bs)
theorem All2.length {α β : Type} {P : α → β → Prop} : ∀ {as : List α} {bs : List β}, All2 P as bs → bs.length = as.length
  | _, _, .nil => rfl
  | _, _, .cons _ h => by rw [List.length_cons, List.length_cons, h.length]
theorem All2.imp {α β : Type} {P P' : α → β → Prop} (f : ∀ a b, P a b → P' a b) : ∀ {as : List α} {bs : List β}, All2 P as bs → All2 P' as bs
  | _, _, .nil => .nil
  | _, _, .cons a h => .cons (f _ _ a) (h.imp f)
/-- ints of a set comprehension -/
theorem scL_fun {α : Type} {g : DTG} {tt : DTT} {te : DTE} {vs : List Nat} {Q : List Int → Rho → Prop} (J : Rho → Prop) (inj : α → D) (p : α → Bool) (f : α → Int)
    (step : ∀ (x : α) ρ, J ρ → ∀ (K1 : DQ) (K2 : Rho → Prop), (p x = true → ∀ r ρ4, fz r = .int (f x) → J (dwipe ρ4 vs) → K1 r ρ4) → (p x = false → ∀ ρ3, J (dwipe ρ3 vs) → K2 ρ3) → g (inj x) ρ fun ρ2 => tt ρ2 fun b ρ3 => if b = true then te ρ3 K1 else K2 ρ3) :
    ∀ (xs : List α) (acc : List Int) (ρ : Rho), acc.length + xs.length ≤ 63 → J ρ → (∀ ρ', J ρ' → Q (acc ++ (xs.filter p).map f) ρ') → dScL g tt te vs Q (xs.map inj) acc ρ
  | [], acc, ρ, _, j, q => by
    have := q ρ j
    simp only [List.filter_nil, List.map_nil, List.append_nil] at this
    exact this
  | x :: xs, acc, ρ, hl, j, q => by
    rw [List.length_cons] at hl
    refine step x ρ j _ _ (fun hp r ρ4 e j4 => ⟨f x, e, by omega, ?_⟩) (fun hp ρ3 j3 => ?_)
    · refine scL_fun J inj p f step xs _ _ (by rw [List.length_append]; show acc.length + 1 + xs.length ≤ _; omega) j4 fun ρ' j' => ?_
      have := q ρ' j'
      rw [List.filter_cons_of_pos hp, List.map_cons] at this
      rw [List.append_assoc]
      exact this
    · refine scL_fun J inj p f step xs _ _ (by omega) j3 fun ρ' j' => ?_
      have := q ρ' j'
      rw [List.filter_cons_of_neg (by rw [hp]; exact Bool.false_ne_true)] at this
      exact this
theorem loop_inv {α : Type} {g : DTG} {tb : DTS} {E : DEnds} (inj : α → D) (J : List α → Rho → Prop) 
    (step : ∀ x xs ρ, J (x :: xs) ρ → ∀ E' : DEnds, (∀ ρ', J xs ρ' → E'.nx ρ') → (∀ ρ', J xs ρ' → E'.ct ρ') → (∀ ρ', E.nx ρ' → E'.bk ρ') → E'.rt = E.rt → g (inj x) ρ fun ρ2 => tb E' ρ2) (fin : ∀ ρ, J [] ρ → E.nx ρ) :
    ∀ (xs : List α) ρ, J xs ρ → dLoop g tb E (xs.map inj) ρ
  | [], ρ, j => fin ρ j
  | x :: xs, ρ, j => step x xs ρ j _ (fun ρ' j' => loop_inv inj J step fin xs ρ' j') (fun ρ' j' => loop_inv inj J step fin xs ρ' j') (fun _ z => z) rfl
end L2.DL
set_option Elab.async false
set_option linter.all false
set_option autoImplicit false
set_option maxRecDepth 100000
set_option maxHeartbeats 1000000
namespace L2.DL
open PySem PySem.Spec PyProof.Rows
def putD (kds : List (Key × D)) (k : Key) (d : D) : List (Key × D) :=
  if (kds.any fun kv => decide (kv.1 = k)) = true then kds.map (fun kv => if kv.1 = k then (kv.1, d) else kv) else kds ++ [(k, d)]
theorem any_keys {α β : Type} {k : Key} : ∀ {xs : List (Key × α)} {ys : List (Key × β)}, xs.map (·.1) = ys.map (·.1) → (xs.any fun kv => decide (kv.1 = k)) = ys.any fun kv => decide (kv.1 = k)
  | [], [], _ => rfl
  | [], _ :: _, h => by simp at h
  | _ :: _, [], h => by simp at h
  | (a, x) :: xs, (b, y) :: ys, h => by
    simp only [List.map_cons, List.cons.injEq] at h
    rw [List.any_cons, List.any_cons, any_keys h.2, h.1]
theorem put_rep {K : PySem.W.Frag} {S : Src} {F : Hp} {k : Key} {v : V} {d : D} {kvs : List (Key × V)} {kds : List (Key × D)} (h : kvs.map (·.1) = kds.map (·.1)) (r : Reps K S F (kvs.map (·.2)) (kds.map (·.2))) (rv : Rep K S F v d) :
    (putK kvs k v).map (·.1) = (putD kds k d).map (·.1) ∧ Reps K S F ((putK kvs k v).map (·.2)) ((putD kds k d).map (·.2)) := by
  unfold putK putD
  rw [any_keys h]
  split
  · have key : ∀ {kvs : List (Key × V)} {kds : List (Key × D)}, kvs.map (·.1) = kds.map (·.1) → Reps K S F (kvs.map (·.2)) (kds.map (·.2)) →
        (kvs.map fun kv => if kv.1 = k then (kv.1, v) else kv).map (·.1) = (kds.map fun kv => if kv.1 = k then (kv.1, d) else kv).map (·.1) ∧ Reps K S F ((kvs.map fun kv => if kv.1 = k then (kv.1, v) else kv).map (·.2)) ((kds.map fun kv => if kv.1 = k then (kv.1, d) else kv).map (·.2)) := by
      intro kvs
      induction kvs with
      | nil => intro kds h r; cases kds with
        | nil => exact ⟨rfl, .nil⟩
        | cons _ _ => simp at h
      | cons p kvs ih =>
        intro kds h r
        cases kds with
        | nil => simp at h
        | cons q kds =>
          simp only [List.map_cons, List.cons.injEq] at h
          cases r with
          | cons r1 r2 =>
            obtain ⟨a, b⟩ := ih h.2 r2
            simp only [List.map_cons]
            rw [h.1]
            split
            · exact ⟨by simp only [List.cons.injEq]; exact ⟨trivial, a⟩, .cons rv b⟩
            · exact ⟨by simp only [List.cons.injEq]; exact ⟨h.1, a⟩, .cons r1 b⟩
    exact key h r
  · rw [List.map_append, List.map_append, List.map_append, List.map_append, h]
    exact ⟨rfl, r.append (.cons rv .nil)⟩
theorem keys_len {α β : Type} {xs : List (Key × α)} {ys : List (Key × β)} (h : xs.map (·.1) = ys.map (·.1)) : xs.length = ys.length := by
  have := congrArg List.length h
  rwa [List.length_map, List.length_map] at this
def dNewD : DTE := fun ρ Q => Q (.ow (.dct [])) ρ
def dPutS (i : Nat) (ty tv : DTE) : DTS := fun D ρ => tv ρ fun r ρ1 => (∃ kds, ρ1[i]? = some (Sl.o (.dct kds))) ∧ ty ρ1 fun r2 ρ2 => ∃ kds k, ρ2[i]? = some (Sl.o (.dct kds)) ∧ keyOf (fz r2) = some k ∧ kds.length < sizeLine ∧ D.nx (ρ2.set i (.o (.dct (putD kds k (fz r)))))
section
variable {c : C} {X : Cx} {e o ix : Expr} {te ty tv : DTE} {i : Nat} {pos pos' : Pos}
theorem de_dct0 : PE X (.Dict [] [] pos) (liftE c dNewD) :=
  PE_imp pe_dnewK fun σ H Q ⟨F, ρ, QD, s, h, k⟩ => fun p hp => by
    have pe : PExt F H F (upd H p (.dK [])) := PExt.own s.sub hp
    have rr : RR0 c.K c.S F H (upd H p (.dK [])) (.ref p) (.ow (.dct [])) := ⟨p, _, rfl, hp, upd_same, free_of s.sub hp, .dct rfl .nil⟩
    obtain ⟨a, b⟩ := rr.rr s
    exact k _ _ F ρ _ (pe.sr s) pe.stp a b h
theorem ds_put (hu : X.A.units + 1 < cLine) (ho : PE X o (tVar i)) (hi : PE X ix (liftE c ty)) (hv : PE X e (liftE c tv)) (hs : swapsWith e (some (.Subscript o ix pos')) pos.line X.env = pure false := by rfl) : PS X (.Assign [.Subscript o ix pos'] e pos) (liftS c (dPutS i ty tv)) :=
  PS_imp (ps_dput hu ho (froze hi) (froze hv) hs) fun E σ H ⟨F, ρ, DD, s, h, k⟩ =>
    ⟨F, ρ, (fun d ρ1 => (∃ kds, ρ1[i]? = some (Sl.o (.dct kds))) ∧ ty ρ1 fun r2 ρ2 => ∃ kds k, ρ2[i]? = some (Sl.o (.dct kds)) ∧ keyOf (fz r2) = some k ∧ kds.length < sizeLine ∧ DD.nx (ρ2.set i (.o (.dct (putD kds k d))))), s, h, fun v H1 F1 ρ1 d s1 st1 rv ⟨⟨kds0, hi0⟩, q⟩ => by
      obtain ⟨p, ob, e1, e2, e3, e4, e5, e6⟩ := s1.ow i _ hi0
      refine ⟨_, e1, F1, ρ1, (fun d2 ρ2 => ∃ kds k, ρ2[i]? = some (Sl.o (.dct kds)) ∧ keyOf d2 = some k ∧ kds.length < sizeLine ∧ DD.nx (ρ2.set i (.o (.dct (putD kds k d))))), s1, q, fun y H2 F2 ρ2 d2 s2 st2 ry ⟨kds, k0, hi2, hk, hl, q2⟩ => ?_⟩
      obtain ⟨p', ob', g1, g2, g3, g4, g5, g6⟩ := s2.ow i _ hi2
      rw [e1] at g1
      cases g1
      cases g4 with
      | dct hk1 hr1 =>
        obtain ⟨a, b⟩ := put_rep (k := k0) hk1 hr1 (rv.mono st2.ff)
        refine ⟨p, _, rfl, by rw [rep_keyOf ry hk]; exact DPut.k g2 (by rw [keys_len hk1]; exact hl), k.nx _ _ F2 _ (st1.ff.trans st2.ff) (s2.grow hi2 e1 (.dct a b)) q2⟩⟩
def putFD (f : Str) (d : D) : List (Str × D) → List (Str × D)
  | [] => [(f, d)]
  | (g, x) :: r => if g = f then (g, d) :: r else (g, x) :: putFD f d r
theorem putF_rep {K : PySem.W.Frag} {S : Src} {F : Hp} {f : Str} {v : V} {d : D} (rv : Rep K S F v d) : ∀ {fs : List (Str × V)} {gs : List (Str × D)}, fs.map (·.1) = gs.map (·.1) → Reps K S F (fs.map (·.2)) (gs.map (·.2)) →
    (putF f v fs).map (·.1) = (putFD f d gs).map (·.1) ∧ Reps K S F ((putF f v fs).map (·.2)) ((putFD f d gs).map (·.2))
  | [], [], _, _ => ⟨rfl, .cons rv .nil⟩
  | [], _ :: _, h, _ => by simp at h
  | _ :: _, [], h, _ => by simp at h
  | (a, x) :: fs, (b, y) :: gs, h, r => by
    simp only [List.map_cons, List.cons.injEq] at h
    obtain ⟨h1, h2⟩ := h
    subst h1
    cases r with
    | cons r1 r2 =>
      obtain ⟨a1, b1⟩ := putF_rep rv h2 r2
      unfold putF putFD
      split
      · exact ⟨by simp only [List.map_cons, h2], .cons rv r2⟩
      · exact ⟨by simp only [List.map_cons, a1], .cons r1 b1⟩
def dFldS (C : Addr) (f : Str) (i : Nat) (te : DTE) : DTS := fun D ρ => te ρ fun r ρ1 => ∃ fs, ρ1[i]? = some (Sl.o (.ins C fs)) ∧ fs.length < 1000 ∧ D.nx (ρ1.set i (.o (.ins C (putFD f (fz r) fs))))
def dStar (te : DTE) (t : DTA) : DTA := fun ρ Q => te ρ fun r ρ1 => ∃ xs, (fz r = .tup xs ∨ fz r = .lst xs) ∧ t ρ1 fun ds ρ2 => Q (xs ++ ds) ρ2
end
mutual
def noK (l : Bool) : D → Bool
  | .lst xs => !l && noKs l xs
  | .tup xs => noKs l xs
  | .dct _ => false
  | .dcT _ => false
  | .dcL _ => false
  | .dcI _ => false
  | .ins _ _ => false
  | _ => true
def noKs (l : Bool) : List D → Bool
  | [] => true
  | x :: xs => noK l x && noKs l xs
end
def cutP (F : Hp) (p : Addr) : Hp := fun q => if q = p then none else F q
theorem cutP_ne {F : Hp} {p q : Addr} (h : q ≠ p) : cutP F p q = F q := if_neg h
theorem cutP_same {F : Hp} {p : Addr} : cutP F p p = none := if_pos rfl
/-- what the lent object is -/
def lent (l : Bool) (o : HO) : Prop := (∃ kvs, o = .dK kvs) ∨ (l = true ∧ ∃ vs, o = .lst vs)
mutual
theorem Rep.cut {K : PySem.W.Frag} {S : Src} {F : Hp} {p : Addr} {l : Bool} {o : HO} (hp : F p = some o) (hl : lent l o) : ∀ {v : V} {d : D}, Rep K S F v d → noK l d = true → Rep K S (cutP F p) v d
  | _, _, .non, _ => .non
  | _, _, .bl b, _ => .bl b
  | _, _, .int i, _ => .int i
  | _, _, .str x, _ => .str x
  | _, _, .ty x, _ => .ty x
  | _, _, .lst (a := a) h r, n => by
    simp only [noK, Bool.and_eq_true, Bool.not_eq_true'] at n
    refine .lst ?_ (Reps.cut hp hl r n.2)
    rcases h with h | h
    · refine .inl ?_
      by_cases e : a = p
      · rw [e, hp] at h
        cases h
        rcases hl with ⟨_, z⟩ | ⟨z, _⟩
        · cases z
        · rw [n.1] at z; cases z
      · rw [cutP_ne e]; exact h
    · exact .inr h
  | _, _, .tup (a := a) h r, n => by
    simp only [noK] at n
    refine .tup ?_ (Reps.cut hp hl r n)
    have key : ∀ u, F a = some u → (∀ k, u ≠ .dK k) → (∀ k, u ≠ .lst k) → cutP F p a = some u := fun u z z1 z2 => by
      by_cases e : a = p
      · rw [e, hp] at z
        cases z
        rcases hl with ⟨k, z⟩ | ⟨_, k, z⟩
        · exact absurd z (z1 k)
        · exact absurd z (z2 k)
      · rw [cutP_ne e]; exact z
    exact key _ h (fun _ z => by cases z) fun _ z => by cases z
  | _, _, .dcT _ _ _, n => by simp [noK] at n
  | _, _, .dcL _ _ _, n => by simp [noK] at n
  | _, _, .dcI _ _ _, n => by simp [noK] at n
  | _, _, .dct _ _ _, n => by simp [noK] at n
  | _, _, .ins _ _ _, n => by simp [noK] at n
  | _, _, .iset (a := a) h x y z, _ => by
    refine .iset ?_ x y z
    by_cases e : a = p
    · rw [e, hp] at h
      cases h
      rcases hl with ⟨_, z⟩ | ⟨_, _, z⟩ <;> cases z
    · rw [cutP_ne e]; exact h
  | _, _, .src h, _ => .src h
theorem Reps.cut {K : PySem.W.Frag} {S : Src} {F : Hp} {p : Addr} {l : Bool} {o : HO} (hp : F p = some o) (hl : lent l o) : ∀ {vs : List V} {ds : List D}, Reps K S F vs ds → noKs l ds = true → Reps K S (cutP F p) vs ds
  | _, _, .nil, _ => .nil
  | _, _, .cons a b, n => by
    simp only [noKs, Bool.and_eq_true] at n
    exact .cons (Rep.cut hp hl a n.1) (Reps.cut hp hl b n.2)
end
end L2.DL
set_option Elab.async false
set_option linter.all false
set_option autoImplicit false
set_option maxRecDepth 100000
set_option maxHeartbeats 1000000
namespace L2.DL
open PySem PySem.Spec PyProof.Rows
section
variable {c : C} {X : Cx} {e o : Expr} {es : List Expr} {te : DTE} {t : DTA} {i : Nat} {p pos : Pos}
theorem da_star (hK : X.K = c.K) (he : PE X e (liftE c te)) (hr : PA X es (liftA c t)) (hs : starEach (.Starred e p :: es) X.env = (true, eval e X.env) :: starEach es X.env := by rfl) : PA X (.Starred e p :: es) (liftA c (dStar te t)) :=
  PA_imp (StX.pa_star (froze he) hr hs) fun σ H Q ⟨F, ρ, QD, s, ht, k⟩ =>
    ⟨F, ρ, (fun d ρ1 => ∃ xs, (d = .tup xs ∨ d = .lst xs) ∧ t ρ1 fun ds ρ2 => QD (xs ++ ds) ρ2), s, ht, fun v H1 F1 ρ1 d s1 st1 rv ⟨xs, hd, q⟩ => by
      rcases hd with hd | hd
      · subst hd
        cases rv with
        | tup h1 r1 => exact ⟨_, _, rfl, .inl (by rw [hK]; exact s1.sub.seqT (.inl (.inl h1))), F1, ρ1, (fun ds ρ2 => QD (xs ++ ds) ρ2), s1, q, fun ys H2 F2 ρ2 ds s2 st2 rys q2 => k _ H2 F2 ρ2 (xs ++ ds) s2 (st1.trans st2) ((Reps.mono st2.ff r1).append rys) q2⟩
      · subst hd
        cases rv with
        | lst h1 r1 => exact ⟨_, _, rfl, .inr (by rw [hK]; exact h1.sq s1.sub), F1, ρ1, (fun ds ρ2 => QD (xs ++ ds) ρ2), s1, q, fun ys H2 F2 ρ2 ds s2 st2 rys q2 => k _ H2 F2 ρ2 (xs ++ ds) s2 (st1.trans st2) ((Reps.mono st2.ff r1).append rys) q2⟩⟩
def dFldM (C : Addr) (f : Str) (i : Nat) (te : DTE) : DTS := fun D ρ => te ρ fun r ρ1 => ∃ y fs, ρ1[i]? = some (Sl.o (.me y (.ins C fs))) ∧ fs.length < 1000 ∧ D.nx (ρ1.set i (.o (.me y (.ins C (putFD f (fz r) fs)))))
theorem ds_fldM {C : Addr} {f : Str} {pos' : Pos} (hK : X.K = c.K) (cl : Cls c.K C) (na : NoAttr c.K C f) (ho : PE X o (tVar i)) (hv : PE X e (liftE c te)) (hs : swapsWith e (some (.Attribute o f pos')) pos.line X.env = pure false := by rfl) : PS X (.Assign [.Attribute o f pos'] e pos) (liftS c (dFldM C f i te)) :=
  PS_imp (ps_fld ho (froze hv) hs) fun E σ H ⟨F, ρ, DD, s, h, k⟩ =>
    ⟨F, ρ, (fun d ρ1 => ∃ y fs, ρ1[i]? = some (Sl.o (.me y (.ins C fs))) ∧ fs.length < 1000 ∧ DD.nx (ρ1.set i (.o (.me y (.ins C (putFD f d fs)))))), s, h, fun v H1 F1 ρ1 d s1 st1 rv ⟨y, fs, hi, hl, q⟩ => by
      obtain ⟨p, ob, e1, e2, e3, e4, e5, e6⟩ := s1.ow i _ hi
      cases e4 with
      | me hk hr =>
        rename_i dx fvs
        obtain ⟨a, b⟩ := putF_rep (f := f) rv hk hr
        have hlen : fvs.length = fs.length := by
          have := congrArg List.length hk
          rwa [List.length_map, List.length_map] at this
        exact ⟨_, e1, _, C, dx, fvs, rfl, e2, by rw [hK]; exact cl, by rw [hK]; exact na, by rw [hlen]; exact hl, k.nx _ _ F1 _ st1.ff (s1.grow hi e1 (.me a b)) q⟩⟩
end
def dDcL (g : DTG) (tt : DTT) (tk tv : DTE) (vs : List Nat) (Q : DQ) : List D → List (Key × D) → Rho → Prop
  | [], acc, ρ => Q (.ow (.dct acc)) ρ
  | x :: xs, acc, ρ => g x ρ fun ρ2 => tt ρ2 fun b ρ3 => if b = true then tk ρ3 fun r1 ρ4 => tv ρ4 fun r2 ρ5 => ∃ k, keyOf (fz r1) = some k ∧ acc.length < sizeLine ∧ dDcL g tt tk tv vs Q xs (putD acc k (fz r2)) (dwipe ρ5 vs) else dDcL g tt tk tv vs Q xs acc (dwipe ρ3 vs)
def dDc (ti : DTI) (g : DTG) (tt : DTT) (tk tv : DTE) (vs : List Nat) : DTE := fun ρ Q => ti ρ fun ds ρ1 => dDcL g tt tk tv vs Q ds [] (dwipe ρ1 vs)
section
variable {c : C} {X : Cx} {kx vx tg iter : Expr} {ti : DTI} {g : DTG} {tt : DTT} {tk tv : DTE} {pos : Pos} {vs is : List Nat}
theorem dc_lift (hs : ∀ i ∈ is, i ∈ vs) {σ : L2.St} {H : Hp} {Q : VK} (h : liftE c (dDc ti g tt tk tv vs) σ H Q) : tDc (liftI c ti) (liftG c is g) (liftT c tt) (liftV c (frz tk)) (liftV c (frz tv)) vs σ H Q := by
  obtain ⟨F, ρ, QD, s, ht, k⟩ := h
  refine ⟨F, ρ, (fun ds ρ1 => dDcL g tt tk tv vs QD ds [] (dwipe ρ1 vs)), s, ht, fun J H1 F1 ρ1 ds s1 st1 w q => ?_⟩
  intro A hA
  have cH0 : kn c.H0 A = none := s1.newH hA
  have nS : ¬ inS c.S A := s1.newS hA
  have nO : ¬ Own σ ρ1 A := s1.newO hA
  have fA : F1 A = none := free_of s1.sub hA
  have e1 : PExt F1 H1 F1 (upd H1 A (.dK [])) := PExt.own s1.sub hA
  let J2 : Nat → Hp → Prop := fun i Hn => ∃ Fn ρn acc vacc, SR c Fn Hn σ ρn ∧ WP ρn vs ∧ Stp c σ F1 H1 ρ1 Fn Hn ρn ∧ Hn A = some (.dK vacc) ∧ Fn A = none ∧ vacc.map (·.1) = acc.map (·.1) ∧ Reps c.K c.S Fn (vacc.map (·.2)) (acc.map (·.2)) ∧ dDcL g tt tk tv vs QD (ds.drop i) acc ρn
  refine ⟨fun i m Hn => m = ds.length - i ∧ i ≤ ds.length ∧ J2 i Hn,
    ⟨ds.length, by simp, Nat.zero_le _, F1, dwipe ρ1 vs, [], [], (e1.sr s1).dwiped, dwipe_wp _ _, ⟨e1.ff, fun p o z _ _ => e1.hh p o (kn_some z), fun p z => .inl z, fun p ⟨j, xs, z1, z2⟩ => by
      rcases dwipe_get z1 with z | ⟨_, z⟩
      · cases z
      · exact ⟨j, xs, z, z2⟩, e1.stp.tr (c := c) (σ := σ) (ρ := ρ1)⟩, upd_same, fA, rfl, .nil, q⟩, ?_⟩
  rintro i m Hn ⟨rfl, hi, Fn, ρn, acc, vacc, sn, wn, stn, hAn, fAn, kn, rn, qn⟩
  have nOn : ¬ Own σ ρn A := fun z => nO (stn.oo A z)
  by_cases hlt : i < ds.length
  · have hd : ds[i]? = some ds[i] := List.getElem?_eq_getElem hlt
    obtain ⟨go, yl⟩ := w.go Fn Hn i ds[i] stn.ff sn.sub hd
    refine .inr ⟨go, J2 (i + 1), fun H' z => ⟨ds.length - (i + 1), by omega, rfl, hlt, z⟩, fun x H' y => ?_⟩
    obtain ⟨F3, pe, rx⟩ := yl x H' y
    rw [List.drop_eq_getElem_cons hlt] at qn
    have s3 := pe.sr sn
    have st3 : Stp c σ F1 H1 ρ1 F3 H' ρn := stn.trans pe.stp
    have hA3 : H' A = some (.dK vacc) := pe.hh _ _ hAn
    have fA3 : F3 A = none := by
      cases q : F3 A with
      | none => rfl
      | some o =>
        rcases pe.nn A (by rw [q]; simp) with z | z | ⟨_, z⟩
        · exact absurd fAn z
        · rw [hAn] at z; cases z
        · rw [hAn] at z; cases z
    have ownW : ∀ p, Own (wipe σ vs) ρn p → Own σ ρn p := fun p ⟨j, xs, z1, z2⟩ => by
      by_cases hj : j ∈ vs
      · cases wn j hj _ z1
      · exact ⟨j, xs, z1, by rw [← wipe_out hj]; exact z2⟩
    refine ⟨F3, ρn, ds[i], _, s3.wiped wn, rx, qn, fun σ2 ρ2 s4 f4 o4 l4 q4 => ?_⟩
    have l2 : σ2.length = σ.length := l4.trans (wipe_length σ vs)
    have hj2 : ∀ j, j ∉ vs → σ2[j]? = σ[j]? := fun j hj => ((f4 j fun z => hj (hs j z)).1).trans (wipe_out hj)
    have own2 : ∀ p, Own σ2 ρ2 p → Own σ ρn p := fun p z => ownW p (o4 p z)
    have ownB : ∀ {ρ5 : Rho} p, Own σ (dwipe ρ5 vs) p → Own σ2 ρ5 p := fun {ρ5} p ⟨j, xs, z1, z2⟩ => by
      rcases dwipe_get z1 with z | ⟨z, z3⟩
      · cases z
      · exact ⟨j, xs, z3, by rw [hj2 j z]; exact z2⟩
    have back : ∀ {F5 H5 : Hp} {ρ5 : Rho}, Stp c σ2 F3 H' ρ2 F5 H5 ρ5 → SR c F5 H5 σ2 ρ5 → Stp c σ F1 H1 ρ1 F5 H5 (dwipe ρ5 vs) ∧ H5 A = some (.dK vacc) ∧ F5 A = none := fun {F5 H5 ρ5} st5 s5 => by
      have st' : Stp c σ F3 H' ρn F5 H5 (dwipe ρ5 vs) := ⟨st5.ff, fun p o z1 z2 z3 => st5.hh p o z1 z2 fun z => z3 (own2 p z), fun p z => by
        rcases st5.nn p z with z | z | z | z
        · exact .inl z
        · exact .inr (.inl z)
        · exact .inr (.inr (.inl (own2 p z)))
        · exact .inr (.inr (.inr z)), fun p z => own2 p (st5.oo p (ownB p z)), st5.tr⟩
      refine ⟨st3.trans st', st5.hh A _ (kn_of hA3) nS fun z => nOn (own2 A z), ?_⟩
      cases q : F5 A with
      | none => rfl
      | some o =>
        rcases st5.nn A (by rw [q]; simp) with z | z | z | z
        · exact absurd fA3 z
        · exact (z.no hA3 (fun _ y => by cases y) (fun _ y => by cases y)).elim
        · exact absurd (own2 A z) nOn
        · exact absurd z nS
    refine ⟨wipe_wiped hs (l4.trans (wipe_length σ vs)) (fun j hj => (f4 j hj).1), F3, ρ2, (fun b ρ3 => if b = true then tk ρ3 fun r1 ρ4 => tv ρ4 fun r2 ρ5 => ∃ k, keyOf (fz r1) = some k ∧ acc.length < sizeLine ∧ dDcL g tt tk tv vs QD (ds.drop (i + 1)) (putD acc k (fz r2)) (dwipe ρ5 vs) else dDcL g tt tk tv vs QD (ds.drop (i + 1)) acc (dwipe ρ3 vs)), s4, q4, fun b H5 F5 ρ5 s5 st5 q5 => ?_⟩
    cases b with
    | false =>
      rw [if_neg Bool.false_ne_true] at q5 ⊢
      obtain ⟨a1, a2, a3⟩ := back st5 s5
      exact ⟨F5, dwipe ρ5 vs, acc, vacc, s5.unwiped l2 hj2, dwipe_wp _ _, a1, a2, a3, kn, Reps.mono (pe.ff.trans st5.ff) rn, q5⟩
    | true =>
      rw [if_pos rfl] at q5 ⊢
      refine ⟨F5, ρ5, (fun d1 ρ4 => tv ρ4 fun r2 ρ5 => ∃ k, keyOf d1 = some k ∧ acc.length < sizeLine ∧ dDcL g tt tk tv vs QD (ds.drop (i + 1)) (putD acc k (fz r2)) (dwipe ρ5 vs)), s5, q5, fun y1 H6 F6 ρ6 d1 s6 st6 ry1 q6 => ?_⟩
      refine ⟨F6, ρ6, (fun d2 ρ5 => ∃ k, keyOf d1 = some k ∧ acc.length < sizeLine ∧ dDcL g tt tk tv vs QD (ds.drop (i + 1)) (putD acc k d2) (dwipe ρ5 vs)), s6, q6, fun y2 H7 F7 ρ7 d2 s7 st7 ry2 ⟨k0, hk0, hlen, q7⟩ => ?_⟩
      clear q6
      obtain ⟨a1, a2, a3⟩ := back ((st5.trans st6).trans st7) s7
      have s8 := s7.unwiped l2 hj2
      have nO7 : ¬ Own σ (dwipe ρ7 vs) A := fun z => nO (a1.oo A z)
      have rn7 : Reps c.K c.S F7 (vacc.map (·.2)) (acc.map (·.2)) := Reps.mono (pe.ff.trans (st5.ff.trans (st6.ff.trans st7.ff))) rn
      obtain ⟨b1, b2⟩ := put_rep (k := k0) kn rn7 ry2
      refine ⟨vacc, k0, rep_keyOf ry1 hk0, a2, by rw [keys_len kn]; exact hlen, F7, dwipe ρ7 vs, putD acc k0 d2, putK vacc k0 y2, ?_, dwipe_wp _ _, ⟨a1.ff, fun p o z1 z2 z3 => ?_, a1.nn, a1.oo, fun p z => ?_⟩, upd_same, a3, b1, b2, q7⟩
      · refine ⟨fun q o z => ?_, s8.f0, fun q o z1 z2 => ?_, s8.n0, s8.src.upd nS a2, s8.srcF, s8.len, s8.sl, fun j xs z => ?_, s8.dis⟩
        · exact kn_of (by rw [upd_ne (ne_of_none z a3)]; exact s8.sub q o z) (kn_nt (s8.sub' q o z))
        · rw [upd_ne (ne_of_none z1 cH0)]; exact s8.h0 q o z1 z2
        · obtain ⟨q, us, a, b, d, f, g, k⟩ := s8.ow j xs z
          have hq : q ≠ A := fun e => nO7 ⟨j, xs, z, by rw [a, e]⟩
          exact ⟨q, us, a, by rw [upd_ne hq]; exact b, d, f, g, k⟩
      · rw [upd_ne (ne_of_none z1 (kn_none hA))]; exact a1.hh p o z1 z2 z3
      · by_cases hq : p = A
        · rw [hq, kn_of upd_same]; simp
        · rw [kn_same (upd_ne hq)]; exact a1.tr p z
  · have e : i = ds.length := by omega
    subst e
    rw [List.drop_length] at qn
    exact .inl ⟨w.stop Fn Hn _ stn.ff sn.sub (Nat.le_refl _), k (.ref A) Hn Fn ρn (.ow (.dct acc)) sn (st1.trans stn) ⟨A, _, rfl, hAn, fAn, .dct kn rn, nS, nOn, cH0⟩ (New.back st1 s1 (r := .ow (.dct acc)) ⟨A, rfl, kn_none hA⟩) qn⟩
theorem de_dc {ifs : List Expr} {scope : Scope} {own : List (Str × Nat)} (hc : X.calm = true) (hN : X.N.Nodup) (hi : PI X tg iter (liftI c ti)) (ok : BlkOk X.N X.env.scope scope own) (hsub : ∀ i ∈ is, i ∈ own.map (·.2))
    (hg : ∀ (s : Shared) (H : Hp) (C : Addr) (cl : List (Str × Addr)) (fp : List Addr), PG (X.blk s H scope (compEnvC scope cl C X.env) fp) tg (liftG c is g)) (ht : ∀ (s : Shared) (H : Hp) (C : Addr) (cl : List (Str × Addr)) (fp : List Addr), PTs (X.blk s H scope (compEnvC scope cl C X.env) fp) ifs (liftT c tt))
    (hk : ∀ (s : Shared) (H : Hp) (C : Addr) (cl : List (Str × Addr)) (fp : List Addr), PE (X.blk s H scope (compEnvC scope cl C X.env) fp) kx (liftE c tk))
    (he : ∀ (s : Shared) (H : Hp) (C : Addr) (cl : List (Str × Addr)) (fp : List Addr), PE (X.blk s H scope (compEnvC scope cl C X.env) fp) vx (liftE c tv)) (hs : ∀ x, foldedSetIterable iter X.env x = pure x := by intro _; rfl) :
    PE X (.DictComp kx vx [⟨tg, iter, ifs, 0⟩] scope pos) (liftE c (dDc ti g tt tk tv (own.map (·.2)))) :=
  PE_imp (pe_dc hc hN hi ok hg ht (fun s H C cl fp => froze (hk s H C cl fp)) (fun s H C cl fp => froze (he s H C cl fp)) hs) fun σ H Q h => dc_lift hsub h
end
end L2.DL
set_option Elab.async false
set_option linter.all false
set_option autoImplicit false
set_option maxRecDepth 100000
set_option maxHeartbeats 1000000
namespace L2.DL
open PySem PySem.Spec PyProof.Rows
def liftAB (c : C) (i : Nat) (t : DTA) : TA := fun σ H Q => ∃ F ρ QD, SR c F H σ ρ ∧ t ρ QD ∧ ∀ vs H' F' ρ' ds p o x, SR c F' H' σ ρ' → Stp c σ F H ρ F' H' ρ' → ρ'[i]? = some (Sl.o x) → σ[i]? = some (some (V.ref p)) → H' p = some o → F' p = none → Reps c.K c.S (upd F' p o) vs ds → QD ds ρ' → Q vs H'
def dNilB (i : Nat) : DTA := fun ρ Q => (∃ x, ρ[i]? = some (Sl.o x)) ∧ Q [] ρ
def dBor (i : Nat) (t : DTA) : DTA := fun ρ Q => ∃ x, ρ[i]? = some (Sl.o x) ∧ t ρ fun ds ρ' => ρ'[i]? = some (Sl.o x) ∧ Q (unAt x :: ds) ρ'
def lendable (l : Bool) : D → Prop
  | .dct _ => True
  | .lst _ => l = true
  | _ => False
def noKR (l : Bool) : Res → Bool
  | .v d => noK l d
  | .ow (.lst xs) => noKs l xs
  | .ow _ => false
def dCallB (i : Nat) (l : Bool) (sp : DSp) (XD : DX) (t : DTA) : DTE := fun ρ Q => t ρ fun ds ρ1 => ∃ x, ρ1[i]? = some (Sl.o x) ∧ lendable l x ∧ sp ds (fun r => noKR l r = true ∧ Q r ρ1) XD
section
variable {c : C} {X : Cx} {e : Expr} {es : List Expr} {te : DTE} {t : DTA} {i : Nat} {p pos : Pos} {x : Str} {sp : DSp} {XD : DX} {k : Nat} {l : Bool}
theorem dab_nil : PA X [] (liftAB c i (dNilB i)) := PA_imp pa_nil fun σ H Q ⟨F, ρ, QD, s, ⟨⟨x, hx⟩, ht⟩, k⟩ => by
  obtain ⟨p, o, e1, e2, e3, e4, e5, e6⟩ := s.ow i x hx
  exact k [] H F ρ [] p o x s Stp.refl hx e1 e2 e3 .nil ht
theorem dab_cons (ha : PE X e (liftE c te)) (hr : PA X es (liftAB c i t)) (hs : starEach (e :: es) X.env = (false, eval e X.env) :: starEach es X.env := by rfl) : PA X (e :: es) (liftAB c i (dCons te t)) :=
  PA_imp (pa_cons (froze ha) hr hs) fun σ H Q ⟨F, ρ, QD, s, ht, k⟩ =>
    ⟨F, ρ, (fun d ρ1 => t ρ1 fun ds ρ2 => QD (d :: ds) ρ2), s, ht, fun v H1 F1 ρ1 d s1 st1 rx q1 => ⟨F1, ρ1, (fun ds ρ2 => QD (d :: ds) ρ2), s1, q1, fun vs H2 F2 ρ2 ds p o y s2 st2 a b d2 f rxs q2 => k (v :: vs) H2 F2 ρ2 (d :: ds) p o y s2 (st1.trans st2) a b d2 f (.cons ((rx.mono st2.ff).mono fun q u z => by rw [upd_ne (ne_of_none z f)]; exact z) rxs) q2⟩⟩
theorem dab_bor {z : Str} {zp : Pos} (hN : X.N[i]? = some z := by rfl) (hv : Vis X.env.scope z := by first | exact Or.inl rfl | exact Or.inr (Or.inl rfl) | exact Or.inr (Or.inr rfl)) (hr : PA X es (liftAB c i t)) (hd : (z == ("__debug__" : Str)) = false := by decide) (hcd : (z == ("__classdict__" : Str)) = false := by decide)
    (hs : starEach (.Name z zp :: es) X.env = (false, eval (.Name z zp) X.env) :: starEach es X.env := by rfl) : PA X (.Name z zp :: es) (liftAB c i (dBor i t)) :=
  PA_imp (pa_cons (pe_var hN hv hd hcd) hr hs) fun σ H Q ⟨F, ρ, QD, s, ⟨x, hx, ht⟩, k⟩ => by
    obtain ⟨p, o, e1, e2, e3, e4, e5, e6⟩ := s.ow i x hx
    refine ⟨_, e1, F, ρ, (fun ds ρ' => ρ'[i]? = some (Sl.o x) ∧ QD (unAt x :: ds) ρ'), s, ht, fun vs H2 F2 ρ2 ds p2 o2 y s2 st2 a b d2 f rxs ⟨hx2, q2⟩ => ?_⟩
    obtain ⟨p3, o3, g1, g2, g3, g4, g5, g6⟩ := s2.ow i x hx2
    rw [e1] at b g1
    cases b; cases g1
    rw [d2] at g2
    cases g2
    exact k (.ref p :: vs) H2 F2 ρ2 (unAt x :: ds) p o2 x s2 st2 hx2 e1 d2 f (.cons ((g4.mono fun q u z => by rw [upd_ne (ne_of_none z f)]; exact z).rep upd_same) rxs) q2
theorem de_callBor (G : Callee X.prog X.w X.K X.mg X.base k x sp) (hK : X.K = c.K) (hgd : X.A.guards = some []) (hr : Room k X.A) (hg : Gl X x) (lk : Lnk X c XD) (ha : PA X (e :: es) (liftAB c i t)) (hdb : (x == ("__debug__" : Str)) = false := by decide)
    (he : starEach (e :: es) X.env = (false, eval e X.env) :: starEach es X.env := by rfl) (hpl : (backTo pos (starEach es X.env)).any (·.1) = false := by rfl) : PE X (.Call (.Name x p) (e :: es) [] pos) (liftE c (dCallB i l sp XD t)) := by
  obtain ⟨f, fd, ps, G1, hm, hk, hb⟩ := G.ex
  obtain ⟨W, tk, hW⟩ := lk
  refine ⟨fun pins s σ H Q I ⟨F0, ρ, QD, sr, h, kk⟩ => wpAny_Call_Name_kw (ld_glob I hg hm ?_ hdb)⟩
  have arg := ha.run pos pins s σ H (fun vs H1 => spD X.K sp vs H1 Q fun cls d H => ∀ σ, W cls d σ H) I ⟨F0, ρ, _, sr, h, fun vs H1 F1 ρ1 ds p o y s1 st1 hy e1 e2 e3 rv q => by
    rw [hK]
    obtain ⟨y', hy', ly, q⟩ := q
    rw [hy] at hy'
    cases hy'
    obtain ⟨p', o', g1, g2, g3, g4, g5, g6⟩ := s1.ow i y hy
    rw [e1] at g1
    cases g1
    rw [e2] at g2
    cases g2
    have ll : lent l o := by
      cases g4 with
      | lst _ => exact .inr ⟨ly, _, rfl⟩
      | dct _ _ => exact .inl ⟨_, rfl⟩
      | dcT _ _ => exact ly.elim
      | ins _ _ => exact ly.elim
      | me _ _ => exact ly.elim
    have le1 : Le F1 (upd F1 p o) := fun q u z => by rw [upd_ne (ne_of_none z e3)]; exact z
    refine ⟨c.S, upd F1 p o, ds, _, _, fun q u z => ?_, s1.src, fun q z => ?_, rv, q, fun v H' F' r pe rr ⟨nr, qr⟩ => ?_, fun C od fds H' F' pe xr xd σ' => hW C od fds F' H' σ' ⟨pe.sub', (s1.f0.trans le1).trans pe.ff, fun q u z1 z2 => pe.hh q u (kn_of (s1.h0 q u z1 z2) (kn_nt z1)) z2, fun q z => ?_, pe.src, pe.srcF⟩ xr xd⟩
    · by_cases hq : q = p
      · subst hq; rw [upd_same] at z; cases z; exact kn_of e2 g4.plain.1
      · rw [upd_ne hq] at z; exact s1.sub' q u z
    · rw [upd_ne fun hq => g6 (by rw [← hq]; exact z)]; exact s1.srcF q z
    · have hp : F' p = some o := pe.ff p o upd_same
      have cutE : ∀ {q u}, cutP F' p q = some u → q ≠ p ∧ F' q = some u := fun {q u} z => by
        by_cases hq : q = p
        · rw [hq, cutP_same] at z; cases z
        · rw [cutP_ne hq] at z; exact ⟨hq, z⟩
      have post : Post c.S F1 H1 (cutP F' p) H' := ⟨fun q u z => pe.sub' q u (cutE z).2, fun q u z => by
          rw [cutP_ne (ne_of_none z e3)]; exact pe.ff q u (le1 q u z), pe.hh, fun q z => by
          cases w : cutP F' p q with
          | none => exact absurd w z
          | some u =>
            obtain ⟨a, b⟩ := cutE w
            rcases pe.nn q (by rw [b]; simp) with y | y
            · rw [upd_ne a] at y; exact .inl y
            · exact .inr y, pe.src, fun q z => by
          by_cases hq : q = p
          · rw [hq]; exact cutP_same
          · rw [cutP_ne hq]; exact pe.srcF q z⟩
      refine call_done s1 st1 kk v H' (cutP F' p) r post ?_ qr
      cases r with
      | v d => exact Rep.cut hp ll rr nr
      | ow z =>
        obtain ⟨p2, o2, a, b, d, f, g⟩ := rr
        refine ⟨p2, o2, a, b, d, ?_, ?_⟩
        · by_cases hq : p2 = p
          · rw [hq]; exact cutP_same
          · rw [cutP_ne hq]; exact f
        · cases g with
          | lst rz => exact .lst (Reps.cut hp ll rz nr)
          | dct _ _ => cases nr
          | dcT _ _ => cases nr
          | ins _ _ => cases nr
          | me _ _ => cases nr
    · rcases pe.nn q z with y | y
      · by_cases hq : q = p
        · rw [hq]; exact .inr (.inl g5)
        · rw [upd_ne hq] at y; exact s1.n0 q y
      · exact .inr (s1.newTF y fun hs => z (pe.srcF q hs))⟩
  exact PySem.W.callWith_K (h₀ := X.base) I.ok.mod.kin hk (thn arg fun us s1 ⟨vs, H1, I1, r, q⟩ => ⟨I1.kIn, runG G1 hgd hr hb (passes_call tk fun cls d σ H z => z σ) I1 r q⟩) he hpl
end
def startI (y C : Addr) (N : List Str) (ds : List D) : Rho := Sl.o (.me y (.ins C [])) :: startD N.tail ds
def spI (K : PySem.W.Frag) (C : Addr) (sp : DSp) : Sp := fun vs' H' Q' E => ∃ vs H Q y dx, spD K sp vs H Q E ∧ H y = none ∧ H dx = none ∧ dx ≠ y ∧ vs' = .ref y :: vs ∧ H' = upd (upd H dx (.own y)) y (.ins C dx []) ∧ Q' = fun v H2 => v = .non ∧ Q (.ref y) H2
theorem startI_sr {K : PySem.W.Frag} {S : Src} {N : List Str} {x : Str} {vs : List V} {ds : List D} {F H : Hp} {y dx C : Addr} (hy : H y = none) (hd : H dx = none) (ne : dx ≠ y) (sk : Le F (kn H)) (src : SrcOk S H) (srcF : ∀ p, inS S p → F p = none) (r : Reps K S F vs ds) :
    SR ⟨K, S, F, H⟩ F (upd (upd H dx (.own y)) y (.ins C dx [])) (start (x :: N) (.ref y :: vs)) (startI y C (x :: N) ds) := by
  have s : Le F H := fun p o z => kn_some (sk p o z)
  have s0 := start_sr (c := ⟨K, S, F, H⟩) (N := N) sk src srcF r rfl rfl
  have hn : (upd H dx (.own y)) y = none := by rw [upd_ne ne.symm]; exact hy
  have pe : PExt F H F (upd (upd H dx (.own y)) y (.ins C dx [])) := PExt.own2 s hd hn
  have s1 := pe.sr s0
  have fy : F y = none := free_of s hy
  have nS : ¬ inS S y := fun z => src.there z hy
  have est : start (x :: N) (.ref y :: vs) = some (.ref y) :: start N vs := by
    unfold start
    simp only [List.map_cons, List.cons_append, List.length_cons]
    rw [Nat.add_sub_add_right]
  rw [est]
  refine ⟨s1.sub', s1.f0, s1.h0, s1.n0, s1.src, s1.srcF, ?_, fun i d h => ?_, fun i xs h => ?_, fun i j xs ys h1 h2 h3 => ?_⟩
  · unfold startI
    rw [List.length_cons, List.length_cons]
    exact congrArg Nat.succ s1.len
  · cases i with
    | zero => simp [startI] at h
    | succ i => exact s1.sl i d (by simpa [startI] using h)
  · cases i with
    | zero =>
      simp [startI] at h
      subst h
      exact ⟨y, _, rfl, upd_same, fy, .me rfl .nil, kn_none hy, nS⟩
    | succ i => exact s1.ow i xs (by simpa [startI] using h)
  · have no : ∀ (j : Nat) (ys : D), (startD N ds)[j]? ≠ some (Sl.o ys) := fun j ys h => by
      unfold startD at h
      by_cases hi : j < ds.length
      · rw [List.getElem?_append_left (by rw [List.length_map]; exact hi), List.getElem?_map] at h
        cases e : ds[j]? with
        | none => rw [e] at h; cases h
        | some d' => rw [e] at h; cases h
      · rw [List.getElem?_append_right (by rw [List.length_map]; omega), List.getElem?_replicate] at h
        split at h <;> cases h
    cases i with
    | zero =>
      cases j with
      | zero => rfl
      | succ j => exact absurd (by simpa [startI] using h2) (no j ys)
    | succ i => exact absurd (by simpa [startI] using h1) (no i xs)
section
variable {P : Program} {w : World} {K : PySem.W.Frag} {mg : Str → Option Value} {base : Heap}
theorem fnI {x qual self : Str} {st : Stmt} {f : Addr} {fd : FuncData} {N ps : List Str} {k : Nat} {sp : DSp} {C : Addr} (F : Fun K x qual st f fd) (S : FnScope (self :: N) (self :: ps) (defScope st)) (len : ∀ ds QD XD, sp ds QD XD → ds.length = ps.length)
    (hbody : ∀ (cdv : Value) (A : Around) (outer : List Env) (s : Shared) (H : Hp) (E : XK) (c : L2.DL.C) (XD : DX), (A.deeper (envOfC qual (defScope st) s.heap.objs.size f cdv)).guards = some [] → Room k (A.deeper (envOfC qual (defScope st) s.heap.objs.size f cdv)) → c.K = K →
      PassesOwn (model P w) (A.deeper (envOfC qual (defScope st) s.heap.objs.size f cdv)) (cxOf (L2.CX P w) P w K mg base (self :: N) qual (defScope st) f cdv A outer s H E).env (cxOf (L2.CX P w) P w K mg base (self :: N) qual (defScope st) f cdv A outer s H E).xe →
      Lnk (cxOf (L2.CX P w) P w K mg base (self :: N) qual (defScope st) f cdv A outer s H E) c XD →
      ∃ t, PSs (cxOf (L2.CX P w) P w K mg base (self :: N) qual (defScope st) f cdv A outer s H E) (defBody st) (liftS c t) ∧
        ∀ ds QD y, sp ds QD XD → t { nx := fun ρ => ∃ fs, ρ[0]? = some (Sl.o (.me y (.ins C fs))) ∧ QD (.v (.ins C fs)), rt := fun _ => False } (startI y C (self :: N) ds)) :
    FnG P w K mg base (k + 1) f fd (self :: ps) (spI K C sp) := by
  refine okG F S (fun vs H Q E ⟨vs0, H0, Q0, y, dx, ⟨S', F', ds, QD, XD, _, _, _, r, h, _⟩, _, _, _, ev, _⟩ => by rw [ev, List.length_cons, List.length_cons, r.length, len ds QD XD h]) fun cdv A outer s H' vs' Q' E hgd hr h => ?_
  obtain ⟨vs, H, Q, y, dx, ⟨S', F', ds, QD, XD, sub, src, srcF, r, h, hq, hx⟩, hy, hd, ne, ev, eH, eQ⟩ := h
  subst ev; subst eH; subst eQ
  have tk : Takes (cxOf (L2.CX P w) P w K mg base (self :: N) qual (defScope st) f cdv A outer s (upd (upd H dx (.own y)) y (.ins C dx [])) E) (fun cls d _ H => E cls d H) := takes_of rfl rfl rfl rfl
  obtain ⟨t, ht, q⟩ := hbody cdv A outer s _ E ⟨K, S', F', H⟩ XD hgd hr rfl (passes_of rfl) ⟨_, tk, fun C od fds F2 H2 _ pe xr xd => hx C od fds H2 F2 pe xr xd⟩
  refine ⟨_, ht, F', startI y C (self :: N) ds, _, startI_sr hy hd ne sub src srcF r, q ds QD y h, ?_⟩
  refine ⟨fun σ H2 F2 ρ l2 s2 ⟨fs, z1, z2⟩ => ⟨rfl, ?_⟩, fun _ _ _ _ _ _ _ _ _ z => z.elim, fun _ _ _ _ _ _ z => z, fun _ _ _ _ _ _ z => z⟩
  obtain ⟨p, o, e1, e2, e3, e4, e5, e6⟩ := s2.ow 0 _ z1
  cases e4 with
  | me hk hr2 =>
    rename_i dx' fvs
    have le : Le F2 (upd F2 y (.ins C dx' fvs)) := fun q u z => by rw [upd_ne (ne_of_none z e3)]; exact z
    refine hq (.ref y) H2 (upd F2 y (.ins C dx' fvs)) (.v (.ins C fs)) ⟨fun q u z => ?_, s2.f0.trans le, s2.h0, fun q z => ?_, s2.src, fun q z => ?_⟩ (Rep.ins upd_same hk (Reps.mono le hr2)) z2
    · by_cases hq : q = y
      · subst hq; rw [upd_same] at z; cases z; exact kn_of e2
      · rw [upd_ne hq] at z; exact s2.sub' q u z
    · by_cases hq : q = y
      · rw [hq]; exact .inr (.inl (kn_none hy))
      · rw [upd_ne hq] at z; exact s2.n0 q z
    · rw [upd_ne fun hq => e6 (by rw [← hq]; exact z)]; exact s2.srcF q z
/-- the class, from its __init__ -/
theorem calleeC {C f : Addr} {fd : FuncData} {ps : List Str} {k : Nat} {x : Str} {sp : DSp} (M : Mk K C f) (G : FnG P w K mg base k f fd ps (spI K C sp)) (hm : mg x = some (.ref C)) (hb : Binds K fd ps []) : CalleeC P w K mg base k x sp :=
  ⟨C, f, fd, ps, _, M, G, hm, hb, fun vs H Q E h y dx h1 h2 h3 => ⟨vs, H, Q, y, dx, h, h1, h2, h3, rfl, rfl, rfl⟩⟩
end
end L2.DL
set_option Elab.async false
set_option linter.all false
set_option autoImplicit false
set_option maxRecDepth 100000
set_option maxHeartbeats 1000000
namespace L2.DL
open PySem PySem.Spec PyProof.Rows
theorem fun_ofD {K : PySem.W.Frag} {x qual : Str} {st : Stmt} {f : Addr} {fd : FuncData} (F : FunD K x qual (defArgs st) (defBody st) (defScope st) [] [] f fd) : Fun K x qual st f fd := by
  obtain ⟨⟨oc, od, dV, kV, doc, pm, an, cdv, ct, osl, e, l, hc, hd, _⟩, kp⟩ := F
  rcases hd with ⟨_, rfl⟩ | ⟨z, _⟩
  · exact ⟨⟨oc, od, kV, doc, pm, an, cdv, ct, osl, e, l, hc⟩, kp⟩
  · exact absurd rfl z
section
variable {P : Program} {w : World} {K : PySem.W.Frag} {mg mb : Str → Option Value} {k : Nat} {fa a : Addr} {fd : FuncData} {x : Str} {sp : Sp} {s : Shared}
/-- at most the script is tracked: it is locked -/
def Scr (s : Shared) (a : Addr) (H : Hp) : Prop := ∀ q, H q = none ∨ (q = a ∧ ∃ ob xs, H q = some (.frz ob (.lst xs)) ∧ s.heap.get? q = some ob)
theorem Scr.only {a : Addr} {H : Hp} (h : Scr s a H) : Only H := fun q => (h q).imp id fun ⟨_, ob, xs, z, _⟩ => ⟨ob, xs, z⟩
theorem call_from {H : Hp} {vs : List Value} (hS : Scr s a H) (ok : HOk P w H s.heap) (kH : H a ≠ none → K.lookup a = none) (at_a : s.heap.get? a = some { cls := .type "list", data := .seq vs.toArray })
    (kIn : K.In s.heap) (glob : s.heap.Ns mainGlobals mg) (blt : s.heap.Ns builtinsNs mb) (blts : ∀ x : Str, x ≠ "__name__" → mb x = bootBuiltins x) (lim : s.heap.NoLimit) (gens : s.gens = #[]) (room : Room k callerA)
    (F : ∀ base : Heap, K.In base → base.Ns mainGlobals mg → FnG P w K mg base k fa fd [x] sp) (bind : ∀ (t : Shared) (u : Value), BindsTo t fd ⟨[u], []⟩ [(x, u)]) (pre : sp [.ref a] H (fun v _ => v = .bl true) fun _ _ _ => False) :
    codeAny (model P w) callerA (.call (.ref fa) ⟨[.ref a], []⟩) (fun r t => r = .ok (.ret (.bool true)) ∧ OldK s.heap t.heap ∧ t.os = s.os ∧ AllBare t.gens) s := by
  have stays : ∀ {q : Addr} {ob : Obj}, s.heap.get? q = some ob → q ≠ a → (hidT s.heap H).get? q = some ob := fun {q ob} e n => hidT_get e ((hS q).elim id fun z => absurd z.1 n)
  have aNot : ∀ {q : Addr} {ob : Obj} {es : Array DictEntry} {ep : Nat}, s.heap.get? q = some ob → ob.data = .dict es ep → q ≠ a := fun {q ob es ep} e d z => by
    rw [z, at_a] at e
    cases e
    cases d
  have nsStay : ∀ {q : Addr} {m : Str → Option Value}, s.heap.Ns q m → (hidT s.heap H).Ns q m := fun {q m} z => by
    obtain ⟨ob, es, ep, e, d, r⟩ := z
    exact ⟨ob, es, ep, stays e (aNot e d), d, r⟩
  have kStay : K.In (hidT s.heap H) := fun q ob e => by
    by_cases z : H q = none
    · exact hidT_get (kIn q ob e) z
    · rcases hS q with y | ⟨y, _⟩
      · exact absurd y z
      · rw [y] at z e
        rw [kH z] at e
        cases e
  obtain ⟨mc, lim1, lim2⟩ := lim
  have modl : Mod K mg (hidT s.heap H) := { kin := kStay, glob := nsStay glob, blt := ⟨mb, nsStay blt, blts⟩, nolimit := ⟨mc, nsStay lim1, lim2⟩ }
  have env : Env0 P w K mg (hidT s.heap H) callerA [] s H := ⟨rfl, modl, fun _ _ e => of_hidT e, Nat.le_of_eq (hidT_size _ _), trivial, (fun _ z => nomatch z), ok, AllBare.of_eq gens⟩
  refine codeAny_mono ((F (hidT s.heap H) kStay (nsStay glob)).run callerA [] s H _ [.ref a] [.ref a] _ _ rfl room env (bind s (.ref a)) (.cons rfl .nil) pre) fun r t h => ?_
  cases r with
  | error e =>
    have h : L2.CX P w [] H s (fun _ _ _ => False) e t := h
    obtain ⟨_, _, _, _, _, _, _, _, _, _, _, _, z⟩ := h
    exact z.elim
  | ok fl =>
    cases fl with
    | ret u =>
      obtain ⟨v, H1, h1, h2, h3, h4, rv, hv⟩ := h
      have hv : v = .bl true := hv
      subst hv
      have rv : u = Value.bool true := rv
      subst rv
      refine ⟨rfl, OldK.of_keep fun q ob e => ?_, h1, h2⟩
      rcases hS q with z | ⟨_, ob2, xs, z, e2⟩
      · exact h3.keep q ob e z (by intro y; cases y) (by intro y; cases y)
      · rw [e] at e2
        cases e2
        exact (h4 q _ (h3.frzs q ob _ z)).1
    | _ => exact h.elim
theorem law_callG {vs : List Value} {ns : List Int} (at_a : s.heap.get? a = some { cls := .type "list", data := .seq vs.toArray }) (isI : IntsAre vs ns) (few : ns.length ≤ sizeLine)
    (kIn : K.In s.heap) (glob : s.heap.Ns mainGlobals mg) (blt : s.heap.Ns builtinsNs mb) (blts : ∀ x : Str, x ≠ "__name__" → mb x = bootBuiltins x) (lim : s.heap.NoLimit) (gens : s.gens = #[]) (room : Room k callerA)
    (F : ∀ base : Heap, K.In base → base.Ns mainGlobals mg → FnG P w K mg base k fa fd [x] sp) (bind : ∀ (t : Shared) (u : Value), BindsTo t fd ⟨[u], []⟩ [(x, u)])
    (pre : ∀ H : Hp, Only H → SqL K H a (ns.map V.int) → sp [.ref a] H (fun v _ => v = .bl true) fun _ _ _ => False) :
    codeAny (model P w) callerA (.call (.ref fa) ⟨[.ref a], []⟩) (fun r t => r = .ok (.ret (.bool true)) ∧ OldK s.heap t.heap ∧ t.os = s.os ∧ AllBare t.gens) s := by
  have vals := vals_ints isI
  have many := isI.length
  by_cases hk : ∃ ob, K.lookup a = some ob
  · obtain ⟨ob, hk⟩ := hk
    have e := kIn a ob hk
    rw [at_a] at e
    cases e
    have seq : SqL K (fun _ => none) a (ns.map V.int) := .inr ⟨_, vs.toArray, _, hk, rfl, rfl, rfl, by rw [List.size_toArray, many]; exact few, by simpa using vals⟩
    exact call_from (H := fun _ => none) (fun _ => .inl rfl) (fun q u z => nomatch z) (fun z => absurd rfl z) at_a kIn glob blt blts lim gens room F bind (pre _ (fun _ => .inl rfl) seq)
  · have nk : K.lookup a = none := by
      cases e : K.lookup a with
      | none => rfl
      | some ob => exact absurd ⟨ob, e⟩ hk
    let hl : HO := .frz { cls := .type "list", data := .seq vs.toArray } (.lst (ns.map V.int))
    have here : (upd (fun _ => none) a hl) a = some hl := upd_same
    have scr : Scr s a (upd (fun _ => none) a hl) := fun q => by
      by_cases hq : q = a
      · rw [hq]
        exact .inr ⟨rfl, _, _, here, at_a⟩
      · exact .inl (upd_ne hq)
    have okH : HOk P w (upd (fun _ => none) a hl) s.heap := fun q u z => by
      by_cases hq : q = a
      · subst hq
        rw [here] at z
        cases z
        exact ⟨at_a, by rw [List.length_map]; exact few, vs, _, vals, at_a⟩
      · rw [upd_ne hq] at z
        cases z
    exact call_from scr okH (fun _ => nk) at_a kIn glob blt blts lim gens room F bind (pre _ scr.only (.inl (.inr ⟨_, here⟩)))
end
/-- the law's end over a head by facts -/
theorem walk_ofG {l : PySem.W.OpenLaw} {n k : Nat} {q : Program} {loose : List Str} {XP : (Str → Option Value) → Heap → Prop} {YP : World → Heap → Prop} {d : DefRec} {x : Str}
    (most : l.most = some n) (line : n ≤ sizeLine) (nodef : d.params.defaults = []) (room : Room k callerA)
    (F : ∀ (w : World) (mg : Str → Option Value) (fa : Addr) (h : Heap), YP w h → h.Ns mainGlobals mg → mg d.name = some (.ref fa) →
      ∃ (K : PySem.W.Frag) (fd : FuncData) (sp : Sp), K.In h ∧ (∀ (s : Shared) (u : Value), BindsTo s fd ⟨[u], []⟩ [(x, u)]) ∧
        (∀ (H : Hp) (a : Addr) (ns : List Int), ns.length ≤ n → Only H → SqL K H a (ns.map V.int) → sp [.ref a] H (fun v _ => v = .bl true) fun _ _ _ => False) ∧
        ∀ base : Heap, K.In base → base.Ns mainGlobals mg → FnG l.prog w K mg base k fa fd [x] sp) :
    PySem.W.WalkO q loose XP YP l.row.toRowW d [] (fun f vs => PySem.call f vs) :=
  Att.attach_call most nodef fun w s0 s1 mg mb fa o pm cd doc a vs ns G Y ho hd hcd hmg hobj hints hlen hg =>
    let ⟨K, fd, sp, KX, hb, hsp, hF⟩ := F w mg fa _ Y G.T.g hmg
    law_callG hobj hints (Nat.le_trans hlen line) KX G.T.g G.T.b G.T.builtins G.T.nolimit hg room hF hb fun H hO hS => hsp H a ns hlen hO hS
def dIsiT2 (K : PySem.W.Frag) (m n : String) (te : DTE) : DTE := fun ρ Q => te ρ fun r ρ1 => ∃ t b, tyD (fz r) = some t ∧ PySem.W.kitAny K (.type t) [.type m, .type n] = some b ∧ Q (.v (.bl b)) ρ1
section
variable {c : C} {X : Cx} {e : Expr} {te : DTE} {pos p p1 p2 tpos : Pos} {x y : Str}
theorem de_isiT2 {m n : String} {kk : Nat} (hK : X.K = c.K) (he : PE X e (liftE c te)) (hgi : Gl X "isinstance") (hmi : X.mg "isinstance" = none) (hg1 : Gl X x) (hm1 : X.mg x = none) (hv1 : bootBuiltins x = some (.type m)) (hg2 : Gl X y) (hm2 : X.mg y = none) (hv2 : bootBuiltins y = some (.type n))
    (hvi : bootBuiltins "isinstance" = some (.builtin "isinstance") := by decide +kernel) (n1 : x ≠ "__name__" := by decide) (n2 : y ≠ "__name__" := by decide) (d1 : (x == ("__debug__" : Str)) = false := by decide) (d2 : (y == ("__debug__" : Str)) = false := by decide)
    (s1 : starEach [e, .Tuple [.Name x p1, .Name y p2] kk tpos] X.env = (false, eval e X.env) :: starEach [.Tuple [.Name x p1, .Name y p2] kk tpos] X.env := by rfl)
    (s2 : starEach [.Tuple [.Name x p1, .Name y p2] kk tpos] X.env = (false, eval (.Tuple [.Name x p1, .Name y p2] kk tpos) X.env) :: starEach [] X.env := by rfl)
    (s3 : starEach [.Name x p1, .Name y p2] X.env = (false, eval (.Name x p1) X.env) :: starEach [.Name y p2] X.env := by rfl) (s4 : starEach [.Name y p2] X.env = (false, eval (.Name y p2) X.env) :: starEach [] X.env := by rfl)
    (hpl : (backTo pos (starEach [.Tuple [.Name x p1, .Name y p2] kk tpos] X.env)).any (·.1) = false := by rfl) :
    PE X (.Call (.Name "isinstance" p) [e, .Tuple [.Name x p1, .Name y p2] kk tpos] [] pos) (liftE c (dIsiT2 c.K m n te)) :=
  PE_imp (pe_callB call_isiT hgi hmi hvi (pa_cons (froze he) (pa_cons (pe_tup (pa_cons (pe_bltn hg1 hm1 hv1 (show RelV (.ty m) (.type m) from rfl) n1 d1) (pa_cons (pe_bltn hg2 hm2 hv2 (show RelV (.ty n) (.type n) from rfl) n2 d2) pa_nil s4) s3)) pa_nil s2) s1) (he := s1) (hpl := hpl)) fun σ H Q ⟨F, ρ, QD, s, h, k⟩ =>
    ⟨F, ρ, (fun d ρ1 => ∃ t b, tyD d = some t ∧ PySem.W.kitAny c.K (.type t) [.type m, .type n] = some b ∧ QD (.v (.bl b)) ρ1), s, h, fun v H1 F1 ρ1 d s1 st1 rv ⟨t, b, ht, hb, q⟩ =>
      ⟨(show (2 : Nat) ≤ sizeLine by decide), fun tp htp => by
        have pe : PExt F1 H1 F1 (upd H1 tp (.tup [.ty m, .ty n])) := PExt.own s1.sub htp
        refine ⟨v, tp, _, .type t, [.type m, .type n], b, rfl, upd_same, .cons (.ty m) (.cons (.ty n) .nil), ?_, by rw [hK]; exact hb, k (.bl b) _ F1 ρ1 (.v (.bl b)) (pe.sr s1) (st1.trans pe.stp) (Rep.bl b) trivial q⟩
        rw [hK]
        exact ty_rep pe.sub rv ht⟩⟩
end
end L2.DL
set_option Elab.async false
set_option linter.all false
set_option autoImplicit false
set_option maxRecDepth 100000
set_option maxHeartbeats 1000000
namespace L2.DL
open PySem PySem.Spec PyProof.Rows
def scal1 : Res → Bool
  | .v .non => true
  | .v (.bl _) => true
  | .v (.int _) => true
  | .v (.str _) => true
  | _ => false
def dCBB (dr : List D → (Res → Prop) → Prop) (t : DTA) : DTE := fun ρ Q => t ρ fun ds ρ1 => dr ds fun r => scal1 r = true ∧ Q r ρ1
def dOneL (t : DTA) : DTA := fun ρ Q => t ρ fun ds ρ1 => ds.length ≤ sizeLine ∧ Q [.lst ds] ρ1
end L2.DL
set_option Elab.async false
set_option linter.all false
set_option autoImplicit false
set_option maxRecDepth 100000
set_option maxHeartbeats 1000000
namespace L2.DL
open PySem PySem.Spec PyProof.Rows
def spSrc (K : PySem.W.Frag) : Sp := fun vs H Q _ => ∃ (a : Addr) (ns : List Int), vs = [.ref a] ∧ SqL K H a (ns.map V.int) ∧ ns.length ≤ 63 ∧
  ∀ (p q : Addr) (m : Int) (cs : List Int) (H' : Hp), Le H H' → H' p = some (.dK (srcK q 1 m 0)) → H' q = some (.lst (cs.map V.int)) → (∀ z, z ∈ cs → 0 ≤ z) → 0 ≤ m → m < 4294967296 → Q (.ref p) H'
def spLaw (K : PySem.W.Frag) : Sp := fun vs H Q _ => ∃ (a : Addr) (ns : List Int), vs = [.ref a] ∧ SqL K H a (ns.map V.int) ∧ ns.length ≤ 63 ∧ ∀ H', Q (.bl true) H'
section
variable {X : Cx} {k : Nat} {f : Addr} {fd : FuncData} {ps : List Str} {sp : Sp} {e : Expr} {es : List Expr} {x : Str} {p pos : Pos} {t : TA}
theorem pe_callG (F : FnG X.prog X.w X.K X.mg X.base k f fd ps sp) (hgd : X.A.guards = some []) (hr : Room k X.A) (hg : Gl X x) (hm : X.mg x = some (.ref f)) (hk : PySem.W.keepIn X.K (.ref f) = true) (hb : Binds X.K fd ps []) (ha : PA X (e :: es) t) (hdb : (x == ("__debug__" : Str)) = false := by decide)
    (he : starEach (e :: es) X.env = (false, eval e X.env) :: starEach es X.env := by rfl) (hpl : (backTo pos (starEach es X.env)).any (·.1) = false := by rfl) :
    PE X (.Call (.Name x p) (e :: es) [] pos) (fun σ H Q => t σ H fun vs H1 => sp vs H1 Q fun _ _ _ => False) :=
  ⟨fun pins s σ H Q I h => wpAny_Call_Name_kw (ld_glob I hg hm (PySem.W.callWith_K (h₀ := X.base) I.ok.mod.kin hk (thn (ha.run pos pins s σ H _ I h) fun us s1 ⟨vs, H1, I1, r, q⟩ => ⟨I1.kIn, runG F hgd hr hb (passes_call takes0 fun _ _ _ _ z => z) I1 r q⟩) he hpl) hdb)⟩
end
section
variable {P : Program} {w : World} {K : PySem.W.Frag} {mg : Str → Option Value} {base : Heap}
/-- the law: its source, then its body over data -/
theorem fnLaw {x qual : Str} {st : Stmt} {f : Addr} {fd : FuncData} {N ps : List Str} {k : Nat} {s1 : Stmt} {rest : List Stmt} (F : Fun K x qual st f fd) (S : FnScope N ps (defScope st)) (hb : defBody st = s1 :: rest) (t : DTS) (hps : ps.length = 1)
    (h1 : ∀ (cdv : Value) (A : Around) (outer : List Env) (s : Shared) (H : Hp) (E : XK), (A.deeper (envOfC qual (defScope st) s.heap.objs.size f cdv)).guards = some [] → Room k (A.deeper (envOfC qual (defScope st) s.heap.objs.size f cdv)) →
      PassesOwn (model P w) (A.deeper (envOfC qual (defScope st) s.heap.objs.size f cdv)) (cxOf (L2.CX P w) P w K mg base N qual (defScope st) f cdv A outer s H E).env (cxOf (L2.CX P w) P w K mg base N qual (defScope st) f cdv A outer s H E).xe →
      PS (cxOf (L2.CX P w) P w K mg base N qual (defScope st) f cdv A outer s H E) s1 (tAsg (fun σ H Q => tCons (tVar 0) tNil σ H fun vs H1 => spSrc K vs H1 Q fun _ _ _ => False) (gName 1)))
    (h2 : ∀ (cdv : Value) (A : Around) (outer : List Env) (s : Shared) (H : Hp) (E : XK) (c : C), (A.deeper (envOfC qual (defScope st) s.heap.objs.size f cdv)).guards = some [] → Room k (A.deeper (envOfC qual (defScope st) s.heap.objs.size f cdv)) → c.K = K →
      PassesOwn (model P w) (A.deeper (envOfC qual (defScope st) s.heap.objs.size f cdv)) (cxOf (L2.CX P w) P w K mg base N qual (defScope st) f cdv A outer s H E).env (cxOf (L2.CX P w) P w K mg base N qual (defScope st) f cdv A outer s H E).xe →
      Lnk (cxOf (L2.CX P w) P w K mg base N qual (defScope st) f cdv A outer s H E) c XNo →
      PSs (cxOf (L2.CX P w) P w K mg base N qual (defScope st) f cdv A outer s H E) rest (liftS c t))
    (pure : t { nx := fun _ => False, rt := fun r => r = .v (.bl true) } (Sl.un :: Sl.d .src :: List.replicate (N.length - 2) Sl.un)) (hN : 2 ≤ N.length := by decide) : FnG P w K mg base (k + 1) f fd ps (spLaw K) := by
  refine okG F S (fun vs H Q E ⟨a, ns, e, _⟩ => by rw [e, hps]; rfl) fun cdv A outer s H vs Q E hgd hr h => ?_
  obtain ⟨a, ns, rfl, hS, hl, hq⟩ := h
  rw [hb]
  refine ⟨_, pss_cons (h1 cdv A outer s H E hgd hr (passes_of rfl)) (PSs_ex (p := fun c : C => c.K = K) (t := fun c => liftS c t) fun c hc => h2 cdv A outer s H E c hgd hr hc (passes_of rfl) ⟨fun _ _ _ _ => False, takes0, fun _ _ _ _ _ _ _ _ z => z⟩), ?_⟩
  refine ⟨.ref a, rfl, a, ns, rfl, hS, hl, fun p q m cs H' _ hp hqq hcs m0 m1 => ?_⟩
  have est : (start N [V.ref a]).length = N.length := by
    unfold start
    rw [List.length_append, List.length_map, List.length_replicate, List.length_singleton]
    omega
  refine ⟨⟨K, (some (p, q), none), fun _ => none, fun _ => none⟩, rfl, fun _ => none, _, _, ⟨fun _ _ z => (nomatch z), Le.refl _, fun _ _ z _ => (by unfold kn at z; cases z), fun _ z => absurd rfl z, ⟨?_, fun _ _ e => nomatch e⟩, fun _ _ => rfl, ?_, ?_, ?_, ?_⟩, pure, ?_⟩
  · intro a' q' e
    cases e
    exact ⟨1, m, 0, cs, hp, hqq, hcs, by decide, m0, m1, by decide⟩
  · rw [List.length_set, est]
    simp only [List.length_cons, List.length_replicate]
    omega
  · intro i d hi
    have i1 : i = 1 ∧ d = .src := by
      match i, hi with
      | 0, hi => simp at hi
      | 1, hi => simp at hi; exact ⟨rfl, hi.symm⟩
      | i + 2, hi =>
        simp only [List.getElem?_cons_succ, List.getElem?_replicate] at hi
        split at hi <;> cases hi
    obtain ⟨rfl, rfl⟩ := i1
    exact ⟨.ref p, List.getElem?_set_self (by rw [est]; omega), .src rfl⟩
  · intro i x hi
    match i, hi with
    | 0, hi => simp at hi
    | 1, hi => simp at hi
    | i + 2, hi =>
      simp only [List.getElem?_cons_succ, List.getElem?_replicate] at hi
      split at hi <;> cases hi
  · intro i j x y hi
    match i, hi with
    | 0, hi => simp at hi
    | 1, hi => simp at hi
    | i + 2, hi =>
      simp only [List.getElem?_cons_succ, List.getElem?_replicate] at hi
      split at hi <;> cases hi
  · refine ⟨fun _ _ _ _ _ _ z => z.elim, fun σ v H2 F2 ρ2 r _ _ rr z => ?_, fun _ _ _ _ _ _ z => z.elim, fun _ _ _ _ _ _ z => z.elim⟩
    subst z
    have rr : Rep K _ _ v (.bl true) := rr
    cases rr
    exact hq H2
end
section
variable {c : C} {X : Cx} {e o : Expr} {te : DTE} {i : Nat} {pos p2 p3 : Pos} {j : Nat}
theorem ds_srcL1 (hu : X.A.units + 1 < cLine) (hv : PE X e (liftE c te)) (ho : PE X o (tVar i)) (hs : swapsWith e (some (.Subscript o (.Constant (.str "left") j p2) p3)) pos.line X.env = pure false) : PS X (.Assign [.Subscript o (.Constant (.str "left") j p2) p3] e pos) (liftS c (dSrcP i limL te)) := ds_srcL hu hv ho hs
theorem ds_srcM1 (hu : X.A.units + 1 < cLine) (hv : PE X e (liftE c te)) (ho : PE X o (tVar i)) (hs : swapsWith e (some (.Subscript o (.Constant (.str "mixed") j p2) p3)) pos.line X.env = pure false) : PS X (.Assign [.Subscript o (.Constant (.str "mixed") j p2) p3] e pos) (liftS c (dSrcP i limM te)) := ds_srcM hu hv ho hs
theorem ds_srcT1 (hu : X.A.units + 1 < cLine) (hv : PE X e (liftE c te)) (ho : PE X o (tVar i)) (hs : swapsWith e (some (.Subscript o (.Constant (.str "turn") j p2) p3)) pos.line X.env = pure false) : PS X (.Assign [.Subscript o (.Constant (.str "turn") j p2) p3] e pos) (liftS c (dSrcP i limL te)) := ds_srcT hu hv ho hs
end
def t_source (K : PySem.W.Frag) : TS := tSeq (tAsg (tC (V.int 11)) (gName 1)) (tSeq (tFor (iList K (tVar 0)) (gName 2) (tAsg (tOp (rI (fun x j => 0 < j) fun i j => V.int (i % j)) (tCB
  (fun xs H Q => (∃ i, xs = [V.int i] ∧ Q (V.int i) H) ∨ ∃ k, xs = [V.bl k] ∧ Q (V.int (if k = true then 1 else 0)) H)
  (tCons (tOp (rI0 fun i j => V.int (i + j)) (tOp (rI0 fun i j => V.int (i + j)) (tOp (rI CMul fun i j => V.int (i * j)) (tVar 1) (tC (V.int 69069))) (tOp (rI CMul fun i j => V.int (i * j)) (tVar 2) (tC (V.int 31)))) (tC (V.int 5))) tNil)) (tC (V.int 2147483629))) (gName 1)))
  (tRet (tDisp [(tC (V.str (Str.ofString "cells")), tRevL K (tLc (iList K (tVar 0)) (gName 2) tYes (tCB (fun xs H Q => ∃ i, xs = [V.int i] ∧ Q (V.int (if i < 0 then -i else i)) H) (tCons (tVar 2) tNil)) [2])),
    (tC (V.str (Str.ofString "left")), tC (V.int 1)), (tC (V.str (Str.ofString "mixed")), tVar 1), (tC (V.str (Str.ofString "turn")), tC (V.int 0))])))
theorem pure_source {K : PySem.W.Frag} {vs : List V} {H : Hp} {Q : VK} {E : XK} {N : List Str} {a b c : Str} (h : spSrc K vs H Q E) : t_source K { nx := fun _ H' => Q .non H', rt := Q } (start [a, b, c] vs) H := by
  obtain ⟨s, ns, rfl, hS, hl, fin⟩ := h
  unfold t_source
  -- _law_mixed = 11
  refine ⟨_, rfl, s, rfl, ⟨_, hS⟩, for_list (K := K) (a := s) (xs := ns.map V.int) (fun i σ H2 => ∃ (m : Int) (v : Option V), σ = [some (.ref s), some (.int m), v] ∧ H2 = H ∧ 0 ≤ m ∧ m < 2147483629) ⟨11, none, rfl, rfl, by decide, by decide⟩ (fun i σ H2 _ ⟨_, _, _, e, _⟩ => by rw [e]; exact hS) ?_ ?_⟩
  · rintro i y σ H2 hi ⟨m, v, rfl, rfl, m0, m1⟩
    obtain ⟨z, rfl⟩ : ∃ z, y = V.int z := by
      rw [List.getElem?_map] at hi
      cases e : ns[i]? with
      | none => rw [e] at hi; cases hi
      | some z => rw [e] at hi; exact ⟨z, (Option.some.inj hi).symm⟩
    refine ⟨_, rfl, _, _, rfl, rfl, .inr ⟨by decide, by decide⟩, ?_⟩
    refine ⟨_, rfl, _, _, rfl, rfl, .inr ⟨by decide, by decide⟩, ?_⟩
    refine ⟨_, _, rfl, rfl, _, _, rfl, rfl, .inl ⟨_, rfl, _, _, rfl, rfl, (by decide : (0 : Int) < 2147483629), ?_⟩⟩
    exact ⟨_, _, rfl, rfl, Int.emod_nonneg _ (by decide), Int.emod_lt_of_pos _ (by decide)⟩
  · rintro σ H2 ⟨m, v, rfl, rfl, m0, m1⟩
    intro p hp
    have hS1 : SqL K (upd H2 p (.dK [])) s (ns.map V.int) := by
      rcases hS with (h | ⟨o, h⟩) | h
      · exact .inl (.inl (by rw [upd_ne (ne_of_none h hp)]; exact h))
      · exact .inl (.inr ⟨o, by rw [upd_ne (ne_of_none h hp)]; exact h⟩)
      · exact .inr h
    refine ⟨_, rfl, s, rfl, ⟨_, hS1⟩, fun D hD => ?_⟩
    have nDp : D ≠ p := fun z => by rw [z, upd_same] at hD; cases hD
    have keep : ∀ (H3 : Hp), (∀ b o, (upd H2 p (.dK [])) b = some o → H3 b = some o) → SqL K H3 s (ns.map V.int) := fun H3 k => by
      rcases hS1 with (h | ⟨o, h⟩) | h
      · exact .inl (.inl (k _ _ h))
      · exact .inl (.inr ⟨o, k _ _ h⟩)
      · exact .inr h
    refine lc_list (K := K) (a := s) (xs := ns.map V.int) (fun i H3 => ∃ cs : List Int, H3 D = some (.lst (cs.map V.int)) ∧ cs.length = i ∧ (∀ z, z ∈ cs → 0 ≤ z) ∧ ∀ b o, (upd H2 p (.dK [])) b = some o → H3 b = some o)
      ⟨[], upd_same, rfl, fun z h => (nomatch h), fun b o z => by rw [upd_ne (ne_of_none z hD)]; exact z⟩ (fun i H3 _ ⟨_, _, _, _, k⟩ => keep H3 k) ?_ ?_
    · rintro i y H3 hi ⟨cs, c1, c2, c3, c4⟩
      obtain ⟨z, rfl⟩ : ∃ z, y = V.int z := by
        rw [List.getElem?_map] at hi
        cases e : ns[i]? with
        | none => rw [e] at hi; cases hi
        | some z => rw [e] at hi; exact ⟨z, (Option.some.inj hi).symm⟩
      have hi2 : i < ns.length := by
        have := (List.getElem?_eq_some_iff.mp hi).1
        rwa [List.length_map] at this
      refine ⟨rfl, _, rfl, z, rfl, _, c1, (by rw [List.length_map, c2, show sizeLine = 16777216 from rfl]; omega), cs ++ [if z < 0 then -z else z], by rw [upd_same, List.map_append]; rfl, by rw [List.length_append, c2]; rfl, fun x hx => ?_, fun b o h => ?_⟩
      · rcases List.mem_append.mp hx with h | h
        · exact c3 x h
        · rw [List.mem_singleton.mp h]
          split <;> omega
      · rw [upd_ne (ne_of_none h hD)]
        exact c4 b o h
    · rintro H3 ⟨cs, c1, c2, c3, c4⟩
      refine ⟨D, _, rfl, .inl (.inl c1), fun q hq => ?_⟩
      have hp3 : H3 p = some (.dK []) := c4 p _ upd_same
      have nqp : q ≠ p := fun z => by rw [z, hp3] at hq; cases hq
      refine ⟨_, rfl, by rw [upd_ne nqp.symm]; exact hp3, [(kc, .ref q), (kl, .int 1), (km, .int m), (kt, .int 0)], rfl, (show 4 ≤ 15 by decide), ?_⟩
      have em : mergeK [] [(kc, V.ref q), (kl, .int 1), (km, .int m), (kt, .int 0)] = srcK q 1 m 0 := by
        simp only [mergeK, List.foldl_cons, List.foldl_nil, putK, List.any_nil, List.any_cons, Bool.false_eq_true, if_false, List.nil_append, List.cons_append]
        simp [nlc, nmc, nml, ntc, ntl, ntm]
      rw [em]
      exact fin p q m cs.reverse _ (fun b o z => by
        have h3 := c4 b o (by rw [upd_ne (ne_of_none z hp)]; exact z)
        rw [upd_ne (ne_of_none z hp), upd_ne (ne_of_none h3 hq)]
        exact h3) upd_same (by rw [upd_ne nqp, upd_same, List.map_reverse]) (fun z hz => c3 z (List.mem_reverse.mp hz)) m0 (by omega)
end L2.DL
set_option Elab.async false
set_option linter.all false
set_option autoImplicit false
set_option maxRecDepth 100000
set_option maxHeartbeats 1000000
namespace L2.DL
open PySem PySem.Spec PyProof.Rows
def rReprS : List V → Hp → VK → Prop := fun xs H Q => (xs = [.non] ∧ Q (.str "None") H) ∨ (∃ b, xs = [.bl b] ∧ Q (.str (if b then ("True" : Str) else "False")) H) ∨ (∃ i, xs = [.int i] ∧ i.natAbs.log2 < 1920 ∧ Q (.str (toString i)) H) ∨ (∃ z, xs = [.str z] ∧ (reprText z).length ≤ sizeLine ∧ Q (.str (reprText z)) H)
theorem cr_reprS {X : Cx} : CallR X (.builtin "repr") rReprS := by
  intro pins s σ H xs us Q I r h
  rcases h with ⟨e, q⟩ | ⟨b, e, q⟩ | ⟨i, e, hi, q⟩ | ⟨z, e, hz, q⟩
  · subst e
    cases r with
    | cons a t =>
      cases t
      cases a
      exact PySem.P.repr_of_none ⟨.str "None", H, I.tok _, ⟨_, rfl⟩, q⟩
  · subst e
    cases r with
    | cons a t =>
      cases t
      cases a
      exact PySem.P.repr_of_bool ⟨.str _, H, I.tok _, ⟨_, rfl⟩, q⟩
  · subst e
    cases r with
    | cons a t =>
      cases t
      obtain ⟨tk, rfl⟩ := a
      exact PySem.P.repr_of_int hi ⟨.str _, H, I.tok _, ⟨_, rfl⟩, q⟩
  · subst e
    cases r with
    | cons a t =>
      cases t
      obtain ⟨tk, rfl⟩ := a
      exact PySem.P.repr_of_str ⟨.str _, H, I.tok _, ⟨_, rfl⟩, q⟩ hz
def rReprA (K : PySem.W.Frag) : List V → Hp → VK → Prop := fun xs H Q => rReprS xs H Q ∨ rRepr K xs H Q
theorem cr_reprA {X : Cx} (hgd : X.A.guards = some []) (hu : X.A.units + 64 < cLine) : CallR X (.builtin "repr") (rReprA X.K) := by
  intro pins s σ H xs us Q I r h
  exact h.elim (fun h => cr_reprS pins s σ H xs us Q I r h) fun h => cr_repr hgd hu pins s σ H xs us Q I r h
def dReprA (ds : List D) (Q : Res → Prop) : Prop := ∃ d, ds = [d] ∧ ShowOk d ∧ Q (.v (.str (py d).shown))
section
variable {K : PySem.W.Frag}
theorem cd_reprA : CallD K (rReprA K) dReprA := by
  intro S F H xs ds QD Q s r ⟨d, e, ⟨a, b, f, g, h⟩, q⟩ k
  subst e
  cases r with
  | cons rv t =>
    cases t
    have rv0 := rv
    cases rv with
    | non => exact .inl (.inl ⟨rfl, k _ H F (.v (.str _)) (.refl s) (.str _) q⟩)
    | bl b2 => exact .inl (.inr (.inl ⟨b2, rfl, k _ H F (.v (.str _)) (.refl s) (.str _) q⟩))
    | int i => exact .inl (.inr (.inr (.inl ⟨i, rfl, by simpa only [py, PyData.showable, decide_eq_true_eq] using b, k _ H F (.v (.str _)) (.refl s) (.str _) q⟩)))
    | str z => exact .inl (.inr (.inr (.inr ⟨z, rfl, h, k _ H F (.v (.str _)) (.refl s) (.str _) q⟩)))
    | lst h1 r1 => exact .inr ⟨_, _, rfl, (rv0.mono s).dp a, b, f, g, h, k _ H F (.v (.str _)) (.refl s) (.str _) q⟩
    | tup h1 r1 => exact .inr ⟨_, _, rfl, (rv0.mono s).dp a, b, f, g, h, k _ H F (.v (.str _)) (.refl s) (.str _) q⟩
    | _ => cases a
def dMaxL (ds : List D) (Q : Res → Prop) : Prop := ∃ ns : List Int, ds = [.lst (ns.map .int)] ∧ 0 < ns.length ∧ ∀ m, m ∈ ns → (∀ y, y ∈ ns → y ≤ m) → Q (.v (.int m))
theorem cd_maxL : CallD K (rMax K) dMaxL := by
  intro S F H xs ds QD Q s r ⟨ns, e, h0, h⟩ k
  subst e
  match r with
  | .cons (.lst h1 r1) .nil =>
    have e := Reps.of_ints r1
    subst e
    exact ⟨_, ns, rfl, h1.sq s, h0, fun m hm hy => k _ H F (.v (.int m)) (.refl s) (.int _) (h m hm hy)⟩
def dSortL (ds : List D) (Q : Res → Prop) : Prop := ∃ ns : List Int, ds = [.lst (ns.map .int)] ∧ ns.length < 64 ∧ ∀ ns' : List Int, ns'.Perm ns → ns'.Pairwise (· ≤ ·) → Q (.own (ns'.map .int))
theorem cd_sortL : CallD K (rSorted K) dSortL := by
  intro S F H xs ds QD Q s r ⟨ns, e, h0, h⟩ k
  subst e
  match r with
  | .cons (.lst h1 r1) .nil =>
    have e := Reps.of_ints r1
    subst e
    exact ⟨_, ns, rfl, h1.sq s, h0, fun ns' p hp hs hl => k _ _ F (.own _) (.own s hl) ⟨p, _, rfl, hl, upd_same, free_of s hl, .lst Reps.ints⟩ (h ns' hp hs)⟩
end
def dRepD (t : DTA) (tb : DTE) : DTE := fun ρ Q => t ρ fun ds ρ1 => ds.length ≤ sizeLine ∧ tb ρ1 fun r ρ2 => ∃ k : Int, fz r = .int k ∧ -(2 ^ 63) ≤ k ∧ k < 2 ^ 63 ∧ ds.length * k.toNat ≤ sizeLine ∧ Q (.own (List.replicate k.toNat ds).flatten) ρ2
theorem Reps.rep {K : PySem.W.Frag} {S : Src} {F : Hp} {vs : List V} {ds : List D} (r : Reps K S F vs ds) : ∀ n, Reps K S F (List.replicate n vs).flatten (List.replicate n ds).flatten
  | 0 => .nil
  | n + 1 => by
    rw [List.replicate_succ, List.replicate_succ, List.flatten_cons, List.flatten_cons]
    exact r.append (Reps.rep r n)
end L2.DL
set_option Elab.async false
set_option linter.all false
set_option autoImplicit false
set_option maxRecDepth 100000
set_option maxHeartbeats 1000000
namespace L2.DL
open PySem PySem.Spec PyProof.Rows
def dGet2 (td ty tx : DTE) : DTE := fun ρ Q => td ρ fun r ρ1 => ∃ kds, fz r = .dct kds ∧ ty ρ1 fun r2 ρ2 => ∃ k, keyOf (fz r2) = some k ∧ tx ρ2 fun r3 ρ3 => Q (.v ((valD kds k).getD (fz r3))) ρ3
def mergeD (kds more : List (Key × D)) : List (Key × D) := more.foldl (fun acc kv => putD acc kv.1 kv.2) kds
theorem merge_rep {K : PySem.W.Frag} {S : Src} {F : Hp} (more : List (Key × V)) : ∀ (mored : List (Key × D)) (kvs : List (Key × V)) (kds : List (Key × D)), more.map (·.1) = mored.map (·.1) → Reps K S F (more.map (·.2)) (mored.map (·.2)) → kvs.map (·.1) = kds.map (·.1) → Reps K S F (kvs.map (·.2)) (kds.map (·.2)) →
    (mergeK kvs more).map (·.1) = (mergeD kds mored).map (·.1) ∧ Reps K S F ((mergeK kvs more).map (·.2)) ((mergeD kds mored).map (·.2)) := by
  induction more with
  | nil =>
    intro mored kvs kds h r h' r'
    cases mored with
    | nil => exact ⟨h', r'⟩
    | cons _ _ => simp at h
  | cons ax more ih =>
    intro mored kvs kds h r h' r'
    cases mored with
    | nil => simp at h
    | cons bx mored =>
      obtain ⟨a, x⟩ := ax
      obtain ⟨b, y⟩ := bx
      simp only [List.map_cons, List.cons.injEq] at h
      obtain ⟨h1, h2⟩ := h
      subst h1
      cases r with
      | cons ra rb =>
        obtain ⟨p1, p2⟩ := put_rep (k := a) h' r' ra
        exact ih mored _ _ h2 rb p1 p2
end L2.DL
set_option Elab.async false
set_option linter.all false
set_option autoImplicit false
set_option maxRecDepth 100000
set_option maxHeartbeats 1000000
namespace L2.DL
open PySem PySem.Spec PyProof.Rows
def alt {α : Type} : List α → List α
  | [] => []
  | [x] => [x]
  | x :: _ :: r => x :: alt r
section
variable {c : C} {X : Cx} {e : Expr} {te : TE} {t : DTE} {j1 j2 : Nat} {p1 p2 p3 pos : Pos}
def dStep2 (k : Nat) (t : DTE) : DTE := fun ρ Q => t ρ fun r ρ1 => ∃ xs, fz r = .lst xs ∧ Q (.own (alt (xs.drop k))) ρ1
end
end L2.DL
set_option Elab.async false
set_option linter.all false
set_option autoImplicit false
set_option maxRecDepth 100000
set_option maxHeartbeats 1000000
namespace L2.DL
open PySem PySem.Spec PyProof.Rows
def lstAt : Option Sl → Option (List D)
  | some (.o (.lst xs)) => some xs
  | some (.d (.lst xs)) => some xs
  | _ => none
def dSlV (i : Nat) (tl th : DTO) : DTE := fun ρ Q => (lstAt ρ[i]?).isSome = true ∧ tl ρ fun l ρ1 => th ρ1 fun u ρ2 => ∃ xs, lstAt ρ2[i]? = some xs ∧ Q (.own (cutD xs l u)) ρ2
def dIxV (i : Nat) (ti : DTE) : DTE := fun ρ Q => (lstAt ρ[i]?).isSome = true ∧ ti ρ fun r ρ1 => ∃ xs k d, lstAt ρ1[i]? = some xs ∧ fz r = .int k ∧ atI xs k = some d ∧ Q (.v d) ρ1
section
variable {c : C} {X : Cx} {e o ix : Expr} {te ti : DTE} {tl th : DTO} {lo hi : Option Expr} {i : Nat} {p2 pos pos' : Pos}
/-- where the list stands -/
theorem lst_at {σ : L2.St} {F H : Hp} {ρ : Rho} {xs : List D} (s : SR c F H σ ρ) (h : lstAt ρ[i]? = some xs) : ∃ p vs, σ[i]? = some (some (V.ref p)) ∧ SqL c.K H p vs ∧ Reps c.K c.S F vs xs := by
  cases e : ρ[i]? with
  | none => rw [e] at h; cases h
  | some u =>
    rw [e] at h
    cases u with
    | un => cases h
    | d x =>
      cases x with
      | lst ys =>
        cases h
        obtain ⟨v, hv, rv⟩ := s.sl i _ e
        cases rv with
        | lst h1 h2 => exact ⟨_, _, hv, h1.sq s.sub, h2⟩
      | _ => cases h
    | o x =>
      cases x with
      | lst ys =>
        cases h
        obtain ⟨p, ob, hv, h1, _, h2, _⟩ := s.ow i _ e
        cases h2 with
        | lst h3 => exact ⟨p, _, hv, .inl (.inl h1), h3⟩
      | _ => cases h
theorem var_at {σ : L2.St} {F H : Hp} {ρ : Rho} (s : SR c F H σ ρ) (h : (lstAt ρ[i]?).isSome = true) : ∃ p, σ[i]? = some (some (V.ref p)) := by
  obtain ⟨xs, e⟩ := Option.isSome_iff_exists.mp h
  obtain ⟨p, vs, a, _⟩ := lst_at s e
  exact ⟨p, a⟩
theorem de_ixV (hK : X.K = c.K) (ho : PE X o (tVar i)) (hi : PE X ix (liftE c ti)) (hs : PlainIx ix) : PE X (.Subscript o ix pos) (liftE c (dIxV i ti)) :=
  PE_imp (pe_ix ix_list ho (froze hi) hs) fun σ H Q ⟨F, ρ, QD, s, ⟨hx, h⟩, k⟩ => by
    obtain ⟨p, hp⟩ := var_at s hx
    refine ⟨.ref p, hp, F, ρ, (fun d1 ρ1 => ∃ xs k d, lstAt ρ1[i]? = some xs ∧ d1 = .int k ∧ atI xs k = some d ∧ QD (.v d) ρ1), s, h, fun w H2 F2 ρ2 d2 s2 st2 rw2 ⟨xs, j, d, hx2, e2, hat, q⟩ => ?_⟩
    subst e2
    cases rw2
    obtain ⟨p', vs, hp', sq, rp⟩ := lst_at s2 hx2
    rw [hp] at hp'
    cases hp'
    obtain ⟨v, hv, rv⟩ := at_rep rp hat
    exact ⟨p, vs, j, v, rfl, rfl, by rw [hK]; exact sq, hv, k v H2 F2 ρ2 (.v d) s2 st2 rv trivial q⟩
/-- x[k] = e -/
def dSetV (i : Nat) (ti te : DTE) : DTS := fun D ρ => te ρ fun r ρ1 => (∃ xs, ρ1[i]? = some (Sl.o (.lst xs))) ∧ ti ρ1 fun r2 ρ2 => ∃ xs k j, ρ2[i]? = some (Sl.o (.lst xs)) ∧ fz r2 = .int k ∧ ixN xs.length k = some j ∧ D.nx (ρ2.set i (.o (.lst (xs.set j (fz r)))))
end
theorem Reps.setAt {K : PySem.W.Frag} {S : Src} {F : Hp} {v : V} {d : D} (rv : Rep K S F v d) {vs : List V} : ∀ {ds : List D} {j : Nat}, Reps K S F vs ds → Reps K S F (vs.set j v) (ds.set j d) := by
  induction vs with
  | nil => intro ds j h; cases h; exact .nil
  | cons x vs ih =>
    intro ds j h
    cases h with
    | cons a b =>
      cases j with
      | zero => exact .cons rv b
      | succ j => exact .cons a (ih b)
section
variable {c : C} {X : Cx} {e o ix E : Expr} {te ti : DTE} {i : Nat} {p pos pos' : Pos}
theorem ds_setV (hg : PG X (.Subscript o ix pos') (gSub (tVar i) (liftV c (frz ti)) rSetL)) (hv : PE X e (liftE c te)) (hs : swapsWithSole [.Subscript o ix pos'] e pos.line X.env = pure false := by rfl) (hw : swappedStores [.Subscript o ix pos'] e X.env = pure none := by rfl)
    (h1 : (assignEach [.Subscript o ix pos'] X.env).map (·.2) = [assign (.Subscript o ix pos') X.env] := by rfl) : PS X (.Assign [.Subscript o ix pos'] e pos) (liftS c (dSetV i ti te)) :=
  PS_imp (ps_asg (froze hv) hg hs hw h1) fun D σ H ⟨F, ρ, DD, s, h, k⟩ =>
    ⟨F, ρ, (fun d ρ1 => (∃ xs, ρ1[i]? = some (Sl.o (.lst xs))) ∧ ti ρ1 fun r2 ρ2 => ∃ xs k j, ρ2[i]? = some (Sl.o (.lst xs)) ∧ fz r2 = .int k ∧ ixN xs.length k = some j ∧ DD.nx (ρ2.set i (.o (.lst (xs.set j d))))), s, h, fun v H1 F1 ρ1 d s1 st1 rv ⟨⟨xs0, hx0⟩, q⟩ => by
      obtain ⟨p, ob, e1, _⟩ := s1.ow i _ hx0
      refine ⟨.ref p, e1, F1, ρ1, (fun d2 ρ2 => ∃ xs k j, ρ2[i]? = some (Sl.o (.lst xs)) ∧ d2 = .int k ∧ ixN xs.length k = some j ∧ DD.nx (ρ2.set i (.o (.lst (xs.set j d))))), s1, q, fun y H2 F2 ρ2 d2 s2 st2 ry ⟨xs, k0, j, hx, e2, hj, q2⟩ => ?_⟩
      subst e2
      cases ry
      obtain ⟨p', ob', g1, g2, g3, g4, g5, g6⟩ := s2.ow i _ hx
      rw [e1] at g1
      cases g1
      cases g4 with
      | lst r => exact ⟨p, _, k0, j, rfl, rfl, g2, by rw [r.length]; exact hj, k.nx σ _ F2 _ (st1.ff.trans st2.ff) (s2.grow hx e1 (.lst (Reps.setAt (rv.mono st2.ff) r))) q2⟩⟩
/-- an owned list changes within an expression -/
theorem grow_stp {σ : L2.St} {F H : Hp} {ρ : Rho} {a : Addr} {x y : D} {w : HO} (s : SR c F H σ ρ) (hi : ρ[i]? = some (Sl.o x)) (hp : σ[i]? = some (some (V.ref a))) (n : ∀ ps, w ≠ .tbl ps := by intro _ z; cases z) : Stp c σ F H ρ F (upd H a w) (ρ.set i (.o y)) where
  ff := Le.refl _
  hh := fun q o z _ ho => by
    have : q ≠ a := fun e => ho ⟨i, x, hi, by rw [hp, e]⟩
    rw [upd_ne this]; exact kn_some z
  nn := fun _ h => .inl h
  oo := fun q ⟨j, z, h1, h2⟩ => by
    by_cases e : j = i
    · subst e
      exact ⟨j, x, hi, h2⟩
    · rw [List.getElem?_set_ne (Ne.symm e)] at h1
      exact ⟨j, z, h1, h2⟩
  tr := fun q h => by
    by_cases e : q = a
    · subst e; rw [kn_of upd_same n]; simp
    · rw [kn_same (upd_ne e)]; exact h
/-- x.pop(k) -/
def dPopV (i : Nat) (ti : DTE) : DTE := fun ρ Q => (∃ xs, ρ[i]? = some (Sl.o (.lst xs))) ∧ ti ρ fun r ρ1 => ∃ xs k j d, ρ1[i]? = some (Sl.o (.lst xs)) ∧ fz r = .int k ∧ xs.length ≤ sizeLine ∧ ixN xs.length k = some j ∧ xs[j]? = some d ∧ Q (.v d) (ρ1.set i (.o (.lst (xs.eraseIdx j))))
theorem Reps.eraseIdx {K : PySem.W.Frag} {S : Src} {F : Hp} {vs : List V} : ∀ {ds : List D} {j : Nat}, Reps K S F vs ds → Reps K S F (vs.eraseIdx j) (ds.eraseIdx j) := by
  induction vs with
  | nil => intro ds j h; cases h; exact .nil
  | cons x vs ih =>
    intro ds j h
    cases h with
    | cons a b =>
      cases j with
      | zero => exact b
      | succ j => exact .cons a (ih b)
theorem de_popV (h1 : PE X E (tBM X.K "list" rPopAt (tVar i) (tCons (liftV c (frz ti)) tNil))) : PE X E (liftE c (dPopV i ti)) :=
  PE_imp h1 fun σ H Q ⟨F, ρ, QD, s, ⟨⟨xs0, hx0⟩, h⟩, k⟩ => by
    obtain ⟨p, ob, e1, e2, e3, e4, e5, e6⟩ := s.ow i _ hx0
    cases e4
    refine ⟨.ref p, e1, .inl ⟨rfl, _, .inl (.inl e2)⟩, F, ρ, (fun d2 ρ1 => ∃ xs k j d, ρ1[i]? = some (Sl.o (.lst xs)) ∧ d2 = .int k ∧ xs.length ≤ sizeLine ∧ ixN xs.length k = some j ∧ xs[j]? = some d ∧ QD (.v d) (ρ1.set i (.o (.lst (xs.eraseIdx j))))), s, h, fun v H1 F1 ρ1 d2 s1 st1 rv ⟨xs, k0, j, d, hx, e2, hl, hj, hd, q⟩ => ?_⟩
    subst e2
    cases rv
    obtain ⟨p', ob', g1, g2, g3, g4, g5, g6⟩ := s1.ow i _ hx
    rw [e1] at g1
    cases g1
    cases g4 with
    | lst r =>
      rename_i vs
      obtain ⟨j1, j2, j3, j4⟩ := ixN_seq hj
      obtain ⟨w, hw, rw'⟩ := r.get hd
      have big : (sizeLine : Nat) < 2 ^ 62 := by decide
      refine ⟨p, vs, k0, j, w, rfl, rfl, g2, by omega, by omega, by rw [r.length]; exact j1, hw, ?_⟩
      exact k w _ F1 _ (.v d) (s1.grow hx e1 (.lst (Reps.eraseIdx r))) (st1.trans (grow_stp s1 hx e1)) rw' trivial q
/-- len(x) -/
def dLenV (i : Nat) : DTE := fun ρ Q => ∃ xs, lstAt ρ[i]? = some xs ∧ Q (.v (.int xs.length)) ρ
theorem de_lenV {x : Str} (hK : X.K = c.K) (hg : Gl X "len") (hm : X.mg "len" = none) (ha : PA X [e] (tCons (tVar i) tNil)) (hv : bootBuiltins "len" = some (.builtin "len") := by decide +kernel)
    (he : starEach [e] X.env = (false, eval e X.env) :: starEach [] X.env := by rfl) (hpl : (backTo pos (starEach [] X.env)).any (·.1) = false := by rfl) : PE X (.Call (.Name "len" p) [e] [] pos) (liftE c (dLenV i)) :=
  PE_imp (pe_callB call_len hg hm hv ha (by decide) (by decide) he hpl) fun σ H Q ⟨F, ρ, QD, s, ⟨xs, hx, h⟩, k⟩ => by
    obtain ⟨a, vs, e1, sq, rp⟩ := lst_at s hx
    refine ⟨.ref a, e1, .ref a, _, rfl, .inl ⟨vs, by rw [hK]; exact sq, rfl⟩, ?_⟩
    have := k (.int vs.length) H F ρ (.v (.int xs.length)) s Stp.refl (by rw [rp.length]; exact .int _) trivial h
    exact this
end
end L2.DL
set_option Elab.async false
set_option linter.all false
set_option autoImplicit false
set_option maxRecDepth 100000
set_option maxHeartbeats 1000000
namespace L2.DL
open PySem PySem.Spec PyProof.Rows
def dLcLP (g : DTG) (tt : DTT) (te : DTE) (vs : List Nat) (P : Rho → Prop) (Q : DQ) : List D → List D → Rho → Prop
  | [], acc, ρ => P ρ ∧ Q (.own acc) ρ
  | x :: xs, acc, ρ => P ρ ∧ g x ρ fun ρ2 => tt ρ2 fun b ρ3 => if b = true then te ρ3 fun r ρ4 => acc.length < sizeLine ∧ dLcLP g tt te vs P Q xs (acc ++ [fz r]) (dwipe ρ4 vs) else dLcLP g tt te vs P Q xs acc (dwipe ρ3 vs)
def dLcV (i : Nat) (g : DTG) (tt : DTT) (te : DTE) (vs : List Nat) : DTE := fun ρ Q => ∃ ds, lstAt ρ[i]? = some ds ∧ dLcLP g tt te vs (fun r => lstAt r[i]? = some ds) Q ds [] (dwipe ρ vs)
section
variable {c : C} {X : Cx} {elt tg iter e : Expr} {g : DTG} {tt : DTT} {te : DTE} {pos : Pos} {vs is : List Nat}
theorem lcV_lift {iv : Nat} (hs : ∀ i ∈ is, i ∈ vs) {σ : L2.St} {H : Hp} {Q : VK} (h : liftE c (dLcV iv g tt te vs) σ H Q) : tLc (iList c.K (tVar iv)) (liftG c is g) (liftT c tt) (liftV c (frz te)) vs σ H Q := by
  obtain ⟨F1, ρ1, QD, s1, ⟨ds, hds, q⟩, k⟩ := h
  obtain ⟨pL, vL, eL, sqL, rL⟩ := lst_at s1 hds
  refine ⟨.ref pL, eL, pL, rfl, ⟨vL, sqL⟩, ?_⟩
  generalize H = H1 at *
  have st1 : Stp c σ F1 H1 ρ1 F1 H1 ρ1 := Stp.refl
  intro A hA
  have cH0 : kn c.H0 A = none := s1.newH hA
  have nS : ¬ inS c.S A := s1.newS hA
  have nO : ¬ Own σ ρ1 A := s1.newO hA
  have fA : F1 A = none := free_of s1.sub hA
  have e1 : PExt F1 H1 F1 (upd H1 A (.lst [])) := PExt.own s1.sub hA
  refine ⟨fun i m Hn => m = ds.length - i ∧ i ≤ ds.length ∧ ∃ Fn ρn acc vacc, SR c Fn Hn σ ρn ∧ WP ρn vs ∧ Stp c σ F1 H1 ρ1 Fn Hn ρn ∧ Hn A = some (.lst vacc) ∧ Fn A = none ∧ Reps c.K c.S Fn vacc acc ∧ dLcLP g tt te vs (fun r => lstAt r[iv]? = some ds) QD (ds.drop i) acc ρn,
    ⟨ds.length, by simp, Nat.zero_le _, F1, dwipe ρ1 vs, [], [], (e1.sr s1).dwiped, dwipe_wp _ _, ⟨e1.ff, fun p o z _ _ => e1.hh p o (kn_some z), fun p z => .inl z, fun p ⟨j, xs, z1, z2⟩ => by
      rcases dwipe_get z1 with z | ⟨_, z⟩
      · cases z
      · exact ⟨j, xs, z, z2⟩, e1.stp.tr (c := c) (σ := σ) (ρ := ρ1)⟩, upd_same, fA, .nil, q⟩, ?_⟩
  rintro i m Hn ⟨rfl, hi, Fn, ρn, acc, vacc, sn, wn, stn, hAn, fAn, rn, qn⟩
  by_cases hlt : i < ds.length
  · have hd : ds[i]? = some ds[i] := List.getElem?_eq_getElem hlt
    rw [List.drop_eq_getElem_cons hlt] at qn
    obtain ⟨hP, qn⟩ := qn
    obtain ⟨pM, vM, eM, sqM, rM⟩ := lst_at sn hP
    rw [eL] at eM
    cases eM
    obtain ⟨v0, hv0, rv0⟩ := rM.get hd
    have go : (Itl c.K pL).go i Hn := ⟨vM, v0, sqM, hv0⟩
    have yl : ∀ x H', (Itl c.K pL).yld i Hn x H' → ∃ F3, PExt Fn Hn F3 H' ∧ Rep c.K c.S F3 x ds[i] := fun x H' y => by
      obtain ⟨e, y⟩ := y
      subst e
      have := y vM sqM
      rw [hv0] at this
      cases this
      exact ⟨Fn, .refl sn.sub, rv0⟩
    refine .inr ⟨go, fun H' => ∃ Fn ρn acc vacc, SR c Fn H' σ ρn ∧ WP ρn vs ∧ Stp c σ F1 H1 ρ1 Fn H' ρn ∧ H' A = some (.lst vacc) ∧ Fn A = none ∧ Reps c.K c.S Fn vacc acc ∧ dLcLP g tt te vs (fun r => lstAt r[iv]? = some ds) QD (ds.drop (i + 1)) acc ρn,
      fun H' z => ⟨ds.length - (i + 1), by omega, rfl, hlt, z⟩, fun x H' y => ?_⟩
    obtain ⟨F3, pe, rx⟩ := yl x H' y
    have s3 := pe.sr sn
    have st3 : Stp c σ F1 H1 ρ1 F3 H' ρn := stn.trans pe.stp
    have nOn : ¬ Own σ ρn A := fun z => nO (stn.oo A z)
    have hA3 : H' A = some (.lst vacc) := pe.hh _ _ hAn
    have fA3 : F3 A = none := by
      cases q : F3 A with
      | none => rfl
      | some o =>
        rcases pe.nn A (by rw [q]; simp) with z | z | ⟨_, z⟩
        · exact absurd fAn z
        · rw [hAn] at z; cases z
        · rw [hAn] at z; cases z
    have ownW : ∀ p, Own (wipe σ vs) ρn p → Own σ ρn p := fun p ⟨j, xs, z1, z2⟩ => by
      by_cases hj : j ∈ vs
      · cases wn j hj _ z1
      · exact ⟨j, xs, z1, by rw [← wipe_out hj]; exact z2⟩
    refine ⟨F3, ρn, ds[i], _, s3.wiped wn, rx, qn, fun σ2 ρ2 s4 f4 o4 l4 q4 => ?_⟩
    have l2 : σ2.length = σ.length := l4.trans (wipe_length σ vs)
    have hj2 : ∀ j, j ∉ vs → σ2[j]? = σ[j]? := fun j hj => ((f4 j fun z => hj (hs j z)).1).trans (wipe_out hj)
    have own2 : ∀ p, Own σ2 ρ2 p → Own σ ρn p := fun p z => ownW p (o4 p z)
    have ownB : ∀ {ρ5 : Rho} p, Own σ (dwipe ρ5 vs) p → Own σ2 ρ5 p := fun {ρ5} p ⟨j, xs, z1, z2⟩ => by
      rcases dwipe_get z1 with z | ⟨z, z3⟩
      · cases z
      · exact ⟨j, xs, z3, by rw [hj2 j z]; exact z2⟩
    -- what a test or an element has done, said of the outer slots
    have back : ∀ {F5 H5 : Hp} {ρ5 : Rho}, Stp c σ2 F3 H' ρ2 F5 H5 ρ5 → SR c F5 H5 σ2 ρ5 → Stp c σ F1 H1 ρ1 F5 H5 (dwipe ρ5 vs) ∧ H5 A = some (.lst vacc) ∧ F5 A = none := fun {F5 H5 ρ5} st5 s5 => by
      have st' : Stp c σ F3 H' ρn F5 H5 (dwipe ρ5 vs) := ⟨st5.ff, fun p o z1 z2 z3 => st5.hh p o z1 z2 fun z => z3 (own2 p z), fun p z => by
        rcases st5.nn p z with z | z | z | z
        · exact .inl z
        · exact .inr (.inl z)
        · exact .inr (.inr (.inl (own2 p z)))
        · exact .inr (.inr (.inr z)), fun p z => own2 p (st5.oo p (ownB p z)), st5.tr⟩
      refine ⟨st3.trans st', st5.hh A _ (kn_of hA3) nS fun z => nOn (own2 A z), ?_⟩
      cases q : F5 A with
      | none => rfl
      | some o =>
        rcases st5.nn A (by rw [q]; simp) with z | z | z | z
        · exact absurd fA3 z
        · exact (z.no hA3 (fun _ y => by cases y) (fun _ y => by cases y)).elim
        · exact absurd (own2 A z) nOn
        · exact absurd z nS
    refine ⟨wipe_wiped hs (l4.trans (wipe_length σ vs)) (fun j hj => (f4 j hj).1), F3, ρ2, (fun b ρ3 => if b = true then te ρ3 fun r ρ4 => acc.length < sizeLine ∧ dLcLP g tt te vs (fun r => lstAt r[iv]? = some ds) QD (ds.drop (i + 1)) (acc ++ [fz r]) (dwipe ρ4 vs) else dLcLP g tt te vs (fun r => lstAt r[iv]? = some ds) QD (ds.drop (i + 1)) acc (dwipe ρ3 vs)), s4, q4, fun b H5 F5 ρ5 s5 st5 q5 => ?_⟩
    cases b with
    | false =>
      rw [if_neg Bool.false_ne_true] at q5 ⊢
      obtain ⟨a1, a2, a3⟩ := back st5 s5
      exact ⟨F5, dwipe ρ5 vs, acc, vacc, s5.unwiped l2 hj2, dwipe_wp _ _, a1, a2, a3, Reps.mono (pe.ff.trans st5.ff) rn, q5⟩
    | true =>
      rw [if_pos rfl] at q5 ⊢
      refine ⟨F5, ρ5, (fun d ρ4 => acc.length < sizeLine ∧ dLcLP g tt te vs (fun r => lstAt r[iv]? = some ds) QD (ds.drop (i + 1)) (acc ++ [d]) (dwipe ρ4 vs)), s5, q5, fun y H6 F6 ρ6 d s6 st6 ry q6 => ?_⟩
      obtain ⟨q6a, q6⟩ := q6
      obtain ⟨a1, a2, a3⟩ := back (st5.trans st6) s6
      have s7 := s6.unwiped l2 hj2
      have nO6 : ¬ Own σ (dwipe ρ6 vs) A := fun z => nO (a1.oo A z)
      have rn6 : Reps c.K c.S F6 vacc acc := Reps.mono (pe.ff.trans (st5.ff.trans st6.ff)) rn
      refine ⟨vacc, a2, by rw [rn6.length]; exact q6a, F6, dwipe ρ6 vs, acc ++ [d], vacc ++ [y], ?_, dwipe_wp _ _, ⟨a1.ff, fun p o z1 z2 z3 => ?_, a1.nn, a1.oo, fun p z => ?_⟩, upd_same, a3, rn6.snoc ry, q6⟩
      · refine ⟨fun q o z => ?_, s7.f0, fun q o z1 z2 => ?_, s7.n0, s7.src.upd nS a2, s7.srcF, s7.len, s7.sl, fun j xs z => ?_, s7.dis⟩
        · exact kn_of (by rw [upd_ne (ne_of_none z a3)]; exact s7.sub q o z) (kn_nt (s7.sub' q o z))
        · rw [upd_ne (ne_of_none z1 cH0)]; exact s7.h0 q o z1 z2
        · obtain ⟨q, us, a, b, d, f, g, k⟩ := s7.ow j xs z
          have hq : q ≠ A := fun e => nO6 ⟨j, xs, z, by rw [a, e]⟩
          exact ⟨q, us, a, by rw [upd_ne hq]; exact b, d, f, g, k⟩
      · rw [upd_ne (ne_of_none z1 (kn_none hA))]; exact a1.hh p o z1 z2 z3
      · by_cases hq : p = A
        · rw [hq, kn_of upd_same]; simp
        · rw [kn_same (upd_ne hq)]; exact a1.tr p z
  · have e : i = ds.length := by omega
    subst e
    rw [List.drop_length] at qn
    obtain ⟨hP, qn⟩ := qn
    obtain ⟨pM, vM, eM, sqM, rM⟩ := lst_at sn hP
    rw [eL] at eM
    cases eM
    have nOn : ¬ Own σ ρn A := fun z => nO (stn.oo A z)
    exact .inl ⟨⟨vM, sqM, by rw [rM.length]; exact Nat.le_refl _⟩, k (.ref A) Hn Fn ρn (.own acc) sn (st1.trans stn) ⟨A, _, rfl, hAn, fAn, .lst rn, nS, nOn, cH0⟩ (New.back st1 s1 (r := .own acc) ⟨A, rfl, kn_none hA⟩) qn⟩
theorem de_lcV {i : Nat} {ifs : List Expr} {scope : Scope} {own : List (Str × Nat)} (hK : X.K = c.K) (hc : X.calm = true) (hN : X.N.Nodup) (hi : PE X iter (tVar i)) (ok : BlkOk X.N X.env.scope scope own) (hsub : ∀ i ∈ is, i ∈ own.map (·.2))
    (hg : ∀ (s : Shared) (H : Hp) (C : Addr) (cl : List (Str × Addr)) (fp : List Addr), PG (X.blk s H scope (compEnvC scope cl C X.env) fp) tg (liftG c is g)) (ht : ∀ (s : Shared) (H : Hp) (C : Addr) (cl : List (Str × Addr)) (fp : List Addr), PTs (X.blk s H scope (compEnvC scope cl C X.env) fp) ifs (liftT c tt))
    (he : ∀ (s : Shared) (H : Hp) (C : Addr) (cl : List (Str × Addr)) (fp : List Addr), PE (X.blk s H scope (compEnvC scope cl C X.env) fp) elt (liftE c te)) (hs : ∀ x, foldedSetIterable iter X.env x = pure x := by intro _; rfl) :
    PE X (.ListComp elt [⟨tg, iter, ifs, 0⟩] scope pos) (liftE c (dLcV i g tt te (own.map (·.2)))) :=
  PE_imp (pe_lc hc hN (pi_list hi) ok hg ht (fun s H C cl fp => froze (he s H C cl fp)) hs) fun σ H Q h => by rw [hK]; exact lcV_lift hsub h
end
end L2.DL
set_option Elab.async false
set_option linter.all false
set_option autoImplicit false
set_option maxRecDepth 100000
set_option maxHeartbeats 1000000
namespace L2.DL
open PySem PySem.Spec PyProof.Rows
theorem lcP_fun {α : Type} {g : DTG} {tt : DTT} {te : DTE} {vs : List Nat} {P : Rho → Prop} {Q : DQ} (J : Rho → Prop) (inj : α → D) (p : α → Bool) (f : α → D) (hP : ∀ ρ, J ρ → P ρ)
    (step : ∀ (x : α) ρ, J ρ → ∀ (K1 : DQ) (K2 : Rho → Prop), (p x = true → ∀ r ρ4, fz r = f x → J (dwipe ρ4 vs) → K1 r ρ4) → (p x = false → ∀ ρ3, J (dwipe ρ3 vs) → K2 ρ3) → g (inj x) ρ fun ρ2 => tt ρ2 fun b ρ3 => if b = true then te ρ3 K1 else K2 ρ3) :
    ∀ (xs : List α) (acc : List D) (ρ : Rho), acc.length + xs.length ≤ 1000000 → J ρ → (∀ ρ', J ρ' → Q (.own (acc ++ (xs.filter p).map f)) ρ') → dLcLP g tt te vs P Q (xs.map inj) acc ρ
  | [], acc, ρ, _, j, q => by
    have := q ρ j
    simp only [List.filter_nil, List.map_nil, List.append_nil] at this
    exact ⟨hP ρ j, this⟩
  | x :: xs, acc, ρ, hl, j, q => by
    rw [List.length_cons] at hl
    have hz : (1000000 : Nat) < sizeLine := by decide
    refine ⟨hP ρ j, step x ρ j _ _ (fun hp r ρ4 e j4 => ⟨by omega, ?_⟩) (fun hp ρ3 j3 => ?_)⟩
    · rw [e]
      refine lcP_fun J inj p f hP step xs _ _ (by rw [List.length_append]; show acc.length + 1 + xs.length ≤ _; omega) j4 fun ρ' j' => ?_
      have := q ρ' j'
      rw [List.filter_cons_of_pos hp, List.map_cons] at this
      rw [List.append_assoc]
      exact this
    · refine lcP_fun J inj p f hP step xs _ _ (by omega) j3 fun ρ' j' => ?_
      have := q ρ' j'
      rw [List.filter_cons_of_neg (by rw [hp]; exact Bool.false_ne_true)] at this
      exact this
/-- a state goes along: what is left, what is made -/
theorem lcL_inv {α : Type} {g : DTG} {tt : DTT} {te : DTE} {vs : List Nat} {Q : DQ} (J : List α → List D → Rho → Prop) (inj : α → D) (len : ∀ l acc ρ, J l acc ρ → acc.length + l.length ≤ 1000000)
    (step : ∀ (x : α) rest acc ρ, J (x :: rest) acc ρ → ∀ (K1 : DQ) (K2 : Rho → Prop), (∀ r ρ4, J rest (acc ++ [fz r]) (dwipe ρ4 vs) → K1 r ρ4) → (∀ ρ3, J rest acc (dwipe ρ3 vs) → K2 ρ3) → g (inj x) ρ fun ρ2 => tt ρ2 fun b ρ3 => if b = true then te ρ3 K1 else K2 ρ3)
    (fin : ∀ acc ρ, J [] acc ρ → Q (.own acc) ρ) : ∀ (xs : List α) (acc : List D) (ρ : Rho), J xs acc ρ → dLcL g tt te vs Q (xs.map inj) acc ρ
  | [], acc, ρ, j => fin acc ρ j
  | x :: xs, acc, ρ, j => by
    have hz : (1000000 : Nat) < sizeLine := by decide
    have hl := len _ _ _ j
    rw [List.length_cons] at hl
    exact step x xs acc ρ j _ _ (fun r ρ4 j4 => ⟨by omega, lcL_inv J inj len step fin xs _ _ j4⟩) (fun ρ3 j3 => lcL_inv J inj len step fin xs _ _ j3)
end L2.DL
set_option Elab.async false
set_option linter.all false
set_option autoImplicit false
set_option maxRecDepth 100000
set_option maxHeartbeats 1000000
namespace L2.DL
open PySem PySem.Spec PyProof.Rows
end L2.DL
set_option Elab.async false
set_option linter.all false
set_option autoImplicit false
set_option maxRecDepth 100000
set_option maxHeartbeats 1000000
namespace L2.DL
open PySem PySem.Spec PyProof.Rows
end L2.DL
set_option Elab.async false
set_option linter.all false
set_option autoImplicit false
set_option maxRecDepth 100000
set_option maxHeartbeats 1000000
namespace L2.DL
open PySem PySem.Spec PyProof.Rows
/-- the classes' addresses, by name -/
abbrev Nm : Type := Str → Addr
def isiNames : List String := ["int", "bool", "str", "list", "tuple", "dict"]
/-- what isinstance asks of an own class -/
structure InsN (K : PySem.W.Frag) (C : Addr) : Prop where
  cl : Cls K C
  ha : PySem.W.findIn K (.ref C) "__class__" = some (some (.builtin "object.__class__"))
  hn : PySem.W.specialIn K (.builtin "object.__class__") "__get__" = some (some (.builtin "getset_descriptor.__get__"))
  htk : PySem.W.takesIn K (.builtin "object.__class__") = some true
  hm : PySem.W.mroIn K C (.type "object") = some true
  no : ∀ n ∈ isiNames, PySem.W.kitOne K (.ref C) (.type n) = some false
  me : PySem.W.kitOne K (.ref C) (.ref C) = some true
  nt : ∀ n ∈ "NoneType" :: isiNames, PySem.W.kitOne K (.type n) (.ref C) = some false
  ty : PySem.W.keepIn K (.ref C) = true
def insB (x : Str) (K : PySem.W.Frag) : Bool :=
  He.eqO (PySem.W.findIn K (.ref (He.ga K x)) "__class__") (some (some (.builtin "object.__class__"))) &&
  (He.eqO (PySem.W.specialIn K (.builtin "object.__class__") "__get__") (some (some (.builtin "getset_descriptor.__get__"))) &&
  (decide (PySem.W.takesIn K (.builtin "object.__class__") = some true) &&
  (decide (PySem.W.mroIn K (He.ga K x) (.type "object") = some true) &&
  (isiNames.all (fun n => decide (PySem.W.kitOne K (.ref (He.ga K x)) (.type n) = some false)) &&
  (decide (PySem.W.kitOne K (.ref (He.ga K x)) (.ref (He.ga K x)) = some true) &&
  (("NoneType" :: isiNames).all (fun n => decide (PySem.W.kitOne K (.type n) (.ref (He.ga K x)) = some false)) &&
  PySem.W.keepIn K (.ref (He.ga K x))))))))
theorem insB_ok {x : Str} {K : PySem.W.Frag} (cl : Cls K (He.ga K x)) (h : insB x K = true) : InsN K (He.ga K x) := by
  obtain ⟨h1, h⟩ := He.ba h
  obtain ⟨h2, h⟩ := He.ba h
  obtain ⟨h3, h⟩ := He.ba h
  obtain ⟨h4, h⟩ := He.ba h
  obtain ⟨h5, h⟩ := He.ba h
  obtain ⟨h6, h⟩ := He.ba h
  obtain ⟨h7, h8⟩ := He.ba h
  exact ⟨cl, He.eqO_ok h1, He.eqO_ok h2, of_decide_eq_true h3, of_decide_eq_true h4, fun n hn => of_decide_eq_true (List.all_eq_true.mp h5 n hn), of_decide_eq_true h6, fun n hn => of_decide_eq_true (List.all_eq_true.mp h7 n hn), h8⟩
section
variable {K : PySem.W.Frag} {C : Addr}
theorem InsN.tyx (I : InsN K C) {H : Hp} {a dx : Addr} {fs : List (Str × V)} (e : H a = some (.ins C dx fs)) : TyX K H (.ref a) (.ref C) := .base (.ins e I.cl I.ha I.hn I.htk I.hm)
/-- isinstance(x, T), T a built-in class; x may be an instance of C -/
def dIsiC (K : PySem.W.Frag) (C : Addr) (ds : List D) (Q : Res → Prop) : Prop := match ds with
  | [.ins C' _, .ty n] => C' = C ∧ n ∈ isiNames ∧ Q (.v (.bl false))
  | [d, .ty n] => dIsi (K := K) [d, .ty n] Q
  | _ => False
theorem dIsiC_or {ds : List D} {Q : Res → Prop} (h : dIsiC K C ds Q) : (∃ fs n, ds = [.ins C fs, .ty n] ∧ n ∈ isiNames ∧ Q (.v (.bl false))) ∨ dIsi (K := K) ds Q := by
  unfold dIsiC at h
  split at h
  · obtain ⟨h1, h2, h3⟩ := h
    subst h1
    exact .inl ⟨_, _, rfl, h2, h3⟩
  · exact .inr h
  · exact h.elim
theorem cd_isiC (I : InsN K C) : CallD K (rIsi K) (dIsiC K C) := by
  intro S F H xs ds QD Q s r h k
  rcases dIsiC_or h with ⟨fs, n, e, hn, hf⟩ | h
  · subst e
    match r with
    | .cons (.ins h1 _ _) (.cons (.ty _) .nil) => exact ⟨_, _, _, _, false, rfl, .ty n, I.tyx (s _ _ h1), I.no n hn, k _ H F (.v (.bl false)) (.refl s) (.bl false) hf⟩
  · exact cd_isi S F H xs ds QD Q s r h k
/-- isinstance(x, C), C the own class -/
def isiO (C : Addr) (d : D) (Q : Bool → Prop) : Prop := match d with
  | .ins C' _ => C' = C ∧ Q true
  | d => (tyD d).isSome = true ∧ Q false
def dIsiO (C : Addr) (te : DTE) : DTE := fun ρ Q => te ρ fun r ρ1 => isiO C (fz r) fun b => Q (.v (.bl b)) ρ1
end
end L2.DL
set_option Elab.async false
set_option linter.all false
set_option autoImplicit false
set_option maxRecDepth 100000
set_option maxHeartbeats 1000000
namespace L2.DL
open PySem PySem.Spec PyProof.Rows
abbrev AlX : Type := He.AlD × Bool
def obsX (fa : List He.Fa) (fn : List He.DefD) (gs : List (PySem.W.Frag → Bool)) (K : PySem.W.Frag) : AlX := (He.obsD fa fn K, gs.all fun g => g K)
def valX (fn : List He.DefD) : AlX := (He.valD fn, true)
def SaysX (fa : List He.Fa) (fn : List He.DefD) (gs : List (PySem.W.Frag → Bool)) (K : PySem.W.Frag) : Prop := obsX fa fn gs K = valX fn
section
variable {fa : List He.Fa} {fn : List He.DefD} {gs : List (PySem.W.Frag → Bool)} {K : PySem.W.Frag}
theorem SaysX.d (c : SaysX fa fn gs K) : He.SaysD fa fn K := congrArg (fun z : AlX => z.1) c
theorem SaysX.more (c : SaysX fa fn gs K) (i : Nat) {g : PySem.W.Frag → Bool} (h : gs[i]? = some g := by rfl) : g K = true :=
  List.all_eq_true.mp (show (gs.all fun g => g K) = true from congrArg (fun z : AlX => z.2) c) g (List.mem_of_getElem? h)
end
end L2.DL
set_option Elab.async false
set_option linter.all false
set_option autoImplicit false
set_option maxRecDepth 100000
set_option maxHeartbeats 1000000
namespace L2.DL
open PySem PySem.Spec PyProof.Rows
section
variable {c : C} {F H : Hp} {σ : L2.St} {ρ : Rho} {p : Addr} {o : HO}
theorem SR.over {u : HO} (s : SR c F H σ ρ) (hF : F p = none) (hS : ¬ inS c.S p) (hO : ¬ Own σ ρ p) (h0 : kn c.H0 p = none) (hp : H p = some u) (hu : Plain u) : SR c F (upd H p o) σ ρ where
  sub' := fun q u hq => by
    have : q ≠ p := fun z => by rw [z, hF] at hq; cases hq
    rw [kn_same (upd_ne this)]; exact s.sub' q u hq
  f0 := s.f0
  h0 := fun q u hq hs => by
    have : q ≠ p := fun z => by rw [z, h0] at hq; cases hq
    rw [upd_ne this]; exact s.h0 q u hq hs
  n0 := s.n0
  src := s.src.upd hS hp hu
  srcF := s.srcF
  len := s.len
  sl := s.sl
  ow := fun i xs hi => by
    obtain ⟨q, vs, a, b, d, f, g, k⟩ := s.ow i xs hi
    refine ⟨q, vs, a, ?_, d, f, g, k⟩
    rw [upd_ne fun z => hO ⟨i, xs, hi, by rw [a, z]⟩]
    exact b
  dis := s.dis
end
abbrev DTP := Rho → (List (Key × D) → Rho → Prop) → Prop
def dPNil : DTP := fun ρ Q => Q [] ρ
def dPCons (k : Key) (t : DTE) (u : DTP) : DTP := fun ρ Q => t ρ fun r ρ1 => u ρ1 fun kds ρ2 => Q ((k, fz r) :: kds) ρ2
def dDisp (u : DTP) : DTE := fun ρ Q => u ρ fun kds ρ1 => Q (.ow (.dct (mergeD [] kds))) ρ1
/-- the pairs of a display, over data -/
structure DPs (X : Cx) (c : C) (pos : Pos) (keys : List (Option Expr)) (values : List Expr) (u : DTP) : Prop where
  ex : ∃ trs : List (TE × TE), PPs X pos keys values trs ∧ ∀ (σ : L2.St) (H F : Hp) (ρ : Rho) (QD : List (Key × D) → Rho → Prop) (Q : List (V × V) → Hp → Prop), SR c F H σ ρ → u ρ QD →
    (∀ (kvs : List (Key × V)) (kds : List (Key × D)) (H' F' : Hp) (ρ' : Rho), SR c F' H' σ ρ' → Stp c σ F H ρ F' H' ρ' → kvs.map (·.1) = kds.map (·.1) → Reps c.K c.S F' (kvs.map (·.2)) (kds.map (·.2)) → kvs.length = keys.length → QD kds ρ' → Q (kvs.map fun kv => (kV kv.1, kv.2)) H') → tPairs trs σ H Q
section
variable {X : Cx} {c : C} {pos : Pos} {keys : List (Option Expr)} {values : List Expr} {u : DTP} {ke e : Expr} {k : Key} {t : DTE}
theorem dpp_nil : DPs X c pos [] [] dPNil := ⟨[], pps_nil, fun σ H F ρ QD Q s h k => k [] [] H F ρ s Stp.refl rfl .nil rfl h⟩
theorem dpp_cons (hk : PE X ke (tC (kV k))) (hv : PE X e (liftE c t)) (hr : DPs X c pos keys values u) : DPs X c pos (some ke :: keys) (e :: values) (dPCons k t u) := by
  obtain ⟨trs, P, L⟩ := hr.ex
  refine ⟨_, pps_cons hk (froze hv) P, fun σ H F ρ QD Q s h kk => ?_⟩
  refine ⟨F, ρ, (fun d ρ1 => u ρ1 fun kds ρ2 => QD ((k, d) :: kds) ρ2), s, h, fun v H1 F1 ρ1 d s1 st1 rv q => ?_⟩
  refine L σ H1 F1 ρ1 _ _ s1 q fun kvs kds H2 F2 ρ2 s2 st2 e1 r2 hl q2 => ?_
  exact kk ((k, v) :: kvs) ((k, d) :: kds) H2 F2 ρ2 s2 (st1.trans st2) (by simp only [List.map_cons, e1]) (.cons (rv.mono st2.ff) r2) (by simp only [List.length_cons, hl]) q2
theorem de_disp (h : DPs X c pos keys values u) (hall : keys.all (·.isSome) = true) (hl : keys.length = values.length) (h0 : keys ≠ []) (h15 : keys.length ≤ 15) : PE X (.Dict keys values pos) (liftE c (dDisp u)) := by
  obtain ⟨trs, P, L⟩ := h.ex
  refine PE_imp (pe_disp P hall hl h0 h15) fun σ H Q ⟨F, ρ, QD, s, ht, k⟩ p hp => ?_
  have pe : PExt F H F (upd H p (.dK [])) := PExt.own s.sub hp
  have nS := s.newS hp
  have nO := s.newO hp
  have n0 := s.newH hp
  have fF := free_of s.sub hp
  refine L σ _ F ρ _ _ (pe.sr s) ht fun kvs kds H2 F2 ρ2 s2 st2 e1 r2 hlen q => ?_
  have hH2 : H2 p = some (.dK []) := st2.hh p _ (kn_of upd_same) nS nO
  have fF2 : F2 p = none := by
    cases z : F2 p with
    | none => rfl
    | some o =>
      rcases st2.nn p (by rw [z]; simp) with h | h | h | h
      · exact absurd fF h
      · exact (h.no upd_same (fun _ y => by cases y) (fun _ y => by cases y)).elim
      · exact absurd h nO
      · exact absurd h nS
  have nO2 : ¬ Own σ ρ2 p := fun z => nO (st2.oo p z)
  obtain ⟨m1, m2⟩ := merge_rep kvs kds [] [] e1 r2 rfl .nil
  refine ⟨hH2, kvs, rfl, by omega, ?_⟩
  refine k (.ref p) _ F2 ρ2 (.ow (.dct (mergeD [] kds))) (s2.over fF2 nS nO2 n0 hH2 ⟨fun _ z => (by cases z), fun _ _ z => (by unfold LamX.CodeO at z; cases z)⟩) ⟨st2.ff, fun q o hq a b => ?_, fun q hq => ?_, st2.oo, fun q hq => ?_⟩ ⟨p, _, rfl, upd_same, fF2, .dct m1 m2, nS, nO2, n0⟩ ⟨p, rfl, kn_none hp⟩ q
  · have ne : q ≠ p := fun z => by rw [z, kn_none hp] at hq; cases hq
    rw [upd_ne ne]
    exact st2.hh q o (by rw [kn_same (upd_ne ne)]; exact hq) a b
  · rcases st2.nn q hq with h | h | h
    · exact .inl h
    · refine .inr (.inl ?_)
      by_cases e : q = p
      · rw [e]; exact .inl (kn_none hp)
      · exact h.elim (fun h => .inl (by rw [kn_same (upd_ne e)] at h; exact h)) fun ⟨vs, h⟩ => .inr ⟨vs, by rw [upd_ne e] at h; exact h⟩
    · exact .inr (.inr h)
  · by_cases e : q = p
    · rw [e, kn_none hp] at hq; exact absurd rfl hq
    · rw [kn_same (upd_ne e)]
      exact st2.tr q (by rw [kn_same (upd_ne e)]; exact hq)
end
end L2.DL
set_option Elab.async false
set_option linter.all false
set_option autoImplicit false
set_option maxRecDepth 100000
set_option maxHeartbeats 1000000
namespace L2.DL
open PySem PySem.Spec PyProof.Rows
/-- what an __init__ with a closure is, but for addresses -/
abbrev FnC : Type := Option (Str × Str × Arguments × FuncBody × Scope × Addr × List Str × Addr × Value × Value)
def fnC (K : PySem.W.Frag) (f : Addr) : FnC := match K.lookup f with
  | some ⟨_, _, .func fd, _⟩ => some (fd.name, fd.qualname, fd.params, fd.body, fd.scope, fd.globals, fd.closure.map (·.1), fd.builtins, fd.defaults, fd.kwdefaults)
  | _ => none
structure ExD where
  x : Str
  qual : Str
  params : Arguments
  body : List Stmt
  scope : Scope
def ExD.val (d : ExD) : FnC := some ("__init__", d.qual, d.params, .stmts d.body, d.scope, mainGlobals, ["__class__"], builtinsNs, .none, .none)
def ExD.obs (K : PySem.W.Frag) (d : ExD) : FnC := fnC K (He.ma K (He.ga K d.x) "__init__")
def dRaise (Cl : Addr) (fl : List Str) (XD : DX) (t : DTA) : DTS := fun _ ρ => t ρ fun ds _ => ds.length = fl.length ∧ XD Cl (fl.zip ds)
def dRaiseZ (Cl : Addr) (XD : DX) : DTS := fun _ _ => XD Cl []
end L2.DL
set_option Elab.async false
set_option linter.all false
set_option autoImplicit false
set_option maxRecDepth 100000
set_option maxHeartbeats 1000000
namespace L2.DL
open PySem PySem.Spec PyProof.Rows
abbrev AlY : Type := AlX × List FnC
def obsY (fa : List He.Fa) (fn : List He.DefD) (gs : List (PySem.W.Frag → Bool)) (xs : List ExD) (K : PySem.W.Frag) : AlY := (obsX fa fn gs K, xs.map (ExD.obs K))
def valY (fn : List He.DefD) (xs : List ExD) : AlY := (valX fn, xs.map ExD.val)
def SaysY (fa : List He.Fa) (fn : List He.DefD) (gs : List (PySem.W.Frag → Bool)) (xs : List ExD) (K : PySem.W.Frag) : Prop := obsY fa fn gs xs K = valY fn xs
def obsYG (n : Nat) (fa : List He.Fa) (fn : List He.DefD) (gs : List (PySem.W.Frag → Bool)) (xs : List ExD) (g : Addr → Option Obj) : AlY := obsY fa fn gs xs (He.frG g (PySem.cStatics :: He.asD g n))
def hookY (n : Nat) (fa : List He.Fa) (fn : List He.DefD) (gs : List (PySem.W.Frag → Bool)) (xs : List ExD) : PySem.W.Hook where
  α := AlY
  obs := fun s => obsYG n fa fn gs xs s.heap.get?
  val := fun _ => valY fn xs
  says := fun _ h => ∃ K : PySem.W.Frag, K.In h ∧ SaysY fa fn gs xs K
  of := fun _ _ e => ⟨_, He.frG_in, e⟩
  keeps := fun _ _ _ ⟨K, hK, c⟩ k => ⟨K, PySem.W.Frag.In.keeps hK k, c⟩
theorem obsYG_eq {n : Nat} {fa : List He.Fa} {fn : List He.DefD} {gs : List (PySem.W.Frag → Bool)} {xs : List ExD} {g : Addr → Option Obj} {s : Shared} (h : ∀ a, g a = s.heap.get? a) : obsYG n fa fn gs xs g = (hookY n fa fn gs xs).obs s := by
  have e : g = s.heap.get? := funext h
  rw [e] <;> rfl
section
variable {fa : List He.Fa} {fn : List He.DefD} {gs : List (PySem.W.Frag → Bool)} {xs : List ExD} {K : PySem.W.Frag}
theorem SaysY.x (c : SaysY fa fn gs xs K) : SaysX fa fn gs K := congrArg (fun z : AlY => z.1) c
end
end L2.DL
set_option Elab.async false
set_option linter.all false
set_option autoImplicit false
set_option maxRecDepth 100000
set_option maxHeartbeats 4000000
namespace K65
open PySem PySem.Spec PyProof.Rows L2 L2.DL
def top (i : Nat) : Stmt := PySem.Challenge.pw_oddcrowds_k65_whole_free_meetings.main.body.getD i (.Pass ⟨0, 0, 0, 0⟩)
abbrev s_l_source : Stmt := top 27
abbrev s_Standing_people : Stmt := inClass (top 15) 2
abbrev s_Standing_places : Stmt := inClass (top 15) 8
abbrev s_voices_at : Stmt := top 17
abbrev s_gaps : Stmt := top 18
abbrev s_widths : Stmt := top 20
abbrev s_most_between : Stmt := top 22
abbrev s_is_integer : Stmt := top 9
abbrev s_free_numbers_at : Stmt := top 23
abbrev s_is_word : Stmt := top 10
abbrev s_is_row : Stmt := top 11
abbrev s_wrong_person : Stmt := top 13
abbrev s_wrong_people : Stmt := top 14
abbrev s_Standing_init : Stmt := inClass (top 15) 0
abbrev s_free_numbers : Stmt := top 21
abbrev s_l_pick : Stmt := top 28
abbrev s_l_of : Stmt := top 30
abbrev s_w_odd : Stmt := top 39
abbrev s_free_paper : Stmt := top 24
abbrev s_can_meet_free : Stmt := top 25
abbrev s_w_spots : Stmt := top 34
abbrev s_l_called : Stmt := top 37
abbrev s_l_free_lot : Stmt := top 38
abbrev s_l_made : Stmt := top 31
abbrev s_l_at : Stmt := top 35
abbrev s_l_mixed : Stmt := top 32
abbrev s_l_names : Stmt := top 29
abbrev s_l_world : Stmt := top 33
abbrev s_l_narrow_world : Stmt := top 36
abbrev s_law : Stmt := top 40
def fn : List He.DefD := [
  ⟨("_law_source", none), "_law_source", "_law_source", defArgs s_l_source, defBody s_l_source, defScope s_l_source, [], []⟩,
  ⟨("Standing", some "people"), "people", "Standing.people", defArgs s_Standing_people, defBody s_Standing_people, defScope s_Standing_people, [], []⟩,
  ⟨("Standing", some "places"), "places", "Standing.places", defArgs s_Standing_places, defBody s_Standing_places, defScope s_Standing_places, [], []⟩,
  ⟨("voices_at", none), "voices_at", "voices_at", defArgs s_voices_at, defBody s_voices_at, defScope s_voices_at, [], []⟩,
  ⟨("gaps", none), "gaps", "gaps", defArgs s_gaps, defBody s_gaps, defScope s_gaps, [], []⟩,
  ⟨("widths", none), "widths", "widths", defArgs s_widths, defBody s_widths, defScope s_widths, [], []⟩,
  ⟨("most_between", none), "most_between", "most_between", defArgs s_most_between, defBody s_most_between, defScope s_most_between, [], []⟩,
  ⟨("is_integer", none), "is_integer", "is_integer", defArgs s_is_integer, defBody s_is_integer, defScope s_is_integer, [], []⟩,
  ⟨("free_numbers_at", none), "free_numbers_at", "free_numbers_at", defArgs s_free_numbers_at, defBody s_free_numbers_at, defScope s_free_numbers_at, [], []⟩,
  ⟨("is_word", none), "is_word", "is_word", defArgs s_is_word, defBody s_is_word, defScope s_is_word, [], []⟩,
  ⟨("is_row", none), "is_row", "is_row", defArgs s_is_row, defBody s_is_row, defScope s_is_row, [], []⟩,
  ⟨("wrong_person", none), "wrong_person", "wrong_person", defArgs s_wrong_person, defBody s_wrong_person, defScope s_wrong_person, [], []⟩,
  ⟨("wrong_people", none), "wrong_people", "wrong_people", defArgs s_wrong_people, defBody s_wrong_people, defScope s_wrong_people, [], []⟩,
  ⟨("Standing", some "__init__"), "__init__", "Standing.__init__", defArgs s_Standing_init, defBody s_Standing_init, defScope s_Standing_init, [], []⟩,
  ⟨("free_numbers", none), "free_numbers", "free_numbers", defArgs s_free_numbers, defBody s_free_numbers, defScope s_free_numbers, [], []⟩,
  ⟨("_law_pick", none), "_law_pick", "_law_pick", defArgs s_l_pick, defBody s_l_pick, defScope s_l_pick, [], []⟩,
  ⟨("_law_of", none), "_law_of", "_law_of", defArgs s_l_of, defBody s_l_of, defScope s_l_of, [], []⟩,
  ⟨("_law_odd", none), "_law_odd", "_law_odd", defArgs s_w_odd, defBody s_w_odd, defScope s_w_odd, [], []⟩,
  ⟨("free_paper", none), "free_paper", "free_paper", defArgs s_free_paper, defBody s_free_paper, defScope s_free_paper, [], []⟩,
  ⟨("can_meet_free", none), "can_meet_free", "can_meet_free", defArgs s_can_meet_free, defBody s_can_meet_free, defScope s_can_meet_free, [], []⟩,
  ⟨("_law_spots", none), "_law_spots", "_law_spots", defArgs s_w_spots, defBody s_w_spots, defScope s_w_spots, [], []⟩,
  ⟨("_law_called", none), "_law_called", "_law_called", defArgs s_l_called, defBody s_l_called, defScope s_l_called, [], []⟩,
  ⟨("_law_free_lot", none), "_law_free_lot", "_law_free_lot", defArgs s_l_free_lot, defBody s_l_free_lot, defScope s_l_free_lot, [], []⟩,
  ⟨("_law_made", none), "_law_made", "_law_made", defArgs s_l_made, defBody s_l_made, defScope s_l_made, [], []⟩,
  ⟨("_law_at", none), "_law_at", "_law_at", defArgs s_l_at, defBody s_l_at, defScope s_l_at, [], []⟩,
  ⟨("_law_mixed", none), "_law_mixed", "_law_mixed", defArgs s_l_mixed, defBody s_l_mixed, defScope s_l_mixed, [], []⟩,
  ⟨("_law_names", none), "_law_names", "_law_names", defArgs s_l_names, defBody s_l_names, defScope s_l_names, [], []⟩,
  ⟨("_law_world", none), "_law_world", "_law_world", defArgs s_l_world, defBody s_l_world, defScope s_l_world, [], []⟩,
  ⟨("_law_narrow_world", none), "_law_narrow_world", "_law_narrow_world", defArgs s_l_narrow_world, defBody s_l_narrow_world, defScope s_l_narrow_world, [], []⟩,
  ⟨("law", none), "law", "law", defArgs s_law, defBody s_law, defScope s_law, [], []⟩]
def fa : List He.Fa := [.glo "_law_source", .glo "voices_at", .glo "gaps", .glo "widths", .glo "most_between", .glo "is_integer", .glo "free_numbers_at", .glo "is_word", .glo "is_row", .glo "wrong_person", .glo "wrong_people", .glo "free_numbers", .glo "_law_pick", .glo "_law_of", .glo "_law_odd", .glo "free_paper", .glo "can_meet_free", .glo "_law_spots", .glo "_law_called", .glo "_law_free_lot", .glo "_law_made", .glo "_law_at", .glo "_law_mixed", .glo "_law_names", .glo "_law_world", .glo "_law_narrow_world", .glo "law", .glo "Standing", .cls "Standing", .mkr "Standing", .noat "Standing" "own_people", .meth "Standing" "people", .meth "Standing" "places", .free "abs", .free "all", .free "bool", .free "enumerate", .free "int", .free "isinstance", .free "len", .free "list", .free "max", .free "min", .free "range", .free "repr", .free "set", .free "sorted", .free "str", .free "sum", .free "tuple", .free "zip", .str "FIGURES" ("0123456789" : Str), .str "LETTERS" ("abcdefghijklmnopqrstuvwxyz" : Str)]
abbrev R : PySem.W.OpenRow := PySem.W.OpenLaw.row PySem.Challenge.rw_oddcrowds_k65_whole_free_meetings
def gs : List (PySem.W.Frag → Bool) := [insB "Standing"]
def xs : List ExD := []
abbrev hk : PySem.W.Hook := hookY 6 fa fn gs xs
def ob (s : PySem.W.SharedT) : AlY := obsYG 6 fa fn gs xs (HandSHeadRun.getT s)
theorem ob_eq (s : PySem.W.SharedT) : ob s = hk.obs s.abs := obsYG_eq (HandSHeadRun.getT_eq s)
def loose : List Str := (["_wall", "CrowdError", "BadStanding", "NameMissing", "UnknownName", "LETTERS", "FIGURES", "is_integer", "is_word", "is_row", "wrong_person", "wrong_people", "Standing", "voices_at", "gaps", "widths", "free_numbers", "most_between", "free_numbers_at", "free_paper", "can_meet_free", "_law_source", "_law_pick", "_law_names", "_law_of", "_law_made", "_law_mixed", "_law_world", "_law_spots", "_law_at"] : List Str) ++ (["_law_narrow_world", "_law_called", "_law_free_lot", "_law_odd"] : List Str)
theorem run (w : World) : HandSHeadRun.RunEq R (PySem.W.view R.prog [40]) hk ob 4000 loose w := by
  intro os
  kernel_rfl
end K65
set_option Elab.async false
set_option linter.all false
set_option autoImplicit false
set_option maxRecDepth 100000
set_option maxHeartbeats 1000000
namespace L2.DL
open PySem PySem.Spec PyProof.Rows
end L2.DL
set_option Elab.async false
set_option linter.all false
set_option autoImplicit false
set_option maxRecDepth 100000
set_option maxHeartbeats 1000000
namespace L2.DL
open PySem PySem.Spec PyProof.Rows LamX
/-- a clause: the class, the word, the field -/
abbrev Cls : Type := Addr × Str × Str
/-- what the clauses make of what is raised -/
def xTold (l : List Cls) (Q : Res → Prop) : DX := fun C fds => ∃ q, q ∈ l ∧ C = q.1 ∧ ∃ d, fds.lookup q.2.2 = some d ∧ Q (.own [.str q.2.1, d])
/-- an owned slot is not seen by the lambda -/
def hideO : Sl → Sl
  | .o _ => .un
  | x => x
def dTold (w : Str) (l : List Cls) (tb : DX → DTE) : DTE := fun ρ Q => tb (xTold l fun r => Q r ρ) (ρ.map hideO) fun r _ => Q (.own [.str w, fz r]) ρ
end L2.DL
set_option Elab.async false
set_option linter.all false
set_option autoImplicit false
set_option maxRecDepth 100000
set_option maxHeartbeats 1000000
namespace L2.DL
open PySem PySem.Spec PyProof.Rows LamX
end L2.DL
set_option Elab.async false
set_option linter.all false
set_option autoImplicit false
set_option maxRecDepth 100000
set_option maxHeartbeats 1000000
namespace L2.DL
open PySem PySem.Spec PyProof.Rows LamX
end L2.DL
set_option Elab.async false
set_option linter.all false
set_option autoImplicit false
set_option maxRecDepth 100000
set_option maxHeartbeats 1000000
namespace L2.DL
open PySem PySem.Spec PyProof.Rows
theorem call_lenS {X : Cx} : CallR X (.builtin "len") (fun xs H Q => ∃ (a : Addr) (S : Int → Bool) (n : Nat), xs = [.ref a] ∧ H a = some (SetO X.w a S n) ∧ ∀ ks : List Int, ks.Nodup → (∀ k, S k = true ↔ k ∈ ks) → ks.length = n → Q (.int n) H) := by
  intro pins s σ H xs us Q I r h
  obtain ⟨a, S, n, rfl, ha, q⟩ := h
  obtain ⟨u, rfl, rx⟩ := vals1 r
  cases rx
  obtain ⟨o, es, ep, t, ho, hex, hd, _, nd, mem, few, hf, hn, _⟩ := setO_get I ha
  have b : scanBound = 4096 := rfl
  exact call_len_set ho hex hd hf (by omega) ⟨.int n, H, I.tok _, ⟨_, by rw [hn]⟩, q (es.toList.map L2.keyOf) nd mem (by simp [hn])⟩
theorem len_uset {ks ns : List Int} (nd : ks.Nodup) (h : ∀ k, decide (k ∈ ns) = true ↔ k ∈ ks) : ks.length = (uset ns).length := by
  have nu : (uset ns).Nodup := uset_lt.imp fun h => Int.ne_of_lt h
  have hm : ∀ k, k ∈ ks ↔ k ∈ uset ns := fun k => by rw [← h, mem_uset, decide_eq_true_iff]
  exact ((List.perm_ext_iff_of_nodup nd nu).mpr fun {k} => hm k).length_eq
def dLenSet (te : DTE) : DTE := fun ρ Q => te ρ fun r ρ1 => ∃ ns : List Int, (fz r = .lst (ns.map .int) ∨ fz r = .tup (ns.map .int)) ∧ ns.length < 64 ∧ Q (.v (.int (uset ns).length)) ρ1
section
variable {c : C} {X : Cx} {e : Expr} {te : DTE} {pos p1 p2 ps : Pos}
theorem de_lenSet (hK : X.K = c.K) (hc : X.calm = true) (hg : Gl X "len") (hm : X.mg "len" = none) (hg2 : Gl X "set") (hm2 : X.mg "set" = none) (he : PE X e (liftE c te)) (hv : bootBuiltins "len" = some (.builtin "len") := by decide +kernel) (hv2 : bootBuiltins "set" = some (.type "set") := by decide +kernel)
    (s1 : starEach [.Call (.Name "set" p2) [e] [] ps] X.env = (false, eval (.Call (.Name "set" p2) [e] [] ps) X.env) :: starEach [] X.env := by rfl) (s2 : starEach [e] X.env = (false, eval e X.env) :: starEach [] X.env := by rfl) :
    PE X (.Call (.Name "len" p1) [.Call (.Name "set" p2) [e] [] ps] [] pos) (liftE c (dLenSet te)) :=
  PE_imp (pe_callB call_lenS hg hm hv (pa_cons (pe_callTy (cr_setI hc) hg2 hm2 hv2 (pa_cons (froze he) pa_nil s2) (he := s2)) pa_nil s1) (he := s1)) fun σ H Q ⟨F, ρ, QD, s, h, k⟩ =>
    ⟨F, ρ, (fun d ρ1 => ∃ ns : List Int, (d = .lst (ns.map .int) ∨ d = .tup (ns.map .int)) ∧ ns.length < 64 ∧ QD (.v (.int (uset ns).length)) ρ1), s, h, fun v H1 F1 ρ1 d t1 st1 rv ⟨ns, hd, few, q⟩ => by
      obtain ⟨a, ea, ha⟩ := rep_ints (rv.mono t1.sub) hd
      refine ⟨a, ns, by rw [ea], by rw [hK]; exact ha, by rw [show scanBound = 4096 from rfl]; omega, fun p cnt hp hcnt => ?_⟩
      refine ⟨p, (fun j => decide (j ∈ ns)), cnt, rfl, upd_same, fun ks nd mem hl => ?_⟩
      have e1 : cnt = (uset ns).length := by rw [← hl]; exact len_uset nd mem
      subst e1
      have pe : PExt F1 H1 F1 (upd H1 p (SetO X.w p (fun j => decide (j ∈ ns)) (uset ns).length)) := PExt.own t1.sub hp
      exact k _ _ F1 ρ1 (.v (.int (uset ns).length)) (pe.sr t1) (st1.trans pe.stp) (show Rep c.K c.S F1 _ _ from .int _) trivial q⟩
end
theorem hid_u : hideO .un = .un := rfl
theorem hid_d {d : D} : hideO (.d d) = .d d := rfl
theorem hid_o {d : D} : hideO (.o d) = .un := rfl
end L2.DL
set_option Elab.async false
set_option linter.all false
set_option autoImplicit false
set_option maxRecDepth 100000
set_option maxHeartbeats 1000000
namespace L2.DL
open PySem PySem.Spec PyProof.Rows
def scD : D → D → Option Bool
  | .int i, .int j => some (decide (i = j))
  | .str x, .str y => some (decide (x = y))
  | .bl a, .bl b => some (a == b)
  | .non, .non => some true
  | _, _ => none
def dEq2 (a b : D) (Q : Res → Prop) : Prop := (∃ r, scD a b = some r ∧ Q (.v (.bl r))) ∨ dEq a b Q
def dNe2 (a b : D) (Q : Res → Prop) : Prop := (∃ r, scD a b = some r ∧ Q (.v (.bl (!r)))) ∨ dNe a b Q
theorem sc_rep {K : PySem.W.Frag} {S : Src} {F : Hp} {x y : V} {a b : D} {r : Bool} (rx : Rep K S F x a) (ry : Rep K S F y b) (h : scD a b = some r) : scal x y = true ∧ decide (x = y) = r := by
  cases rx <;> cases ry <;> first | (cases h; done) | skip
  · cases h; exact ⟨rfl, rfl⟩
  · rename_i a b; cases h; cases a <;> cases b <;> exact ⟨rfl, rfl⟩
  · rename_i a b
    cases h
    refine ⟨rfl, ?_⟩
    by_cases e : a = b
    · subst e; simp
    · rw [decide_eq_false e, decide_eq_false fun z => e (V.int.inj z)]
  · rename_i a b
    cases h
    refine ⟨rfl, ?_⟩
    by_cases e : a = b
    · subst e; simp
    · rw [decide_eq_false e, decide_eq_false fun z => e (V.str.inj z)]
theorem od_eqS {K : PySem.W.Frag} : OpD K rEq (fun a b Q => ∃ r, scD a b = some r ∧ Q (.v (.bl r))) := by
  intro S F H x y d e QD Q s rx ry ⟨r, hr, q⟩ k
  obtain ⟨h1, h2⟩ := sc_rep rx ry hr
  exact ⟨h1, by rw [h2]; exact k _ H F (.v (.bl r)) (.refl s) (.bl _) q⟩
theorem od_neS {K : PySem.W.Frag} : OpD K rNe (fun a b Q => ∃ r, scD a b = some r ∧ Q (.v (.bl (!r)))) := by
  intro S F H x y d e QD Q s rx ry ⟨r, hr, q⟩ k
  obtain ⟨h1, h2⟩ := sc_rep rx ry hr
  exact ⟨h1, by rw [h2]; exact k _ H F (.v (.bl (!r))) (.refl s) (.bl _) q⟩
theorem od_eq2 {K : PySem.W.Frag} : OpD K (fun x y H Q => rEq x y H Q ∨ rEqD K x y H Q) dEq2 := OpD.or od_eqS od_eq
theorem od_ne2 {K : PySem.W.Frag} : OpD K (fun x y H Q => rNe x y H Q ∨ rNeD K x y H Q) dNe2 := OpD.or od_neS od_ne
theorem op_eq2 {X : Cx} (hu : X.A.units + 64 < cLine) : OpR X (compareOp .Eq) (fun x y H Q => rEq x y H Q ∨ rEqD X.K x y H Q) := op_eq.or (op_eqD hu)
theorem op_ne2 {X : Cx} (hu : X.A.units + 64 < cLine) : OpR X (compareOp .NotEq) (fun x y H Q => rNe x y H Q ∨ rNeD X.K x y H Q) := op_ne.or (op_neD hu)
theorem eq2_sc {a b : D} {r : Bool} {Q : Res → Prop} (h : scD a b = some r) (e : PyData.eqv (py a) (py b) = r) : dEq2 a b Q = Q (.v (.bl r)) := propext ⟨fun q => q.elim (fun ⟨r', e', q⟩ => by rw [h] at e'; cases e'; exact q) fun q => by rw [← e]; exact q.2, fun q => .inl ⟨r, h, q⟩⟩
theorem ne2_sc {a b : D} {r : Bool} {Q : Res → Prop} (h : scD a b = some r) (e : PyData.eqv (py a) (py b) = r) : dNe2 a b Q = Q (.v (.bl (!r))) := propext ⟨fun q => q.elim (fun ⟨r', e', q⟩ => by rw [h] at e'; cases e'; exact q) fun q => by rw [← e]; exact q.2, fun q => .inl ⟨r, h, q⟩⟩
def startN (n : Nat) (ds : List D) : Rho := ds.map Sl.d ++ List.replicate (n - ds.length) Sl.un
section
variable {Q : Res → Prop} {K : PySem.W.Frag} {i j : Int} {x y : Str} {a b : Bool} {xs : List D} {kds : List (Key × D)}
theorem eqII : dEq2 (.int i) (.int j) Q = Q (.v (.bl (decide (i = j)))) := eq2_sc rfl (by simp only [py]; unfold PyData.eqv; first | rfl | simp)
theorem neII : dNe2 (.int i) (.int j) Q = Q (.v (.bl (!decide (i = j)))) := ne2_sc rfl (by simp only [py]; unfold PyData.eqv; first | rfl | simp)
theorem eqSS : dEq2 (.str x) (.str y) Q = Q (.v (.bl (decide (x = y)))) := eq2_sc rfl (by simp only [py]; unfold PyData.eqv; first | rfl | simp)
theorem neSS : dNe2 (.str x) (.str y) Q = Q (.v (.bl (!decide (x = y)))) := ne2_sc rfl (by simp only [py]; unfold PyData.eqv; first | rfl | simp)
theorem eqBB : dEq2 (.bl a) (.bl b) Q = Q (.v (.bl (a == b))) := eq2_sc rfl (by simp only [py]; unfold PyData.eqv; first | rfl | (cases a <;> cases b <;> rfl))
theorem neBB : dNe2 (.bl a) (.bl b) Q = Q (.v (.bl (!(a == b)))) := ne2_sc rfl (by simp only [py]; unfold PyData.eqv; first | rfl | (cases a <;> cases b <;> rfl))
theorem eqLL {ys : List D} : dEq2 (.lst xs) (.lst ys) Q = dEq (.lst xs) (.lst ys) Q := propext ⟨fun h => h.elim (fun ⟨_, e, _⟩ => nomatch e) id, .inr⟩
theorem neLL {ys : List D} : dNe2 (.lst xs) (.lst ys) Q = dNe (.lst xs) (.lst ys) Q := propext ⟨fun h => h.elim (fun ⟨_, e, _⟩ => nomatch e) id, .inr⟩
theorem eqTT {ys : List D} : dEq2 (.tup xs) (.tup ys) Q = dEq (.tup xs) (.tup ys) Q := propext ⟨fun h => h.elim (fun ⟨_, e, _⟩ => nomatch e) id, .inr⟩
theorem neTT {ys : List D} : dNe2 (.tup xs) (.tup ys) Q = dNe (.tup xs) (.tup ys) Q := propext ⟨fun h => h.elim (fun ⟨_, e, _⟩ => nomatch e) id, .inr⟩
theorem isiE {d : D} {m n : String} {b : Bool} (h1 : tyD d = some m) (h2 : PySem.W.kitOne K (.type m) (.type n) = some b) : dIsi (K := K) [d, .ty n] Q = Q (.v (.bl b)) := by
  refine propext ⟨fun h => ?_, fun h => ⟨m, b, h1, h2, h⟩⟩
  obtain ⟨m', b', e1, e2, q⟩ := h
  rw [h1] at e1
  cases e1
  rw [h2] at e2
  cases e2
  exact q
theorem isi_ii : dIsi (K := K) [.int i, .ty "int"] Q = Q (.v (.bl true)) := isiE rfl rfl
theorem isi_ib : dIsi (K := K) [.int i, .ty "bool"] Q = Q (.v (.bl false)) := isiE rfl rfl
theorem isi_is : dIsi (K := K) [.int i, .ty "str"] Q = Q (.v (.bl false)) := isiE rfl rfl
theorem isi_il : dIsi (K := K) [.int i, .ty "list"] Q = Q (.v (.bl false)) := isiE rfl rfl
theorem isi_it : dIsi (K := K) [.int i, .ty "tuple"] Q = Q (.v (.bl false)) := isiE rfl rfl
theorem isi_bi : dIsi (K := K) [.bl a, .ty "int"] Q = Q (.v (.bl true)) := isiE rfl rfl
theorem isi_bb : dIsi (K := K) [.bl a, .ty "bool"] Q = Q (.v (.bl true)) := isiE rfl rfl
theorem isi_bs : dIsi (K := K) [.bl a, .ty "str"] Q = Q (.v (.bl false)) := isiE rfl rfl
theorem isi_bt : dIsi (K := K) [.bl a, .ty "tuple"] Q = Q (.v (.bl false)) := isiE rfl rfl
theorem isi_si : dIsi (K := K) [.str x, .ty "int"] Q = Q (.v (.bl false)) := isiE rfl rfl
theorem isi_sb : dIsi (K := K) [.str x, .ty "bool"] Q = Q (.v (.bl false)) := isiE rfl rfl
theorem isi_ss : dIsi (K := K) [.str x, .ty "str"] Q = Q (.v (.bl true)) := isiE rfl rfl
theorem isi_sl : dIsi (K := K) [.str x, .ty "list"] Q = Q (.v (.bl false)) := isiE rfl rfl
theorem isi_st : dIsi (K := K) [.str x, .ty "tuple"] Q = Q (.v (.bl false)) := isiE rfl rfl
theorem isi_ni : dIsi (K := K) [.non, .ty "int"] Q = Q (.v (.bl false)) := isiE rfl rfl
theorem isi_nb : dIsi (K := K) [.non, .ty "bool"] Q = Q (.v (.bl false)) := isiE rfl rfl
theorem isi_ns : dIsi (K := K) [.non, .ty "str"] Q = Q (.v (.bl false)) := isiE rfl rfl
theorem isi_nt : dIsi (K := K) [.non, .ty "tuple"] Q = Q (.v (.bl false)) := isiE rfl rfl
theorem isi_li : dIsi (K := K) [.lst xs, .ty "int"] Q = Q (.v (.bl false)) := isiE rfl rfl
theorem isi_lb : dIsi (K := K) [.lst xs, .ty "bool"] Q = Q (.v (.bl false)) := isiE rfl rfl
theorem isi_ls : dIsi (K := K) [.lst xs, .ty "str"] Q = Q (.v (.bl false)) := isiE rfl rfl
theorem isi_ll : dIsi (K := K) [.lst xs, .ty "list"] Q = Q (.v (.bl true)) := isiE rfl rfl
theorem isi_lt : dIsi (K := K) [.lst xs, .ty "tuple"] Q = Q (.v (.bl false)) := isiE rfl rfl
theorem isi_ti : dIsi (K := K) [.tup xs, .ty "int"] Q = Q (.v (.bl false)) := isiE rfl rfl
theorem isi_tb : dIsi (K := K) [.tup xs, .ty "bool"] Q = Q (.v (.bl false)) := isiE rfl rfl
theorem isi_ts : dIsi (K := K) [.tup xs, .ty "str"] Q = Q (.v (.bl false)) := isiE rfl rfl
theorem isi_tl : dIsi (K := K) [.tup xs, .ty "list"] Q = Q (.v (.bl false)) := isiE rfl rfl
theorem isi_tt : dIsi (K := K) [.tup xs, .ty "tuple"] Q = Q (.v (.bl true)) := isiE rfl rfl
theorem isi_di : dIsi (K := K) [.dct kds, .ty "int"] Q = Q (.v (.bl false)) := isiE rfl rfl
theorem isi_db : dIsi (K := K) [.dct kds, .ty "bool"] Q = Q (.v (.bl false)) := isiE rfl rfl
theorem isi_ds : dIsi (K := K) [.dct kds, .ty "str"] Q = Q (.v (.bl false)) := isiE rfl rfl
theorem isi_dt : dIsi (K := K) [.dct kds, .ty "tuple"] Q = Q (.v (.bl false)) := isiE rfl rfl
theorem isic_n {C : Addr} {n : String} : dIsiC K C [.non, .ty n] Q = dIsi (K := K) [.non, .ty n] Q := rfl
theorem isio_n {C : Addr} {R : Bool → Prop} : isiO C .non R = R false := propext ⟨fun h => h.2, fun h => ⟨rfl, h⟩⟩
theorem isic_b {C : Addr} {n : String} : dIsiC K C [.bl a, .ty n] Q = dIsi (K := K) [.bl a, .ty n] Q := rfl
theorem isio_b {C : Addr} {R : Bool → Prop} : isiO C (.bl a) R = R false := propext ⟨fun h => h.2, fun h => ⟨rfl, h⟩⟩
theorem isic_i {C : Addr} {n : String} : dIsiC K C [.int i, .ty n] Q = dIsi (K := K) [.int i, .ty n] Q := rfl
theorem isio_i {C : Addr} {R : Bool → Prop} : isiO C (.int i) R = R false := propext ⟨fun h => h.2, fun h => ⟨rfl, h⟩⟩
theorem isic_s {C : Addr} {n : String} : dIsiC K C [.str x, .ty n] Q = dIsi (K := K) [.str x, .ty n] Q := rfl
theorem isio_s {C : Addr} {R : Bool → Prop} : isiO C (.str x) R = R false := propext ⟨fun h => h.2, fun h => ⟨rfl, h⟩⟩
theorem isic_l {C : Addr} {n : String} : dIsiC K C [.lst xs, .ty n] Q = dIsi (K := K) [.lst xs, .ty n] Q := rfl
theorem isio_l {C : Addr} {R : Bool → Prop} : isiO C (.lst xs) R = R false := propext ⟨fun h => h.2, fun h => ⟨rfl, h⟩⟩
theorem isic_t {C : Addr} {n : String} : dIsiC K C [.tup xs, .ty n] Q = dIsi (K := K) [.tup xs, .ty n] Q := rfl
theorem isio_t {C : Addr} {R : Bool → Prop} : isiO C (.tup xs) R = R false := propext ⟨fun h => h.2, fun h => ⟨rfl, h⟩⟩
theorem isic_d {C : Addr} {n : String} : dIsiC K C [.dct kds, .ty n] Q = dIsi (K := K) [.dct kds, .ty n] Q := rfl
theorem isio_d {C : Addr} {R : Bool → Prop} : isiO C (.dct kds) R = R false := propext ⟨fun h => h.2, fun h => ⟨rfl, h⟩⟩
theorem isic_I {C : Addr} {fs : List (Str × D)} : dIsiC K C [.ins C fs, .ty "int"] Q = Q (.v (.bl false)) := propext ⟨fun h => h.2.2, fun h => ⟨rfl, by decide, h⟩⟩
theorem isic_S {C : Addr} {fs : List (Str × D)} : dIsiC K C [.ins C fs, .ty "str"] Q = Q (.v (.bl false)) := propext ⟨fun h => h.2.2, fun h => ⟨rfl, by decide, h⟩⟩
theorem isic_T {C : Addr} {fs : List (Str × D)} : dIsiC K C [.ins C fs, .ty "tuple"] Q = Q (.v (.bl false)) := propext ⟨fun h => h.2.2, fun h => ⟨rfl, by decide, h⟩⟩
theorem isic_L {C : Addr} {fs : List (Str × D)} : dIsiC K C [.ins C fs, .ty "list"] Q = Q (.v (.bl false)) := propext ⟨fun h => h.2.2, fun h => ⟨rfl, by decide, h⟩⟩
theorem isic_B {C : Addr} {fs : List (Str × D)} : dIsiC K C [.ins C fs, .ty "bool"] Q = Q (.v (.bl false)) := propext ⟨fun h => h.2.2, fun h => ⟨rfl, by decide, h⟩⟩
theorem isio_I {C : Addr} {fs : List (Str × D)} {R : Bool → Prop} : isiO C (.ins C fs) R = R true := propext ⟨fun h => h.2, fun h => ⟨rfl, h⟩⟩
theorem kit_ll {b : Bool} : (PySem.W.kitAny K (.type "list") [.type "list", .type "tuple"] = some b) = (true = b) := by
  rw [show PySem.W.kitAny K (.type "list") [.type "list", .type "tuple"] = some true from rfl]
  exact propext ⟨fun h => Option.some.inj h, fun h => by rw [h]⟩
theorem kit_lt {b : Bool} : (PySem.W.kitAny K (.type "tuple") [.type "list", .type "tuple"] = some b) = (true = b) := by
  rw [show PySem.W.kitAny K (.type "tuple") [.type "list", .type "tuple"] = some true from rfl]
  exact propext ⟨fun h => Option.some.inj h, fun h => by rw [h]⟩
theorem max2 : dMax2 [.int i, .int j] Q = Q (.v (.int (if j > i then j else i))) := propext ⟨fun ⟨a, b, e, q⟩ => by cases e; exact q, fun q => ⟨i, j, rfl, q⟩⟩
theorem min2 : dMin2 [.int i, .int j] Q = Q (.v (.int (if j < i then j else i))) := propext ⟨fun ⟨a, b, e, q⟩ => by cases e; exact q, fun q => ⟨i, j, rfl, q⟩⟩
end
section
variable {α : Type} {a b d : α} {l : List α}
theorem get1 : atI (a :: l) 0 = some a := by unfold atI ixN; simp
theorem get2b : atI [a, b] 1 = some b := rfl
theorem get3b : atI [a, b, d] 1 = some b := rfl
theorem get3c : atI [a, b, d] 2 = some d := rfl
end
theorem lenNil : ((0 : Nat) ≤ sizeLine) = True := by simp
theorem fz_v {d : D} : fz (.v d) = d := rfl
theorem fz_l {xs : List D} : fz (.ow (.lst xs)) = .lst xs := rfl
theorem fz_d {xs : List (Key × D)} : fz (.ow (.dct xs)) = .dct xs := rfl
theorem fz_i {C : Addr} {xs : List (Str × D)} : fz (.ow (.ins C xs)) = .ins C xs := rfl
theorem fz_m {p : Addr} {x : D} : fz (.ow (.me p x)) = x := rfl
theorem un_l {xs : List D} : unAt (.lst xs) = .lst xs := rfl
theorem un_d {xs : List (Key × D)} : unAt (.dct xs) = .dct xs := rfl
theorem un_i {C : Addr} {xs : List (Str × D)} : unAt (.ins C xs) = .ins C xs := rfl
theorem un_m {p : Addr} {x : D} : unAt (.me p x) = x := rfl
theorem sl_v {d : D} : toSl (.v d) = .d d := rfl
theorem sl_o {d : D} : toSl (.ow d) = .o d := rfl
theorem filter_tt {α : Type} {l : List α} : l.filter (fun _ => true) = l := List.filter_eq_self.mpr fun _ _ => rfl
theorem sizeL : sizeLine = 16777216 := rfl
theorem small {n m : Nat} (h : n ≤ m) (k : m ≤ 1000000 := by decide) : n ≤ sizeLine := by rw [sizeL]; omega
theorem small' {n m : Nat} (h : n ≤ m) (k : m ≤ 1000000 := by decide) : n < sizeLine := by rw [sizeL]; omega
theorem vd0 {Q : DQ} {x : D} {l : Rho} : dVar 0 (Sl.d x :: l) Q = Q (.v x) (Sl.d x :: l) := rfl
theorem vo0 {Q : DQ} {x : D} {l : Rho} : dVar 0 (Sl.o x :: l) Q = Q (.v (unAt x)) (Sl.d (unAt x) :: l) := rfl
theorem rd0 {E : DEnds} {x : D} {l : Rho} : dRetVar 0 E (Sl.d x :: l) = E.rt (.v x) := rfl
theorem ro0 {E : DEnds} {x : D} {l : Rho} : dRetVar 0 E (Sl.o x :: l) = E.rt (.ow x) := rfl
theorem vd1 {Q : DQ} {a0 : Sl} {x : D} {l : Rho} : dVar 1 (a0 :: Sl.d x :: l) Q = Q (.v x) (a0 :: Sl.d x :: l) := rfl
theorem vo1 {Q : DQ} {a0 : Sl} {x : D} {l : Rho} : dVar 1 (a0 :: Sl.o x :: l) Q = Q (.v (unAt x)) (a0 :: Sl.d (unAt x) :: l) := rfl
theorem rd1 {E : DEnds} {a0 : Sl} {x : D} {l : Rho} : dRetVar 1 E (a0 :: Sl.d x :: l) = E.rt (.v x) := rfl
theorem ro1 {E : DEnds} {a0 : Sl} {x : D} {l : Rho} : dRetVar 1 E (a0 :: Sl.o x :: l) = E.rt (.ow x) := rfl
theorem vd2 {Q : DQ} {a0 a1 : Sl} {x : D} {l : Rho} : dVar 2 (a0 :: a1 :: Sl.d x :: l) Q = Q (.v x) (a0 :: a1 :: Sl.d x :: l) := rfl
theorem vo2 {Q : DQ} {a0 a1 : Sl} {x : D} {l : Rho} : dVar 2 (a0 :: a1 :: Sl.o x :: l) Q = Q (.v (unAt x)) (a0 :: a1 :: Sl.d (unAt x) :: l) := rfl
theorem rd2 {E : DEnds} {a0 a1 : Sl} {x : D} {l : Rho} : dRetVar 2 E (a0 :: a1 :: Sl.d x :: l) = E.rt (.v x) := rfl
theorem ro2 {E : DEnds} {a0 a1 : Sl} {x : D} {l : Rho} : dRetVar 2 E (a0 :: a1 :: Sl.o x :: l) = E.rt (.ow x) := rfl
theorem vd3 {Q : DQ} {a0 a1 a2 : Sl} {x : D} {l : Rho} : dVar 3 (a0 :: a1 :: a2 :: Sl.d x :: l) Q = Q (.v x) (a0 :: a1 :: a2 :: Sl.d x :: l) := rfl
theorem vo3 {Q : DQ} {a0 a1 a2 : Sl} {x : D} {l : Rho} : dVar 3 (a0 :: a1 :: a2 :: Sl.o x :: l) Q = Q (.v (unAt x)) (a0 :: a1 :: a2 :: Sl.d (unAt x) :: l) := rfl
theorem rd3 {E : DEnds} {a0 a1 a2 : Sl} {x : D} {l : Rho} : dRetVar 3 E (a0 :: a1 :: a2 :: Sl.d x :: l) = E.rt (.v x) := rfl
theorem ro3 {E : DEnds} {a0 a1 a2 : Sl} {x : D} {l : Rho} : dRetVar 3 E (a0 :: a1 :: a2 :: Sl.o x :: l) = E.rt (.ow x) := rfl
theorem vd4 {Q : DQ} {a0 a1 a2 a3 : Sl} {x : D} {l : Rho} : dVar 4 (a0 :: a1 :: a2 :: a3 :: Sl.d x :: l) Q = Q (.v x) (a0 :: a1 :: a2 :: a3 :: Sl.d x :: l) := rfl
theorem vo4 {Q : DQ} {a0 a1 a2 a3 : Sl} {x : D} {l : Rho} : dVar 4 (a0 :: a1 :: a2 :: a3 :: Sl.o x :: l) Q = Q (.v (unAt x)) (a0 :: a1 :: a2 :: a3 :: Sl.d (unAt x) :: l) := rfl
theorem rd4 {E : DEnds} {a0 a1 a2 a3 : Sl} {x : D} {l : Rho} : dRetVar 4 E (a0 :: a1 :: a2 :: a3 :: Sl.d x :: l) = E.rt (.v x) := rfl
theorem ro4 {E : DEnds} {a0 a1 a2 a3 : Sl} {x : D} {l : Rho} : dRetVar 4 E (a0 :: a1 :: a2 :: a3 :: Sl.o x :: l) = E.rt (.ow x) := rfl
theorem vd5 {Q : DQ} {a0 a1 a2 a3 a4 : Sl} {x : D} {l : Rho} : dVar 5 (a0 :: a1 :: a2 :: a3 :: a4 :: Sl.d x :: l) Q = Q (.v x) (a0 :: a1 :: a2 :: a3 :: a4 :: Sl.d x :: l) := rfl
theorem vo5 {Q : DQ} {a0 a1 a2 a3 a4 : Sl} {x : D} {l : Rho} : dVar 5 (a0 :: a1 :: a2 :: a3 :: a4 :: Sl.o x :: l) Q = Q (.v (unAt x)) (a0 :: a1 :: a2 :: a3 :: a4 :: Sl.d (unAt x) :: l) := rfl
theorem rd5 {E : DEnds} {a0 a1 a2 a3 a4 : Sl} {x : D} {l : Rho} : dRetVar 5 E (a0 :: a1 :: a2 :: a3 :: a4 :: Sl.d x :: l) = E.rt (.v x) := rfl
theorem ro5 {E : DEnds} {a0 a1 a2 a3 a4 : Sl} {x : D} {l : Rho} : dRetVar 5 E (a0 :: a1 :: a2 :: a3 :: a4 :: Sl.o x :: l) = E.rt (.ow x) := rfl
theorem vd6 {Q : DQ} {a0 a1 a2 a3 a4 a5 : Sl} {x : D} {l : Rho} : dVar 6 (a0 :: a1 :: a2 :: a3 :: a4 :: a5 :: Sl.d x :: l) Q = Q (.v x) (a0 :: a1 :: a2 :: a3 :: a4 :: a5 :: Sl.d x :: l) := rfl
theorem vo6 {Q : DQ} {a0 a1 a2 a3 a4 a5 : Sl} {x : D} {l : Rho} : dVar 6 (a0 :: a1 :: a2 :: a3 :: a4 :: a5 :: Sl.o x :: l) Q = Q (.v (unAt x)) (a0 :: a1 :: a2 :: a3 :: a4 :: a5 :: Sl.d (unAt x) :: l) := rfl
theorem rd6 {E : DEnds} {a0 a1 a2 a3 a4 a5 : Sl} {x : D} {l : Rho} : dRetVar 6 E (a0 :: a1 :: a2 :: a3 :: a4 :: a5 :: Sl.d x :: l) = E.rt (.v x) := rfl
theorem ro6 {E : DEnds} {a0 a1 a2 a3 a4 a5 : Sl} {x : D} {l : Rho} : dRetVar 6 E (a0 :: a1 :: a2 :: a3 :: a4 :: a5 :: Sl.o x :: l) = E.rt (.ow x) := rfl
theorem vd7 {Q : DQ} {a0 a1 a2 a3 a4 a5 a6 : Sl} {x : D} {l : Rho} : dVar 7 (a0 :: a1 :: a2 :: a3 :: a4 :: a5 :: a6 :: Sl.d x :: l) Q = Q (.v x) (a0 :: a1 :: a2 :: a3 :: a4 :: a5 :: a6 :: Sl.d x :: l) := rfl
theorem vo7 {Q : DQ} {a0 a1 a2 a3 a4 a5 a6 : Sl} {x : D} {l : Rho} : dVar 7 (a0 :: a1 :: a2 :: a3 :: a4 :: a5 :: a6 :: Sl.o x :: l) Q = Q (.v (unAt x)) (a0 :: a1 :: a2 :: a3 :: a4 :: a5 :: a6 :: Sl.d (unAt x) :: l) := rfl
theorem rd7 {E : DEnds} {a0 a1 a2 a3 a4 a5 a6 : Sl} {x : D} {l : Rho} : dRetVar 7 E (a0 :: a1 :: a2 :: a3 :: a4 :: a5 :: a6 :: Sl.d x :: l) = E.rt (.v x) := rfl
theorem ro7 {E : DEnds} {a0 a1 a2 a3 a4 a5 a6 : Sl} {x : D} {l : Rho} : dRetVar 7 E (a0 :: a1 :: a2 :: a3 :: a4 :: a5 :: a6 :: Sl.o x :: l) = E.rt (.ow x) := rfl
theorem vd8 {Q : DQ} {a0 a1 a2 a3 a4 a5 a6 a7 : Sl} {x : D} {l : Rho} : dVar 8 (a0 :: a1 :: a2 :: a3 :: a4 :: a5 :: a6 :: a7 :: Sl.d x :: l) Q = Q (.v x) (a0 :: a1 :: a2 :: a3 :: a4 :: a5 :: a6 :: a7 :: Sl.d x :: l) := rfl
theorem vo8 {Q : DQ} {a0 a1 a2 a3 a4 a5 a6 a7 : Sl} {x : D} {l : Rho} : dVar 8 (a0 :: a1 :: a2 :: a3 :: a4 :: a5 :: a6 :: a7 :: Sl.o x :: l) Q = Q (.v (unAt x)) (a0 :: a1 :: a2 :: a3 :: a4 :: a5 :: a6 :: a7 :: Sl.d (unAt x) :: l) := rfl
theorem rd8 {E : DEnds} {a0 a1 a2 a3 a4 a5 a6 a7 : Sl} {x : D} {l : Rho} : dRetVar 8 E (a0 :: a1 :: a2 :: a3 :: a4 :: a5 :: a6 :: a7 :: Sl.d x :: l) = E.rt (.v x) := rfl
theorem ro8 {E : DEnds} {a0 a1 a2 a3 a4 a5 a6 a7 : Sl} {x : D} {l : Rho} : dRetVar 8 E (a0 :: a1 :: a2 :: a3 :: a4 :: a5 :: a6 :: a7 :: Sl.o x :: l) = E.rt (.ow x) := rfl
theorem vd9 {Q : DQ} {a0 a1 a2 a3 a4 a5 a6 a7 a8 : Sl} {x : D} {l : Rho} : dVar 9 (a0 :: a1 :: a2 :: a3 :: a4 :: a5 :: a6 :: a7 :: a8 :: Sl.d x :: l) Q = Q (.v x) (a0 :: a1 :: a2 :: a3 :: a4 :: a5 :: a6 :: a7 :: a8 :: Sl.d x :: l) := rfl
theorem vo9 {Q : DQ} {a0 a1 a2 a3 a4 a5 a6 a7 a8 : Sl} {x : D} {l : Rho} : dVar 9 (a0 :: a1 :: a2 :: a3 :: a4 :: a5 :: a6 :: a7 :: a8 :: Sl.o x :: l) Q = Q (.v (unAt x)) (a0 :: a1 :: a2 :: a3 :: a4 :: a5 :: a6 :: a7 :: a8 :: Sl.d (unAt x) :: l) := rfl
theorem rd9 {E : DEnds} {a0 a1 a2 a3 a4 a5 a6 a7 a8 : Sl} {x : D} {l : Rho} : dRetVar 9 E (a0 :: a1 :: a2 :: a3 :: a4 :: a5 :: a6 :: a7 :: a8 :: Sl.d x :: l) = E.rt (.v x) := rfl
theorem ro9 {E : DEnds} {a0 a1 a2 a3 a4 a5 a6 a7 a8 : Sl} {x : D} {l : Rho} : dRetVar 9 E (a0 :: a1 :: a2 :: a3 :: a4 :: a5 :: a6 :: a7 :: a8 :: Sl.o x :: l) = E.rt (.ow x) := rfl
theorem vd10 {Q : DQ} {a0 a1 a2 a3 a4 a5 a6 a7 a8 a9 : Sl} {x : D} {l : Rho} : dVar 10 (a0 :: a1 :: a2 :: a3 :: a4 :: a5 :: a6 :: a7 :: a8 :: a9 :: Sl.d x :: l) Q = Q (.v x) (a0 :: a1 :: a2 :: a3 :: a4 :: a5 :: a6 :: a7 :: a8 :: a9 :: Sl.d x :: l) := rfl
theorem vo10 {Q : DQ} {a0 a1 a2 a3 a4 a5 a6 a7 a8 a9 : Sl} {x : D} {l : Rho} : dVar 10 (a0 :: a1 :: a2 :: a3 :: a4 :: a5 :: a6 :: a7 :: a8 :: a9 :: Sl.o x :: l) Q = Q (.v (unAt x)) (a0 :: a1 :: a2 :: a3 :: a4 :: a5 :: a6 :: a7 :: a8 :: a9 :: Sl.d (unAt x) :: l) := rfl
theorem rd10 {E : DEnds} {a0 a1 a2 a3 a4 a5 a6 a7 a8 a9 : Sl} {x : D} {l : Rho} : dRetVar 10 E (a0 :: a1 :: a2 :: a3 :: a4 :: a5 :: a6 :: a7 :: a8 :: a9 :: Sl.d x :: l) = E.rt (.v x) := rfl
theorem ro10 {E : DEnds} {a0 a1 a2 a3 a4 a5 a6 a7 a8 a9 : Sl} {x : D} {l : Rho} : dRetVar 10 E (a0 :: a1 :: a2 :: a3 :: a4 :: a5 :: a6 :: a7 :: a8 :: a9 :: Sl.o x :: l) = E.rt (.ow x) := rfl
theorem vd11 {Q : DQ} {a0 a1 a2 a3 a4 a5 a6 a7 a8 a9 a10 : Sl} {x : D} {l : Rho} : dVar 11 (a0 :: a1 :: a2 :: a3 :: a4 :: a5 :: a6 :: a7 :: a8 :: a9 :: a10 :: Sl.d x :: l) Q = Q (.v x) (a0 :: a1 :: a2 :: a3 :: a4 :: a5 :: a6 :: a7 :: a8 :: a9 :: a10 :: Sl.d x :: l) := rfl
theorem vo11 {Q : DQ} {a0 a1 a2 a3 a4 a5 a6 a7 a8 a9 a10 : Sl} {x : D} {l : Rho} : dVar 11 (a0 :: a1 :: a2 :: a3 :: a4 :: a5 :: a6 :: a7 :: a8 :: a9 :: a10 :: Sl.o x :: l) Q = Q (.v (unAt x)) (a0 :: a1 :: a2 :: a3 :: a4 :: a5 :: a6 :: a7 :: a8 :: a9 :: a10 :: Sl.d (unAt x) :: l) := rfl
theorem rd11 {E : DEnds} {a0 a1 a2 a3 a4 a5 a6 a7 a8 a9 a10 : Sl} {x : D} {l : Rho} : dRetVar 11 E (a0 :: a1 :: a2 :: a3 :: a4 :: a5 :: a6 :: a7 :: a8 :: a9 :: a10 :: Sl.d x :: l) = E.rt (.v x) := rfl
theorem ro11 {E : DEnds} {a0 a1 a2 a3 a4 a5 a6 a7 a8 a9 a10 : Sl} {x : D} {l : Rho} : dRetVar 11 E (a0 :: a1 :: a2 :: a3 :: a4 :: a5 :: a6 :: a7 :: a8 :: a9 :: a10 :: Sl.o x :: l) = E.rt (.ow x) := rfl
theorem vd12 {Q : DQ} {a0 a1 a2 a3 a4 a5 a6 a7 a8 a9 a10 a11 : Sl} {x : D} {l : Rho} : dVar 12 (a0 :: a1 :: a2 :: a3 :: a4 :: a5 :: a6 :: a7 :: a8 :: a9 :: a10 :: a11 :: Sl.d x :: l) Q = Q (.v x) (a0 :: a1 :: a2 :: a3 :: a4 :: a5 :: a6 :: a7 :: a8 :: a9 :: a10 :: a11 :: Sl.d x :: l) := rfl
theorem vo12 {Q : DQ} {a0 a1 a2 a3 a4 a5 a6 a7 a8 a9 a10 a11 : Sl} {x : D} {l : Rho} : dVar 12 (a0 :: a1 :: a2 :: a3 :: a4 :: a5 :: a6 :: a7 :: a8 :: a9 :: a10 :: a11 :: Sl.o x :: l) Q = Q (.v (unAt x)) (a0 :: a1 :: a2 :: a3 :: a4 :: a5 :: a6 :: a7 :: a8 :: a9 :: a10 :: a11 :: Sl.d (unAt x) :: l) := rfl
theorem rd12 {E : DEnds} {a0 a1 a2 a3 a4 a5 a6 a7 a8 a9 a10 a11 : Sl} {x : D} {l : Rho} : dRetVar 12 E (a0 :: a1 :: a2 :: a3 :: a4 :: a5 :: a6 :: a7 :: a8 :: a9 :: a10 :: a11 :: Sl.d x :: l) = E.rt (.v x) := rfl
theorem ro12 {E : DEnds} {a0 a1 a2 a3 a4 a5 a6 a7 a8 a9 a10 a11 : Sl} {x : D} {l : Rho} : dRetVar 12 E (a0 :: a1 :: a2 :: a3 :: a4 :: a5 :: a6 :: a7 :: a8 :: a9 :: a10 :: a11 :: Sl.o x :: l) = E.rt (.ow x) := rfl
theorem vd13 {Q : DQ} {a0 a1 a2 a3 a4 a5 a6 a7 a8 a9 a10 a11 a12 : Sl} {x : D} {l : Rho} : dVar 13 (a0 :: a1 :: a2 :: a3 :: a4 :: a5 :: a6 :: a7 :: a8 :: a9 :: a10 :: a11 :: a12 :: Sl.d x :: l) Q = Q (.v x) (a0 :: a1 :: a2 :: a3 :: a4 :: a5 :: a6 :: a7 :: a8 :: a9 :: a10 :: a11 :: a12 :: Sl.d x :: l) := rfl
theorem vo13 {Q : DQ} {a0 a1 a2 a3 a4 a5 a6 a7 a8 a9 a10 a11 a12 : Sl} {x : D} {l : Rho} : dVar 13 (a0 :: a1 :: a2 :: a3 :: a4 :: a5 :: a6 :: a7 :: a8 :: a9 :: a10 :: a11 :: a12 :: Sl.o x :: l) Q = Q (.v (unAt x)) (a0 :: a1 :: a2 :: a3 :: a4 :: a5 :: a6 :: a7 :: a8 :: a9 :: a10 :: a11 :: a12 :: Sl.d (unAt x) :: l) := rfl
theorem rd13 {E : DEnds} {a0 a1 a2 a3 a4 a5 a6 a7 a8 a9 a10 a11 a12 : Sl} {x : D} {l : Rho} : dRetVar 13 E (a0 :: a1 :: a2 :: a3 :: a4 :: a5 :: a6 :: a7 :: a8 :: a9 :: a10 :: a11 :: a12 :: Sl.d x :: l) = E.rt (.v x) := rfl
theorem ro13 {E : DEnds} {a0 a1 a2 a3 a4 a5 a6 a7 a8 a9 a10 a11 a12 : Sl} {x : D} {l : Rho} : dRetVar 13 E (a0 :: a1 :: a2 :: a3 :: a4 :: a5 :: a6 :: a7 :: a8 :: a9 :: a10 :: a11 :: a12 :: Sl.o x :: l) = E.rt (.ow x) := rfl
theorem vd14 {Q : DQ} {a0 a1 a2 a3 a4 a5 a6 a7 a8 a9 a10 a11 a12 a13 : Sl} {x : D} {l : Rho} : dVar 14 (a0 :: a1 :: a2 :: a3 :: a4 :: a5 :: a6 :: a7 :: a8 :: a9 :: a10 :: a11 :: a12 :: a13 :: Sl.d x :: l) Q = Q (.v x) (a0 :: a1 :: a2 :: a3 :: a4 :: a5 :: a6 :: a7 :: a8 :: a9 :: a10 :: a11 :: a12 :: a13 :: Sl.d x :: l) := rfl
theorem vo14 {Q : DQ} {a0 a1 a2 a3 a4 a5 a6 a7 a8 a9 a10 a11 a12 a13 : Sl} {x : D} {l : Rho} : dVar 14 (a0 :: a1 :: a2 :: a3 :: a4 :: a5 :: a6 :: a7 :: a8 :: a9 :: a10 :: a11 :: a12 :: a13 :: Sl.o x :: l) Q = Q (.v (unAt x)) (a0 :: a1 :: a2 :: a3 :: a4 :: a5 :: a6 :: a7 :: a8 :: a9 :: a10 :: a11 :: a12 :: a13 :: Sl.d (unAt x) :: l) := rfl
theorem rd14 {E : DEnds} {a0 a1 a2 a3 a4 a5 a6 a7 a8 a9 a10 a11 a12 a13 : Sl} {x : D} {l : Rho} : dRetVar 14 E (a0 :: a1 :: a2 :: a3 :: a4 :: a5 :: a6 :: a7 :: a8 :: a9 :: a10 :: a11 :: a12 :: a13 :: Sl.d x :: l) = E.rt (.v x) := rfl
theorem ro14 {E : DEnds} {a0 a1 a2 a3 a4 a5 a6 a7 a8 a9 a10 a11 a12 a13 : Sl} {x : D} {l : Rho} : dRetVar 14 E (a0 :: a1 :: a2 :: a3 :: a4 :: a5 :: a6 :: a7 :: a8 :: a9 :: a10 :: a11 :: a12 :: a13 :: Sl.o x :: l) = E.rt (.ow x) := rfl
theorem vd15 {Q : DQ} {a0 a1 a2 a3 a4 a5 a6 a7 a8 a9 a10 a11 a12 a13 a14 : Sl} {x : D} {l : Rho} : dVar 15 (a0 :: a1 :: a2 :: a3 :: a4 :: a5 :: a6 :: a7 :: a8 :: a9 :: a10 :: a11 :: a12 :: a13 :: a14 :: Sl.d x :: l) Q = Q (.v x) (a0 :: a1 :: a2 :: a3 :: a4 :: a5 :: a6 :: a7 :: a8 :: a9 :: a10 :: a11 :: a12 :: a13 :: a14 :: Sl.d x :: l) := rfl
theorem vo15 {Q : DQ} {a0 a1 a2 a3 a4 a5 a6 a7 a8 a9 a10 a11 a12 a13 a14 : Sl} {x : D} {l : Rho} : dVar 15 (a0 :: a1 :: a2 :: a3 :: a4 :: a5 :: a6 :: a7 :: a8 :: a9 :: a10 :: a11 :: a12 :: a13 :: a14 :: Sl.o x :: l) Q = Q (.v (unAt x)) (a0 :: a1 :: a2 :: a3 :: a4 :: a5 :: a6 :: a7 :: a8 :: a9 :: a10 :: a11 :: a12 :: a13 :: a14 :: Sl.d (unAt x) :: l) := rfl
theorem rd15 {E : DEnds} {a0 a1 a2 a3 a4 a5 a6 a7 a8 a9 a10 a11 a12 a13 a14 : Sl} {x : D} {l : Rho} : dRetVar 15 E (a0 :: a1 :: a2 :: a3 :: a4 :: a5 :: a6 :: a7 :: a8 :: a9 :: a10 :: a11 :: a12 :: a13 :: a14 :: Sl.d x :: l) = E.rt (.v x) := rfl
theorem ro15 {E : DEnds} {a0 a1 a2 a3 a4 a5 a6 a7 a8 a9 a10 a11 a12 a13 a14 : Sl} {x : D} {l : Rho} : dRetVar 15 E (a0 :: a1 :: a2 :: a3 :: a4 :: a5 :: a6 :: a7 :: a8 :: a9 :: a10 :: a11 :: a12 :: a13 :: a14 :: Sl.o x :: l) = E.rt (.ow x) := rfl
theorem vd16 {Q : DQ} {a0 a1 a2 a3 a4 a5 a6 a7 a8 a9 a10 a11 a12 a13 a14 a15 : Sl} {x : D} {l : Rho} : dVar 16 (a0 :: a1 :: a2 :: a3 :: a4 :: a5 :: a6 :: a7 :: a8 :: a9 :: a10 :: a11 :: a12 :: a13 :: a14 :: a15 :: Sl.d x :: l) Q = Q (.v x) (a0 :: a1 :: a2 :: a3 :: a4 :: a5 :: a6 :: a7 :: a8 :: a9 :: a10 :: a11 :: a12 :: a13 :: a14 :: a15 :: Sl.d x :: l) := rfl
theorem vo16 {Q : DQ} {a0 a1 a2 a3 a4 a5 a6 a7 a8 a9 a10 a11 a12 a13 a14 a15 : Sl} {x : D} {l : Rho} : dVar 16 (a0 :: a1 :: a2 :: a3 :: a4 :: a5 :: a6 :: a7 :: a8 :: a9 :: a10 :: a11 :: a12 :: a13 :: a14 :: a15 :: Sl.o x :: l) Q = Q (.v (unAt x)) (a0 :: a1 :: a2 :: a3 :: a4 :: a5 :: a6 :: a7 :: a8 :: a9 :: a10 :: a11 :: a12 :: a13 :: a14 :: a15 :: Sl.d (unAt x) :: l) := rfl
theorem rd16 {E : DEnds} {a0 a1 a2 a3 a4 a5 a6 a7 a8 a9 a10 a11 a12 a13 a14 a15 : Sl} {x : D} {l : Rho} : dRetVar 16 E (a0 :: a1 :: a2 :: a3 :: a4 :: a5 :: a6 :: a7 :: a8 :: a9 :: a10 :: a11 :: a12 :: a13 :: a14 :: a15 :: Sl.d x :: l) = E.rt (.v x) := rfl
theorem ro16 {E : DEnds} {a0 a1 a2 a3 a4 a5 a6 a7 a8 a9 a10 a11 a12 a13 a14 a15 : Sl} {x : D} {l : Rho} : dRetVar 16 E (a0 :: a1 :: a2 :: a3 :: a4 :: a5 :: a6 :: a7 :: a8 :: a9 :: a10 :: a11 :: a12 :: a13 :: a14 :: a15 :: Sl.o x :: l) = E.rt (.ow x) := rfl
theorem vd17 {Q : DQ} {a0 a1 a2 a3 a4 a5 a6 a7 a8 a9 a10 a11 a12 a13 a14 a15 a16 : Sl} {x : D} {l : Rho} : dVar 17 (a0 :: a1 :: a2 :: a3 :: a4 :: a5 :: a6 :: a7 :: a8 :: a9 :: a10 :: a11 :: a12 :: a13 :: a14 :: a15 :: a16 :: Sl.d x :: l) Q = Q (.v x) (a0 :: a1 :: a2 :: a3 :: a4 :: a5 :: a6 :: a7 :: a8 :: a9 :: a10 :: a11 :: a12 :: a13 :: a14 :: a15 :: a16 :: Sl.d x :: l) := rfl
theorem vo17 {Q : DQ} {a0 a1 a2 a3 a4 a5 a6 a7 a8 a9 a10 a11 a12 a13 a14 a15 a16 : Sl} {x : D} {l : Rho} : dVar 17 (a0 :: a1 :: a2 :: a3 :: a4 :: a5 :: a6 :: a7 :: a8 :: a9 :: a10 :: a11 :: a12 :: a13 :: a14 :: a15 :: a16 :: Sl.o x :: l) Q = Q (.v (unAt x)) (a0 :: a1 :: a2 :: a3 :: a4 :: a5 :: a6 :: a7 :: a8 :: a9 :: a10 :: a11 :: a12 :: a13 :: a14 :: a15 :: a16 :: Sl.d (unAt x) :: l) := rfl
theorem rd17 {E : DEnds} {a0 a1 a2 a3 a4 a5 a6 a7 a8 a9 a10 a11 a12 a13 a14 a15 a16 : Sl} {x : D} {l : Rho} : dRetVar 17 E (a0 :: a1 :: a2 :: a3 :: a4 :: a5 :: a6 :: a7 :: a8 :: a9 :: a10 :: a11 :: a12 :: a13 :: a14 :: a15 :: a16 :: Sl.d x :: l) = E.rt (.v x) := rfl
theorem ro17 {E : DEnds} {a0 a1 a2 a3 a4 a5 a6 a7 a8 a9 a10 a11 a12 a13 a14 a15 a16 : Sl} {x : D} {l : Rho} : dRetVar 17 E (a0 :: a1 :: a2 :: a3 :: a4 :: a5 :: a6 :: a7 :: a8 :: a9 :: a10 :: a11 :: a12 :: a13 :: a14 :: a15 :: a16 :: Sl.o x :: l) = E.rt (.ow x) := rfl
theorem vd18 {Q : DQ} {a0 a1 a2 a3 a4 a5 a6 a7 a8 a9 a10 a11 a12 a13 a14 a15 a16 a17 : Sl} {x : D} {l : Rho} : dVar 18 (a0 :: a1 :: a2 :: a3 :: a4 :: a5 :: a6 :: a7 :: a8 :: a9 :: a10 :: a11 :: a12 :: a13 :: a14 :: a15 :: a16 :: a17 :: Sl.d x :: l) Q = Q (.v x) (a0 :: a1 :: a2 :: a3 :: a4 :: a5 :: a6 :: a7 :: a8 :: a9 :: a10 :: a11 :: a12 :: a13 :: a14 :: a15 :: a16 :: a17 :: Sl.d x :: l) := rfl
theorem vo18 {Q : DQ} {a0 a1 a2 a3 a4 a5 a6 a7 a8 a9 a10 a11 a12 a13 a14 a15 a16 a17 : Sl} {x : D} {l : Rho} : dVar 18 (a0 :: a1 :: a2 :: a3 :: a4 :: a5 :: a6 :: a7 :: a8 :: a9 :: a10 :: a11 :: a12 :: a13 :: a14 :: a15 :: a16 :: a17 :: Sl.o x :: l) Q = Q (.v (unAt x)) (a0 :: a1 :: a2 :: a3 :: a4 :: a5 :: a6 :: a7 :: a8 :: a9 :: a10 :: a11 :: a12 :: a13 :: a14 :: a15 :: a16 :: a17 :: Sl.d (unAt x) :: l) := rfl
theorem rd18 {E : DEnds} {a0 a1 a2 a3 a4 a5 a6 a7 a8 a9 a10 a11 a12 a13 a14 a15 a16 a17 : Sl} {x : D} {l : Rho} : dRetVar 18 E (a0 :: a1 :: a2 :: a3 :: a4 :: a5 :: a6 :: a7 :: a8 :: a9 :: a10 :: a11 :: a12 :: a13 :: a14 :: a15 :: a16 :: a17 :: Sl.d x :: l) = E.rt (.v x) := rfl
theorem ro18 {E : DEnds} {a0 a1 a2 a3 a4 a5 a6 a7 a8 a9 a10 a11 a12 a13 a14 a15 a16 a17 : Sl} {x : D} {l : Rho} : dRetVar 18 E (a0 :: a1 :: a2 :: a3 :: a4 :: a5 :: a6 :: a7 :: a8 :: a9 :: a10 :: a11 :: a12 :: a13 :: a14 :: a15 :: a16 :: a17 :: Sl.o x :: l) = E.rt (.ow x) := rfl
theorem vd19 {Q : DQ} {a0 a1 a2 a3 a4 a5 a6 a7 a8 a9 a10 a11 a12 a13 a14 a15 a16 a17 a18 : Sl} {x : D} {l : Rho} : dVar 19 (a0 :: a1 :: a2 :: a3 :: a4 :: a5 :: a6 :: a7 :: a8 :: a9 :: a10 :: a11 :: a12 :: a13 :: a14 :: a15 :: a16 :: a17 :: a18 :: Sl.d x :: l) Q = Q (.v x) (a0 :: a1 :: a2 :: a3 :: a4 :: a5 :: a6 :: a7 :: a8 :: a9 :: a10 :: a11 :: a12 :: a13 :: a14 :: a15 :: a16 :: a17 :: a18 :: Sl.d x :: l) := rfl
theorem vo19 {Q : DQ} {a0 a1 a2 a3 a4 a5 a6 a7 a8 a9 a10 a11 a12 a13 a14 a15 a16 a17 a18 : Sl} {x : D} {l : Rho} : dVar 19 (a0 :: a1 :: a2 :: a3 :: a4 :: a5 :: a6 :: a7 :: a8 :: a9 :: a10 :: a11 :: a12 :: a13 :: a14 :: a15 :: a16 :: a17 :: a18 :: Sl.o x :: l) Q = Q (.v (unAt x)) (a0 :: a1 :: a2 :: a3 :: a4 :: a5 :: a6 :: a7 :: a8 :: a9 :: a10 :: a11 :: a12 :: a13 :: a14 :: a15 :: a16 :: a17 :: a18 :: Sl.d (unAt x) :: l) := rfl
theorem rd19 {E : DEnds} {a0 a1 a2 a3 a4 a5 a6 a7 a8 a9 a10 a11 a12 a13 a14 a15 a16 a17 a18 : Sl} {x : D} {l : Rho} : dRetVar 19 E (a0 :: a1 :: a2 :: a3 :: a4 :: a5 :: a6 :: a7 :: a8 :: a9 :: a10 :: a11 :: a12 :: a13 :: a14 :: a15 :: a16 :: a17 :: a18 :: Sl.d x :: l) = E.rt (.v x) := rfl
theorem ro19 {E : DEnds} {a0 a1 a2 a3 a4 a5 a6 a7 a8 a9 a10 a11 a12 a13 a14 a15 a16 a17 a18 : Sl} {x : D} {l : Rho} : dRetVar 19 E (a0 :: a1 :: a2 :: a3 :: a4 :: a5 :: a6 :: a7 :: a8 :: a9 :: a10 :: a11 :: a12 :: a13 :: a14 :: a15 :: a16 :: a17 :: a18 :: Sl.o x :: l) = E.rt (.ow x) := rfl
theorem vd20 {Q : DQ} {a0 a1 a2 a3 a4 a5 a6 a7 a8 a9 a10 a11 a12 a13 a14 a15 a16 a17 a18 a19 : Sl} {x : D} {l : Rho} : dVar 20 (a0 :: a1 :: a2 :: a3 :: a4 :: a5 :: a6 :: a7 :: a8 :: a9 :: a10 :: a11 :: a12 :: a13 :: a14 :: a15 :: a16 :: a17 :: a18 :: a19 :: Sl.d x :: l) Q = Q (.v x) (a0 :: a1 :: a2 :: a3 :: a4 :: a5 :: a6 :: a7 :: a8 :: a9 :: a10 :: a11 :: a12 :: a13 :: a14 :: a15 :: a16 :: a17 :: a18 :: a19 :: Sl.d x :: l) := rfl
theorem vo20 {Q : DQ} {a0 a1 a2 a3 a4 a5 a6 a7 a8 a9 a10 a11 a12 a13 a14 a15 a16 a17 a18 a19 : Sl} {x : D} {l : Rho} : dVar 20 (a0 :: a1 :: a2 :: a3 :: a4 :: a5 :: a6 :: a7 :: a8 :: a9 :: a10 :: a11 :: a12 :: a13 :: a14 :: a15 :: a16 :: a17 :: a18 :: a19 :: Sl.o x :: l) Q = Q (.v (unAt x)) (a0 :: a1 :: a2 :: a3 :: a4 :: a5 :: a6 :: a7 :: a8 :: a9 :: a10 :: a11 :: a12 :: a13 :: a14 :: a15 :: a16 :: a17 :: a18 :: a19 :: Sl.d (unAt x) :: l) := rfl
theorem rd20 {E : DEnds} {a0 a1 a2 a3 a4 a5 a6 a7 a8 a9 a10 a11 a12 a13 a14 a15 a16 a17 a18 a19 : Sl} {x : D} {l : Rho} : dRetVar 20 E (a0 :: a1 :: a2 :: a3 :: a4 :: a5 :: a6 :: a7 :: a8 :: a9 :: a10 :: a11 :: a12 :: a13 :: a14 :: a15 :: a16 :: a17 :: a18 :: a19 :: Sl.d x :: l) = E.rt (.v x) := rfl
theorem ro20 {E : DEnds} {a0 a1 a2 a3 a4 a5 a6 a7 a8 a9 a10 a11 a12 a13 a14 a15 a16 a17 a18 a19 : Sl} {x : D} {l : Rho} : dRetVar 20 E (a0 :: a1 :: a2 :: a3 :: a4 :: a5 :: a6 :: a7 :: a8 :: a9 :: a10 :: a11 :: a12 :: a13 :: a14 :: a15 :: a16 :: a17 :: a18 :: a19 :: Sl.o x :: l) = E.rt (.ow x) := rfl
theorem vd21 {Q : DQ} {a0 a1 a2 a3 a4 a5 a6 a7 a8 a9 a10 a11 a12 a13 a14 a15 a16 a17 a18 a19 a20 : Sl} {x : D} {l : Rho} : dVar 21 (a0 :: a1 :: a2 :: a3 :: a4 :: a5 :: a6 :: a7 :: a8 :: a9 :: a10 :: a11 :: a12 :: a13 :: a14 :: a15 :: a16 :: a17 :: a18 :: a19 :: a20 :: Sl.d x :: l) Q = Q (.v x) (a0 :: a1 :: a2 :: a3 :: a4 :: a5 :: a6 :: a7 :: a8 :: a9 :: a10 :: a11 :: a12 :: a13 :: a14 :: a15 :: a16 :: a17 :: a18 :: a19 :: a20 :: Sl.d x :: l) := rfl
theorem vo21 {Q : DQ} {a0 a1 a2 a3 a4 a5 a6 a7 a8 a9 a10 a11 a12 a13 a14 a15 a16 a17 a18 a19 a20 : Sl} {x : D} {l : Rho} : dVar 21 (a0 :: a1 :: a2 :: a3 :: a4 :: a5 :: a6 :: a7 :: a8 :: a9 :: a10 :: a11 :: a12 :: a13 :: a14 :: a15 :: a16 :: a17 :: a18 :: a19 :: a20 :: Sl.o x :: l) Q = Q (.v (unAt x)) (a0 :: a1 :: a2 :: a3 :: a4 :: a5 :: a6 :: a7 :: a8 :: a9 :: a10 :: a11 :: a12 :: a13 :: a14 :: a15 :: a16 :: a17 :: a18 :: a19 :: a20 :: Sl.d (unAt x) :: l) := rfl
theorem rd21 {E : DEnds} {a0 a1 a2 a3 a4 a5 a6 a7 a8 a9 a10 a11 a12 a13 a14 a15 a16 a17 a18 a19 a20 : Sl} {x : D} {l : Rho} : dRetVar 21 E (a0 :: a1 :: a2 :: a3 :: a4 :: a5 :: a6 :: a7 :: a8 :: a9 :: a10 :: a11 :: a12 :: a13 :: a14 :: a15 :: a16 :: a17 :: a18 :: a19 :: a20 :: Sl.d x :: l) = E.rt (.v x) := rfl
theorem ro21 {E : DEnds} {a0 a1 a2 a3 a4 a5 a6 a7 a8 a9 a10 a11 a12 a13 a14 a15 a16 a17 a18 a19 a20 : Sl} {x : D} {l : Rho} : dRetVar 21 E (a0 :: a1 :: a2 :: a3 :: a4 :: a5 :: a6 :: a7 :: a8 :: a9 :: a10 :: a11 :: a12 :: a13 :: a14 :: a15 :: a16 :: a17 :: a18 :: a19 :: a20 :: Sl.o x :: l) = E.rt (.ow x) := rfl
theorem vd22 {Q : DQ} {a0 a1 a2 a3 a4 a5 a6 a7 a8 a9 a10 a11 a12 a13 a14 a15 a16 a17 a18 a19 a20 a21 : Sl} {x : D} {l : Rho} : dVar 22 (a0 :: a1 :: a2 :: a3 :: a4 :: a5 :: a6 :: a7 :: a8 :: a9 :: a10 :: a11 :: a12 :: a13 :: a14 :: a15 :: a16 :: a17 :: a18 :: a19 :: a20 :: a21 :: Sl.d x :: l) Q = Q (.v x) (a0 :: a1 :: a2 :: a3 :: a4 :: a5 :: a6 :: a7 :: a8 :: a9 :: a10 :: a11 :: a12 :: a13 :: a14 :: a15 :: a16 :: a17 :: a18 :: a19 :: a20 :: a21 :: Sl.d x :: l) := rfl
theorem vo22 {Q : DQ} {a0 a1 a2 a3 a4 a5 a6 a7 a8 a9 a10 a11 a12 a13 a14 a15 a16 a17 a18 a19 a20 a21 : Sl} {x : D} {l : Rho} : dVar 22 (a0 :: a1 :: a2 :: a3 :: a4 :: a5 :: a6 :: a7 :: a8 :: a9 :: a10 :: a11 :: a12 :: a13 :: a14 :: a15 :: a16 :: a17 :: a18 :: a19 :: a20 :: a21 :: Sl.o x :: l) Q = Q (.v (unAt x)) (a0 :: a1 :: a2 :: a3 :: a4 :: a5 :: a6 :: a7 :: a8 :: a9 :: a10 :: a11 :: a12 :: a13 :: a14 :: a15 :: a16 :: a17 :: a18 :: a19 :: a20 :: a21 :: Sl.d (unAt x) :: l) := rfl
theorem rd22 {E : DEnds} {a0 a1 a2 a3 a4 a5 a6 a7 a8 a9 a10 a11 a12 a13 a14 a15 a16 a17 a18 a19 a20 a21 : Sl} {x : D} {l : Rho} : dRetVar 22 E (a0 :: a1 :: a2 :: a3 :: a4 :: a5 :: a6 :: a7 :: a8 :: a9 :: a10 :: a11 :: a12 :: a13 :: a14 :: a15 :: a16 :: a17 :: a18 :: a19 :: a20 :: a21 :: Sl.d x :: l) = E.rt (.v x) := rfl
theorem ro22 {E : DEnds} {a0 a1 a2 a3 a4 a5 a6 a7 a8 a9 a10 a11 a12 a13 a14 a15 a16 a17 a18 a19 a20 a21 : Sl} {x : D} {l : Rho} : dRetVar 22 E (a0 :: a1 :: a2 :: a3 :: a4 :: a5 :: a6 :: a7 :: a8 :: a9 :: a10 :: a11 :: a12 :: a13 :: a14 :: a15 :: a16 :: a17 :: a18 :: a19 :: a20 :: a21 :: Sl.o x :: l) = E.rt (.ow x) := rfl
theorem vd23 {Q : DQ} {a0 a1 a2 a3 a4 a5 a6 a7 a8 a9 a10 a11 a12 a13 a14 a15 a16 a17 a18 a19 a20 a21 a22 : Sl} {x : D} {l : Rho} : dVar 23 (a0 :: a1 :: a2 :: a3 :: a4 :: a5 :: a6 :: a7 :: a8 :: a9 :: a10 :: a11 :: a12 :: a13 :: a14 :: a15 :: a16 :: a17 :: a18 :: a19 :: a20 :: a21 :: a22 :: Sl.d x :: l) Q = Q (.v x) (a0 :: a1 :: a2 :: a3 :: a4 :: a5 :: a6 :: a7 :: a8 :: a9 :: a10 :: a11 :: a12 :: a13 :: a14 :: a15 :: a16 :: a17 :: a18 :: a19 :: a20 :: a21 :: a22 :: Sl.d x :: l) := rfl
theorem vo23 {Q : DQ} {a0 a1 a2 a3 a4 a5 a6 a7 a8 a9 a10 a11 a12 a13 a14 a15 a16 a17 a18 a19 a20 a21 a22 : Sl} {x : D} {l : Rho} : dVar 23 (a0 :: a1 :: a2 :: a3 :: a4 :: a5 :: a6 :: a7 :: a8 :: a9 :: a10 :: a11 :: a12 :: a13 :: a14 :: a15 :: a16 :: a17 :: a18 :: a19 :: a20 :: a21 :: a22 :: Sl.o x :: l) Q = Q (.v (unAt x)) (a0 :: a1 :: a2 :: a3 :: a4 :: a5 :: a6 :: a7 :: a8 :: a9 :: a10 :: a11 :: a12 :: a13 :: a14 :: a15 :: a16 :: a17 :: a18 :: a19 :: a20 :: a21 :: a22 :: Sl.d (unAt x) :: l) := rfl
theorem rd23 {E : DEnds} {a0 a1 a2 a3 a4 a5 a6 a7 a8 a9 a10 a11 a12 a13 a14 a15 a16 a17 a18 a19 a20 a21 a22 : Sl} {x : D} {l : Rho} : dRetVar 23 E (a0 :: a1 :: a2 :: a3 :: a4 :: a5 :: a6 :: a7 :: a8 :: a9 :: a10 :: a11 :: a12 :: a13 :: a14 :: a15 :: a16 :: a17 :: a18 :: a19 :: a20 :: a21 :: a22 :: Sl.d x :: l) = E.rt (.v x) := rfl
theorem ro23 {E : DEnds} {a0 a1 a2 a3 a4 a5 a6 a7 a8 a9 a10 a11 a12 a13 a14 a15 a16 a17 a18 a19 a20 a21 a22 : Sl} {x : D} {l : Rho} : dRetVar 23 E (a0 :: a1 :: a2 :: a3 :: a4 :: a5 :: a6 :: a7 :: a8 :: a9 :: a10 :: a11 :: a12 :: a13 :: a14 :: a15 :: a16 :: a17 :: a18 :: a19 :: a20 :: a21 :: a22 :: Sl.o x :: l) = E.rt (.ow x) := rfl
theorem lk_people {α : Type} {d : α} : List.lookup ("people" : Str) [(("own_people" : Str), d)] = none := by rw [List.lookup_cons, show (("people" : Str) == ("own_people" : Str)) = false by decide +kernel] <;> rfl
theorem lk_names {α : Type} {d : α} : List.lookup ("names" : Str) [(("own_people" : Str), d)] = none := by rw [List.lookup_cons, show (("names" : Str) == ("own_people" : Str)) = false by decide +kernel] <;> rfl
theorem lk_has_name {α : Type} {d : α} : List.lookup ("has_name" : Str) [(("own_people" : Str), d)] = none := by rw [List.lookup_cons, show (("has_name" : Str) == ("own_people" : Str)) = false by decide +kernel] <;> rfl
theorem lk_person {α : Type} {d : α} : List.lookup ("person" : Str) [(("own_people" : Str), d)] = none := by rw [List.lookup_cons, show (("person" : Str) == ("own_people" : Str)) = false by decide +kernel] <;> rfl
theorem lk_place {α : Type} {d : α} : List.lookup ("place" : Str) [(("own_people" : Str), d)] = none := by rw [List.lookup_cons, show (("place" : Str) == ("own_people" : Str)) = false by decide +kernel] <;> rfl
theorem lk_voice {α : Type} {d : α} : List.lookup ("voice" : Str) [(("own_people" : Str), d)] = none := by rw [List.lookup_cons, show (("voice" : Str) == ("own_people" : Str)) = false by decide +kernel] <;> rfl
theorem lk_places {α : Type} {d : α} : List.lookup ("places" : Str) [(("own_people" : Str), d)] = none := by rw [List.lookup_cons, show (("places" : Str) == ("own_people" : Str)) = false by decide +kernel] <;> rfl
theorem lk_at {α : Type} {d : α} : List.lookup ("at" : Str) [(("own_people" : Str), d)] = none := by rw [List.lookup_cons, show (("at" : Str) == ("own_people" : Str)) = false by decide +kernel] <;> rfl
theorem lk_line {α : Type} {d : α} : List.lookup ("line" : Str) [(("own_people" : Str), d)] = none := by rw [List.lookup_cons, show (("line" : Str) == ("own_people" : Str)) = false by decide +kernel] <;> rfl
theorem lk_voices {α : Type} {d : α} : List.lookup ("voices" : Str) [(("own_people" : Str), d)] = none := by rw [List.lookup_cons, show (("voices" : Str) == ("own_people" : Str)) = false by decide +kernel] <;> rfl
theorem lk_is_together {α : Type} {d : α} : List.lookup ("is_together" : Str) [(("own_people" : Str), d)] = none := by rw [List.lookup_cons, show (("is_together" : Str) == ("own_people" : Str)) = false by decide +kernel] <;> rfl
theorem lk_own {α : Type} {d : α} : List.lookup ("own_people" : Str) [(("own_people" : Str), d)] = some d := by rw [List.lookup_cons, show (("own_people" : Str) == ("own_people" : Str)) = true by decide +kernel]
theorem lenL {Q : Res → Prop} {xs : List D} : dLen [.lst xs] Q = Q (.v (.int xs.length)) := rfl
theorem lenT {Q : Res → Prop} {xs : List D} : dLen [.tup xs] Q = Q (.v (.int xs.length)) := rfl
theorem lenS {Q : Res → Prop} {z : Str} : dLen [.str z] Q = (z.length ≤ sizeLine ∧ Q (.v (.int z.length))) := rfl
theorem ixL {Q : Res → Prop} {xs : List D} {i : Int} : dIx (.lst xs) (.int i) Q = (∃ d, atI xs i = some d ∧ Q (.v d)) := rfl
theorem ixT {Q : Res → Prop} {xs : List D} {i : Int} : dIx (.tup xs) (.int i) Q = (∃ d, atI xs i = some d ∧ Q (.v d)) := rfl
theorem ixS {Q : Res → Prop} {z : Str} {i : Int} : dIx (.str z) (.int i) Q = (∃ c, z.length ≤ sizeLine ∧ atI z.cps.toList i = some c ∧ Q (.v (.str ⟨#[c]⟩))) := rfl
theorem dcutL {Q : Res → Prop} {xs : List D} {a b : Option Int} : dCut (.lst xs) a b Q = Q (.own (cutD xs a b)) := rfl
theorem dcutS {Q : Res → Prop} {z : Str} {a b : Option Int} : dCut (.str z) a b Q = (z.length ≤ sizeLine ∧ Q (.v (.str (cutS z a b)))) := rfl
theorem addII {Q : Res → Prop} {i j : Int} : dAdd (.int i) (.int j) Q = Q (.v (.int (i + j))) := rfl
theorem addSS {Q : Res → Prop} {x y : Str} : dAdd (.str x) (.str y) Q = (x.length + y.length ≤ sizeLine ∧ Q (.v (.str (x ++ y)))) := rfl
theorem addLL {Q : Res → Prop} {xs ys : List D} : dAdd (.lst xs) (.lst ys) Q = (xs.length + ys.length ≤ sizeLine ∧ Q (.own (xs ++ ys))) := rfl
theorem int1i {Q : Res → Prop} {i : Int} : dInt1 [.int i] Q = Q (.v (.int i)) := rfl
theorem int1b {Q : Res → Prop} {b : Bool} : dInt1 [.bl b] Q = Q (.v (.int (if b then 1 else 0))) := rfl
theorem negI {Q : Res → Prop} {i : Int} : dNeg (.int i) Q = Q (.v (.int (-i))) := rfl
theorem reprL {Q : Res → Prop} {xs : List D} : dRepr [.lst xs] Q = (ShowOk (.lst xs) ∧ Q (.v (.str (py (.lst xs)).shown))) := propext ⟨fun ⟨ys, h⟩ => h.elim (fun ⟨e, a, b⟩ => by cases e; exact ⟨a, b⟩) (fun ⟨e, _⟩ => nomatch e), fun h => ⟨xs, .inl ⟨rfl, h⟩⟩⟩
theorem reprT {Q : Res → Prop} {xs : List D} : dRepr [.tup xs] Q = (ShowOk (.tup xs) ∧ Q (.v (.str (py (.tup xs)).shown))) := propext ⟨fun ⟨ys, h⟩ => h.elim (fun ⟨e, _⟩ => nomatch e) (fun ⟨e, a, b⟩ => by cases e; exact ⟨a, b⟩), fun h => ⟨xs, .inr ⟨rfl, h⟩⟩⟩
theorem absI {Q : Res → Prop} {i : Int} : dAbs [.int i] Q = Q (.v (.int (if i < 0 then -i else i))) := propext ⟨fun ⟨j, e, q⟩ => by cases e; exact q, fun q => ⟨i, rfl, q⟩⟩
theorem sc_n {b : Bool} {i : Int} {z : Str} : scal1 (.v .non) = true := rfl
theorem sc_b {b : Bool} {i : Int} {z : Str} : scal1 (.v (.bl b)) = true := rfl
theorem sc_i {b : Bool} {i : Int} {z : Str} : scal1 (.v (.int i)) = true := rfl
theorem sc_s {b : Bool} {i : Int} {z : Str} : scal1 (.v (.str z)) = true := rfl
theorem subI {Q : Res → Prop} {i j : Int} : dSub (.int i) (.int j) Q = (True ∧ Q (.v (.int (i - j)))) := rfl
theorem mulI {Q : Res → Prop} {i j : Int} : dMul (.int i) (.int j) Q = ((CMul i j ∨ CMulW i j) ∧ Q (.v (.int (i * j)))) := rfl
theorem fdvI {Q : Res → Prop} {i j : Int} : dFdv (.int i) (.int j) Q = (CDivW i j ∧ Q (.v (.int (i / j)))) := rfl
theorem modI {Q : Res → Prop} {i j : Int} : dMod (.int i) (.int j) Q = (0 < j ∧ Q (.v (.int (i % j)))) := rfl
theorem powI {Q : Res → Prop} {i j : Int} : dPow (.int i) (.int j) Q = (CPow i j ∧ Q (.v (.int (i ^ j.toNat)))) := rfl
theorem ltI {Q : Res → Prop} {i j : Int} : dLt (.int i) (.int j) Q = (True ∧ Q (.v (.bl (decide (i < j))))) := rfl
theorem leI {Q : Res → Prop} {i j : Int} : dLe (.int i) (.int j) Q = (True ∧ Q (.v (.bl (decide (i ≤ j))))) := rfl
theorem gtI {Q : Res → Prop} {i j : Int} : dGt (.int i) (.int j) Q = (True ∧ Q (.v (.bl (decide (j < i))))) := rfl
theorem geI {Q : Res → Prop} {i j : Int} : dGe (.int i) (.int j) Q = (True ∧ Q (.v (.bl (decide (j ≤ i))))) := rfl
theorem tr_n {b : Bool} {i : Int} {xs : List D} {kds : List (Key × D)} : truD .non = some false := rfl
theorem tr_b {b : Bool} {i : Int} {xs : List D} {kds : List (Key × D)} : truD (.bl b) = some b := rfl
theorem tr_i {b : Bool} {i : Int} {xs : List D} {kds : List (Key × D)} : truD (.int i) = some (i != 0) := rfl
theorem tr_l {b : Bool} {i : Int} {xs : List D} {kds : List (Key × D)} : truD (.lst xs) = some (!xs.isEmpty) := rfl
theorem tr_t {b : Bool} {i : Int} {xs : List D} {kds : List (Key × D)} : truD (.tup xs) = some (!xs.isEmpty) := rfl
theorem tr_d {b : Bool} {i : Int} {xs : List D} {kds : List (Key × D)} : truD (.dct kds) = some (!kds.isEmpty) := rfl
theorem ty_n {b : Bool} {i : Int} {z : Str} {xs : List D} {kds : List (Key × D)} : tyD .non = some "NoneType" := rfl
theorem ty_b {b : Bool} {i : Int} {z : Str} {xs : List D} {kds : List (Key × D)} : tyD (.bl b) = some "bool" := rfl
theorem ty_i {b : Bool} {i : Int} {z : Str} {xs : List D} {kds : List (Key × D)} : tyD (.int i) = some "int" := rfl
theorem ty_s {b : Bool} {i : Int} {z : Str} {xs : List D} {kds : List (Key × D)} : tyD (.str z) = some "str" := rfl
theorem ty_l {b : Bool} {i : Int} {z : Str} {xs : List D} {kds : List (Key × D)} : tyD (.lst xs) = some "list" := rfl
theorem ty_t {b : Bool} {i : Int} {z : Str} {xs : List D} {kds : List (Key × D)} : tyD (.tup xs) = some "tuple" := rfl
theorem ty_d {b : Bool} {i : Int} {z : Str} {xs : List D} {kds : List (Key × D)} : tyD (.dct kds) = some "dict" := rfl
theorem in_n {b : Bool} {i : Int} {z : Str} {xs : List D} {kds : List (Key × D)} : isN .non = true := rfl
theorem in_b {b : Bool} {i : Int} {z : Str} {xs : List D} {kds : List (Key × D)} : isN (.bl b) = false := rfl
theorem in_i {b : Bool} {i : Int} {z : Str} {xs : List D} {kds : List (Key × D)} : isN (.int i) = false := rfl
theorem in_s {b : Bool} {i : Int} {z : Str} {xs : List D} {kds : List (Key × D)} : isN (.str z) = false := rfl
theorem in_l {b : Bool} {i : Int} {z : Str} {xs : List D} {kds : List (Key × D)} : isN (.lst xs) = false := rfl
theorem in_t {b : Bool} {i : Int} {z : Str} {xs : List D} {kds : List (Key × D)} : isN (.tup xs) = false := rfl
theorem in_d {b : Bool} {i : Int} {z : Str} {xs : List D} {kds : List (Key × D)} : isN (.dct kds) = false := rfl
abbrev Pn : Type := Str × Int × Int
def pD (p : Pn) : D := .tup [.str p.1, .int p.2.1, .int p.2.2]
def ownD (ps : List Pn) : List (Key × D) := ps.map fun p => (.inr p.1, pD p)
def stD (C : Nm) (ps : List Pn) : D := .ins (C "Standing") [(("own_people" : Str), .dct (ownD ps))]
theorem pdT {p : Pn} {ds : List D} : (pD p = .tup ds) = ([.str p.1, .int p.2.1, .int p.2.2] = ds) := propext ⟨fun h => D.tup.inj h, fun h => congrArg D.tup h⟩
theorem pdI {p : Pn} {i : D} {Q : Res → Prop} : dIx (pD p) i Q = dIx (.tup [.str p.1, .int p.2.1, .int p.2.2]) i Q := rfl
theorem stI {C : Nm} {C' : Addr} {ps : List Pn} {fs : List (Str × D)} : (stD C ps = .ins C' fs) = (C "Standing" = C' ∧ [(("own_people" : Str), D.dct (ownD ps))] = fs) := propext ⟨fun h => by cases h; exact ⟨rfl, rfl⟩, fun ⟨h1, h2⟩ => by rw [← h1, ← h2]; rfl⟩
def LET : Str := "abcdefghijklmnopqrstuvwxyz"
def FIG : Str := "0123456789"
def isLet (c : Nat) : Bool := decide (c ∈ LET.cps.toList)
def isFig (c : Nat) : Bool := decide (c ∈ FIG.cps.toList)
theorem isLet_eq (c : Nat) : isLet c = decide (97 ≤ c ∧ c ≤ 122) := by
  have e : LET.cps.toList = List.range' 97 26 := by decide +kernel
  unfold isLet
  rw [e]
  simp only [List.mem_range'_1]
  congr 1
  apply propext
  omega
theorem isFig_eq (c : Nat) : isFig c = decide (48 ≤ c ∧ c ≤ 57) := by
  have e : FIG.cps.toList = List.range' 48 10 := by decide +kernel
  unfold isFig
  rw [e]
  simp only [List.mem_range'_1]
  congr 1
  apply propext
  omega
section
variable {c : Nat} {Q : Res → Prop}
theorem ins_eq {neg : Bool} {z : Str} : dInS neg (.str ⟨#[c]⟩) (.str z) Q = Q (.v (.bl (if neg then !decide (c ∈ z.cps.toList) else decide (c ∈ z.cps.toList)))) :=
  propext ⟨fun ⟨c', z', e1, e2, q⟩ => by cases e1; cases e2; exact q, fun q => ⟨c, z, rfl, rfl, q⟩⟩
theorem insLF : dInS false (.str ⟨#[c]⟩) (.str ("abcdefghijklmnopqrstuvwxyz" : Str)) Q = Q (.v (.bl (isLet c))) := ins_eq
theorem insLT : dInS true (.str ⟨#[c]⟩) (.str ("abcdefghijklmnopqrstuvwxyz" : Str)) Q = Q (.v (.bl (!isLet c))) := ins_eq
theorem insFF : dInS false (.str ⟨#[c]⟩) (.str ("0123456789" : Str)) Q = Q (.v (.bl (isFig c))) := ins_eq
theorem insFT : dInS true (.str ⟨#[c]⟩) (.str ("0123456789" : Str)) Q = Q (.v (.bl (!isFig c))) := ins_eq
end
/-- a word, by its signs -/
def isWordL (l : List Nat) : Bool := decide (1 ≤ l.length) && decide (l.length ≤ 12) && (match l with
  | c :: _ => isLet c
  | [] => false) && l.all fun c => isLet c || isFig c
def isWord (z : Str) : Bool := isWordL z.cps.toList
def isWordD : D → Bool
  | .str z => isWord z
  | _ => false
def isIntD : D → Bool
  | .int _ => true
  | _ => false
/-- a value that the judges of values take -/
def tyC (C : Nm) (d : D) : Prop := match d with
  | .ins C' _ => C' = C "Standing"
  | d => (tyD d).isSome = true
/-- people as a standing has them -/
structure Wf (ps : List Pn) : Prop where
  word : ∀ p, p ∈ ps → isWord p.1 = true
  nd : (ps.map (·.1)).Nodup
  voice : ∀ p, p ∈ ps → p.2.2 = 0 ∨ p.2.2 = 1
  few : ps.length ≤ 60
theorem word_len {z : Str} (h : isWord z = true) : z.length ≤ sizeLine := by
  unfold isWord isWordL at h
  simp only [Bool.and_eq_true, decide_eq_true_eq] at h
  exact small (m := 12) h.1.1.2
theorem cut1 {xs : List D} : cutD xs (some 1) none = xs.tail := by
  unfold cutD HT.sIx
  cases xs with
  | nil => rfl
  | cons x xs => simp
/-- neighbours -/
def pairs (l : List Int) : List (Int × Int) := l.zip l.tail
def prD (p : Int × Int) : D := .tup [.int p.1, .int p.2]
theorem prT {p : Int × Int} {ds : List D} : (prD p = .tup ds) = ([.int p.1, .int p.2] = ds) := propext ⟨fun h => D.tup.inj h, fun h => congrArg D.tup h⟩
theorem zipD_map {α β : Type} {f : α → D} {g : β → D} : ∀ {xs : List α} {ys : List β}, zipD (xs.map f) (ys.map g) = (xs.zip ys).map fun p => .tup [f p.1, g p.2]
  | [], _ => by simp [zipD]
  | _ :: _, [] => by simp [zipD]
  | x :: xs, y :: ys => by simp only [List.map_cons, zipD, List.zip_cons_cons, zipD_map (xs := xs) (ys := ys)]
theorem zip_pairs (l : List Int) : zipD (l.map .int) (l.map .int).tail = (pairs l).map prD := by
  rw [← List.map_tail, zipD_map]; rfl
theorem pairs_len (l : List Int) : (pairs l).length ≤ l.length := by unfold pairs; rw [List.length_zip]; omega
def placesL (ps : List Pn) : List Int := uset (ps.map fun p => p.2.1)
def vAt (ps : List Pn) (x : Int) : Int := ((ps.filter fun p => decide (p.2.1 = x) && decide (p.2.2 = 1)).length : Nat)
abbrev Gap : Type := Int × Int × Bool
def kindS (k : Bool) : Str := if k then "odd" else "even"
def gapD (g : Gap) : D := .tup [.int g.1, .int g.2.1, .str (kindS g.2.2)]
theorem gdT {g : Gap} {ds : List D} : (gapD g = .tup ds) = ([.int g.1, .int g.2.1, .str (kindS g.2.2)] = ds) := propext ⟨fun h => D.tup.inj h, fun h => congrArg D.tup h⟩
def gapsP (ps : List Pn) : Int → List (Int × Int) → List Gap
  | _, [] => []
  | m, (l, r) :: t => (l, r - l, decide ((m + vAt ps l) % 2 = 1)) :: gapsP ps (m + vAt ps l) t
def gapsL (ps : List Pn) : List Gap := gapsP ps 0 (pairs (placesL ps))
theorem gapsP_len {ps : List Pn} : ∀ {l : List (Int × Int)} {m : Int}, (gapsP ps m l).length = l.length
  | [], _ => rfl
  | (a, b) :: t, m => by simp only [gapsP, List.length_cons, gapsP_len (l := t)]
theorem placesL_len (ps : List Pn) : (placesL ps).length ≤ ps.length := by
  have := uset_len (l := ps.map fun p => p.2.1)
  rwa [List.length_map] at this
theorem gapsL_len (ps : List Pn) : (gapsL ps).length ≤ ps.length := by
  unfold gapsL
  rw [gapsP_len]
  exact Nat.le_trans (pairs_len _) (placesL_len ps)
end L2.DL
set_option Elab.async false
set_option linter.all false
set_option autoImplicit false
set_option maxRecDepth 100000
set_option maxHeartbeats 2000000
namespace L2.DL
open PySem PySem.Spec PyProof.Rows
local macro_rules | `(tactic| walk_at "ev") => `(tactic| simp only [dSeq, dNext, dSet, dPar, dPar3, dRet, dRetN, dDrop, dIfS, dBrk, dCnt, dApp, dFor, dItL, dItT, dRng1, dRng2, dZip, dEnum, dItS, dAsg, dAugI, dNever, dPutS, dNewD, dFldM, dFldS, dStar,
  dgName, dgTup, dgCons, dgNil, dOp, dUn, dC, dNil, dCons, dCB, dTup, dLst, dIf, dTst, dTru, dAnd, dOr, dNot, dAndV, dOrV, dNotV, dYes, dInR, dFld, dMeth, dCall, dDctIx, dGet2, dRaise, dRaiseZ, dDisp, dPNil, dPCons, dRepD, dTold, dLenSet, hid_u, hid_d, hid_o, dStep2, dSlV, dIxV, dSetV, dPopV, dLenV, dLcV, lstAt, Option.isSome_some, Option.isSome_none, dSl, dNoP, dPart, dLc, dDc, dSortSet, dSortSc, dListVals, dChain, dIsiT2, dCallB, dBor, dNilB, dCBB, dOneL,
  dIsN, dNotN, dStrI, dAbs, dIn, fz_v, fz_l, fz_d, fz_i, fz_m, un_l, un_d, un_i, un_m, sl_v, sl_o, dwipe, and_assoc, insLF, insLT, insFF, insFT, startD, startN, pdT, pdI, gdT, prT, stI, putFD, lendable, noKR, noK, noKs,
  vd0, vo0, rd0, ro0, vd1, vo1, rd1, ro1, vd2, vo2, rd2, ro2, vd3, vo3, rd3, ro3, vd4, vo4, rd4, ro4, vd5, vo5, rd5, ro5, vd6, vo6, rd6, ro6, vd7, vo7, rd7, ro7, vd8, vo8, rd8, ro8, vd9, vo9, rd9, ro9, vd10, vo10, rd10, ro10, vd11, vo11, rd11, ro11, vd12, vo12, rd12, ro12, vd13, vo13, rd13, ro13, vd14, vo14, rd14, ro14, vd15, vo15, rd15, ro15, vd16, vo16, rd16, ro16, vd17, vo17, rd17, ro17, vd18, vo18, rd18, ro18, vd19, vo19, rd19, ro19, vd20, vo20, rd20, ro20, vd21, vo21, rd21, ro21, vd22, vo22, rd22, ro22, vd23, vo23, rd23, ro23, lk_people, lk_names, lk_has_name, lk_person, lk_place, lk_voice, lk_places, lk_at, lk_line, lk_voices, lk_is_together, lk_own, lenL, lenT, lenS, ixL, ixT, ixS, dcutL, dcutS, addII, addSS, addLL, int1i, int1b, negI, reprL, reprT, absI, sc_n, sc_b, sc_i, sc_s, subI, mulI, fdvI, modI, powI, ltI, leI, gtI, geI, tr_n, tr_b, tr_i, tr_l, tr_t, tr_d, ty_n, ty_b, ty_i, ty_s, ty_l, ty_t, ty_d, in_n, in_b, in_i, in_s, in_l, in_t, in_d, eqII, neII, eqSS, neSS, eqBB, neBB, isic_n, isic_b, isic_i, isic_s, isic_l, isic_t, isic_d, isio_n, isio_b, isio_i, isio_s, isio_l, isio_t, isio_d, isic_I, isic_S, isic_T, isic_L, isic_B, isio_I, dIsiO, isi_ii, isi_ib, isi_is, isi_il, isi_bi, isi_bb, isi_bs, isi_si, isi_sb, isi_ss, isi_ni, isi_nb, isi_ns, isi_li, isi_lb, isi_ls, isi_ll, isi_ti, isi_tb, isi_ts, isi_tt, isi_di, isi_db, isi_ds, isi_lt, isi_tl, isi_bt, isi_nt, isi_dt, eqLL, neLL, eqTT, neTT, isi_sl, isi_st, isi_it, kit_ll, kit_lt, max2, min2, get1, get2b, get3b, get3c,
  List.map_cons, List.map_nil, List.length_cons, List.length_nil, List.replicate, List.append_nil, List.cons_append, List.nil_append, List.getElem?_cons_zero, List.getElem?_cons_succ, List.set_cons_zero, List.set_cons_succ, List.getElem?_nil, Nat.sub_zero, Nat.reduceAdd, Nat.reduceSub, Int.reduceLT, Int.reduceLE, Int.reduceNeg, Nat.zero_add,
  true_and, and_true, eq_self, Bool.true_or, Bool.or_true, Bool.false_or, Bool.or_false, Bool.true_and, Bool.and_true, Bool.false_and, Bool.and_false, exists_eq_left, exists_eq_left', exists_eq', exists_eq, Option.some.injEq, Res.v.injEq, D.bl.injEq, D.int.injEq, D.str.injEq, D.lst.injEq, D.tup.injEq, D.dct.injEq, D.ins.injEq, Sl.o.injEq, Sl.d.injEq, List.cons.injEq, reduceCtorEq, false_or, or_false, if_true, if_false, Bool.false_eq_true, Bool.not_true, Bool.not_false, ite_true, ite_false, decide_true, decide_false, and_self, List.isEmpty_nil, List.isEmpty_cons, exists_and_left, exists_const, lenNil])
def sp_is_integer (C : Nm) : DSp := fun ds Q X => ∃ d, ds = [d] ∧ tyC C d ∧ Q (.v (.bl (isIntD d)))
def sp_is_word (C : Nm) : DSp := fun ds Q X => ∃ d, ds = [d] ∧ tyC C d ∧ (∀ z, d = .str z → z.length ≤ sizeLine) ∧ Q (.v (.bl (isWordD d)))
def rowD (d : D) (n : Int) : Bool := match d with
  | .tup xs => decide ((xs.length : Int) = n)
  | _ => false
def sp_is_row (C : Nm) : DSp := fun ds Q X => ∃ d n, ds = [d, .int n] ∧ tyC C d ∧ Q (.v (.bl (rowD d n)))
def t_is_integer (K : PySem.W.Frag) (C : Nm) (XD : DX) : DTS := (dRet (dAndV (dCB (dIsiC K (C "Standing")) (dCons (dVar 0) (dCons (dC (.ty "int")) dNil))) (dNotV (dCB (dIsiC K (C "Standing")) (dCons (dVar 0) (dCons (dC (.ty "bool")) dNil))))))
def t_is_word (K : PySem.W.Frag) (C : Nm) (XD : DX) : DTS := (dSeq (dIfS (dOr (dNot (dTru (dCB (dIsiC K (C "Standing")) (dCons (dVar 0) (dCons (dC (.ty "str")) dNil))))) (dOr (dTst (dInR true (dCB dLen (dCons (dVar 0) dNil)) (dCons (dC (.int 1)) (dCons (dC (.int 13)) dNil)))) (dTst (dOp (dInS true) (dOp dIx (dVar 0) (dC (.int 0))) (dC (.str ("abcdefghijklmnopqrstuvwxyz" : Str))))))) (dRet (dC (.bl false))) dNext)
      (dRet (dCB dAll (dCons (dLc (dItS (dVar 0)) (dgName 1) dYes (dOrV (dOp (dInS false) (dVar 1) (dC (.str ("abcdefghijklmnopqrstuvwxyz" : Str)))) (dOp (dInS false) (dVar 1) (dC (.str ("0123456789" : Str))))) [1]) dNil))))
def t_is_row (K : PySem.W.Frag) (C : Nm) (XD : DX) : DTS := (dRet (dAndV (dCB (dIsiC K (C "Standing")) (dCons (dVar 0) (dCons (dC (.ty "tuple")) dNil))) (dOp dEq2 (dCB dLen (dCons (dVar 0) dNil)) (dVar 1))))
section
variable {K : PySem.W.Frag} {C : Nm} {XD : DX} {ds : List D} {QD : Res → Prop}
theorem pure_is_integer (h : sp_is_integer C ds QD XD) : t_is_integer K C XD { nx := fun _ => QD (.v .non), rt := QD } (startN 1 ds) := by
  obtain ⟨d, rfl, hd, q⟩ := h
  unfold t_is_integer
  walk_at "ev"
  cases d <;> first | (exact (Bool.noConfusion hd : False).elim) | (have hd2 : _ = C "Standing" := hd; subst hd2; walk_at "ev"; exact q) | (walk_at "ev"; exact q)
theorem pure_is_row (h : sp_is_row C ds QD XD) : t_is_row K C XD { nx := fun _ => QD (.v .non), rt := QD } (startN 2 ds) := by
  obtain ⟨d, n, rfl, hd, q⟩ := h
  unfold t_is_row
  walk_at "ev"
  cases d <;> first | (exact (Bool.noConfusion hd : False).elim) | (have hd2 : _ = C "Standing" := hd; subst hd2; walk_at "ev"; exact q) | (walk_at "ev"; exact q)
theorem pure_is_word (h : sp_is_word C ds QD XD) : t_is_word K C XD { nx := fun _ => QD (.v .non), rt := QD } (startN 2 ds) := by
  obtain ⟨d, rfl, hd, hz, q⟩ := h
  unfold t_is_word
  walk_at "ev"
  cases d <;> first | (exact (Bool.noConfusion hd : False).elim) | (have hd2 : _ = C "Standing" := hd; subst hd2) | skip
  all_goals walk_at "ev"
  all_goals first | exact q | skip
  rename_i z
  refine ⟨hz z rfl, ?_⟩
  have q : QD (.v (.bl (isWord z))) := q
  unfold isWord isWordL at q
  have len : z.length = z.cps.toList.length := rfl
  rw [len]
  generalize hl : z.cps.toList = l at q
  by_cases h1 : 1 ≤ l.length ∧ l.length ≤ 12
  · obtain ⟨c, r, rfl⟩ : ∃ c r, l = c :: r := by cases l with
      | nil => simp at h1
      | cons c r => exact ⟨c, r, rfl⟩
    have e1 : (!decide ((1 : Int) ≤ ((c :: r).length : Nat) ∧ (((c :: r).length : Nat) : Int) < 13)) = false := by
      rw [decide_eq_true (by omega)] <;> rfl
    rw [e1]
    walk_at "ev"
    refine ⟨by have := h1.2; simp only [List.length_cons] at this; rw [show sizeLine = 16777216 from rfl]; omega, ?_⟩
    cases hc : isLet c with
    | false =>
      simp only [hc, Bool.and_false, Bool.false_and] at q
      walk_at "ev"
      exact q
    | true =>
      simp only [hc, decide_eq_true h1.1, decide_eq_true h1.2, Bool.true_and] at q
      walk_at "ev"
      unfold signsD
      rw [hl]
      refine lcL_fun (fun ρ => ρ = [Sl.d (.str z), Sl.un]) (fun c => D.str ⟨#[c]⟩) (fun _ => true) (fun c => D.bl (isLet c || isFig c)) ?_ (c :: r) [] _ ?_ rfl ?_
      · rintro x ρ rfl K1 K2 h1 h2
        walk_at "ev"
        cases hx : isLet x with
        | true => walk_at "ev"; exact h1 rfl _ _ (by rw [hx]; rfl) rfl
        | false => walk_at "ev"; exact h1 rfl _ _ (by rw [hx]; rfl) rfl
      · simp only [List.length_cons, List.length_nil] at h1 ⊢; omega
      · rintro ρ rfl
        walk_at "ev"
        refine ⟨(c :: r).map fun c => isLet c || isFig c, ?_, ?_⟩
        · rw [filter_tt, List.map_map]; rfl
        · rw [List.all_map]
          exact q
  · have e1 : (!decide ((1 : Int) ≤ (l.length : Nat) ∧ ((l.length : Nat) : Int) < 13)) = true := by
      rw [decide_eq_false (by omega)] <;> rfl
    rw [e1]
    walk_at "ev"
    have e2 : (decide (1 ≤ l.length) && decide (l.length ≤ 12)) = false := by
      rw [Bool.and_eq_false_iff]
      by_cases h : 1 ≤ l.length
      · exact .inr (decide_eq_false fun z => h1 ⟨h, z⟩)
      · exact .inl (decide_eq_false h)
    rw [e2] at q
    exact q
end
def sp_wrong_person (C : Nm) : DSp := fun ds Q X => ∃ (p : Pn) (kds : List (Key × D)), ds = [pD p, .dct kds] ∧ isWord p.1 = true ∧ valD kds (.inr p.1) = none ∧ (p.2.2 = 0 ∨ p.2.2 = 1) ∧ Q (.v .non)
def sp_wrong_people (C : Nm) : DSp := fun ds Q X => ∃ (ps : List Pn), ds = [.lst (ps.map pD)] ∧ Wf ps ∧ Q (.v .non)
def sp_Standing (C : Nm) : DSp := fun ds Q X => ∃ (ps : List Pn), ds = [.lst (ps.map pD)] ∧ Wf ps ∧ Q (.v (stD C ps))
def sp_Standing_people (C : Nm) : DSp := fun ds Q X => ∃ (ps : List Pn), ds = [stD C ps] ∧ Q (.own (ps.map pD))
def sp_Standing_places (C : Nm) : DSp := fun ds Q X => ∃ (ps : List Pn), ds = [stD C ps] ∧ Wf ps ∧ Q (.own ((placesL ps).map .int))
def sp_voices_at (C : Nm) : DSp := fun ds Q X => ∃ (ps : List Pn) (x : Int), ds = [stD C ps, .int x] ∧ Wf ps ∧ Q (.v (.int (vAt ps x)))
def sp_gaps (C : Nm) : DSp := fun ds Q X => ∃ (ps : List Pn), ds = [stD C ps] ∧ Wf ps ∧ Q (.own ((gapsL ps).map gapD))
def t_wrong_person (K : PySem.W.Frag) (C : Nm) (XD : DX) : DTS := (dSeq (dIfS (dNot (dTru (dCall (sp_is_row C) XD (dCons (dVar 0) (dCons (dC (.int 3)) dNil))))) (dRet (dTup dNil)) dNext)
      (dSeq (dIfS (dOr (dNot (dTru (dCall (sp_is_word C) XD (dCons (dOp dIx (dVar 0) (dC (.int 0))) dNil)))) (dTst (dOp (dInDct false) (dOp dIx (dVar 0) (dC (.int 0))) (dVar 1)))) (dRet (dTup (dCons (dC (.int 0)) dNil))) dNext)
      (dSeq (dIfS (dNot (dTru (dCall (sp_is_integer C) XD (dCons (dOp dIx (dVar 0) (dC (.int 1))) dNil)))) (dRet (dTup (dCons (dC (.int 1)) dNil))) dNext)
      (dRet (dIf (dOr (dNot (dTru (dCall (sp_is_integer C) XD (dCons (dOp dIx (dVar 0) (dC (.int 2))) dNil)))) (dTst (dOp (dIn true) (dOp dIx (dVar 0) (dC (.int 2))) (dTup (dCons (dC (.int 0)) (dCons (dC (.int 1)) dNil)))))) (dTup (dCons (dC (.int 2)) dNil)) (dC .non))))))
def t_wrong_people (K : PySem.W.Frag) (C : Nm) (XD : DX) : DTS := (dSeq (dIfS (dNot (dTru (dIsiT2 K "list" "tuple" (dVar 0)))) (dRet (dTup dNil)) dNext)
      (dSeq (dSet 1 dNewD)
      (dSeq (dFor (dEnum (dCons (dVar 0) dNil)) (dgTup 2 (dgCons (dgName 2) (dgCons (dgName 3) dgNil))) (dSeq (dSet 4 (dCallB 1 false (sp_wrong_person C) XD (dCons (dVar 3) (dBor 1 (dNilB 1)))))
      (dSeq (dIfS (dTst (dOp dNotN (dVar 4) (dC .non))) (dRet (dTup (dCons (dVar 2) (dStar (dVar 4) dNil)))) dNext)
      (dPutS 1 (dOp dIx (dVar 3) (dC (.int 0))) (dC (.bl true))))))
      (dRet (dC .non)))))
def t_Standing_init (K : PySem.W.Frag) (C : Nm) (XD : DX) : DTS := (dSeq (dSet 2 (dCall (sp_wrong_people C) XD (dCons (dVar 1) dNil)))
      (dSeq (dIfS (dTst (dOp dNotN (dVar 2) (dC .non))) dNever dNext)
      (dFldM (C ("Standing" : Str)) ("own_people" : Str) 0 (dDc (dItL (dVar 1)) (dgName 3) dYes (dOp dIx (dVar 3) (dC (.int 0))) (dVar 3) [3]))))
def t_Standing_people (K : PySem.W.Frag) (C : Nm) (XD : DX) : DTS := (dRet (dListVals (dFld (C ("Standing" : Str)) ("own_people" : Str) (dVar 0))))
def t_Standing_places (K : PySem.W.Frag) (C : Nm) (XD : DX) : DTS := (dRet (dSortSc (dItL (dMeth (C ("Standing" : Str)) ("people" : Str) (sp_Standing_people C) XD (dVar 0) dNil)) (dgTup 3 (dgCons (dgName 1) (dgCons (dgName 2) (dgCons (dgName 3) dgNil)))) dYes (dVar 2) [1, 2, 3]))
def t_voices_at (K : PySem.W.Frag) (C : Nm) (XD : DX) : DTS := (dRet (dCB dLen (dCons (dLc (dItL (dMeth (C ("Standing" : Str)) ("people" : Str) (sp_Standing_people C) XD (dVar 0) dNil)) (dgTup 3 (dgCons (dgName 2) (dgCons (dgName 3) (dgCons (dgName 4) dgNil)))) (dAnd (dTst (dOp dEq2 (dVar 3) (dVar 1))) (dTst (dOp dEq2 (dVar 4) (dC (.int 1))))) (dVar 2) [2, 3, 4]) dNil)))
def t_gaps (K : PySem.W.Frag) (C : Nm) (XD : DX) : DTS := (dSeq (dPar3 1 2 3 (dLst dNil) (dC (.int 0)) (dMeth (C ("Standing" : Str)) ("places" : Str) (sp_Standing_places C) XD (dVar 0) dNil))
      (dSeq (dFor (dZip (dCons (dVar 3) (dCons (dSl (dVar 3) (dPart (dC (.int 1))) dNoP) dNil))) (dgTup 2 (dgCons (dgName 4) (dgCons (dgName 5) dgNil))) (dSeq (dAugI (fun i j => i + j) 2 (dCall (sp_voices_at C) XD (dCons (dVar 0) (dCons (dVar 4) dNil))))
      (dApp 1 (dTup (dCons (dVar 4) (dCons (dOp dSub (dVar 5) (dVar 4)) (dCons (dIf (dTst (dOp dEq2 (dOp dMod (dVar 2) (dC (.int 2))) (dC (.int 1)))) (dC (.str ("odd" : Str))) (dC (.str ("even" : Str)))) dNil)))))))
      (dRetVar 1)))
section
variable {K : PySem.W.Frag} {C : Nm} {XD : DX} {ds : List D} {QD : Res → Prop}
theorem pure_wrong_person (h : sp_wrong_person C ds QD XD) : t_wrong_person K C XD { nx := fun _ => QD (.v .non), rt := QD } (startN 2 ds) := by
  obtain ⟨⟨n, x, v⟩, kds, rfl, hw, hn, hv, q⟩ := h
  simp only at hw hn hv
  unfold t_wrong_person
  walk_at "ev"
  refine ⟨_, _, rfl, rfl, ?_⟩
  walk_at "ev"
  rw [show (!rowD (pD (n, x, v)) 3) = false from rfl]
  walk_at "ev"
  refine ⟨_, rfl, rfl, fun z e => by cases e; exact word_len hw, ?_⟩
  have e : isWordD (D.str n) = true := hw
  rw [e]
  walk_at "ev"
  refine ⟨kds, .inr n, rfl, rfl, ?_⟩
  rw [hn]
  walk_at "ev"
  refine ⟨_, rfl, rfl, ?_⟩
  rw [show isIntD (D.int x) = true from rfl]
  walk_at "ev"
  refine ⟨_, rfl, rfl, ?_⟩
  rw [show isIntD (D.int v) = true from rfl]
  walk_at "ev"
  refine ⟨small (m := 2) (Nat.le_refl _), rfl, rfl, ?_⟩
  have e : inD (D.int v) [D.int 0, D.int 1] = true := by rcases hv with rfl | rfl <;> rfl
  simp only [fz_v, e]
  walk_at "ev"
  exact q
theorem pure_Standing_people (h : sp_Standing_people C ds QD XD) : t_Standing_people K C XD { nx := fun _ => QD (.v .non), rt := QD } (startN 1 ds) := by
  obtain ⟨ps, rfl, q⟩ := h
  unfold t_Standing_people
  walk_at "ev"
  unfold ownD
  rw [List.map_map]
  exact q
theorem pure_Standing_places (h : sp_Standing_places C ds QD XD) : t_Standing_places K C XD { nx := fun _ => QD (.v .non), rt := QD } (startN 4 ds) := by
  obtain ⟨ps, rfl, hw, q⟩ := h
  unfold t_Standing_places
  walk_at "ev"
  refine ⟨ps, rfl, _, rfl, ?_⟩
  refine scL_fun (fun ρ => ρ = [Sl.d (stD C ps), Sl.un, Sl.un, Sl.un]) pD (fun _ => true) (fun p => p.2.1) ?_ ps [] _ (by have := hw.few; simp only [List.length_nil]; omega) rfl ?_
  · rintro x ρ rfl K1 K2 h1 h2
    walk_at "ev"
    exact h1 rfl _ _ rfl rfl
  · rintro ρ rfl
    rw [filter_tt, List.nil_append]
    exact q
theorem pure_voices_at (h : sp_voices_at C ds QD XD) : t_voices_at K C XD { nx := fun _ => QD (.v .non), rt := QD } (startN 5 ds) := by
  obtain ⟨ps, x, rfl, hw, q⟩ := h
  unfold t_voices_at
  walk_at "ev"
  refine ⟨ps, rfl, _, rfl, ?_⟩
  refine lcL_fun (fun ρ => ρ = [Sl.d (stD C ps), Sl.d (D.int x), Sl.un, Sl.un, Sl.un]) pD (fun p => decide (p.2.1 = x) && decide (p.2.2 = 1)) (fun p => D.str p.1) ?_ ps [] _ (by have := hw.few; simp only [List.length_nil]; omega) rfl ?_
  · rintro p ρ rfl K1 K2 h1 h2
    walk_at "ev"
    by_cases e1 : p.2.1 = x
    · rw [decide_eq_true e1] at h1 h2 ⊢
      by_cases e2 : p.2.2 = 1
      · rw [decide_eq_true e2] at h1 h2 ⊢
        walk_at "ev"
        exact h1 rfl _ _ rfl rfl
      · rw [decide_eq_false e2] at h1 h2 ⊢
        walk_at "ev"
        exact h2 rfl _ rfl
    · rw [decide_eq_false e1] at h1 h2 ⊢
      walk_at "ev"
      exact h2 rfl _ rfl
  · rintro ρ rfl
    walk_at "ev"
    rw [List.length_map]
    exact q
theorem pure_gaps (h : sp_gaps C ds QD XD) : t_gaps K C XD { nx := fun _ => QD (.v .non), rt := QD } (startN 6 ds) := by
  obtain ⟨ps, rfl, hw, q⟩ := h
  unfold t_gaps
  walk_at "ev"
  refine ⟨ps, rfl, hw, ?_⟩
  walk_at "ev"
  rw [cut1, zip_pairs]
  have len : (pairs (placesL ps)).length ≤ 60 := Nat.le_trans (pairs_len _) (Nat.le_trans (placesL_len ps) hw.few)
  refine loop_inv prD (fun rest ρ => ∃ (acc : List Gap) (m : Int) (d : D) (a b : Sl), ρ = [Sl.d (stD C ps), Sl.o (.lst (acc.map gapD)), Sl.d (.int m), Sl.d d, a, b] ∧ acc ++ gapsP ps m rest = gapsL ps ∧ acc.length + rest.length ≤ 60) ?_ ?_ _ _ ⟨[], 0, _, _, _, rfl, rfl, by simpa using len⟩
  · rintro ⟨l, r⟩ rest ρ ⟨acc, m, d, a, b, rfl, e, hl⟩ E' h1 h2 h3 h4
    walk_at "ev"
    refine ⟨ps, l, rfl, hw, ?_⟩
    walk_at "ev"
    rw [List.length_cons] at hl
    have fin : ∀ k, k = decide ((m + vAt ps l) % 2 = 1) → E'.nx [Sl.d (stD C ps), Sl.o (.lst (acc.map gapD ++ [.tup [.int l, .int (r - l), .str (kindS k)]])), Sl.d (.int (m + vAt ps l)), Sl.d d, Sl.d (.int l), Sl.d (.int r)] := fun k hk => h1 _ ⟨acc ++ [(l, r - l, k)], m + vAt ps l, d, _, _, by rw [List.map_append]; rfl, by rw [← e, List.append_assoc, hk]; rfl, by rw [List.length_append]; simp only [List.length_singleton]; omega⟩
    have len2 : (acc.map gapD).length < sizeLine := small' (m := 60) (by rw [List.length_map]; omega)
    by_cases e : (m + vAt ps l) % 2 = 1
    · rw [decide_eq_true e]
      walk_at "ev"
      exact ⟨small (m := 3) (Nat.le_refl _), len2, fin true (decide_eq_true e).symm⟩
    · rw [decide_eq_false e]
      walk_at "ev"
      exact ⟨small (m := 3) (Nat.le_refl _), len2, fin false (decide_eq_false e).symm⟩
  · rintro ρ ⟨acc, m, d, a, b, rfl, e, hl⟩
    walk_at "ev"
    rw [← e] at q
    simpa only [gapsP, List.append_nil] using q
end
end L2.DL
set_option Elab.async false
set_option linter.all false
set_option autoImplicit false
set_option maxRecDepth 100000
set_option maxHeartbeats 2000000
namespace L2.DL
open PySem PySem.Spec PyProof.Rows
local macro_rules | `(tactic| walk_at "ev") => `(tactic| simp only [dSeq, dNext, dSet, dPar, dPar3, dRet, dRetN, dDrop, dIfS, dBrk, dCnt, dApp, dFor, dItL, dItT, dRng1, dRng2, dZip, dEnum, dItS, dAsg, dAugI, dNever, dPutS, dNewD, dFldM, dFldS, dStar,
  dgName, dgTup, dgCons, dgNil, dOp, dUn, dC, dNil, dCons, dCB, dTup, dLst, dIf, dTst, dTru, dAnd, dOr, dNot, dAndV, dOrV, dNotV, dYes, dInR, dFld, dMeth, dCall, dDctIx, dGet2, dRaise, dRaiseZ, dDisp, dPNil, dPCons, dRepD, dTold, dLenSet, hid_u, hid_d, hid_o, dStep2, dSlV, dIxV, dSetV, dPopV, dLenV, dLcV, lstAt, Option.isSome_some, Option.isSome_none, dSl, dNoP, dPart, dLc, dDc, dSortSet, dSortSc, dListVals, dChain, dIsiT2, dCallB, dBor, dNilB, dCBB, dOneL,
  dIsN, dNotN, dStrI, dAbs, dIn, fz_v, fz_l, fz_d, fz_i, fz_m, un_l, un_d, un_i, un_m, sl_v, sl_o, dwipe, and_assoc, insLF, insLT, insFF, insFT, startD, startN, pdT, pdI, gdT, prT, stI, putFD, lendable, noKR, noK, noKs,
  vd0, vo0, rd0, ro0, vd1, vo1, rd1, ro1, vd2, vo2, rd2, ro2, vd3, vo3, rd3, ro3, vd4, vo4, rd4, ro4, vd5, vo5, rd5, ro5, vd6, vo6, rd6, ro6, vd7, vo7, rd7, ro7, vd8, vo8, rd8, ro8, vd9, vo9, rd9, ro9, vd10, vo10, rd10, ro10, vd11, vo11, rd11, ro11, vd12, vo12, rd12, ro12, vd13, vo13, rd13, ro13, vd14, vo14, rd14, ro14, vd15, vo15, rd15, ro15, vd16, vo16, rd16, ro16, vd17, vo17, rd17, ro17, vd18, vo18, rd18, ro18, vd19, vo19, rd19, ro19, vd20, vo20, rd20, ro20, vd21, vo21, rd21, ro21, vd22, vo22, rd22, ro22, vd23, vo23, rd23, ro23, lk_people, lk_names, lk_has_name, lk_person, lk_place, lk_voice, lk_places, lk_at, lk_line, lk_voices, lk_is_together, lk_own, lenL, lenT, lenS, ixL, ixT, ixS, dcutL, dcutS, addII, addSS, addLL, int1i, int1b, negI, reprL, reprT, absI, sc_n, sc_b, sc_i, sc_s, subI, mulI, fdvI, modI, powI, ltI, leI, gtI, geI, tr_n, tr_b, tr_i, tr_l, tr_t, tr_d, ty_n, ty_b, ty_i, ty_s, ty_l, ty_t, ty_d, in_n, in_b, in_i, in_s, in_l, in_t, in_d, eqII, neII, eqSS, neSS, eqBB, neBB, isic_n, isic_b, isic_i, isic_s, isic_l, isic_t, isic_d, isio_n, isio_b, isio_i, isio_s, isio_l, isio_t, isio_d, isic_I, isic_S, isic_T, isic_L, isic_B, isio_I, dIsiO, isi_ii, isi_ib, isi_is, isi_il, isi_bi, isi_bb, isi_bs, isi_si, isi_sb, isi_ss, isi_ni, isi_nb, isi_ns, isi_li, isi_lb, isi_ls, isi_ll, isi_ti, isi_tb, isi_ts, isi_tt, isi_di, isi_db, isi_ds, isi_lt, isi_tl, isi_bt, isi_nt, isi_dt, eqLL, neLL, eqTT, neTT, isi_sl, isi_st, isi_it, kit_ll, kit_lt, max2, min2, get1, get2b, get3b, get3c,
  List.map_cons, List.map_nil, List.length_cons, List.length_nil, List.replicate, List.append_nil, List.cons_append, List.nil_append, List.getElem?_cons_zero, List.getElem?_cons_succ, List.set_cons_zero, List.set_cons_succ, List.getElem?_nil, Nat.sub_zero, Nat.reduceAdd, Nat.reduceSub, Int.reduceLT, Int.reduceLE, Int.reduceNeg, Nat.zero_add,
  true_and, and_true, eq_self, Bool.true_or, Bool.or_true, Bool.false_or, Bool.or_false, Bool.true_and, Bool.and_true, Bool.false_and, Bool.and_false, exists_eq_left, exists_eq_left', exists_eq', exists_eq, Option.some.injEq, Res.v.injEq, D.bl.injEq, D.int.injEq, D.str.injEq, D.lst.injEq, D.tup.injEq, D.dct.injEq, D.ins.injEq, Sl.o.injEq, Sl.d.injEq, List.cons.injEq, reduceCtorEq, false_or, or_false, if_true, if_false, Bool.false_eq_true, Bool.not_true, Bool.not_false, ite_true, ite_false, decide_true, decide_false, and_self, List.isEmpty_nil, List.isEmpty_cons, exists_and_left, exists_const, lenNil])
theorem loop_rng {g : DTG} {tb : DTS} {E : DEnds} (lo : Int) (n : Nat) (J : Nat → Rho → Prop)
    (step : ∀ (k : Nat) ρ, k < n → J k ρ → ∀ E' : DEnds, (∀ ρ', J (k + 1) ρ' → E'.nx ρ') → (∀ ρ', J (k + 1) ρ' → E'.ct ρ') → (∀ ρ', E.nx ρ' → E'.bk ρ') → E'.rt = E.rt → g (.int (lo + (k : Nat))) ρ fun ρ2 => tb E' ρ2)
    (fin : ∀ ρ, J n ρ → E.nx ρ) (ρ : Rho) (h : J 0 ρ) : dLoop g tb E (rngD lo n) ρ := by
  unfold rngD
  refine loop_inv (fun i : Nat => D.int (lo + (i : Nat))) (fun rest ρ => ∃ k, k ≤ n ∧ rest = (List.range n).drop k ∧ J k ρ) ?_ ?_ _ _ ⟨0, Nat.zero_le _, rfl, h⟩
  · rintro x xs ρ ⟨k, hk, e, j⟩ E' h1 h2 h3 h4
    have hlt : k < n := by
      have := congrArg List.length e
      rw [List.length_cons, List.length_drop, List.length_range] at this
      omega
    have e2 : (List.range n).drop k = k :: (List.range n).drop (k + 1) := by
      rw [List.drop_eq_getElem_cons (by rw [List.length_range]; exact hlt), List.getElem_range]
    rw [e2] at e
    injection e with ex exs
    subst ex; subst exs
    exact step x ρ hlt j E' (fun ρ' j' => h1 ρ' ⟨x + 1, hlt, rfl, j'⟩) (fun ρ' j' => h2 ρ' ⟨x + 1, hlt, rfl, j'⟩) h3 h4
  · rintro ρ ⟨k, hk, e, j⟩
    have : k = n := by
      have := congrArg List.length e
      rw [List.length_nil, List.length_drop, List.length_range] at this
      omega
    subst this
    exact fin ρ j
theorem valD_none {kds : List (Key × D)} {k : Key} (h : ∀ kv, kv ∈ kds → kv.1 ≠ k) : valD kds k = none := by
  unfold valD
  rw [List.find?_eq_none.mpr fun kv hkv => by simpa using h kv hkv] <;> rfl
theorem putD_new {kds : List (Key × D)} {k : Key} {d : D} (h : ∀ kv, kv ∈ kds → kv.1 ≠ k) : putD kds k d = kds ++ [(k, d)] := by
  unfold putD
  rw [if_neg]
  rw [List.any_eq_true]
  rintro ⟨kv, h1, h2⟩
  exact h kv h1 (of_decide_eq_true h2)
/-- a dict comprehension whose keys are unlike -/
theorem dcL_new {α : Type} {g : DTG} {tk tv : DTE} {vs : List Nat} {Q : DQ} (J : Rho → Prop) (inj : α → D) (kf : α → Key) (vf : α → D)
    (step : ∀ (x : α) ρ, J ρ → ∀ (K1 : Res → Res → Rho → Prop), (∀ r1 r2 ρ5, keyOf (fz r1) = some (kf x) → fz r2 = vf x → J (dwipe ρ5 vs) → K1 r1 r2 ρ5) → g (inj x) ρ fun ρ2 => tk ρ2 fun r1 ρ4 => tv ρ4 fun r2 ρ5 => K1 r1 r2 ρ5) :
    ∀ (xs : List α) (acc : List (Key × D)) (ρ : Rho), acc.length + xs.length ≤ 1000000 → (acc.map (·.1) ++ xs.map kf).Nodup → J ρ → (∀ ρ', J ρ' → Q (.ow (.dct (acc ++ xs.map fun x => (kf x, vf x)))) ρ') → dDcL g dYes tk tv vs Q (xs.map inj) acc ρ
  | [], acc, ρ, _, _, j, q => by
    have := q ρ j
    simp only [List.map_nil, List.append_nil] at this
    exact this
  | x :: xs, acc, ρ, hl, nd, j, q => by
    rw [List.length_cons] at hl
    have hz : (1000000 : Nat) < sizeLine := by decide
    refine step x ρ j _ (fun r1 r2 ρ5 e1 e2 j5 => ⟨kf x, e1, by omega, ?_⟩)
    have fresh : ∀ kv, kv ∈ acc → kv.1 ≠ kf x := fun kv hkv e => by
      rw [List.nodup_append] at nd
      exact nd.2.2 kv.1 (List.mem_map_of_mem hkv) (kf x) (by simp) e
    rw [putD_new fresh, e2]
    refine dcL_new J inj kf vf step xs _ _ (by rw [List.length_append]; show acc.length + 1 + xs.length ≤ _; omega) ?_ j5 fun ρ' j' => ?_
    · rw [List.map_append]
      simpa using nd
    · have := q ρ' j'
      rw [List.map_cons] at this
      rw [List.append_assoc]
      exact this
def enumL {α : Type} : Nat → List α → List (Nat × α)
  | _, [] => []
  | n, x :: xs => (n, x) :: enumL (n + 1) xs
theorem enumD_map {α : Type} {f : α → D} : ∀ {xs : List α} {n : Nat}, enumD n (xs.map f) = (enumL n xs).map fun p => .tup [.int (p.1 : Nat), f p.2]
  | [], _ => rfl
  | x :: xs, n => by simp only [List.map_cons, enumD, enumL, enumD_map (xs := xs) (n := n + 1)]
theorem enumL_snd {α : Type} : ∀ {xs : List α} {n : Nat}, (enumL n xs).map (·.2) = xs
  | [], _ => rfl
  | x :: xs, n => by simp only [List.map_cons, enumL, enumL_snd (xs := xs) (n := n + 1)]
section
variable {K : PySem.W.Frag} {C : Nm} {XD : DX} {ds : List D} {QD : Res → Prop}
theorem pure_wrong_people (h : sp_wrong_people C ds QD XD) : t_wrong_people K C XD { nx := fun _ => QD (.v .non), rt := QD } (startN 5 ds) := by
  obtain ⟨ps, rfl, hw, q⟩ := h
  unfold t_wrong_people
  walk_at "ev"
  rw [enumD_map]
  refine loop_inv (fun p : Nat × Pn => D.tup [.int (p.1 : Nat), pD p.2]) (fun rest ρ => ∃ (seen : List Pn) (a b d : Sl), ρ = [Sl.d (.lst (ps.map pD)), Sl.o (.dct (seen.map fun p => (.inr p.1, .bl true))), a, b, d] ∧ seen ++ rest.map (·.2) = ps) ?_ ?_ _ _ ⟨[], _, _, _, rfl, by rw [enumL_snd]; rfl⟩
  · rintro ⟨k, p⟩ rest ρ ⟨seen, a, b, d, rfl, e⟩ E' h1 h2 h3 h4
    walk_at "ev"
    have hp : p ∈ ps := by rw [← e]; simp
    have nd := hw.nd
    rw [← e] at nd
    simp only [List.map_cons, List.map_append] at nd
    have fresh : ∀ kv, kv ∈ (seen.map fun p : Pn => ((.inr p.1, .bl true) : Key × D)) → kv.1 ≠ .inr p.1 := fun kv hkv z => by
      obtain ⟨s, hs, rfl⟩ := List.mem_map.mp hkv
      rw [List.nodup_append] at nd
      exact nd.2.2 s.1 (List.mem_map_of_mem hs) p.1 (by simp) (Sum.inr.inj z)
    refine ⟨p, _, rfl, hw.word p hp, valD_none fresh, hw.voice p hp, rfl, ?_⟩
    walk_at "ev"
    refine ⟨_, rfl, small' (m := 60) ?_, ?_⟩
    · have := hw.few
      rw [← e] at this
      simp only [List.length_append, List.length_map] at this ⊢
      omega
    · rw [putD_new fresh]
      exact h1 _ ⟨seen ++ [p], _, _, _, by rw [List.map_append]; rfl, by rw [← e]; simp⟩
  · rintro ρ ⟨seen, a, b, d, rfl, e⟩
    walk_at "ev"
    exact q
theorem pure_Standing_init {y : Addr} (h : sp_Standing C ds QD XD) : t_Standing_init K C XD { nx := fun ρ => ∃ fs, ρ[0]? = some (Sl.o (.me y (.ins (C "Standing") fs))) ∧ QD (.v (.ins (C "Standing") fs)), rt := fun _ => False } (Sl.o (.me y (.ins (C "Standing") [])) :: startN 3 ds) := by
  obtain ⟨ps, rfl, hw, q⟩ := h
  unfold t_Standing_init
  walk_at "ev"
  refine ⟨ps, rfl, hw, ?_⟩
  walk_at "ev"
  refine dcL_new (fun ρ => ρ = [Sl.o (.me y (.ins (C "Standing") [])), Sl.d (.lst (ps.map pD)), Sl.d .non, Sl.un]) pD (fun p => .inr p.1) pD ?_ ps [] _ (by have := hw.few; simp only [List.length_nil]; omega) ?_ rfl ?_
  · rintro p ρ rfl K1 h1
    walk_at "ev"
    exact h1 _ _ _ rfl rfl rfl
  · rw [List.map_nil, List.nil_append]
    have := hw.nd
    rw [List.nodup_iff_pairwise_ne, List.pairwise_map] at this ⊢
    exact this.imp fun h z => h (Sum.inr.inj z)
  · rintro ρ rfl
    walk_at "ev"
    exact ⟨y, [], rfl, by decide, _, rfl, q⟩
end
def sp_l_pick (C : Nm) : DSp := fun ds Q X => ∃ n : Int, ds = [.src, .int n] ∧ n < 2 ^ 200 ∧ ∀ k : Int, 0 ≤ k → (k < n ∨ k = 0) → Q (.v (.int k))
def sp_l_of (C : Nm) : DSp := fun ds Q X => ∃ xs : List D, ds = [.src, .lst xs] ∧ 0 < xs.length ∧ xs.length ≤ 1000000 ∧ ∀ d, d ∈ xs → Q (.v d)
def t_l_pick (K : PySem.W.Frag) (C : Nm) (XD : DX) : DTS := (dSeq (dFeed 0 1)
      (dSeq (dSet 2 (dSrcG 0 limL))
      (dSeq (dIfS (dOr (dTst (dOp dLt (dVar 1) (dC (.int 2)))) (dTst (dOp dGt (dVar 2) (dC (.int 1))))) (dSeq (dSrcP 0 limL (dOp dFdv (dVar 2) (dCB dMax2 (dCons (dC (.int 1)) (dCons (dVar 1) dNil)))))
      (dRet (dOp dMod (dCB dInt1 (dCons (dVar 2) dNil)) (dCB dMax2 (dCons (dC (.int 1)) (dCons (dVar 1) dNil)))))) dNext)
      (dSeq (dSrcP 0 limL (dOp dAdd (dSrcG 0 limL) (dC (.int 1))))
      (dSeq (dSet 3 (dOp dMod (dCB dInt1 (dCons (dOp dAdd (dSrcG 0 limM) (dOp dMul (dSrcG 0 limL) (dC (.int 104729)))) dNil)) (dC (.int 998244353))))
      (dSeq (dSet 3 (dOp dMod (dCB dInt1 (dCons (dOp dAdd (dOp dMul (dVar 3) (dVar 3)) (dOp dMul (dSrcG 0 limL) (dC (.int 17)))) dNil)) (dC (.int 2147483647))))
      (dSeq (dSrcP 0 limM (dVar 3))
      (dRet (dOp dMod (dCB dInt1 (dCons (dOp dFdv (dVar 3) (dC (.int 16))) dNil)) (dVar 1))))))))))
def t_l_of (K : PySem.W.Frag) (C : Nm) (XD : DX) : DTS := (dRet (dOp dIx (dVar 1) (dCall (sp_l_pick C) XD (dCons (dVar 0) (dCons (dCB dLen (dCons (dVar 1) dNil)) dNil)))))
section
variable {K : PySem.W.Frag} {C : Nm} {XD : DX} {ds : List D} {QD : Res → Prop}
theorem pure_l_pick (h : sp_l_pick C ds QD XD) : t_l_pick K C XD { nx := fun _ => QD (.v .non), rt := QD } (startN 4 ds) := by
  obtain ⟨n, rfl, hn, q⟩ := h
  unfold t_l_pick
  walk_at "ev"
  refine ⟨rfl, ⟨n, rfl⟩, ?_⟩
  walk_at "ev"
  refine ⟨rfl, fun l l0 _ => ?_⟩
  walk_at "ev"
  have em : ∀ m : Int, (if n > 1 then n else 1) = m → 0 < m ∧ m < 2 ^ 200 ∧ (m = n ∨ (m = 1 ∧ n ≤ 1)) := fun m e => by
    split at e <;> omega
  generalize hm : (if n > 1 then n else 1) = m
  obtain ⟨m0, m1, m2⟩ := em m hm
  have div : CDivW l m := wide_div (b := 200) m0 (by omega) (by decide) (by decide)
  have rest : ∀ E : DEnds, E.rt = QD → (dSeq (dSrcP 0 limL (dOp dFdv (dVar 2) (dCB dMax2 (dCons (dC (D.int 1)) (dCons (dVar 1) dNil))))) (dRet (dOp dMod (dCB dInt1 (dCons (dVar 2) dNil)) (dCB dMax2 (dCons (dC (D.int 1)) (dCons (dVar 1) dNil)))))) E [Sl.d D.src, Sl.d (D.int n), Sl.d (D.int l), Sl.un] := fun E e => by
    walk_at "ev"
    unfold dSrcP
    walk_at "ev"
    rw [hm, e]
    refine ⟨div, Int.ediv_nonneg l0 (Int.le_of_lt m0), trivial, m0, q _ (Int.emod_nonneg _ (Int.ne_of_gt m0)) ?_⟩
    have := Int.emod_lt_of_pos l m0
    have := Int.emod_nonneg l (Int.ne_of_gt m0)
    omega
  by_cases h1 : n < 2
  · rw [decide_eq_true h1]
    walk_at "ev"
    exact rest _ rfl
  · rw [decide_eq_false h1]
    walk_at "ev"
    by_cases h2 : 1 < l
    · rw [decide_eq_true h2]
      walk_at "ev"
      exact rest _ rfl
    · rw [decide_eq_false h2]
      walk_at "ev"
      refine ⟨rfl, fun t t0 _ => ?_⟩
      walk_at "ev"
      refine ⟨by omega, trivial, rfl, fun x x0 xl => ?_⟩
      walk_at "ev"
      refine ⟨rfl, fun t' t0' _ => ?_⟩
      walk_at "ev"
      refine ⟨.inl (.inr ⟨by decide, by decide⟩), ?_⟩
      generalize hy : (x + t' * 104729) % 998244353 = y
      have y0 : 0 ≤ y := by rw [← hy]; exact Int.emod_nonneg _ (by decide)
      have y1 : y < 998244353 := by rw [← hy]; exact Int.emod_lt_of_pos _ (by decide)
      refine ⟨.inl (.inr ⟨by omega, by omega⟩), rfl, fun t2 _ _ => ?_⟩
      walk_at "ev"
      refine ⟨.inl (.inr ⟨by decide, by decide⟩), ?_⟩
      generalize hz : (y * y + t2 * 17) % 2147483647 = z
      have z0 : 0 ≤ z := by rw [← hz]; exact Int.emod_nonneg _ (by decide)
      have z1 : z < 2147483647 := by rw [← hz]; exact Int.emod_lt_of_pos _ (by decide)
      unfold dSrcP
      walk_at "ev"
      have n0 : 0 < n := by omega
      refine ⟨z0, (show z < 4294967296 by omega), wide_div (b := 5) (by decide) (by decide) (by decide) (by decide), n0, q _ (Int.emod_nonneg _ (Int.ne_of_gt n0)) (.inl (Int.emod_lt_of_pos _ n0))⟩
theorem pure_l_of (h : sp_l_of C ds QD XD) : t_l_of K C XD { nx := fun _ => QD (.v .non), rt := QD } (startN 2 ds) := by
  obtain ⟨xs, rfl, h0, hn, q⟩ := h
  unfold t_l_of
  walk_at "ev"
  refine ⟨xs.length, rfl, by omega, fun k k0 k1 => ?_⟩
  walk_at "ev"
  have k2 : k.toNat < xs.length := by omega
  refine ⟨xs[k.toNat], ?_, q _ (List.getElem_mem k2)⟩
  have := atI_nat (xs := xs) (j := k.toNat) (v := xs[k.toNat]) (List.getElem?_eq_getElem k2)
  rwa [Int.toNat_of_nonneg k0] at this
end
end L2.DL
set_option Elab.async false
set_option linter.all false
set_option autoImplicit false
set_option maxRecDepth 100000
set_option maxHeartbeats 2000000
namespace L2.DL
open PySem PySem.Spec PyProof.Rows
def strC (z : Str) : Bool := z.cps.toList.all fun c => decide (c < 0x110000)
structure Sh (n w : Nat) (d : D) : Prop where
  pl : plain d = true
  lay : (py d).canLay0 = true
  lv : (py d).leavesShort 50 = true
  sho : (py d).showable = true
  dep : (py d).depth ≤ n
  wt : (py d).weight ≤ w
structure Shs (n w : Nat) (ds : List D) : Prop where
  pl : plains ds = true
  lay : PyData.canLayAll0 (pys ds) = true
  lv : PyData.leavesShortAll 50 (pys ds) = true
  sho : PyData.showableAll (pys ds) = true
  dep : PyData.depthAll (pys ds) ≤ n
  wt : PyData.weightAll (pys ds) ≤ w
section
variable {n w n' w' : Nat} {d : D} {ds : List D}
theorem Sh.mono (h : Sh n w d) (hn : n ≤ n') (hw : w ≤ w') : Sh n' w' d := ⟨h.pl, h.lay, h.lv, h.sho, Nat.le_trans h.dep hn, Nat.le_trans h.wt hw⟩
theorem Shs.mono (h : Shs n w ds) (hn : n ≤ n') (hw : w ≤ w') : Shs n' w' ds := ⟨h.pl, h.lay, h.lv, h.sho, Nat.le_trans h.dep hn, Nat.le_trans h.wt hw⟩
theorem Sh.non : Sh 0 0 .non := ⟨rfl, rfl, rfl, rfl, by simp only [py, PyData.depth]; omega, by simp only [py, PyData.weight]; omega⟩
theorem Sh.bl {b : Bool} : Sh 0 0 (.bl b) := ⟨rfl, rfl, rfl, rfl, by simp only [py, PyData.depth]; omega, by simp only [py, PyData.weight]; omega⟩
theorem Sh.int {i : Int} (h : i.natAbs < 10 ^ 45) : Sh 0 150 (.int i) := by
  have lg : i.natAbs ≠ 0 → i.natAbs.log2 < 150 := fun z => (Nat.log2_lt z).mpr (Nat.lt_trans h (by decide))
  refine ⟨rfl, rfl, ?_, ?_, by simp only [py, PyData.depth]; omega, ?_⟩
  · simp only [py, PyData.leavesShort, decide_eq_true_eq]
    have e := int_text_length_le10 (k := 45) (by decide) h
    show (Str.ofString (toString i)).length ≤ 50
    rw [PySem.ofString_length]
    omega
  · simp only [py, PyData.showable, decide_eq_true_eq]
    by_cases z : i.natAbs = 0
    · rw [z]; decide
    · have := lg z; omega
  · simp only [py, PyData.weight]
    split
    · omega
    · rename_i z
      have : i.natAbs ≠ 0 := fun y => z (by have : i = 0 := by omega
                                            subst this; rfl)
      have := lg this
      omega
theorem Sh.str {z : Str} (h : strC z = true) (hl : z.length ≤ w) : Sh 0 w (.str z) := by
  have h' : ∀ c ∈ z.cps.toList, c < 0x110000 := by simpa only [strC, List.all_eq_true, decide_eq_true_eq] using h
  refine ⟨rfl, ?_, ?_, rfl, by simp only [py, PyData.depth]; omega, hl⟩
  · simp only [py, PyData.canLay0, PyData.strOk]
    rw [Array.all_eq_true_iff_forall_mem]
    intro c hc
    exact decide_eq_true (h' c (Array.mem_toList_iff.mpr hc))
  · simp only [py, PyData.leavesShort, List.all_eq_true, decide_eq_true_eq]
    intro c hc
    have := h' c hc
    have e : (16 : Nat) ^ 8 = 4294967296 := by decide
    omega
theorem Shs.nil : Shs 0 0 [] := ⟨rfl, rfl, rfl, rfl, by simp only [pys, PyData.depthAll]; omega, by simp only [pys, PyData.weightAll]; omega⟩
theorem Shs.cons (h : Sh n w d) (t : Shs n w' ds) : Shs n (w + 1 + w') (d :: ds) :=
  ⟨by simp only [plains, h.pl, t.pl, Bool.and_self], by simp only [pys, PyData.canLayAll0, h.lay, t.lay, Bool.and_self], by simp only [pys, PyData.leavesShortAll, h.lv, t.lv, Bool.and_self], by simp only [pys, PyData.showableAll, h.sho, t.sho, Bool.and_self],
   by simp only [pys, PyData.depthAll]; have := h.dep; have := t.dep; omega, by simp only [pys, PyData.weightAll]; have := h.wt; have := t.wt; omega⟩
theorem Shs.map {α : Type} {f : α → D} : ∀ {l : List α}, (∀ x, x ∈ l → Sh n w (f x)) → Shs n (l.length * (w + 1)) (l.map f)
  | [], _ => Shs.nil.mono (Nat.zero_le _) (Nat.zero_le _)
  | x :: l, h => by
    have := Shs.cons (h x List.mem_cons_self) (Shs.map (l := l) fun y hy => h y (List.mem_cons_of_mem _ hy))
    refine this.mono (Nat.le_refl _) ?_
    rw [List.length_cons, Nat.add_mul, Nat.one_mul, Nat.add_comm]
    exact Nat.le_refl _
theorem Shs.lst (h : Shs n w ds) : Sh (n + 1) w (.lst ds) :=
  ⟨by simp only [plain]; exact h.pl, by simp only [py, PyData.canLay0]; exact h.lay, by simp only [py, PyData.leavesShort]; exact h.lv, by simp only [py, PyData.showable]; exact h.sho, by simp only [py, PyData.depth]; have := h.dep; omega, by simp only [py, PyData.weight]; exact h.wt⟩
theorem Shs.tup (h : Shs n w ds) : Sh (n + 1) w (.tup ds) :=
  ⟨by simp only [plain]; exact h.pl, by simp only [py, PyData.canLay0]; exact h.lay, by simp only [py, PyData.leavesShort]; exact h.lv, by simp only [py, PyData.showable]; exact h.sho, by simp only [py, PyData.depth]; have := h.dep; omega, by simp only [py, PyData.weight]; exact h.wt⟩
theorem Sh.show (h : Sh n w d) (hn : n ≤ 60 := by decide) (hw : w ≤ 300000 := by decide) : ShowOk d := by
  refine ⟨h.pl, h.sho, PyData.hasDict_of_canLay _ h.lay, Nat.le_trans h.dep hn, ?_⟩
  have := PyData.shown_le 50 (by decide) _ h.lv
  have := h.wt
  rw [sizeL]
  omega
theorem Sh.shaped (h : Sh n w d) (hn : n ≤ 60) : SeqAt.shaped (py d) = true := by
  unfold SeqAt.shaped
  rw [h.lay, decide_eq_true (Nat.le_trans h.dep (Nat.le_trans hn (by decide)))]
  rfl
end
theorem eqOk {n w m v : Nat} {a b : D} (h : Sh n w a) (k : Sh m v b) (hn : n ≤ 60 := by decide) (hm : m ≤ 60 := by decide) : EqOk a b := ⟨h.pl, k.pl, h.shaped hn, k.shaped hm⟩
end L2.DL
set_option Elab.async false
set_option linter.all false
set_option autoImplicit false
set_option maxRecDepth 100000
set_option maxHeartbeats 2000000
namespace L2.DL
open PySem PySem.Spec PyProof.Rows
local macro_rules | `(tactic| walk_at "ev") => `(tactic| simp only [dSeq, dNext, dSet, dPar, dPar3, dRet, dRetN, dDrop, dIfS, dBrk, dCnt, dApp, dFor, dItL, dItT, dRng1, dRng2, dZip, dEnum, dItS, dAsg, dAugI, dNever, dPutS, dNewD, dFldM, dFldS, dStar,
  dgName, dgTup, dgCons, dgNil, dOp, dUn, dC, dNil, dCons, dCB, dTup, dLst, dIf, dTst, dTru, dAnd, dOr, dNot, dAndV, dOrV, dNotV, dYes, dInR, dFld, dMeth, dCall, dDctIx, dGet2, dRaise, dRaiseZ, dDisp, dPNil, dPCons, dRepD, dTold, dLenSet, hid_u, hid_d, hid_o, dStep2, dSlV, dIxV, dSetV, dPopV, dLenV, dLcV, lstAt, Option.isSome_some, Option.isSome_none, dSl, dNoP, dPart, dLc, dDc, dSortSet, dSortSc, dListVals, dChain, dIsiT2, dCallB, dBor, dNilB, dCBB, dOneL,
  dIsN, dNotN, dStrI, dAbs, dIn, fz_v, fz_l, fz_d, fz_i, fz_m, un_l, un_d, un_i, un_m, sl_v, sl_o, dwipe, and_assoc, insLF, insLT, insFF, insFT, startD, startN, pdT, pdI, gdT, prT, stI, putFD, lendable, noKR, noK, noKs,
  vd0, vo0, rd0, ro0, vd1, vo1, rd1, ro1, vd2, vo2, rd2, ro2, vd3, vo3, rd3, ro3, vd4, vo4, rd4, ro4, vd5, vo5, rd5, ro5, vd6, vo6, rd6, ro6, vd7, vo7, rd7, ro7, vd8, vo8, rd8, ro8, vd9, vo9, rd9, ro9, vd10, vo10, rd10, ro10, vd11, vo11, rd11, ro11, vd12, vo12, rd12, ro12, vd13, vo13, rd13, ro13, vd14, vo14, rd14, ro14, vd15, vo15, rd15, ro15, vd16, vo16, rd16, ro16, vd17, vo17, rd17, ro17, vd18, vo18, rd18, ro18, vd19, vo19, rd19, ro19, vd20, vo20, rd20, ro20, vd21, vo21, rd21, ro21, vd22, vo22, rd22, ro22, vd23, vo23, rd23, ro23, lk_people, lk_names, lk_has_name, lk_person, lk_place, lk_voice, lk_places, lk_at, lk_line, lk_voices, lk_is_together, lk_own, lenL, lenT, lenS, ixL, ixT, ixS, dcutL, dcutS, addII, addSS, addLL, int1i, int1b, negI, reprL, reprT, absI, sc_n, sc_b, sc_i, sc_s, subI, mulI, fdvI, modI, powI, ltI, leI, gtI, geI, tr_n, tr_b, tr_i, tr_l, tr_t, tr_d, ty_n, ty_b, ty_i, ty_s, ty_l, ty_t, ty_d, in_n, in_b, in_i, in_s, in_l, in_t, in_d, eqII, neII, eqSS, neSS, eqBB, neBB, isic_n, isic_b, isic_i, isic_s, isic_l, isic_t, isic_d, isio_n, isio_b, isio_i, isio_s, isio_l, isio_t, isio_d, isic_I, isic_S, isic_T, isic_L, isic_B, isio_I, dIsiO, isi_ii, isi_ib, isi_is, isi_il, isi_bi, isi_bb, isi_bs, isi_si, isi_sb, isi_ss, isi_ni, isi_nb, isi_ns, isi_li, isi_lb, isi_ls, isi_ll, isi_ti, isi_tb, isi_ts, isi_tt, isi_di, isi_db, isi_ds, isi_lt, isi_tl, isi_bt, isi_nt, isi_dt, eqLL, neLL, eqTT, neTT, isi_sl, isi_st, isi_it, kit_ll, kit_lt, max2, min2, get1, get2b, get3b, get3c,
  List.map_cons, List.map_nil, List.length_cons, List.length_nil, List.replicate, List.append_nil, List.cons_append, List.nil_append, List.getElem?_cons_zero, List.getElem?_cons_succ, List.set_cons_zero, List.set_cons_succ, List.getElem?_nil, Nat.sub_zero, Nat.reduceAdd, Nat.reduceSub, Int.reduceLT, Int.reduceLE, Int.reduceNeg, Nat.zero_add,
  true_and, and_true, eq_self, Bool.true_or, Bool.or_true, Bool.false_or, Bool.or_false, Bool.true_and, Bool.and_true, Bool.false_and, Bool.and_false, exists_eq_left, exists_eq_left', exists_eq', exists_eq, Option.some.injEq, Res.v.injEq, D.bl.injEq, D.int.injEq, D.str.injEq, D.lst.injEq, D.tup.injEq, D.dct.injEq, D.ins.injEq, Sl.o.injEq, Sl.d.injEq, List.cons.injEq, reduceCtorEq, false_or, or_false, if_true, if_false, Bool.false_eq_true, Bool.not_true, Bool.not_false, ite_true, ite_false, decide_true, decide_false, and_self, List.isEmpty_nil, List.isEmpty_cons, exists_and_left, exists_const, lenNil])
def dgL (m : Int) : List Nat := [48 + (m / 10).toNat, 48 + (m % 10).toNat]
def tailOk (l : List Nat) : Prop := l = [] ∨ l = [107] ∨ l = List.replicate 9 107
def NameAt (s : Int) (k : Nat) (z : Str) : Prop := ∃ c tl, z.cps.toList = c :: (dgL ((s + 37 * (k : Int)) % 100) ++ tl) ∧ isLet c = true ∧ tailOk tl
def NameOk (z : Str) : Prop := ∃ c a b tl, z.cps.toList = c :: a :: b :: tl ∧ isLet c = true ∧ isFig a = true ∧ isFig b = true ∧ tailOk tl
theorem NameAt.ok {s : Int} {k : Nat} {z : Str} (h : NameAt s k z) : NameOk z := by
  obtain ⟨c, tl, e, hc, ht⟩ := h
  have m0 := Int.emod_nonneg (s + 37 * (k : Int)) (show (100 : Int) ≠ 0 by decide)
  have m1 := Int.emod_lt_of_pos (s + 37 * (k : Int)) (show (0 : Int) < 100 by decide)
  refine ⟨c, _, _, tl, e, hc, ?_, ?_, ht⟩
  · rw [isFig_eq]; exact decide_eq_true (by omega)
  · rw [isFig_eq]; exact decide_eq_true (by omega)
theorem NameAt.ne {s : Int} {i j : Nat} {y z : Str} (h : NameAt s i y) (k : NameAt s j z) (hij : i < j) (hj : j < 100) : y ≠ z := by
  rintro rfl
  obtain ⟨c, tl, e, _⟩ := h
  obtain ⟨c', tl', e', _⟩ := k
  rw [e] at e'
  simp only [dgL, List.cons_append, List.cons.injEq, List.nil_append] at e'
  omega
theorem NameOk.word {z : Str} (h : NameOk z) : isWord z = true := by
  obtain ⟨c, a, b, tl, e, hc, ha, hb, ht⟩ := h
  unfold isWord isWordL
  rw [e]
  simp only [hc, List.all_cons, ha, hb, Bool.or_true, Bool.true_or, Bool.true_and, List.length_cons]
  rcases ht with rfl | rfl | rfl
  · rfl
  · rw [show ([107] : List Nat).all (fun c => isLet c || isFig c) = true by decide +kernel]; rfl
  · rw [show (List.replicate 9 107).all (fun c => isLet c || isFig c) = true by decide +kernel]; rfl
theorem let_at {k : Int} (h0 : 0 ≤ k) (h1 : k < 26) : atI ("abcdefghijklmnopqrstuvwxyz" : Str).cps.toList k = some (97 + k.toNat) ∧ isLet (97 + k.toNat) = true := by
  have key : ∀ i : Fin 26, ("abcdefghijklmnopqrstuvwxyz" : Str).cps.toList[i.val]? = some (97 + i.val) := by decide +kernel
  have hk : k.toNat < 26 := by omega
  have := atI_nat (key ⟨k.toNat, hk⟩)
  rw [Int.toNat_of_nonneg h0] at this
  exact ⟨this, by rw [isLet_eq]; exact decide_eq_true (by omega)⟩
theorem dig_text {m : Int} (h0 : 0 ≤ m) (h1 : m < 100) : (cutS (Str.ofString (toString (100 + m))) (some 1) none).cps.toList = dgL m := by
  have key : ∀ i : Fin 100, (cutS (Str.ofString (toString (100 + (i.val : Int)))) (some 1) none).cps.toList = dgL (i.val : Int) := by decide +kernel
  have hk : m.toNat < 100 := by omega
  have := key ⟨m.toNat, hk⟩
  simp only [Int.toNat_of_nonneg h0] at this
  exact this
theorem str_app {x y : Str} : (x ++ y).cps.toList = x.cps.toList ++ y.cps.toList := by
  show (x.cps ++ y.cps).toList = _
  rw [Array.toList_append]
theorem str_len {x : Str} : x.length = x.cps.toList.length := rfl
def sp_l_names (C : Nm) : DSp := fun ds Q X => ∃ n : Int, ds = [.src, .int n] ∧ 0 ≤ n ∧ n < 100 ∧ ∀ zs : List Str, zs.length = n.toNat → (∀ z, z ∈ zs → NameOk z) → zs.Nodup → Q (.own (zs.map .str))
def t_l_names (K : PySem.W.Frag) (C : Nm) (XD : DX) : DTS := (dSeq (dPar3 2 3 4 (dCall (sp_l_pick C) XD (dCons (dVar 0) (dCons (dC (.int 100)) dNil))) (dLst dNil) (dLst (dCons (dC (.str ("" : Str))) (dCons (dC (.str ("" : Str))) (dCons (dC (.str ("" : Str))) (dCons (dC (.str ("k" : Str))) (dCons (dC (.str ("kkkkkkkkk" : Str))) dNil)))))))
      (dSeq (dFor (dRng1 (dCons (dVar 1) dNil)) (dgName 5) (dSeq (dSet 6 (dOp dIx (dC (.str ("abcdefghijklmnopqrstuvwxyz" : Str))) (dCall (sp_l_pick C) XD (dCons (dVar 0) (dCons (dC (.int 26)) dNil)))))
      (dApp 3 (dOp dAdd (dOp dAdd (dVar 6) (dSl (dCB dStrI (dCons (dOp dAdd (dC (.int 100)) (dOp dMod (dCB dInt1 (dCons (dOp dAdd (dVar 2) (dOp dMul (dC (.int 37)) (dVar 5))) dNil)) (dC (.int 100)))) dNil)) (dPart (dC (.int 1))) dNoP)) (dOp dIx (dVar 4) (dCall (sp_l_pick C) XD (dCons (dVar 0) (dCons (dC (.int 5)) dNil))))))))
      (dRetVar 3)))
section
variable {K : PySem.W.Frag} {C : Nm} {XD : DX} {ds : List D} {QD : Res → Prop}
theorem pure_l_names (h : sp_l_names C ds QD XD) : t_l_names K C XD { nx := fun _ => QD (.v .non), rt := QD } (startN 7 ds) := by
  obtain ⟨n, rfl, hn0, hn, q⟩ := h
  unfold t_l_names
  walk_at "ev"
  refine ⟨100, rfl, by decide, fun s s0 s1 => ?_⟩
  walk_at "ev"
  refine ⟨by decide, by omega, by omega, ?_⟩
  refine loop_rng 0 n.toNat (fun k ρ => ∃ (zs : List Str) (tl a b : Sl), ρ = [Sl.d .src, Sl.d (.int n), Sl.d (.int s), Sl.o (.lst (zs.map .str)), tl, a, b] ∧ (tl = Sl.o (.lst [.str ("" : Str), .str ("" : Str), .str ("" : Str), .str ("k" : Str), .str ("kkkkkkkkk" : Str)]) ∨ tl = Sl.d (.lst [.str ("" : Str), .str ("" : Str), .str ("" : Str), .str ("k" : Str), .str ("kkkkkkkkk" : Str)])) ∧
    zs.length = k ∧ (∀ (i : Nat) z, zs[i]? = some z → NameAt s i z)) ?_ ?_ _ ⟨[], _, _, _, rfl, .inl rfl, rfl, fun i z e => by simp at e⟩
  · rintro k ρ hk ⟨zs, tl, a, b, rfl, htl, hl, hz⟩ E' h1 h2 h3 h4
    walk_at "ev"
    refine ⟨26, rfl, by decide, fun j j0 j1 => ?_⟩
    walk_at "ev"
    obtain ⟨hj, hlet⟩ := let_at j0 (by omega)
    refine ⟨by decide, _, hj, ?_⟩
    generalize hm : (s + 37 * (0 + (k : Int))) % 100 = m
    have m0 : 0 ≤ m := by rw [← hm]; exact Int.emod_nonneg _ (by decide)
    have m1 : m < 100 := by rw [← hm]; exact Int.emod_lt_of_pos _ (by decide)
    have hm2 : (s + 37 * (k : Int)) % 100 = m := by rw [← hm, Int.zero_add]
    have tlen : (Str.ofString (toString (100 + m))).length ≤ 4 := by
      rw [PySem.ofString_length]
      exact int_text_length_le10 (k := 3) (by decide) (by omega)
    have dig := dig_text m0 m1
    generalize hx : cutS (Str.ofString (toString (100 + m))) (some 1) none = x at dig
    have xlen : x.length = 2 := by rw [str_len, dig]; rfl
    refine ⟨.inl (.inl ⟨by decide, by decide⟩), ?_, small (m := 4) tlen, by rw [xlen]; exact (show 1 + 2 ≤ sizeLine by decide), ?_⟩
    · have : (100 + m).natAbs ≠ 0 := by omega
      exact Nat.lt_trans ((Nat.log2_lt this).mpr (show (100 + m).natAbs < 2 ^ 8 by omega)) (by decide)
    have fin : ∀ (u : Sl) (tt : Str), tailOk tt.cps.toList → (tl = u ∨ True) → (u = Sl.d (.lst [.str ("" : Str), .str ("" : Str), .str ("" : Str), .str ("k" : Str), .str ("kkkkkkkkk" : Str)])) →
        ({ cps := #[97 + j.toNat] } ++ x : Str).length + tt.length ≤ sizeLine ∧ (zs.map D.str).length < sizeLine ∧ E'.nx [Sl.d .src, Sl.d (.int n), Sl.d (.int s), Sl.o (.lst (zs.map .str ++ [.str ({ cps := #[97 + j.toNat] } ++ x ++ tt)])), u, Sl.d (.int (0 + (k : Int))), Sl.d (.str ⟨#[97 + j.toNat]⟩)] := fun u tt htt _ hu => by
      have e1 : ({ cps := #[97 + j.toNat] } ++ x : Str).cps.toList = (97 + j.toNat) :: dgL m := by rw [str_app, dig]; rfl
      have tlen2 : tt.cps.toList.length ≤ 9 := by rcases htt with h | h | h <;> rw [h] <;> decide
      refine ⟨?_, small' (m := 100) (by rw [List.length_map]; omega), h1 _ ⟨zs ++ [{ cps := #[97 + j.toNat] } ++ x ++ tt], u, _, _, by rw [List.map_append]; rfl, .inr hu, by rw [List.length_append, hl]; rfl, fun i z hi => ?_⟩⟩
      · rw [str_len, e1, str_len]
        simp only [List.length_cons, dgL, List.length_nil]
        exact small (m := 12) (by omega)
      · by_cases hi2 : i < zs.length
        · rw [List.getElem?_append_left hi2] at hi
          exact hz i z hi
        · rw [List.getElem?_append_right (by omega)] at hi
          have hi3 : i - zs.length = 0 := by
            have := (List.getElem?_eq_some_iff.mp hi).1
            simp only [List.length_singleton] at this
            omega
          rw [hi3] at hi
          cases hi
          have : i = k := by omega
          subst this
          exact ⟨97 + j.toNat, tt.cps.toList, by rw [str_app, e1, hm2]; rfl, hlet, htt⟩
    rcases htl with rfl | rfl
    all_goals
      walk_at "ev"
      refine ⟨5, rfl, by decide, fun i i0 i1 => ?_⟩
      walk_at "ev"
      rcases (show i = 0 ∨ i = 1 ∨ i = 2 ∨ i = 3 ∨ i = 4 by omega) with rfl | rfl | rfl | rfl | rfl
      · exact ⟨_, rfl, by walk_at "ev"; exact fin _ _ (.inl rfl) (.inr trivial) rfl⟩
      · exact ⟨_, rfl, by walk_at "ev"; exact fin _ _ (.inl rfl) (.inr trivial) rfl⟩
      · exact ⟨_, rfl, by walk_at "ev"; exact fin _ _ (.inl rfl) (.inr trivial) rfl⟩
      · exact ⟨_, rfl, by walk_at "ev"; exact fin _ _ (.inr (.inl rfl)) (.inr trivial) rfl⟩
      · exact ⟨_, rfl, by walk_at "ev"; exact fin _ _ (.inr (.inr (by decide +kernel))) (.inr trivial) rfl⟩
  · rintro ρ ⟨zs, tl, a, b, rfl, htl, hl, hz⟩
    walk_at "ev"
    refine q zs hl (fun z hz2 => ?_) ?_
    · obtain ⟨i, hi⟩ := List.getElem?_of_mem hz2
      exact (hz i z hi).ok
    · rw [List.nodup_iff_pairwise_ne, List.pairwise_iff_getElem]
      intro i j hi hj hij
      exact (hz i _ (List.getElem?_eq_getElem hi)).ne (hz j _ (List.getElem?_eq_getElem hj)) hij (by omega)
end
end L2.DL
set_option Elab.async false
set_option linter.all false
set_option autoImplicit false
set_option maxRecDepth 100000
set_option maxHeartbeats 2000000
namespace L2.DL
open PySem PySem.Spec PyProof.Rows
local macro_rules | `(tactic| walk_at "ev") => `(tactic| simp only [dSeq, dNext, dSet, dPar, dPar3, dRet, dRetN, dDrop, dIfS, dBrk, dCnt, dApp, dFor, dItL, dItT, dRng1, dRng2, dZip, dEnum, dItS, dAsg, dAugI, dNever, dPutS, dNewD, dFldM, dFldS, dStar,
  dgName, dgTup, dgCons, dgNil, dOp, dUn, dC, dNil, dCons, dCB, dTup, dLst, dIf, dTst, dTru, dAnd, dOr, dNot, dAndV, dOrV, dNotV, dYes, dInR, dFld, dMeth, dCall, dDctIx, dGet2, dRaise, dRaiseZ, dDisp, dPNil, dPCons, dRepD, dTold, dLenSet, hid_u, hid_d, hid_o, dStep2, dSlV, dIxV, dSetV, dPopV, dLenV, dLcV, lstAt, Option.isSome_some, Option.isSome_none, dSl, dNoP, dPart, dLc, dDc, dSortSet, dSortSc, dListVals, dChain, dIsiT2, dCallB, dBor, dNilB, dCBB, dOneL,
  dIsN, dNotN, dStrI, dAbs, dIn, fz_v, fz_l, fz_d, fz_i, fz_m, un_l, un_d, un_i, un_m, sl_v, sl_o, dwipe, and_assoc, insLF, insLT, insFF, insFT, startD, startN, pdT, pdI, gdT, prT, stI, putFD, lendable, noKR, noK, noKs,
  vd0, vo0, rd0, ro0, vd1, vo1, rd1, ro1, vd2, vo2, rd2, ro2, vd3, vo3, rd3, ro3, vd4, vo4, rd4, ro4, vd5, vo5, rd5, ro5, vd6, vo6, rd6, ro6, vd7, vo7, rd7, ro7, vd8, vo8, rd8, ro8, vd9, vo9, rd9, ro9, vd10, vo10, rd10, ro10, vd11, vo11, rd11, ro11, vd12, vo12, rd12, ro12, vd13, vo13, rd13, ro13, vd14, vo14, rd14, ro14, vd15, vo15, rd15, ro15, vd16, vo16, rd16, ro16, vd17, vo17, rd17, ro17, vd18, vo18, rd18, ro18, vd19, vo19, rd19, ro19, vd20, vo20, rd20, ro20, vd21, vo21, rd21, ro21, vd22, vo22, rd22, ro22, vd23, vo23, rd23, ro23, lk_people, lk_names, lk_has_name, lk_person, lk_place, lk_voice, lk_places, lk_at, lk_line, lk_voices, lk_is_together, lk_own, lenL, lenT, lenS, ixL, ixT, ixS, dcutL, dcutS, addII, addSS, addLL, int1i, int1b, negI, reprL, reprT, absI, sc_n, sc_b, sc_i, sc_s, subI, mulI, fdvI, modI, powI, ltI, leI, gtI, geI, tr_n, tr_b, tr_i, tr_l, tr_t, tr_d, ty_n, ty_b, ty_i, ty_s, ty_l, ty_t, ty_d, in_n, in_b, in_i, in_s, in_l, in_t, in_d, eqII, neII, eqSS, neSS, eqBB, neBB, isic_n, isic_b, isic_i, isic_s, isic_l, isic_t, isic_d, isio_n, isio_b, isio_i, isio_s, isio_l, isio_t, isio_d, isic_I, isic_S, isic_T, isic_L, isic_B, isio_I, dIsiO, isi_ii, isi_ib, isi_is, isi_il, isi_bi, isi_bb, isi_bs, isi_si, isi_sb, isi_ss, isi_ni, isi_nb, isi_ns, isi_li, isi_lb, isi_ls, isi_ll, isi_ti, isi_tb, isi_ts, isi_tt, isi_di, isi_db, isi_ds, isi_lt, isi_tl, isi_bt, isi_nt, isi_dt, eqLL, neLL, eqTT, neTT, isi_sl, isi_st, isi_it, kit_ll, kit_lt, max2, min2, get1, get2b, get3b, get3c,
  List.map_cons, List.map_nil, List.length_cons, List.length_nil, List.replicate, List.append_nil, List.cons_append, List.nil_append, List.getElem?_cons_zero, List.getElem?_cons_succ, List.set_cons_zero, List.set_cons_succ, List.getElem?_nil, Nat.sub_zero, Nat.reduceAdd, Nat.reduceSub, Int.reduceLT, Int.reduceLE, Int.reduceNeg, Nat.zero_add,
  true_and, and_true, eq_self, Bool.true_or, Bool.or_true, Bool.false_or, Bool.or_false, Bool.true_and, Bool.and_true, Bool.false_and, Bool.and_false, exists_eq_left, exists_eq_left', exists_eq', exists_eq, Option.some.injEq, Res.v.injEq, D.bl.injEq, D.int.injEq, D.str.injEq, D.lst.injEq, D.tup.injEq, D.dct.injEq, D.ins.injEq, Sl.o.injEq, Sl.d.injEq, List.cons.injEq, reduceCtorEq, false_or, or_false, if_true, if_false, Bool.false_eq_true, Bool.not_true, Bool.not_false, ite_true, ite_false, decide_true, decide_false, and_self, List.isEmpty_nil, List.isEmpty_cons, exists_and_left, exists_const, lenNil])
/-- drawn people on integers from lo to hi -/
structure Drawn (lo hi : Int) (ps : List Pn) : Prop where
  name : ∀ p, p ∈ ps → NameOk p.1
  nd : (ps.map (·.1)).Nodup
  voice : ∀ p, p ∈ ps → p.2.2 = 0 ∨ p.2.2 = 1
  lo : ∀ p, p ∈ ps → lo ≤ p.2.1
  hi : ∀ p, p ∈ ps → p.2.1 ≤ hi
theorem Drawn.wf {lo hi : Int} {ps : List Pn} (h : Drawn lo hi ps) (few : ps.length ≤ 60) : Wf ps := ⟨fun p hp => (h.name p hp).word, h.nd, h.voice, few⟩
theorem Drawn.mono {lo hi lo' hi' : Int} {ps : List Pn} (h : Drawn lo hi ps) (a : lo' ≤ lo) (b : hi ≤ hi') : Drawn lo' hi' ps := ⟨h.name, h.nd, h.voice, fun p hp => Int.le_trans a (h.lo p hp), fun p hp => Int.le_trans (h.hi p hp) b⟩
/-- voices at a place or further left -/
def cntLe (ps : List Pn) (x : Int) : Int := ((ps.filter fun p => decide (p.2.1 ≤ x) && decide (p.2.2 = 1)).length : Nat)
def cntLt (ps : List Pn) (x : Int) : Int := ((ps.filter fun p => decide (p.2.1 < x) && decide (p.2.2 = 1)).length : Nat)
theorem cnt_split (ps : List Pn) (x : Int) : cntLe ps x = cntLt ps x + vAt ps x := by
  unfold cntLe cntLt vAt
  induction ps with
  | nil => rfl
  | cons p ps ih =>
    simp only [List.filter_cons]
    by_cases hv : p.2.2 = 1
    · rcases Int.lt_trichotomy p.2.1 x with h | h | h
      · simp only [decide_eq_true (show p.2.1 ≤ x by omega), decide_eq_true h, decide_eq_false (show ¬ p.2.1 = x by omega), decide_eq_true hv, Bool.and_self, Bool.and_true, Bool.false_eq_true, if_true, if_false, List.length_cons]
        omega
      · simp only [decide_eq_true (show p.2.1 ≤ x by omega), decide_eq_false (show ¬ p.2.1 < x by omega), decide_eq_true h, decide_eq_true hv, Bool.and_self, Bool.and_true, Bool.false_eq_true, if_true, if_false, List.length_cons]
        omega
      · simp only [decide_eq_false (show ¬ p.2.1 ≤ x by omega), decide_eq_false (show ¬ p.2.1 < x by omega), decide_eq_false (show ¬ p.2.1 = x by omega), Bool.false_and, Bool.false_eq_true, if_false]
        omega
    · simp only [decide_eq_false hv, Bool.and_false, Bool.false_eq_true, if_false]
      omega
theorem cnt_next (ps : List Pn) (a b : Int) (h : ∀ p, p ∈ ps → (p.2.1 < b ↔ p.2.1 ≤ a)) : cntLt ps b = cntLe ps a := by
  unfold cntLe cntLt
  congr 2
  refine List.filter_congr fun p hp => ?_
  congr 1
  exact decide_eq_decide.mpr (h p hp)
theorem pairs_cons2 (a b : Int) (t : List Int) : pairs (a :: b :: t) = (a, b) :: pairs (b :: t) := rfl
theorem gapsP_eq (ps : List Pn) : ∀ (L : List Int) (m : Int), L.Pairwise (· < ·) → (∀ p, p ∈ ps → (∀ a t, L = a :: t → p.2.1 < a) ∨ p.2.1 ∈ L) → (∀ a t, L = a :: t → m = cntLt ps a) →
    gapsP ps m (pairs L) = (pairs L).map fun q => (q.1, q.2 - q.1, decide (cntLe ps q.1 % 2 = 1))
  | [], m, _, _, _ => rfl
  | [a], m, _, _, _ => rfl
  | a :: b :: t, m, hs, hp, hm => by
    have em := hm a _ rfl
    have e : m + vAt ps a = cntLe ps a := by rw [em, cnt_split]
    rw [pairs_cons2]
    simp only [gapsP, List.map_cons, e]
    rw [List.pairwise_cons] at hs
    have hb : ∀ p, p ∈ ps → (p.2.1 < b ↔ p.2.1 ≤ a) := fun p hpp => by
      have hab := hs.1 b List.mem_cons_self
      rcases hp p hpp with h | h
      · have := h a _ rfl
        omega
      · rcases List.mem_cons.mp h with h | h
        · omega
        · rcases List.mem_cons.mp h with h2 | h2
          · omega
          · have := (List.pairwise_cons.mp hs.2).1 _ h2
            omega
    rw [gapsP_eq ps (b :: t) _ hs.2 (fun p hpp => ?_) (fun a' t' e' => ?_)]
    · rcases hp p hpp with h | h
      · left
        intro a' t' e'
        cases e'
        have := h a _ rfl
        have := hs.1 b List.mem_cons_self
        omega
      · rcases List.mem_cons.mp h with h | h
        · left
          intro a' t' e'
          cases e'
          have := hs.1 b List.mem_cons_self
          omega
        · exact .inr h
    · cases e'
      exact (cnt_next ps a b hb).symm
theorem mem_places {ps : List Pn} {p : Pn} (h : p ∈ ps) : p.2.1 ∈ placesL ps := mem_uset.mpr (List.mem_map_of_mem h)
theorem gapsL_eq (ps : List Pn) : gapsL ps = (pairs (placesL ps)).map fun q => (q.1, q.2 - q.1, decide (cntLe ps q.1 % 2 = 1)) := by
  refine gapsP_eq ps (placesL ps) 0 uset_lt (fun p hp => .inr (mem_places hp)) fun a t e => ?_
  unfold cntLt
  rw [List.filter_eq_nil_iff.mpr]
  · rfl
  · intro p hp
    have hm := mem_places hp
    rw [e] at hm
    have hs : (placesL ps).Pairwise (· < ·) := uset_lt
    rw [e, List.pairwise_cons] at hs
    have : ¬ p.2.1 < a := by
      rcases List.mem_cons.mp hm with h | h
      · omega
      · have := hs.1 _ h
        omega
    simp [this]
end L2.DL
set_option Elab.async false
set_option linter.all false
set_option autoImplicit false
set_option maxRecDepth 100000
set_option maxHeartbeats 2000000
namespace L2.DL
open PySem PySem.Spec PyProof.Rows
local macro_rules | `(tactic| walk_at "ev") => `(tactic| simp only [dSeq, dNext, dSet, dPar, dPar3, dRet, dRetN, dDrop, dIfS, dBrk, dCnt, dApp, dFor, dItL, dItT, dRng1, dRng2, dZip, dEnum, dItS, dAsg, dAugI, dNever, dPutS, dNewD, dFldM, dFldS, dStar,
  dgName, dgTup, dgCons, dgNil, dOp, dUn, dC, dNil, dCons, dCB, dTup, dLst, dIf, dTst, dTru, dAnd, dOr, dNot, dAndV, dOrV, dNotV, dYes, dInR, dFld, dMeth, dCall, dDctIx, dGet2, dRaise, dRaiseZ, dDisp, dPNil, dPCons, dRepD, dTold, dLenSet, hid_u, hid_d, hid_o, dStep2, dSlV, dIxV, dSetV, dPopV, dLenV, dLcV, lstAt, Option.isSome_some, Option.isSome_none, dSl, dNoP, dPart, dLc, dDc, dSortSet, dSortSc, dListVals, dChain, dIsiT2, dCallB, dBor, dNilB, dCBB, dOneL,
  dIsN, dNotN, dStrI, dAbs, dIn, fz_v, fz_l, fz_d, fz_i, fz_m, un_l, un_d, un_i, un_m, sl_v, sl_o, dwipe, and_assoc, insLF, insLT, insFF, insFT, startD, startN, pdT, pdI, gdT, prT, stI, putFD, lendable, noKR, noK, noKs,
  vd0, vo0, rd0, ro0, vd1, vo1, rd1, ro1, vd2, vo2, rd2, ro2, vd3, vo3, rd3, ro3, vd4, vo4, rd4, ro4, vd5, vo5, rd5, ro5, vd6, vo6, rd6, ro6, vd7, vo7, rd7, ro7, vd8, vo8, rd8, ro8, vd9, vo9, rd9, ro9, vd10, vo10, rd10, ro10, vd11, vo11, rd11, ro11, vd12, vo12, rd12, ro12, vd13, vo13, rd13, ro13, vd14, vo14, rd14, ro14, vd15, vo15, rd15, ro15, vd16, vo16, rd16, ro16, vd17, vo17, rd17, ro17, vd18, vo18, rd18, ro18, vd19, vo19, rd19, ro19, vd20, vo20, rd20, ro20, vd21, vo21, rd21, ro21, vd22, vo22, rd22, ro22, vd23, vo23, rd23, ro23, lk_people, lk_names, lk_has_name, lk_person, lk_place, lk_voice, lk_places, lk_at, lk_line, lk_voices, lk_is_together, lk_own, lenL, lenT, lenS, ixL, ixT, ixS, dcutL, dcutS, addII, addSS, addLL, int1i, int1b, negI, reprL, reprT, absI, sc_n, sc_b, sc_i, sc_s, subI, mulI, fdvI, modI, powI, ltI, leI, gtI, geI, tr_n, tr_b, tr_i, tr_l, tr_t, tr_d, ty_n, ty_b, ty_i, ty_s, ty_l, ty_t, ty_d, in_n, in_b, in_i, in_s, in_l, in_t, in_d, eqII, neII, eqSS, neSS, eqBB, neBB, isic_n, isic_b, isic_i, isic_s, isic_l, isic_t, isic_d, isio_n, isio_b, isio_i, isio_s, isio_l, isio_t, isio_d, isic_I, isic_S, isic_T, isic_L, isic_B, isio_I, dIsiO, isi_ii, isi_ib, isi_is, isi_il, isi_bi, isi_bb, isi_bs, isi_si, isi_sb, isi_ss, isi_ni, isi_nb, isi_ns, isi_li, isi_lb, isi_ls, isi_ll, isi_ti, isi_tb, isi_ts, isi_tt, isi_di, isi_db, isi_ds, isi_lt, isi_tl, isi_bt, isi_nt, isi_dt, eqLL, neLL, eqTT, neTT, isi_sl, isi_st, isi_it, kit_ll, kit_lt, max2, min2, get1, get2b, get3b, get3c,
  List.map_cons, List.map_nil, List.length_cons, List.length_nil, List.replicate, List.append_nil, List.cons_append, List.nil_append, List.getElem?_cons_zero, List.getElem?_cons_succ, List.set_cons_zero, List.set_cons_succ, List.getElem?_nil, Nat.sub_zero, Nat.reduceAdd, Nat.reduceSub, Int.reduceLT, Int.reduceLE, Int.reduceNeg, Nat.zero_add,
  true_and, and_true, eq_self, Bool.true_or, Bool.or_true, Bool.false_or, Bool.or_false, Bool.true_and, Bool.and_true, Bool.false_and, Bool.and_false, exists_eq_left, exists_eq_left', exists_eq', exists_eq, Option.some.injEq, Res.v.injEq, D.bl.injEq, D.int.injEq, D.str.injEq, D.lst.injEq, D.tup.injEq, D.dct.injEq, D.ins.injEq, Sl.o.injEq, Sl.d.injEq, List.cons.injEq, reduceCtorEq, false_or, or_false, if_true, if_false, Bool.false_eq_true, Bool.not_true, Bool.not_false, ite_true, ite_false, decide_true, decide_false, and_self, List.isEmpty_nil, List.isEmpty_cons, exists_and_left, exists_const, lenNil])
theorem mem_pairs {l : List Int} {q : Int × Int} (h : q ∈ pairs l) : q.1 ∈ l ∧ q.2 ∈ l := by
  obtain ⟨a, b⟩ := List.of_mem_zip (show (q.1, q.2) ∈ l.zip l.tail from h)
  exact ⟨a, List.mem_of_mem_tail b⟩
theorem of_places {ps : List Pn} {x : Int} (h : x ∈ placesL ps) : ∃ p, p ∈ ps ∧ p.2.1 = x := List.mem_map.mp (mem_uset.mp h)
end L2.DL
set_option Elab.async false
set_option linter.all false
set_option autoImplicit false
set_option maxRecDepth 100000
set_option maxHeartbeats 1000000
namespace L2.DL
open PySem PySem.Spec PyProof.Rows
def sgnB (b : Bool) : Int := if b then 1 else -1
def oddAt (ps : List Pn) (x : Int) : Bool := decide (cntLe ps x % 2 = 1)
/-- the height n steps right of y -/
def hN (ps : List Pn) (y : Int) : Nat → Int
  | 0 => 0
  | n + 1 => hN ps y n + sgnB (oddAt ps (y + n))
def fm {α : Type} (v : α → Int) : Option α → List α → Option α
  | b, [] => b
  | none, x :: xs => fm v (some x) xs
  | some b, x :: xs => if v b < v x then fm v (some x) xs else fm v (some b) xs
def intsB (a b : Int) : List Int := (List.range (b - a).toNat).map fun i => a + (i : Nat)
theorem ints_lt {a b : Int} : (intsB a b).Pairwise (· < ·) := by
  unfold intsB
  rw [List.pairwise_map]
  exact List.pairwise_lt_range.imp fun h => by omega
/-- the first place, or 0 -/
def firstP (ps : List Pn) : Int := (placesL ps).headD 0
def lastP (ps : List Pn) : Int := (placesL ps).getLastD 0
end L2.DL
set_option Elab.async false
set_option linter.all false
set_option autoImplicit false
set_option maxRecDepth 100000
set_option maxHeartbeats 2000000
namespace L2.DL
open PySem PySem.Spec PyProof.Rows
local macro_rules | `(tactic| walk_at "ev") => `(tactic| simp only [dSeq, dNext, dSet, dPar, dPar3, dRet, dRetN, dDrop, dIfS, dBrk, dCnt, dApp, dFor, dItL, dItT, dRng1, dRng2, dZip, dEnum, dItS, dAsg, dAugI, dNever, dPutS, dNewD, dFldM, dFldS, dStar,
  dgName, dgTup, dgCons, dgNil, dOp, dUn, dC, dNil, dCons, dCB, dTup, dLst, dIf, dTst, dTru, dAnd, dOr, dNot, dAndV, dOrV, dNotV, dYes, dInR, dFld, dMeth, dCall, dDctIx, dGet2, dRaise, dRaiseZ, dDisp, dPNil, dPCons, dRepD, dTold, dLenSet, hid_u, hid_d, hid_o, dStep2, dSlV, dIxV, dSetV, dPopV, dLenV, dLcV, lstAt, Option.isSome_some, Option.isSome_none, dSl, dNoP, dPart, dLc, dDc, dSortSet, dSortSc, dListVals, dChain, dIsiT2, dCallB, dBor, dNilB, dCBB, dOneL,
  dIsN, dNotN, dStrI, dAbs, dIn, fz_v, fz_l, fz_d, fz_i, fz_m, un_l, un_d, un_i, un_m, sl_v, sl_o, dwipe, and_assoc, insLF, insLT, insFF, insFT, startD, startN, pdT, pdI, gdT, prT, stI, putFD, lendable, noKR, noK, noKs,
  vd0, vo0, rd0, ro0, vd1, vo1, rd1, ro1, vd2, vo2, rd2, ro2, vd3, vo3, rd3, ro3, vd4, vo4, rd4, ro4, vd5, vo5, rd5, ro5, vd6, vo6, rd6, ro6, vd7, vo7, rd7, ro7, vd8, vo8, rd8, ro8, vd9, vo9, rd9, ro9, vd10, vo10, rd10, ro10, vd11, vo11, rd11, ro11, vd12, vo12, rd12, ro12, vd13, vo13, rd13, ro13, vd14, vo14, rd14, ro14, vd15, vo15, rd15, ro15, vd16, vo16, rd16, ro16, vd17, vo17, rd17, ro17, vd18, vo18, rd18, ro18, vd19, vo19, rd19, ro19, vd20, vo20, rd20, ro20, vd21, vo21, rd21, ro21, vd22, vo22, rd22, ro22, vd23, vo23, rd23, ro23, lk_people, lk_names, lk_has_name, lk_person, lk_place, lk_voice, lk_places, lk_at, lk_line, lk_voices, lk_is_together, lk_own, lenL, lenT, lenS, ixL, ixT, ixS, dcutL, dcutS, addII, addSS, addLL, int1i, int1b, negI, reprL, reprT, absI, sc_n, sc_b, sc_i, sc_s, subI, mulI, fdvI, modI, powI, ltI, leI, gtI, geI, tr_n, tr_b, tr_i, tr_l, tr_t, tr_d, ty_n, ty_b, ty_i, ty_s, ty_l, ty_t, ty_d, in_n, in_b, in_i, in_s, in_l, in_t, in_d, eqII, neII, eqSS, neSS, eqBB, neBB, isic_n, isic_b, isic_i, isic_s, isic_l, isic_t, isic_d, isio_n, isio_b, isio_i, isio_s, isio_l, isio_t, isio_d, isic_I, isic_S, isic_T, isic_L, isic_B, isio_I, dIsiO, isi_ii, isi_ib, isi_is, isi_il, isi_bi, isi_bb, isi_bs, isi_si, isi_sb, isi_ss, isi_ni, isi_nb, isi_ns, isi_li, isi_lb, isi_ls, isi_ll, isi_ti, isi_tb, isi_ts, isi_tt, isi_di, isi_db, isi_ds, isi_lt, isi_tl, isi_bt, isi_nt, isi_dt, eqLL, neLL, eqTT, neTT, isi_sl, isi_st, isi_it, kit_ll, kit_lt, max2, min2, get1, get2b, get3b, get3c,
  List.map_cons, List.map_nil, List.length_cons, List.length_nil, List.replicate, List.append_nil, List.cons_append, List.nil_append, List.getElem?_cons_zero, List.getElem?_cons_succ, List.set_cons_zero, List.set_cons_succ, List.getElem?_nil, Nat.sub_zero, Nat.reduceAdd, Nat.reduceSub, Int.reduceLT, Int.reduceLE, Int.reduceNeg, Nat.zero_add,
  true_and, and_true, eq_self, Bool.true_or, Bool.or_true, Bool.false_or, Bool.or_false, Bool.true_and, Bool.and_true, Bool.false_and, Bool.and_false, exists_eq_left, exists_eq_left', exists_eq', exists_eq, Option.some.injEq, Res.v.injEq, D.bl.injEq, D.int.injEq, D.str.injEq, D.lst.injEq, D.tup.injEq, D.dct.injEq, D.ins.injEq, Sl.o.injEq, Sl.d.injEq, List.cons.injEq, reduceCtorEq, false_or, or_false, if_true, if_false, Bool.false_eq_true, Bool.not_true, Bool.not_false, ite_true, ite_false, decide_true, decide_false, and_self, List.isEmpty_nil, List.isEmpty_cons, exists_and_left, exists_const, lenNil])
end L2.DL
set_option Elab.async false
set_option linter.all false
set_option autoImplicit false
set_option maxRecDepth 100000
set_option maxHeartbeats 1000000
namespace L2.DL
open PySem PySem.Spec PyProof.Rows
end L2.DL
set_option Elab.async false
set_option linter.all false
set_option autoImplicit false
set_option maxRecDepth 100000
set_option maxHeartbeats 2000000
namespace L2.DL
open PySem PySem.Spec PyProof.Rows
mutual
def nb : D → Bool
  | .non => true
  | .int _ => true
  | .str _ => true
  | .lst xs => nbs xs
  | .tup xs => nbs xs
  | _ => false
def nbs : List D → Bool
  | [] => true
  | x :: xs => nb x && nbs xs
end
theorem ints_inj {l m : List Int} : l.map D.int = m.map D.int ↔ l = m := by
  constructor
  · intro h
    induction l generalizing m with
    | nil => cases m with
      | nil => rfl
      | cons _ _ => simp at h
    | cons x l ih => cases m with
      | nil => simp at h
      | cons y m =>
        simp only [List.map_cons, List.cons.injEq, D.int.injEq] at h
        rw [h.1, ih h.2]
  · rintro rfl; rfl
end L2.DL
set_option Elab.async false
set_option linter.all false
set_option autoImplicit false
set_option maxRecDepth 100000
set_option maxHeartbeats 2000000
namespace L2.DL
open PySem PySem.Spec PyProof.Rows
local macro_rules | `(tactic| walk_at "ev") => `(tactic| simp only [dSeq, dNext, dSet, dPar, dPar3, dRet, dRetN, dDrop, dIfS, dBrk, dCnt, dApp, dFor, dItL, dItT, dRng1, dRng2, dZip, dEnum, dItS, dAsg, dAugI, dNever, dPutS, dNewD, dFldM, dFldS, dStar,
  dgName, dgTup, dgCons, dgNil, dOp, dUn, dC, dNil, dCons, dCB, dTup, dLst, dIf, dTst, dTru, dAnd, dOr, dNot, dAndV, dOrV, dNotV, dYes, dInR, dFld, dMeth, dCall, dDctIx, dGet2, dRaise, dRaiseZ, dDisp, dPNil, dPCons, dRepD, dTold, dLenSet, hid_u, hid_d, hid_o, dStep2, dSlV, dIxV, dSetV, dPopV, dLenV, dLcV, lstAt, Option.isSome_some, Option.isSome_none, dSl, dNoP, dPart, dLc, dDc, dSortSet, dSortSc, dListVals, dChain, dIsiT2, dCallB, dBor, dNilB, dCBB, dOneL,
  dIsN, dNotN, dStrI, dAbs, dIn, fz_v, fz_l, fz_d, fz_i, fz_m, un_l, un_d, un_i, un_m, sl_v, sl_o, dwipe, and_assoc, insLF, insLT, insFF, insFT, startD, startN, pdT, pdI, gdT, prT, stI, putFD, lendable, noKR, noK, noKs,
  vd0, vo0, rd0, ro0, vd1, vo1, rd1, ro1, vd2, vo2, rd2, ro2, vd3, vo3, rd3, ro3, vd4, vo4, rd4, ro4, vd5, vo5, rd5, ro5, vd6, vo6, rd6, ro6, vd7, vo7, rd7, ro7, vd8, vo8, rd8, ro8, vd9, vo9, rd9, ro9, vd10, vo10, rd10, ro10, vd11, vo11, rd11, ro11, vd12, vo12, rd12, ro12, vd13, vo13, rd13, ro13, vd14, vo14, rd14, ro14, vd15, vo15, rd15, ro15, vd16, vo16, rd16, ro16, vd17, vo17, rd17, ro17, vd18, vo18, rd18, ro18, vd19, vo19, rd19, ro19, vd20, vo20, rd20, ro20, vd21, vo21, rd21, ro21, vd22, vo22, rd22, ro22, vd23, vo23, rd23, ro23, lk_people, lk_names, lk_has_name, lk_person, lk_place, lk_voice, lk_places, lk_at, lk_line, lk_voices, lk_is_together, lk_own, lenL, lenT, lenS, ixL, ixT, ixS, dcutL, dcutS, addII, addSS, addLL, int1i, int1b, negI, reprL, reprT, absI, sc_n, sc_b, sc_i, sc_s, subI, mulI, fdvI, modI, powI, ltI, leI, gtI, geI, tr_n, tr_b, tr_i, tr_l, tr_t, tr_d, ty_n, ty_b, ty_i, ty_s, ty_l, ty_t, ty_d, in_n, in_b, in_i, in_s, in_l, in_t, in_d, eqII, neII, eqSS, neSS, eqBB, neBB, isic_n, isic_b, isic_i, isic_s, isic_l, isic_t, isic_d, isio_n, isio_b, isio_i, isio_s, isio_l, isio_t, isio_d, isic_I, isic_S, isic_T, isic_L, isic_B, isio_I, dIsiO, isi_ii, isi_ib, isi_is, isi_il, isi_bi, isi_bb, isi_bs, isi_si, isi_sb, isi_ss, isi_ni, isi_nb, isi_ns, isi_li, isi_lb, isi_ls, isi_ll, isi_ti, isi_tb, isi_ts, isi_tt, isi_di, isi_db, isi_ds, isi_lt, isi_tl, isi_bt, isi_nt, isi_dt, eqLL, neLL, eqTT, neTT, isi_sl, isi_st, isi_it, kit_ll, kit_lt, max2, min2, get1, get2b, get3b, get3c,
  List.map_cons, List.map_nil, List.length_cons, List.length_nil, List.replicate, List.append_nil, List.cons_append, List.nil_append, List.getElem?_cons_zero, List.getElem?_cons_succ, List.set_cons_zero, List.set_cons_succ, List.getElem?_nil, Nat.sub_zero, Nat.reduceAdd, Nat.reduceSub, Int.reduceLT, Int.reduceLE, Int.reduceNeg, Nat.zero_add,
  true_and, and_true, eq_self, Bool.true_or, Bool.or_true, Bool.false_or, Bool.or_false, Bool.true_and, Bool.and_true, Bool.false_and, Bool.and_false, exists_eq_left, exists_eq_left', exists_eq', exists_eq, Option.some.injEq, Res.v.injEq, D.bl.injEq, D.int.injEq, D.str.injEq, D.lst.injEq, D.tup.injEq, D.dct.injEq, D.ins.injEq, Sl.o.injEq, Sl.d.injEq, List.cons.injEq, reduceCtorEq, false_or, or_false, if_true, if_false, Bool.false_eq_true, Bool.not_true, Bool.not_false, ite_true, ite_false, decide_true, decide_false, and_self, List.isEmpty_nil, List.isEmpty_cons, exists_and_left, exists_const, lenNil])
theorem at_last : ∀ (l : List Int), l ≠ [] → atI (l.map D.int) (-1) = some (.int (l.getLastD 0))
  | [], h => absurd rfl h
  | a :: t, _ => by
    unfold atI ixN
    have e : (a :: t).getLastD 0 = (a :: t)[t.length]'(by simp) := by
      rw [List.getLastD_eq_getLast?, List.getLast?_eq_getElem?]
      simp
    rw [e]
    have e2 : (if (1 : Int) ≤ (t.length : Int) + 1 then some (-1 + ((t.length : Int) + 1)).toNat else none) = some t.length := by
      rw [if_pos (by omega)]
      exact congrArg some (by omega)
    simp only [List.length_cons, List.map_cons, List.length_map]
    simp [e2, ← List.map_cons]
end L2.DL
set_option Elab.async false
set_option linter.all false
set_option autoImplicit false
set_option maxRecDepth 100000
set_option maxHeartbeats 1000000
namespace L2.DL
open PySem PySem.Spec PyProof.Rows
end L2.DL
set_option Elab.async false
set_option linter.all false
set_option autoImplicit false
set_option maxRecDepth 100000
set_option maxHeartbeats 1000000
namespace L2.DL
open PySem PySem.Spec PyProof.Rows
theorem loop_ix {α : Type} {g : DTG} {tb : DTS} {E : DEnds} (inj : α → D) (xs : List α) (J : Nat → Rho → Prop)
    (step : ∀ (k : Nat) (hk : k < xs.length) ρ, J k ρ → ∀ E' : DEnds, (∀ ρ', J (k + 1) ρ' → E'.nx ρ') → (∀ ρ', J (k + 1) ρ' → E'.ct ρ') → (∀ ρ', E.nx ρ' → E'.bk ρ') → E'.rt = E.rt → g (inj xs[k]) ρ fun ρ2 => tb E' ρ2)
    (fin : ∀ ρ, J xs.length ρ → E.nx ρ) (ρ : Rho) (h : J 0 ρ) : dLoop g tb E (xs.map inj) ρ := by
  refine loop_inv inj (fun rest ρ => ∃ k, k ≤ xs.length ∧ rest = xs.drop k ∧ J k ρ) ?_ ?_ _ _ ⟨0, Nat.zero_le _, rfl, h⟩
  · rintro x rest ρ ⟨k, hk, e, j⟩ E' h1 h2 h3 h4
    have hk2 : k < xs.length := by
      have := congrArg List.length e
      rw [List.length_cons, List.length_drop] at this
      omega
    rw [List.drop_eq_getElem_cons hk2] at e
    simp only [List.cons.injEq] at e
    obtain ⟨rfl, rfl⟩ := e
    exact step k hk2 ρ j E' (fun ρ' j' => h1 ρ' ⟨k + 1, hk2, rfl, j'⟩) (fun ρ' j' => h2 ρ' ⟨k + 1, hk2, rfl, j'⟩) h3 h4
  · rintro ρ ⟨k, hk, e, j⟩
    have : k = xs.length := by
      have := congrArg List.length e
      rw [List.length_nil, List.length_drop] at this
      omega
    subst this
    exact fin ρ j
end L2.DL
set_option Elab.async false
set_option linter.all false
set_option autoImplicit false
set_option maxRecDepth 100000
set_option maxHeartbeats 2000000
namespace L2.DL
open PySem PySem.Spec PyProof.Rows
local macro_rules | `(tactic| walk_at "ev") => `(tactic| simp only [dSeq, dNext, dSet, dPar, dPar3, dRet, dRetN, dDrop, dIfS, dBrk, dCnt, dApp, dFor, dItL, dItT, dRng1, dRng2, dZip, dEnum, dItS, dAsg, dAugI, dNever, dPutS, dNewD, dFldM, dFldS, dStar,
  dgName, dgTup, dgCons, dgNil, dOp, dUn, dC, dNil, dCons, dCB, dTup, dLst, dIf, dTst, dTru, dAnd, dOr, dNot, dAndV, dOrV, dNotV, dYes, dInR, dFld, dMeth, dCall, dDctIx, dGet2, dRaise, dRaiseZ, dDisp, dPNil, dPCons, dRepD, dTold, dLenSet, hid_u, hid_d, hid_o, dStep2, dSlV, dIxV, dSetV, dPopV, dLenV, dLcV, lstAt, Option.isSome_some, Option.isSome_none, dSl, dNoP, dPart, dLc, dDc, dSortSet, dSortSc, dListVals, dChain, dIsiT2, dCallB, dBor, dNilB, dCBB, dOneL,
  dIsN, dNotN, dStrI, dAbs, dIn, fz_v, fz_l, fz_d, fz_i, fz_m, un_l, un_d, un_i, un_m, sl_v, sl_o, dwipe, and_assoc, insLF, insLT, insFF, insFT, startD, startN, pdT, pdI, gdT, prT, stI, putFD, lendable, noKR, noK, noKs,
  vd0, vo0, rd0, ro0, vd1, vo1, rd1, ro1, vd2, vo2, rd2, ro2, vd3, vo3, rd3, ro3, vd4, vo4, rd4, ro4, vd5, vo5, rd5, ro5, vd6, vo6, rd6, ro6, vd7, vo7, rd7, ro7, vd8, vo8, rd8, ro8, vd9, vo9, rd9, ro9, vd10, vo10, rd10, ro10, vd11, vo11, rd11, ro11, vd12, vo12, rd12, ro12, vd13, vo13, rd13, ro13, vd14, vo14, rd14, ro14, vd15, vo15, rd15, ro15, vd16, vo16, rd16, ro16, vd17, vo17, rd17, ro17, vd18, vo18, rd18, ro18, vd19, vo19, rd19, ro19, vd20, vo20, rd20, ro20, vd21, vo21, rd21, ro21, vd22, vo22, rd22, ro22, vd23, vo23, rd23, ro23, lk_people, lk_names, lk_has_name, lk_person, lk_place, lk_voice, lk_places, lk_at, lk_line, lk_voices, lk_is_together, lk_own, lenL, lenT, lenS, ixL, ixT, ixS, dcutL, dcutS, addII, addSS, addLL, int1i, int1b, negI, reprL, reprT, absI, sc_n, sc_b, sc_i, sc_s, subI, mulI, fdvI, modI, powI, ltI, leI, gtI, geI, tr_n, tr_b, tr_i, tr_l, tr_t, tr_d, ty_n, ty_b, ty_i, ty_s, ty_l, ty_t, ty_d, in_n, in_b, in_i, in_s, in_l, in_t, in_d, eqII, neII, eqSS, neSS, eqBB, neBB, isic_n, isic_b, isic_i, isic_s, isic_l, isic_t, isic_d, isio_n, isio_b, isio_i, isio_s, isio_l, isio_t, isio_d, isic_I, isic_S, isic_T, isic_L, isic_B, isio_I, dIsiO, isi_ii, isi_ib, isi_is, isi_il, isi_bi, isi_bb, isi_bs, isi_si, isi_sb, isi_ss, isi_ni, isi_nb, isi_ns, isi_li, isi_lb, isi_ls, isi_ll, isi_ti, isi_tb, isi_ts, isi_tt, isi_di, isi_db, isi_ds, isi_lt, isi_tl, isi_bt, isi_nt, isi_dt, eqLL, neLL, eqTT, neTT, isi_sl, isi_st, isi_it, kit_ll, kit_lt, max2, min2, get1, get2b, get3b, get3c,
  List.map_cons, List.map_nil, List.length_cons, List.length_nil, List.replicate, List.append_nil, List.cons_append, List.nil_append, List.getElem?_cons_zero, List.getElem?_cons_succ, List.set_cons_zero, List.set_cons_succ, List.getElem?_nil, Nat.sub_zero, Nat.reduceAdd, Nat.reduceSub, Int.reduceLT, Int.reduceLE, Int.reduceNeg, Nat.zero_add,
  true_and, and_true, eq_self, Bool.true_or, Bool.or_true, Bool.false_or, Bool.or_false, Bool.true_and, Bool.and_true, Bool.false_and, Bool.and_false, exists_eq_left, exists_eq_left', exists_eq', exists_eq, Option.some.injEq, Res.v.injEq, D.bl.injEq, D.int.injEq, D.str.injEq, D.lst.injEq, D.tup.injEq, D.dct.injEq, D.ins.injEq, Sl.o.injEq, Sl.d.injEq, List.cons.injEq, reduceCtorEq, false_or, or_false, if_true, if_false, Bool.false_eq_true, Bool.not_true, Bool.not_false, ite_true, ite_false, decide_true, decide_false, and_self, List.isEmpty_nil, List.isEmpty_cons, exists_and_left, exists_const, lenNil])
end L2.DL
set_option Elab.async false
set_option linter.all false
set_option autoImplicit false
set_option maxRecDepth 100000
set_option maxHeartbeats 2000000
namespace L2.DL
open PySem PySem.Spec PyProof.Rows
local macro_rules | `(tactic| walk_at "ev") => `(tactic| simp only [dSeq, dNext, dSet, dPar, dPar3, dRet, dRetN, dDrop, dIfS, dBrk, dCnt, dApp, dFor, dItL, dItT, dRng1, dRng2, dZip, dEnum, dItS, dAsg, dAugI, dNever, dPutS, dNewD, dFldM, dFldS, dStar,
  dgName, dgTup, dgCons, dgNil, dOp, dUn, dC, dNil, dCons, dCB, dTup, dLst, dIf, dTst, dTru, dAnd, dOr, dNot, dAndV, dOrV, dNotV, dYes, dInR, dFld, dMeth, dCall, dDctIx, dGet2, dRaise, dRaiseZ, dDisp, dPNil, dPCons, dRepD, dTold, dLenSet, hid_u, hid_d, hid_o, dStep2, dSlV, dIxV, dSetV, dPopV, dLenV, dLcV, lstAt, Option.isSome_some, Option.isSome_none, dSl, dNoP, dPart, dLc, dDc, dSortSet, dSortSc, dListVals, dChain, dIsiT2, dCallB, dBor, dNilB, dCBB, dOneL,
  dIsN, dNotN, dStrI, dAbs, dIn, fz_v, fz_l, fz_d, fz_i, fz_m, un_l, un_d, un_i, un_m, sl_v, sl_o, dwipe, and_assoc, insLF, insLT, insFF, insFT, startD, startN, pdT, pdI, gdT, prT, stI, putFD, lendable, noKR, noK, noKs,
  vd0, vo0, rd0, ro0, vd1, vo1, rd1, ro1, vd2, vo2, rd2, ro2, vd3, vo3, rd3, ro3, vd4, vo4, rd4, ro4, vd5, vo5, rd5, ro5, vd6, vo6, rd6, ro6, vd7, vo7, rd7, ro7, vd8, vo8, rd8, ro8, vd9, vo9, rd9, ro9, vd10, vo10, rd10, ro10, vd11, vo11, rd11, ro11, vd12, vo12, rd12, ro12, vd13, vo13, rd13, ro13, vd14, vo14, rd14, ro14, vd15, vo15, rd15, ro15, vd16, vo16, rd16, ro16, vd17, vo17, rd17, ro17, vd18, vo18, rd18, ro18, vd19, vo19, rd19, ro19, vd20, vo20, rd20, ro20, vd21, vo21, rd21, ro21, vd22, vo22, rd22, ro22, vd23, vo23, rd23, ro23, lk_people, lk_names, lk_has_name, lk_person, lk_place, lk_voice, lk_places, lk_at, lk_line, lk_voices, lk_is_together, lk_own, lenL, lenT, lenS, ixL, ixT, ixS, dcutL, dcutS, addII, addSS, addLL, int1i, int1b, negI, reprL, reprT, absI, sc_n, sc_b, sc_i, sc_s, subI, mulI, fdvI, modI, powI, ltI, leI, gtI, geI, tr_n, tr_b, tr_i, tr_l, tr_t, tr_d, ty_n, ty_b, ty_i, ty_s, ty_l, ty_t, ty_d, in_n, in_b, in_i, in_s, in_l, in_t, in_d, eqII, neII, eqSS, neSS, eqBB, neBB, isic_n, isic_b, isic_i, isic_s, isic_l, isic_t, isic_d, isio_n, isio_b, isio_i, isio_s, isio_l, isio_t, isio_d, isic_I, isic_S, isic_T, isic_L, isic_B, isio_I, dIsiO, isi_ii, isi_ib, isi_is, isi_il, isi_bi, isi_bb, isi_bs, isi_si, isi_sb, isi_ss, isi_ni, isi_nb, isi_ns, isi_li, isi_lb, isi_ls, isi_ll, isi_ti, isi_tb, isi_ts, isi_tt, isi_di, isi_db, isi_ds, isi_lt, isi_tl, isi_bt, isi_nt, isi_dt, eqLL, neLL, eqTT, neTT, isi_sl, isi_st, isi_it, kit_ll, kit_lt, max2, min2, get1, get2b, get3b, get3c,
  List.map_cons, List.map_nil, List.length_cons, List.length_nil, List.replicate, List.append_nil, List.cons_append, List.nil_append, List.getElem?_cons_zero, List.getElem?_cons_succ, List.set_cons_zero, List.set_cons_succ, List.getElem?_nil, Nat.sub_zero, Nat.reduceAdd, Nat.reduceSub, Int.reduceLT, Int.reduceLE, Int.reduceNeg, Nat.zero_add,
  true_and, and_true, eq_self, Bool.true_or, Bool.or_true, Bool.false_or, Bool.or_false, Bool.true_and, Bool.and_true, Bool.false_and, Bool.and_false, exists_eq_left, exists_eq_left', exists_eq', exists_eq, Option.some.injEq, Res.v.injEq, D.bl.injEq, D.int.injEq, D.str.injEq, D.lst.injEq, D.tup.injEq, D.dct.injEq, D.ins.injEq, Sl.o.injEq, Sl.d.injEq, List.cons.injEq, reduceCtorEq, false_or, or_false, if_true, if_false, Bool.false_eq_true, Bool.not_true, Bool.not_false, ite_true, ite_false, decide_true, decide_false, and_self, List.isEmpty_nil, List.isEmpty_cons, exists_and_left, exists_const, lenNil])
end L2.DL
set_option Elab.async false
set_option linter.all false
set_option autoImplicit false
set_option maxRecDepth 100000
set_option maxHeartbeats 2000000
namespace L2.DL
open PySem PySem.Spec PyProof.Rows
local macro_rules | `(tactic| walk_at "ev") => `(tactic| simp only [dSeq, dNext, dSet, dPar, dPar3, dRet, dRetN, dDrop, dIfS, dBrk, dCnt, dApp, dFor, dItL, dItT, dRng1, dRng2, dZip, dEnum, dItS, dAsg, dAugI, dNever, dPutS, dNewD, dFldM, dFldS, dStar,
  dgName, dgTup, dgCons, dgNil, dOp, dUn, dC, dNil, dCons, dCB, dTup, dLst, dIf, dTst, dTru, dAnd, dOr, dNot, dAndV, dOrV, dNotV, dYes, dInR, dFld, dMeth, dCall, dDctIx, dGet2, dRaise, dRaiseZ, dDisp, dPNil, dPCons, dRepD, dTold, dLenSet, hid_u, hid_d, hid_o, dStep2, dSlV, dIxV, dSetV, dPopV, dLenV, dLcV, lstAt, Option.isSome_some, Option.isSome_none, dSl, dNoP, dPart, dLc, dDc, dSortSet, dSortSc, dListVals, dChain, dIsiT2, dCallB, dBor, dNilB, dCBB, dOneL,
  dIsN, dNotN, dStrI, dAbs, dIn, fz_v, fz_l, fz_d, fz_i, fz_m, un_l, un_d, un_i, un_m, sl_v, sl_o, dwipe, and_assoc, insLF, insLT, insFF, insFT, startD, startN, pdT, pdI, gdT, prT, stI, putFD, lendable, noKR, noK, noKs,
  vd0, vo0, rd0, ro0, vd1, vo1, rd1, ro1, vd2, vo2, rd2, ro2, vd3, vo3, rd3, ro3, vd4, vo4, rd4, ro4, vd5, vo5, rd5, ro5, vd6, vo6, rd6, ro6, vd7, vo7, rd7, ro7, vd8, vo8, rd8, ro8, vd9, vo9, rd9, ro9, vd10, vo10, rd10, ro10, vd11, vo11, rd11, ro11, vd12, vo12, rd12, ro12, vd13, vo13, rd13, ro13, vd14, vo14, rd14, ro14, vd15, vo15, rd15, ro15, vd16, vo16, rd16, ro16, vd17, vo17, rd17, ro17, vd18, vo18, rd18, ro18, vd19, vo19, rd19, ro19, vd20, vo20, rd20, ro20, vd21, vo21, rd21, ro21, vd22, vo22, rd22, ro22, vd23, vo23, rd23, ro23, lk_people, lk_names, lk_has_name, lk_person, lk_place, lk_voice, lk_places, lk_at, lk_line, lk_voices, lk_is_together, lk_own, lenL, lenT, lenS, ixL, ixT, ixS, dcutL, dcutS, addII, addSS, addLL, int1i, int1b, negI, reprL, reprT, absI, sc_n, sc_b, sc_i, sc_s, subI, mulI, fdvI, modI, powI, ltI, leI, gtI, geI, tr_n, tr_b, tr_i, tr_l, tr_t, tr_d, ty_n, ty_b, ty_i, ty_s, ty_l, ty_t, ty_d, in_n, in_b, in_i, in_s, in_l, in_t, in_d, eqII, neII, eqSS, neSS, eqBB, neBB, isic_n, isic_b, isic_i, isic_s, isic_l, isic_t, isic_d, isio_n, isio_b, isio_i, isio_s, isio_l, isio_t, isio_d, isic_I, isic_S, isic_T, isic_L, isic_B, isio_I, dIsiO, isi_ii, isi_ib, isi_is, isi_il, isi_bi, isi_bb, isi_bs, isi_si, isi_sb, isi_ss, isi_ni, isi_nb, isi_ns, isi_li, isi_lb, isi_ls, isi_ll, isi_ti, isi_tb, isi_ts, isi_tt, isi_di, isi_db, isi_ds, isi_lt, isi_tl, isi_bt, isi_nt, isi_dt, eqLL, neLL, eqTT, neTT, isi_sl, isi_st, isi_it, kit_ll, kit_lt, max2, min2, get1, get2b, get3b, get3c,
  List.map_cons, List.map_nil, List.length_cons, List.length_nil, List.replicate, List.append_nil, List.cons_append, List.nil_append, List.getElem?_cons_zero, List.getElem?_cons_succ, List.set_cons_zero, List.set_cons_succ, List.getElem?_nil, Nat.sub_zero, Nat.reduceAdd, Nat.reduceSub, Int.reduceLT, Int.reduceLE, Int.reduceNeg, Nat.zero_add,
  true_and, and_true, eq_self, Bool.true_or, Bool.or_true, Bool.false_or, Bool.or_false, Bool.true_and, Bool.and_true, Bool.false_and, Bool.and_false, exists_eq_left, exists_eq_left', exists_eq', exists_eq, Option.some.injEq, Res.v.injEq, D.bl.injEq, D.int.injEq, D.str.injEq, D.lst.injEq, D.tup.injEq, D.dct.injEq, D.ins.injEq, Sl.o.injEq, Sl.d.injEq, List.cons.injEq, reduceCtorEq, false_or, or_false, if_true, if_false, Bool.false_eq_true, Bool.not_true, Bool.not_false, ite_true, ite_false, decide_true, decide_false, and_self, List.isEmpty_nil, List.isEmpty_cons, exists_and_left, exists_const, lenNil])
/-- what may be asked as a name -/
def Nmd (C : Nm) (d : D) : Prop := tyC C d ∧ ∀ z, d = .str z → z.length ≤ sizeLine
theorem Nmd.word {C : Nm} {z : Str} (h : isWord z = true) : Nmd C (.str z) := ⟨rfl, fun y e => by cases e; exact word_len h⟩
set_option backward.match.sparseCases false in
def isPl (d : D) (p : Pn) : Bool := match d with
  | .int x => decide (p.2.1 = x)
  | _ => false
def togL (ps : List Pn) : Bool := decide ((placesL ps).length < 2)
def oddC (ps : List Pn) (x : Int) : Bool := decide (vAt ps x % 2 = 1)
/-- the people behind so many calls of the crowd at a place -/
def drP (x n : Int) (p : Pn) : Pn := (p.1, if p.2.1 < x then min x (p.2.1 + n) else max x (p.2.1 - n), p.2.2)
def drawnL (ps : List Pn) (x n : Int) : List Pn := ps.map (drP x n)
theorem Wf.drawn {ps : List Pn} (h : Wf ps) (x n : Int) : Wf (drawnL ps x n) where
  word := fun p hp => by obtain ⟨q, hq, rfl⟩ := List.mem_map.mp hp; exact h.word q hq
  nd := by
    have : (drawnL ps x n).map (·.1) = ps.map (·.1) := by unfold drawnL; rw [List.map_map]; rfl
    rw [this]; exact h.nd
  voice := fun p hp => by obtain ⟨q, hq, rfl⟩ := List.mem_map.mp hp; exact h.voice q hq
  few := by unfold drawnL; rw [List.length_map]; exact h.few
def canC (ps : List Pn) (x : Int) : Bool := oddC ps x && !togL ps
def firstAt (ps : List Pn) (x : Int) : Str := ((ps.filter (isPl (.int x))).map (·.1)).headD ("" : Str)
end L2.DL
set_option Elab.async false
set_option linter.all false
set_option autoImplicit false
set_option maxRecDepth 100000
set_option maxHeartbeats 2000000
namespace L2.DL
open PySem PySem.Spec PyProof.Rows
local macro_rules | `(tactic| walk_at "ev") => `(tactic| simp only [dSeq, dNext, dSet, dPar, dPar3, dRet, dRetN, dDrop, dIfS, dBrk, dCnt, dApp, dFor, dItL, dItT, dRng1, dRng2, dZip, dEnum, dItS, dAsg, dAugI, dNever, dPutS, dNewD, dFldM, dFldS, dStar,
  dgName, dgTup, dgCons, dgNil, dOp, dUn, dC, dNil, dCons, dCB, dTup, dLst, dIf, dTst, dTru, dAnd, dOr, dNot, dAndV, dOrV, dNotV, dYes, dInR, dFld, dMeth, dCall, dDctIx, dGet2, dRaise, dRaiseZ, dDisp, dPNil, dPCons, dRepD, dTold, dLenSet, hid_u, hid_d, hid_o, dStep2, dSlV, dIxV, dSetV, dPopV, dLenV, dLcV, lstAt, Option.isSome_some, Option.isSome_none, dSl, dNoP, dPart, dLc, dDc, dSortSet, dSortSc, dListVals, dChain, dIsiT2, dCallB, dBor, dNilB, dCBB, dOneL,
  dIsN, dNotN, dStrI, dAbs, dIn, fz_v, fz_l, fz_d, fz_i, fz_m, un_l, un_d, un_i, un_m, sl_v, sl_o, dwipe, and_assoc, insLF, insLT, insFF, insFT, startD, startN, pdT, pdI, gdT, prT, stI, putFD, lendable, noKR, noK, noKs,
  vd0, vo0, rd0, ro0, vd1, vo1, rd1, ro1, vd2, vo2, rd2, ro2, vd3, vo3, rd3, ro3, vd4, vo4, rd4, ro4, vd5, vo5, rd5, ro5, vd6, vo6, rd6, ro6, vd7, vo7, rd7, ro7, vd8, vo8, rd8, ro8, vd9, vo9, rd9, ro9, vd10, vo10, rd10, ro10, vd11, vo11, rd11, ro11, vd12, vo12, rd12, ro12, vd13, vo13, rd13, ro13, vd14, vo14, rd14, ro14, vd15, vo15, rd15, ro15, vd16, vo16, rd16, ro16, vd17, vo17, rd17, ro17, vd18, vo18, rd18, ro18, vd19, vo19, rd19, ro19, vd20, vo20, rd20, ro20, vd21, vo21, rd21, ro21, vd22, vo22, rd22, ro22, vd23, vo23, rd23, ro23, lk_people, lk_names, lk_has_name, lk_person, lk_place, lk_voice, lk_places, lk_at, lk_line, lk_voices, lk_is_together, lk_own, lenL, lenT, lenS, ixL, ixT, ixS, dcutL, dcutS, addII, addSS, addLL, int1i, int1b, negI, reprL, reprT, absI, sc_n, sc_b, sc_i, sc_s, subI, mulI, fdvI, modI, powI, ltI, leI, gtI, geI, tr_n, tr_b, tr_i, tr_l, tr_t, tr_d, ty_n, ty_b, ty_i, ty_s, ty_l, ty_t, ty_d, in_n, in_b, in_i, in_s, in_l, in_t, in_d, eqII, neII, eqSS, neSS, eqBB, neBB, isic_n, isic_b, isic_i, isic_s, isic_l, isic_t, isic_d, isio_n, isio_b, isio_i, isio_s, isio_l, isio_t, isio_d, isic_I, isic_S, isic_T, isic_L, isic_B, isio_I, dIsiO, isi_ii, isi_ib, isi_is, isi_il, isi_bi, isi_bb, isi_bs, isi_si, isi_sb, isi_ss, isi_ni, isi_nb, isi_ns, isi_li, isi_lb, isi_ls, isi_ll, isi_ti, isi_tb, isi_ts, isi_tt, isi_di, isi_db, isi_ds, isi_lt, isi_tl, isi_bt, isi_nt, isi_dt, eqLL, neLL, eqTT, neTT, isi_sl, isi_st, isi_it, kit_ll, kit_lt, max2, min2, get1, get2b, get3b, get3c,
  List.map_cons, List.map_nil, List.length_cons, List.length_nil, List.replicate, List.append_nil, List.cons_append, List.nil_append, List.getElem?_cons_zero, List.getElem?_cons_succ, List.set_cons_zero, List.set_cons_succ, List.getElem?_nil, Nat.sub_zero, Nat.reduceAdd, Nat.reduceSub, Int.reduceLT, Int.reduceLE, Int.reduceNeg, Nat.zero_add,
  true_and, and_true, eq_self, Bool.true_or, Bool.or_true, Bool.false_or, Bool.or_false, Bool.true_and, Bool.and_true, Bool.false_and, Bool.and_false, exists_eq_left, exists_eq_left', exists_eq', exists_eq, Option.some.injEq, Res.v.injEq, D.bl.injEq, D.int.injEq, D.str.injEq, D.lst.injEq, D.tup.injEq, D.dct.injEq, D.ins.injEq, Sl.o.injEq, Sl.d.injEq, List.cons.injEq, reduceCtorEq, false_or, or_false, if_true, if_false, Bool.false_eq_true, Bool.not_true, Bool.not_false, ite_true, ite_false, decide_true, decide_false, and_self, List.isEmpty_nil, List.isEmpty_cons, exists_and_left, exists_const, lenNil])
theorem merge_new : ∀ (kds acc : List (Key × D)), (acc.map (·.1) ++ kds.map (·.1)).Nodup → kds.foldl (fun acc kv => putD acc kv.1 kv.2) acc = acc ++ kds
  | [], acc, _ => by simp
  | (k, d) :: r, acc, h => by
    have h1 : (acc.any fun kv => decide (kv.1 = k)) = false := by
      rw [List.any_eq_false]
      intro kv hk
      have := (List.nodup_append.mp h).2.2 kv.1 (List.mem_map.mpr ⟨kv, hk, rfl⟩) k (by simp)
      simpa using this
    have e : putD acc k d = acc ++ [(k, d)] := by unfold putD; rw [if_neg (by rw [h1]; simp)]
    rw [List.foldl_cons, e, merge_new r _ (by simpa using h), List.append_assoc]
    rfl
def wD (C : Nm) (ps : List Pn) : D := .dct [(.inr ("people" : Str), .lst (ps.map pD)), (.inr ("standing" : Str), stD C ps)]
theorem merge2 {a b : D} : mergeD [] [((.inr ("people" : Str) : Key), a), (.inr ("standing" : Str), b)] = [((.inr ("people" : Str) : Key), a), (.inr ("standing" : Str), b)] := by
  unfold mergeD
  rw [merge_new _ _ (by simp only [List.map_nil, List.map_cons, List.nil_append]; decide +kernel)]
  rfl
theorem wd_p {a b : D} : valD [((.inr ("people" : Str) : Key), a), (.inr ("standing" : Str), b)] (.inr ("people" : Str)) = some a := rfl
theorem wd_s {a b : D} : valD [((.inr ("people" : Str) : Key), a), (.inr ("standing" : Str), b)] (.inr ("standing" : Str)) = some b := rfl
theorem erase_map {α β : Type} (f : α → β) : ∀ (l : List α) (j : Nat), (l.map f).eraseIdx j = (l.eraseIdx j).map f
  | [], _ => by simp
  | _ :: _, 0 => rfl
  | x :: l, j + 1 => by simp only [List.map_cons, List.eraseIdx_cons_succ, erase_map f l j]
theorem perm_erase {α : Type} {x : α} : ∀ {l : List α} {j : Nat}, l[j]? = some x → (x :: l.eraseIdx j).Perm l
  | [], _, h => by simp at h
  | y :: l, 0, h => by
    simp only [List.getElem?_cons_zero, Option.some.injEq] at h
    subst h
    exact List.Perm.refl _
  | y :: l, j + 1, h => by
    simp only [List.getElem?_cons_succ] at h
    exact (List.Perm.swap y x _).trans ((perm_erase h).cons y)
theorem perm_sum {l m : List Int} (h : l.Perm m) : l.sum = m.sum := by
  induction h with
  | nil => rfl
  | cons x _ ih => rw [List.sum_cons, List.sum_cons, ih]
  | swap x y l => simp only [List.sum_cons]; omega
  | trans _ _ a b => rw [a, b]
theorem ix_nat {n : Nat} {k : Int} (h0 : 0 ≤ k) (h1 : k < n) : ixN n k = some k.toNat := by
  unfold ixN
  rw [if_pos h0, if_pos h1]
theorem ix_last {n : Nat} (h : 1 ≤ n) : ixN n (-1) = some (n - 1) := by
  unfold ixN
  rw [if_neg (by decide), if_pos (by omega)]
  exact congrArg some (by omega)
theorem at_lastA {α : Type} {l : List α} {x : α} : atI (l ++ [x]) (-1) = some x := by
  unfold atI
  rw [ix_last (by rw [List.length_append, List.length_singleton]; omega)]
  simp
theorem set_last {α : Type} {l : List α} {x y : α} {n : Nat} (h : n = l.length) : (l ++ [x]).set n y = l ++ [y] := by
  subst h
  rw [List.set_append_right _ _ (Nat.le_refl _), Nat.sub_self]
  rfl
theorem Wf.perm {ps qs : List Pn} (h : Wf ps) (p : qs.Perm ps) : Wf qs := ⟨fun a ha => h.word a (p.mem_iff.mp ha), (p.map (·.1)).nodup_iff.mpr h.nd, fun a ha => h.voice a (p.mem_iff.mp ha), by rw [p.length_eq]; exact h.few⟩
theorem Drawn.perm {lo hi : Int} {ps qs : List Pn} (h : Drawn lo hi ps) (p : qs.Perm ps) : Drawn lo hi qs := ⟨fun a ha => h.name a (p.mem_iff.mp ha), (p.map (·.1)).nodup_iff.mpr h.nd, fun a ha => h.voice a (p.mem_iff.mp ha), fun a ha => h.lo a (p.mem_iff.mp ha), fun a ha => h.hi a (p.mem_iff.mp ha)⟩
def voS (ps : List Pn) : Int := (ps.map fun p => p.2.2).sum
def sp_l_made (C : Nm) : DSp := fun ds Q X => ∃ ps : List Pn, ds = [.lst (ps.map pD)] ∧ Wf ps ∧ Q (.ow (wD C ps))
def sp_l_mixed (C : Nm) : DSp := fun ds Q X => ∃ (α : Type) (inj : α → D) (xs : List α), ds = [.src, .lst (xs.map inj)] ∧ xs.length ≤ 1000 ∧ ∀ ys : List α, ys.Perm xs → Q (.own (ys.map inj))
def sp_l_world (C : Nm) : DSp := fun ds Q X => ∃ most far par : Int, ds = [.src, .int most, .int far, .int par] ∧ 1 ≤ most ∧ most ≤ 60 ∧ 1 ≤ far ∧ far ≤ 10 ^ 40 ∧ 0 ≤ par ∧ ∀ ps : List Pn, 1 ≤ ps.length → (ps.length : Int) ≤ most → Drawn (-10) (10 + (far + 2) * 60) ps → (par < 2 → voS ps % 2 = par) → (∃ c : Int, ∀ p, p ∈ ps → c ≤ p.2.1 ∧ p.2.1 ≤ c + max 2 far * (most - 1)) → Q (.ow (wD C ps))
def sp_w_spots (C : Nm) : DSp := fun ds Q X => ∃ ps : List Pn, ds = [wD C ps] ∧ ps.length ≤ 60 ∧ Q (.v (.tup (ps.map fun p => .int p.2.1)))
def spoD (ps : List Pn) : D := .tup (ps.map fun p => .int p.2.1)
def t_l_made (K : PySem.W.Frag) (C : Nm) (XD : DX) : DTS := (dRet (dDisp (dPCons (.inr ("people" : Str)) (dLc (dItL (dVar 0)) (dgName 1) dYes (dCB dTupOf (dCons (dVar 1) dNil)) [1]) (dPCons (.inr ("standing" : Str)) (dCall (sp_Standing C) XD (dCons (dVar 0) dNil)) dPNil))))
def t_l_mixed (K : PySem.W.Frag) (C : Nm) (XD : DX) : DTS := (dSeq (dSet 2 (dCB dListOf (dCons (dVar 1) dNil)))
      (dRet (dLc (dRng1 (dCons (dLenV 2) dNil)) (dgName 3) dYes (dPopV 2 (dCall (sp_l_pick C) XNo (dCons (dVar 0) (dCons (dLenV 2) dNil)))) [3])))
def t_l_world (K : PySem.W.Frag) (C : Nm) (XD : DX) : DTS := (dSeq (dPar 4 5 (dOp dSub (dCall (sp_l_pick C) XD (dCons (dVar 0) (dCons (dC (.int 21)) dNil))) (dC (.int 10))) (dLst dNil))
      (dSeq (dFor (dItL (dCall (sp_l_names C) XD (dCons (dVar 0) (dCons (dOp dAdd (dC (.int 1)) (dCall (sp_l_pick C) XD (dCons (dVar 0) (dCons (dVar 1) dNil)))) dNil)))) (dgName 6) (dSeq (dApp 5 (dTup (dCons (dVar 6) (dCons (dVar 4) (dCons (dCB dInt1 (dCons (dOp dGt (dCall (sp_l_pick C) XD (dCons (dVar 0) (dCons (dC (.int 4)) dNil))) (dC (.int 0))) dNil)) dNil)))))
      (dSet 4 (dOp dAdd (dVar 4) (dCall (sp_l_of C) XD (dCons (dVar 0) (dCons (dLst (dCons (dC (.int 0)) (dCons (dC (.int 1)) (dCons (dC (.int 1)) (dCons (dC (.int 2)) (dCons (dOp dAdd (dC (.int 1)) (dCall (sp_l_pick C) XD (dCons (dVar 0) (dCons (dVar 2) dNil)))) dNil)))))) dNil)))))))
      (dSeq (dIfS (dAnd (dTst (dOp dLt (dVar 3) (dC (.int 2)))) (dTst (dOp dNe2 (dOp dMod (dCB dInt1 (dCons (dCB dSum (dCons (dLcV 5 (dgName 7) dYes (dOp dIx (dVar 7) (dC (.int 2))) [7]) dNil)) dNil)) (dC (.int 2))) (dVar 3)))) (dSetV 5 (dUn dNeg (dC (.int 1))) (dTup (dCons (dOp dIx (dIxV 5 (dUn dNeg (dC (.int 1)))) (dC (.int 0))) (dCons (dOp dIx (dIxV 5 (dUn dNeg (dC (.int 1)))) (dC (.int 1))) (dCons (dOp dSub (dC (.int 1)) (dOp dIx (dIxV 5 (dUn dNeg (dC (.int 1)))) (dC (.int 2)))) dNil))))) dNext)
      (dRet (dCall (sp_l_made C) XD (dCons (dCall (sp_l_mixed C) XD (dCons (dVar 0) (dCons (dVar 5) dNil))) dNil))))))
def t_w_spots (K : PySem.W.Frag) (C : Nm) (XD : DX) : DTS := (dRet (dCB dTupOf (dCons (dLc (dItL (dDctIx (dVar 0) (dC (.str ("people" : Str))))) (dgName 1) dYes (dOp dIx (dVar 1) (dC (.int 1))) [1]) dNil)))
section
variable {K : PySem.W.Frag} {C : Nm} {XD : DX} {ds : List D} {QD : Res → Prop}
theorem pure_l_made (h : sp_l_made C ds QD XD) : t_l_made K C XD { nx := fun _ => QD (.v .non), rt := QD } (startN 2 ds) := by
  obtain ⟨ps, rfl, hw, q⟩ := h
  unfold t_l_made
  walk_at "ev"
  have few := hw.few
  refine lcL_fun (fun ρ => ρ = [Sl.d (.lst (ps.map pD)), Sl.un]) pD (fun _ => true) pD ?_ ps [] _ (by rw [List.length_nil]; omega) rfl ?_
  · rintro p ρ rfl K1 K2 h1 h2
    walk_at "ev"
    exact ⟨_, .inr rfl, h1 rfl _ _ rfl rfl⟩
  · rintro ρ rfl
    rw [filter_tt]
    walk_at "ev"
    refine ⟨ps, rfl, hw, ?_⟩
    show QD (.ow (.dct (mergeD [] [((.inr ("people" : Str) : Key), .lst (ps.map pD)), (.inr ("standing" : Str), stD C ps)])))
    rw [merge2]
    exact q
theorem pure_l_mixed (h : sp_l_mixed C ds QD XD) : t_l_mixed K C XD { nx := fun _ => QD (.v .non), rt := QD } (startN 4 ds) := by
  obtain ⟨α, inj, xs, rfl, few, q⟩ := h
  unfold t_l_mixed
  walk_at "ev"
  refine ⟨_, .inl rfl, ?_⟩
  walk_at "ev"
  rw [List.length_map]
  refine ⟨by omega, by omega, ?_⟩
  unfold rngD
  refine lcL_inv (fun (l : List Nat) acc ρ => ∃ (ys zs : List α), acc = ys.map inj ∧ ρ = [Sl.d .src, Sl.d (.lst (xs.map inj)), Sl.o (.lst (zs.map inj)), Sl.un] ∧ zs.length = l.length ∧ ys.length + zs.length = xs.length ∧ (ys ++ zs).Perm xs) (fun i : Nat => D.int (0 + (i : Int))) ?_ ?_ ?_ _ _ _ ⟨[], xs, rfl, rfl, by rw [List.length_range]; omega, by simp, List.Perm.refl _⟩
  · rintro l acc ρ ⟨ys, zs, rfl, rfl, h1, h2, h3⟩
    rw [List.length_map]; omega
  · rintro i rest acc ρ ⟨ys, zs, rfl, rfl, h1, h2, h3⟩ K1 K2 g1 g2
    rw [List.length_cons] at h1
    walk_at "ev"
    rw [List.length_map]
    refine ⟨zs.length, rfl, by omega, fun k k0 k1 => ?_⟩
    have k2 : k < (zs.length : Int) := by omega
    have k3 : k.toNat < zs.length := by omega
    refine ⟨k, rfl, small (m := 1000) (by omega), k.toNat, ix_nat k0 k2, inj zs[k.toNat], by rw [List.getElem?_map, List.getElem?_eq_getElem k3]; rfl, g1 _ _ ⟨ys ++ [zs[k.toNat]], zs.eraseIdx k.toNat, by rw [List.map_append]; rfl, by rw [erase_map]; rfl, ?_, ?_, ?_⟩⟩
    · rw [List.length_eraseIdx, if_pos k3]; omega
    · rw [List.length_eraseIdx, if_pos k3, List.length_append, List.length_singleton]; omega
    · rw [List.append_assoc]
      exact ((perm_erase (List.getElem?_eq_getElem k3)).append_left ys).trans h3
  · rintro acc ρ ⟨ys, zs, rfl, rfl, h1, h2, h3⟩
    have : zs = [] := List.eq_nil_of_length_eq_zero h1
    subst this
    rw [List.append_nil] at h3
    exact q ys h3
theorem pure_w_spots (h : sp_w_spots C ds QD XD) : t_w_spots K C XD { nx := fun _ => QD (.v .non), rt := QD } (startN 2 ds) := by
  obtain ⟨ps, rfl, few, q⟩ := h
  unfold t_w_spots
  walk_at "ev"
  refine ⟨_, rfl, _, rfl, _, wd_p, _, rfl, ?_⟩
  refine lcL_fun (fun ρ => ρ = [Sl.d (wD C ps), Sl.un]) pD (fun _ => true) (fun p => D.int p.2.1) ?_ ps [] _ (by rw [List.length_nil]; omega) rfl ?_
  · rintro p ρ rfl K1 K2 h1 h2
    walk_at "ev"
    exact h1 rfl _ _ rfl rfl
  · rintro ρ rfl
    rw [filter_tt]
    walk_at "ev"
    exact ⟨_, .inl rfl, q⟩
theorem pure_l_world (h : sp_l_world C ds QD XD) : t_l_world K C XD { nx := fun _ => QD (.v .non), rt := QD } (startN 8 ds) := by
  obtain ⟨most, far, par, rfl, m0, m1, f0, f1, p0, q⟩ := h
  unfold t_l_world
  walk_at "ev"
  refine ⟨21, rfl, by decide, fun x x0 x1 => ?_⟩
  walk_at "ev"
  refine ⟨most, rfl, by omega, fun k k0 k1 => ?_⟩
  walk_at "ev"
  refine ⟨1 + k, rfl, by omega, by omega, fun zs hl hz nd => ?_⟩
  walk_at "ev"
  obtain ⟨M, hM, M2, Mf⟩ : ∃ M : Int, max 2 far = M ∧ 2 ≤ M ∧ far ≤ M := ⟨_, rfl, by omega, by omega⟩
  refine loop_inv D.str (fun rest ρ => ∃ (ps : List Pn) (y : Int) (a : Sl), ρ = [Sl.d .src, Sl.d (.int most), Sl.d (.int far), Sl.d (.int par), Sl.d (.int y), Sl.o (.lst (ps.map pD)), a, Sl.un] ∧ ps.map (·.1) ++ rest = zs ∧ -10 ≤ y ∧ y ≤ 10 + (far + 2) * (ps.length : Int) ∧ (∀ p, p ∈ ps → (p.2.2 = 0 ∨ p.2.2 = 1) ∧ -10 ≤ p.2.1 ∧ p.2.1 ≤ 10 + (far + 2) * 60) ∧ (x - 10 ≤ y ∧ y ≤ x - 10 + M * (ps.length : Int)) ∧ ∀ p, p ∈ ps → x - 10 ≤ p.2.1 ∧ p.2.1 ≤ x - 10 + M * (most - 1)) ?_ ?_ _ _ ⟨[], x - 10, _, rfl, rfl, by omega, by simp only [List.length_nil, Int.natCast_zero, Int.mul_zero]; omega, (fun p hp => nomatch hp), ⟨by omega, by simp only [List.length_nil, Int.natCast_zero, Int.mul_zero]; omega⟩, fun p hp => nomatch hp⟩
  · rintro z rest ρ ⟨ps, y, a, rfl, ee, y0, y1, hp, hy, hc⟩ E' h1 h2 h3 h4
    walk_at "ev"
    refine ⟨4, rfl, by decide, fun v v0 v1 => ?_⟩
    walk_at "ev"
    refine ⟨by decide, small' (m := 60) (by have := congrArg List.length ee; rw [List.length_append, List.length_cons] at this; simp only [List.length_map] at this ⊢; omega), far, rfl, by omega, fun j j0 j1 => ?_⟩
    walk_at "ev"
    refine ⟨by decide, [D.int 0, D.int 1, D.int 1, D.int 2, D.int (1 + j)], rfl, Nat.succ_pos _, (show 5 ≤ 1000000 by decide), fun d hd => ?_⟩
    obtain ⟨e, rfl, e0, e1, eM⟩ : ∃ e : Int, d = .int e ∧ 0 ≤ e ∧ e ≤ far + 2 ∧ e ≤ M := by
      simp only [List.mem_cons, List.not_mem_nil, or_false] at hd
      rcases hd with rfl | rfl | rfl | rfl | rfl
      · exact ⟨_, rfl, by omega, by omega, by omega⟩
      · exact ⟨_, rfl, by omega, by omega, by omega⟩
      · exact ⟨_, rfl, by omega, by omega, by omega⟩
      · exact ⟨_, rfl, by omega, by omega, by omega⟩
      · exact ⟨_, rfl, by omega, by omega, by omega⟩
    show E'.nx [Sl.d D.src, Sl.d (D.int most), Sl.d (D.int far), Sl.d (D.int par), Sl.d (.int (y + e)), Sl.o (D.lst (List.map pD ps ++ [D.tup [D.str z, D.int y, D.int (if decide (0 < v) = true then 1 else 0)]])), Sl.d (D.str z), Sl.un]
    have len : ps.length + 1 ≤ 60 := by
      have := congrArg List.length ee
      rw [List.length_append, List.length_map, List.length_cons] at this
      omega
    have capM : M * (ps.length : Int) ≤ M * (most - 1) := Int.mul_le_mul_of_nonneg_left (by have := congrArg List.length ee; rw [List.length_append, List.length_map, List.length_cons] at this; omega) (by omega)
    have cap : (far + 2) * (ps.length : Int) ≤ (far + 2) * 60 := Int.mul_le_mul_of_nonneg_left (by omega) (by omega)
    refine h1 _ ⟨ps ++ [(z, y, if decide (0 < v) = true then 1 else 0)], y + e, Sl.d (D.str z), by rw [List.map_append]; rfl, by rw [← ee, List.map_append, List.append_assoc]; rfl, by omega, ?_, (fun p hpp => ?_), ⟨by omega, ?_⟩, fun p hpp => ?_⟩
    · rw [List.length_append, List.length_singleton, Int.natCast_add, Int.mul_add]
      simp only [Int.natCast_one, Int.mul_one]
      omega
    · rcases List.mem_append.mp hpp with h | h
      · exact hp p h
      · rw [List.mem_singleton.mp h]
        refine ⟨?_, y0, by show y ≤ _; omega⟩
        show (if decide (0 < v) = true then (1 : Int) else 0) = 0 ∨ (if decide (0 < v) = true then (1 : Int) else 0) = 1
        split <;> simp
    · rw [List.length_append, List.length_singleton, Int.natCast_add, Int.mul_add]
      simp only [Int.natCast_one, Int.mul_one]
      omega
    · rcases List.mem_append.mp hpp with h | h
      · exact hc p h
      · rw [List.mem_singleton.mp h]
        exact ⟨hy.1, by show y ≤ _; omega⟩
  · rintro ρ ⟨ps, y, a, rfl, ee, y0, y1, hp, hy, hc⟩
    rw [List.append_nil] at ee
    have len : ps.length = zs.length := by rw [← ee, List.length_map]
    walk_at "ev"
    have fin : ∀ qs : List Pn, qs.map (·.1) = zs → (∀ p, p ∈ qs → (p.2.2 = 0 ∨ p.2.2 = 1) ∧ -10 ≤ p.2.1 ∧ p.2.1 ≤ 10 + (far + 2) * 60) → (par < 2 → voS qs % 2 = par) → (∀ p, p ∈ qs → x - 10 ≤ p.2.1 ∧ p.2.1 ≤ x - 10 + M * (most - 1)) → sp_l_mixed C [D.src, D.lst (List.map pD qs)] (fun r => sp_l_made C [fz r] (fun r => QD r) XD) XD := fun qs e2 hq hpar hc => by
      have len2 : qs.length = zs.length := by rw [← e2, List.length_map]
      have dr : Drawn (-10) (10 + (far + 2) * 60) qs := ⟨fun p hpp => hz _ (by rw [← e2]; exact List.mem_map_of_mem hpp), by rw [e2]; exact nd, fun p hpp => (hq p hpp).1, fun p hpp => (hq p hpp).2.1, fun p hpp => (hq p hpp).2.2⟩
      refine ⟨Pn, pD, qs, rfl, by omega, fun ys hy => ?_⟩
      have yl := hy.length_eq
      refine ⟨ys, rfl, (dr.perm hy).wf (by omega), q ys (by omega) (by omega) (dr.perm hy) (fun h => ?_) ⟨x - 10, fun p hp => by rw [hM]; exact hc p (hy.mem_iff.mp hp)⟩⟩
      unfold voS at hpar ⊢
      rw [perm_sum (hy.map fun p : Pn => p.2.2)]
      exact hpar h
    by_cases h2 : par < 2
    · rw [decide_eq_true h2, if_pos rfl]
      refine lcP_fun (fun ρ => ρ = [Sl.d D.src, Sl.d (D.int most), Sl.d (D.int far), Sl.d (D.int par), Sl.d (D.int y), Sl.o (D.lst (List.map pD ps)), a, Sl.un]) pD (fun _ => true) (fun p => D.int p.2.2) (by rintro ρ rfl; rfl) ?_ ps [] _ (by rw [List.length_nil]; omega) rfl ?_
      · rintro p ρ rfl K1 K2 g1 g2
        walk_at "ev"
        exact g1 rfl _ _ rfl rfl
      · rintro ρ rfl
        rw [filter_tt]
        walk_at "ev"
        refine ⟨ps.map fun p => p.2.2, by rw [List.map_map]; rfl, ?_⟩
        rw [show (ps.map fun p => p.2.2).sum = voS ps from rfl]
        walk_at "ev"
        by_cases h3 : voS ps % 2 = par
        · rw [decide_eq_true h3]
          walk_at "ev"
          exact fin ps ee hp (fun _ => h3) hc
        · rw [decide_eq_false h3]
          obtain ⟨is, l, rfl⟩ : ∃ is l, ps = is ++ [l] := ⟨ps.dropLast, ps.getLast (by rintro rfl; simp only [List.length_nil] at len; omega), (List.dropLast_concat_getLast _).symm⟩
          rw [List.map_append, List.map_cons, List.map_nil]
          walk_at "ev"
          refine ⟨_, at_lastA, ?_⟩
          walk_at "ev"
          refine ⟨_, at_lastA, ?_⟩
          walk_at "ev"
          refine ⟨_, at_lastA, ?_⟩
          walk_at "ev"
          refine ⟨small (m := 3) (Nat.le_refl _), _, ix_last (by rw [List.length_append, List.length_singleton]; omega), ?_⟩
          rw [set_last (by rw [List.length_append, List.length_singleton]; rfl)]
          have hl := hp l (List.mem_append_right _ List.mem_cons_self)
          have e4 : voS (is ++ [l]) = voS is + l.2.2 := by unfold voS; rw [List.map_append, List.sum_append]; simp
          have e5 : voS (is ++ [(l.1, l.2.1, 1 - l.2.2)]) = voS is + (1 - l.2.2) := by unfold voS; rw [List.map_append, List.sum_append]; simp
          have := fin (is ++ [(l.1, l.2.1, 1 - l.2.2)]) (by rw [← ee, List.map_append, List.map_append]; rfl) (fun p hpp => by
            rcases List.mem_append.mp hpp with h | h
            · exact hp p (List.mem_append_left _ h)
            · rw [List.mem_singleton.mp h]
              exact ⟨by show 1 - l.2.2 = 0 ∨ 1 - l.2.2 = 1; omega, hl.2⟩) (fun _ => by omega) (fun p hpp => by
            rcases List.mem_append.mp hpp with h | h
            · exact hc p (List.mem_append_left _ h)
            · rw [List.mem_singleton.mp h]
              exact hc l (List.mem_append_right _ List.mem_cons_self))
          rw [List.map_append] at this
          exact this
    · rw [decide_eq_false h2, if_neg (by simp)]
      exact fin ps ee hp (fun h => absurd h h2) hc
end
end L2.DL
set_option Elab.async false
set_option linter.all false
set_option autoImplicit false
set_option maxRecDepth 100000
set_option maxHeartbeats 1000000
namespace L2.DL
open PySem PySem.Spec PyProof.Rows
theorem pairs_get {L : List Int} {k : Nat} (h : k + 1 < L.length) : (pairs L)[k]? = some (L[k], L[k + 1]) := by
  unfold pairs
  rw [List.getElem?_zip_eq_some]
  refine ⟨List.getElem?_eq_getElem (by omega), ?_⟩
  rw [List.getElem?_tail, List.getElem?_eq_getElem h]
theorem pairs_length (L : List Int) : (pairs L).length = L.length - 1 := by
  unfold pairs
  rw [List.length_zip, List.length_tail]
  omega
def kindAt (ps : List Pn) (k : Nat) : Bool := decide (cntLe ps ((placesL ps).getD k 0) % 2 = 1)
theorem gapsL_length (ps : List Pn) : (gapsL ps).length = (placesL ps).length - 1 := by rw [gapsL_eq, List.length_map, pairs_length]
theorem gaps_get {ps : List Pn} {k : Nat} (h : k + 1 < (placesL ps).length) : (gapsL ps)[k]? = some ((placesL ps)[k], (placesL ps)[k + 1] - (placesL ps)[k], kindAt ps k) := by
  rw [gapsL_eq, List.getElem?_map, pairs_get h]
  unfold kindAt
  rw [List.getD_eq_getElem?_getD, List.getElem?_eq_getElem (by omega)]
  rfl
def uq : List Int → List Int
  | [] => []
  | [x] => [x]
  | x :: y :: t => if x = y then uq (y :: t) else x :: uq (y :: t)
theorem uq_head (x : Int) (t : List Int) : ∃ r, uq (x :: t) = x :: r := by
  induction t generalizing x with
  | nil => exact ⟨[], rfl⟩
  | cons y t ih =>
    show ∃ r, (if x = y then uq (y :: t) else x :: uq (y :: t)) = x :: r
    by_cases h : x = y
    · rw [if_pos h, h]; exact ih y
    · rw [if_neg h]; exact ⟨_, rfl⟩
theorem mem_uq {z : Int} : ∀ {l : List Int}, z ∈ uq l ↔ z ∈ l
  | [] => Iff.rfl
  | [x] => Iff.rfl
  | x :: y :: t => by
    show z ∈ (if x = y then uq (y :: t) else x :: uq (y :: t)) ↔ _
    have ih := mem_uq (z := z) (l := y :: t)
    by_cases h : x = y
    · rw [if_pos h, ih, h]; simp
    · rw [if_neg h, List.mem_cons, List.mem_cons, ih]
theorem uq_lt : ∀ {l : List Int}, l.Pairwise (· ≤ ·) → (uq l).Pairwise (· < ·)
  | [], _ => .nil
  | [x], _ => List.pairwise_singleton _ _
  | x :: y :: t, hp => by
    show (if x = y then uq (y :: t) else x :: uq (y :: t)).Pairwise _
    obtain ⟨h1, h2⟩ := List.pairwise_cons.mp hp
    have ih := uq_lt h2
    by_cases h : x = y
    · rw [if_pos h]; exact ih
    · rw [if_neg h]
      refine List.pairwise_cons.mpr ⟨fun z hz => ?_, ih⟩
      have hz := mem_uq.mp hz
      have hy := h1 y List.mem_cons_self
      rcases List.mem_cons.mp hz with rfl | hz
      · omega
      · have := (List.pairwise_cons.mp h2).1 z hz
        omega
theorem uq_pairs : ∀ {l : List Int}, l.Pairwise (· ≤ ·) → pairs (uq l) = (pairs l).filter fun q => decide (q.1 < q.2)
  | [], _ => rfl
  | [x], _ => rfl
  | x :: y :: t, hp => by
    obtain ⟨h1, h2⟩ := List.pairwise_cons.mp hp
    have ih := uq_pairs h2
    show pairs (if x = y then uq (y :: t) else x :: uq (y :: t)) = _
    rw [pairs_cons2, List.filter_cons]
    by_cases h : x = y
    · rw [if_pos h, ih, if_neg (by rw [decide_eq_true_iff]; show ¬ x < y; omega)]
    · have hy := h1 y List.mem_cons_self
      rw [if_neg h, if_pos (by rw [decide_eq_true_iff]; show x < y; omega), ← ih]
      obtain ⟨r, e⟩ := uq_head y t
      rw [e, pairs_cons2]
theorem pairs_map (f : Int → Int) (l : List Int) : pairs (l.map f) = (pairs l).map fun q => (f q.1, f q.2) := by
  unfold pairs
  rw [← List.map_tail, List.zip_map]
  rfl
theorem pairs_sep {l : List Int} (hp : l.Pairwise (· < ·)) {q : Int × Int} (h : q ∈ pairs l) : q.1 < q.2 ∧ ∀ y, y ∈ l → y ≤ q.1 ∨ q.2 ≤ y := by
  induction l with
  | nil => cases h
  | cons a l ih =>
    obtain ⟨h1, h2⟩ := List.pairwise_cons.mp hp
    cases l with
    | nil => cases h
    | cons b t =>
      rw [pairs_cons2] at h
      rcases List.mem_cons.mp h with rfl | hq
      · refine ⟨h1 b List.mem_cons_self, fun y hy => ?_⟩
        rcases List.mem_cons.mp hy with rfl | hy
        · exact .inl (Int.le_refl _)
        · rcases List.mem_cons.mp hy with rfl | hy
          · exact .inr (Int.le_refl _)
          · exact .inr (Int.le_of_lt ((List.pairwise_cons.mp h2).1 y hy))
      · obtain ⟨i1, i2⟩ := ih h2 hq
        refine ⟨i1, fun y hy => ?_⟩
        rcases List.mem_cons.mp hy with rfl | hy
        · have := h1 q.1 (mem_pairs hq).1
          exact .inl (Int.le_of_lt this)
        · exact i2 y hy
def mvP (f : Int → Int) (p : Pn) : Pn := (p.1, f p.2.1, p.2.2)
theorem places_mv {f : Int → Int} (mono : ∀ x y, x ≤ y → f x ≤ f y) (ps : List Pn) : placesL (ps.map (mvP f)) = uq ((placesL ps).map f) := by
  have hs : ((placesL ps).map f).Pairwise (· ≤ ·) := by
    have h : (placesL ps).Pairwise (· < ·) := uset_lt
    rw [List.pairwise_map]
    exact h.imp fun h => mono _ _ (Int.le_of_lt h)
  refine lt_ext (show (placesL (ps.map (mvP f))).Pairwise (· < ·) from uset_lt) (uq_lt hs) fun x => ?_
  rw [mem_uq]
  unfold placesL
  rw [mem_uset, List.map_map, List.mem_map, List.mem_map]
  constructor
  · rintro ⟨p, hp, e⟩
    exact ⟨p.2.1, mem_uset.mpr (List.mem_map_of_mem hp), e⟩
  · rintro ⟨y, hy, e⟩
    obtain ⟨p, hp, e2⟩ := List.mem_map.mp (mem_uset.mp hy)
    exact ⟨p, hp, by show f p.2.1 = x; rw [← e, ← e2]⟩
theorem cnt_mv {f : Int → Int} (ps : List Pn) (a : Int) (h : ∀ p, p ∈ ps → (f p.2.1 ≤ f a ↔ p.2.1 ≤ a)) : cntLe (ps.map (mvP f)) (f a) = cntLe ps a := by
  unfold cntLe
  rw [List.filter_map, List.length_map]
  congr 2
  refine List.filter_congr fun p hp => ?_
  show (decide (f p.2.1 ≤ f a) && decide (p.2.2 = 1)) = _
  rw [decide_eq_decide.mpr (h p hp)]
theorem gaps_mv {f : Int → Int} (mono : ∀ x y, x ≤ y → f x ≤ f y) (ps : List Pn) : gapsL (ps.map (mvP f)) = ((pairs (placesL ps)).filter fun q => decide (f q.1 < f q.2)).map fun q => (f q.1, f q.2 - f q.1, decide (cntLe ps q.1 % 2 = 1)) := by
  have lt : (placesL ps).Pairwise (· < ·) := uset_lt
  have hs : ((placesL ps).map f).Pairwise (· ≤ ·) := by
    rw [List.pairwise_map]
    exact lt.imp fun h => mono _ _ (Int.le_of_lt h)
  rw [gapsL_eq, places_mv mono, uq_pairs hs, pairs_map, List.filter_map, List.map_map]
  refine List.map_congr_left fun q hq => ?_
  obtain ⟨hq1, hq2⟩ := List.mem_filter.mp hq
  have hq2 : f q.1 < f q.2 := of_decide_eq_true hq2
  show ((f q.1, f q.2 - f q.1, decide (cntLe (ps.map (mvP f)) (f q.1) % 2 = 1)) : Gap) = _
  rw [cnt_mv ps q.1 fun p hp => ?_]
  constructor
  · intro h
    rcases (pairs_sep lt hq1).2 p.2.1 (mem_places hp) with h2 | h2
    · exact h2
    · have := mono _ _ h2
      omega
  · exact mono _ _
def stepF (x y : Int) : Int := if y < x then min x (y + 1) else max x (y - 1)
theorem stepF_mono (x : Int) : ∀ a b, a ≤ b → stepF x a ≤ stepF x b := by
  intro a b h
  unfold stepF
  split <;> split <;> omega
theorem drawn_mv (ps : List Pn) (x : Int) : drawnL ps x 1 = ps.map (mvP (stepF x)) := rfl
/-- what is due of a gap behind a call at x -/
def nearG (x : Int) (g : Gap) : Int := if x = g.1 ∨ x = g.1 + g.2.1 then 1 else 0
def dueG (x : Int) (g : Gap) : List (Int × Bool) := if nearG x g < g.2.1 then [(g.2.1 - nearG x g, g.2.2)] else []
theorem flat_if {α β : Type} {p : α → Bool} {h : α → β} {g : α → List β} : ∀ {l : List α}, (∀ q, q ∈ l → g q = if p q = true then [h q] else []) → l.flatMap g = (l.filter p).map h
  | [], _ => rfl
  | q :: l, hg => by
    rw [List.flatMap_cons, hg q List.mem_cons_self, flat_if (l := l) fun r hr => hg r (List.mem_cons_of_mem _ hr), List.filter_cons]
    by_cases e : p q = true
    · rw [if_pos e, if_pos e]; rfl
    · rw [if_neg e, if_neg e]; rfl
theorem step_gap {x a b : Int} (hab : a < b) (hx : x ≤ a ∨ b ≤ x) : stepF x b - stepF x a = (b - a) - (if x = a ∨ x = b then 1 else 0) := by
  unfold stepF
  split <;> split <;> split <;> omega
theorem gaps_drawn {ps : List Pn} {x : Int} (hx : x ∈ placesL ps) : (gapsL (drawnL ps x 1)).map (fun g => (g.2.1, g.2.2)) = (gapsL ps).flatMap (dueG x) := by
  rw [drawn_mv, gaps_mv (stepF_mono x), List.map_map, gapsL_eq, List.flatMap_map]
  symm
  refine flat_if fun q hq => ?_
  obtain ⟨h1, h2⟩ := pairs_sep (show (placesL ps).Pairwise (· < ·) from uset_lt) hq
  have sg := step_gap h1 (h2 x hx)
  have en : nearG x (q.1, q.2 - q.1, decide (cntLe ps q.1 % 2 = 1)) = if x = q.1 ∨ x = q.2 then 1 else 0 := by
    unfold nearG
    show (if x = q.1 ∨ x = q.1 + (q.2 - q.1) then (1 : Int) else 0) = _
    rw [show q.1 + (q.2 - q.1) = q.2 by omega]
  unfold dueG
  rw [en]
  generalize (if x = q.1 ∨ x = q.2 then (1 : Int) else 0) = n at sg
  show (if n < q.2 - q.1 then [(q.2 - q.1 - n, _)] else []) = (if decide (stepF x q.1 < stepF x q.2) = true then [(stepF x q.2 - stepF x q.1, _)] else [])
  rw [sg]
  by_cases h : n < q.2 - q.1
  · rw [if_pos h, if_pos (by rw [decide_eq_true_iff]; omega)]
  · rw [if_neg h, if_neg (by rw [decide_eq_true_iff]; omega)]
set_option backward.match.sparseCases false in
mutual
def nc : D → Bool
  | .non => true
  | .bl _ => true
  | .int _ => true
  | .str _ => true
  | .lst xs => ncs xs
  | .tup xs => ncs xs
  | _ => false
def ncs : List D → Bool
  | [] => true
  | x :: xs => nc x && ncs xs
end
mutual
theorem eqv_self : ∀ (a : D), nc a = true → PyData.eqv (py a) (py a) = true
  | .non, _ => by simp [py, PyData.eqv]
  | .bl b, _ => by cases b <;> simp [py, PyData.eqv]
  | .int i, _ => by simp [py, PyData.eqv]
  | .str x, _ => by simp [py, PyData.eqv]
  | .lst xs, h => by simp only [py, PyData.eqv]; exact eqvs_self xs (by simpa only [nc] using h)
  | .tup xs, h => by simp only [py, PyData.eqv]; exact eqvs_self xs (by simpa only [nc] using h)
  | .dct _, h => by simp [nc] at h
  | .ins _ _, h => by simp [nc] at h
  | .iset _, h => by simp [nc] at h
  | .src, h => by simp [nc] at h
  | .ty _, h => by simp [nc] at h
  | .me _ _, h => by simp [nc] at h
theorem eqvs_self : ∀ (as : List D), ncs as = true → PyData.eqvAll (pys as) (pys as) = true
  | [], _ => by simp [pys, PyData.eqvAll]
  | a :: as, h => by
    simp only [ncs, Bool.and_eq_true] at h
    simp only [pys, PyData.eqvAll, Bool.and_eq_true]
    exact ⟨eqv_self a h.1, eqvs_self as h.2⟩
end
theorem ncs_map {α : Type} {f : α → D} : ∀ {l : List α}, (∀ x, x ∈ l → nc (f x) = true) → ncs (l.map f) = true
  | [], _ => rfl
  | x :: l, h => by
    simp only [List.map_cons, ncs, h x List.mem_cons_self, ncs_map (l := l) fun y hy => h y (List.mem_cons_of_mem _ hy), Bool.and_self]
theorem neSelf {d : D} {n w : Nat} {Q : Res → Prop} (h : nc d = true) (k : Sh n w d) (hn : n ≤ 60 := by decide) : dNe d d Q = Q (.v (.bl false)) := by
  unfold dNe
  rw [eqv_self d h]
  exact propext ⟨fun h => h.2, fun h => ⟨eqOk k k hn hn, h⟩⟩
end L2.DL
set_option Elab.async false
set_option linter.all false
set_option autoImplicit false
set_option maxRecDepth 100000
set_option maxHeartbeats 1000000
namespace L2.DL
open PySem PySem.Spec PyProof.Rows
abbrev WK : Type := Int × Bool
def dropZ (L : List WK) : List WK := L.flatMap fun g => if 0 < g.1 then [g] else []
def gW (g : Gap) : WK := (g.2.1, g.2.2)
def wkL (ps : List Pn) : List WK := (gapsL ps).map gW
def lessG (x : Int) (g : Gap) : WK := (g.2.1 - nearG x g, g.2.2)
theorem wk_drawn {ps : List Pn} {x : Int} (hx : x ∈ placesL ps) : wkL (drawnL ps x 1) = dropZ ((gapsL ps).map (lessG x)) := by
  unfold wkL dropZ
  rw [show (gapsL (drawnL ps x 1)).map gW = (gapsL (drawnL ps x 1)).map (fun g => (g.2.1, g.2.2)) from rfl, gaps_drawn hx, List.flatMap_map]
  congr 1
  funext g
  unfold dueG lessG
  by_cases h : nearG x g < g.2.1
  · rw [if_pos h, if_pos (by show 0 < g.2.1 - nearG x g; omega)]
  · rw [if_neg h, if_neg (by show ¬ 0 < g.2.1 - nearG x g; omega)]
theorem gaps_pos {ps : List Pn} {g : Gap} (h : g ∈ gapsL ps) : 0 < g.2.1 := by
  rw [gapsL_eq] at h
  obtain ⟨q, hq, rfl⟩ := List.mem_map.mp h
  have := (pairs_sep (show (placesL ps).Pairwise (· < ·) from uset_lt) hq).1
  show 0 < q.2 - q.1
  omega
theorem places_inj {ps : List Pn} {i j : Nat} (hi : i < (placesL ps).length) (hj : j < (placesL ps).length) (e : (placesL ps)[i] = (placesL ps)[j]) : i = j := by
  have lt := List.pairwise_iff_getElem.mp (show (placesL ps).Pairwise (· < ·) from uset_lt)
  rcases Nat.lt_trichotomy i j with h | h | h
  · have := lt i j hi hj h; omega
  · exact h
  · have := lt j i hj hi h; omega
/-- the gap of number i, seen from the crowd of number k -/
theorem near_at {ps : List Pn} {k i : Nat} (hk : k < (placesL ps).length) (hi : i + 1 < (placesL ps).length) : nearG ((placesL ps)[k]) ((placesL ps)[i], (placesL ps)[i + 1] - (placesL ps)[i], kindAt ps i) = if k = i ∨ k = i + 1 then 1 else 0 := by
  unfold nearG
  show (if (placesL ps)[k] = (placesL ps)[i] ∨ (placesL ps)[k] = (placesL ps)[i] + ((placesL ps)[i + 1] - (placesL ps)[i]) then (1 : Int) else 0) = _
  have e : (placesL ps)[i] + ((placesL ps)[i + 1] - (placesL ps)[i]) = (placesL ps)[i + 1] := by omega
  rw [e]
  have e1 : ((placesL ps)[k] = (placesL ps)[i]) = (k = i) := propext ⟨places_inj _ _, fun h => by subst h; rfl⟩
  have e2 : ((placesL ps)[k] = (placesL ps)[i + 1]) = (k = i + 1) := propext ⟨places_inj _ _, fun h => by subst h; rfl⟩
  simp only [e1, e2]
end L2.DL
set_option Elab.async false
set_option linter.all false
set_option autoImplicit false
set_option maxRecDepth 100000
set_option maxHeartbeats 2000000
namespace L2.DL
open PySem PySem.Spec PyProof.Rows
local macro_rules | `(tactic| walk_at "ev") => `(tactic| simp only [dSeq, dNext, dSet, dPar, dPar3, dRet, dRetN, dDrop, dIfS, dBrk, dCnt, dApp, dFor, dItL, dItT, dRng1, dRng2, dZip, dEnum, dItS, dAsg, dAugI, dNever, dPutS, dNewD, dFldM, dFldS, dStar,
  dgName, dgTup, dgCons, dgNil, dOp, dUn, dC, dNil, dCons, dCB, dTup, dLst, dIf, dTst, dTru, dAnd, dOr, dNot, dAndV, dOrV, dNotV, dYes, dInR, dFld, dMeth, dCall, dDctIx, dGet2, dRaise, dRaiseZ, dDisp, dPNil, dPCons, dRepD, dTold, dLenSet, hid_u, hid_d, hid_o, dStep2, dSlV, dIxV, dSetV, dPopV, dLenV, dLcV, lstAt, Option.isSome_some, Option.isSome_none, dSl, dNoP, dPart, dLc, dDc, dSortSet, dSortSc, dListVals, dChain, dIsiT2, dCallB, dBor, dNilB, dCBB, dOneL,
  dIsN, dNotN, dStrI, dAbs, dIn, fz_v, fz_l, fz_d, fz_i, fz_m, un_l, un_d, un_i, un_m, sl_v, sl_o, dwipe, and_assoc, insLF, insLT, insFF, insFT, startD, startN, pdT, pdI, gdT, prT, stI, putFD, lendable, noKR, noK, noKs,
  vd0, vo0, rd0, ro0, vd1, vo1, rd1, ro1, vd2, vo2, rd2, ro2, vd3, vo3, rd3, ro3, vd4, vo4, rd4, ro4, vd5, vo5, rd5, ro5, vd6, vo6, rd6, ro6, vd7, vo7, rd7, ro7, vd8, vo8, rd8, ro8, vd9, vo9, rd9, ro9, vd10, vo10, rd10, ro10, vd11, vo11, rd11, ro11, vd12, vo12, rd12, ro12, vd13, vo13, rd13, ro13, vd14, vo14, rd14, ro14, vd15, vo15, rd15, ro15, vd16, vo16, rd16, ro16, vd17, vo17, rd17, ro17, vd18, vo18, rd18, ro18, vd19, vo19, rd19, ro19, vd20, vo20, rd20, ro20, vd21, vo21, rd21, ro21, vd22, vo22, rd22, ro22, vd23, vo23, rd23, ro23, lk_people, lk_names, lk_has_name, lk_person, lk_place, lk_voice, lk_places, lk_at, lk_line, lk_voices, lk_is_together, lk_own, lenL, lenT, lenS, ixL, ixT, ixS, dcutL, dcutS, addII, addSS, addLL, int1i, int1b, negI, reprL, reprT, absI, sc_n, sc_b, sc_i, sc_s, subI, mulI, fdvI, modI, powI, ltI, leI, gtI, geI, tr_n, tr_b, tr_i, tr_l, tr_t, tr_d, ty_n, ty_b, ty_i, ty_s, ty_l, ty_t, ty_d, in_n, in_b, in_i, in_s, in_l, in_t, in_d, eqII, neII, eqSS, neSS, eqBB, neBB, isic_n, isic_b, isic_i, isic_s, isic_l, isic_t, isic_d, isio_n, isio_b, isio_i, isio_s, isio_l, isio_t, isio_d, isic_I, isic_S, isic_T, isic_L, isic_B, isio_I, dIsiO, isi_ii, isi_ib, isi_is, isi_il, isi_bi, isi_bb, isi_bs, isi_si, isi_sb, isi_ss, isi_ni, isi_nb, isi_ns, isi_li, isi_lb, isi_ls, isi_ll, isi_ti, isi_tb, isi_ts, isi_tt, isi_di, isi_db, isi_ds, isi_lt, isi_tl, isi_bt, isi_nt, isi_dt, eqLL, neLL, eqTT, neTT, isi_sl, isi_st, isi_it, kit_ll, kit_lt, max2, min2, get1, get2b, get3b, get3c,
  List.map_cons, List.map_nil, List.length_cons, List.length_nil, List.replicate, List.append_nil, List.cons_append, List.nil_append, List.getElem?_cons_zero, List.getElem?_cons_succ, List.set_cons_zero, List.set_cons_succ, List.getElem?_nil, Nat.sub_zero, Nat.reduceAdd, Nat.reduceSub, Int.reduceLT, Int.reduceLE, Int.reduceNeg, Nat.zero_add,
  true_and, and_true, eq_self, Bool.true_or, Bool.or_true, Bool.false_or, Bool.or_false, Bool.true_and, Bool.and_true, Bool.false_and, Bool.and_false, exists_eq_left, exists_eq_left', exists_eq', exists_eq, Option.some.injEq, Res.v.injEq, D.bl.injEq, D.int.injEq, D.str.injEq, D.lst.injEq, D.tup.injEq, D.dct.injEq, D.ins.injEq, Sl.o.injEq, Sl.d.injEq, List.cons.injEq, reduceCtorEq, false_or, or_false, if_true, if_false, Bool.false_eq_true, Bool.not_true, Bool.not_false, ite_true, ite_false, decide_true, decide_false, and_self, List.isEmpty_nil, List.isEmpty_cons, exists_and_left, exists_const, lenNil])
def sameV (ps qs : List Pn) : Prop := ps.map (fun p => p.2.2) = qs.map (fun p => p.2.2)
theorem sameV.len {ps qs : List Pn} (h : sameV ps qs) : ps.length = qs.length := by
  have := congrArg List.length (show ps.map (fun p => p.2.2) = qs.map (fun p => p.2.2) from h)
  rwa [List.length_map, List.length_map] at this
theorem sameV.sum {ps qs : List Pn} (h : sameV ps qs) : voS ps = voS qs := congrArg List.sum h
def Near (B : Int) (ps : List Pn) : Prop := ∀ p, p ∈ ps → -B ≤ p.2.1 ∧ p.2.1 ≤ B
theorem neNil {xs : List D} {n w : Nat} {Q : Res → Prop} (h : nc (.lst xs) = true) (k : Sh n w (.lst xs)) (hn : n ≤ 60 := by decide) : dNe (.lst xs) (.lst []) Q = Q (.v (.bl (!xs.isEmpty))) := by
  have e : PyData.eqv (py (.lst xs)) (py (.lst [])) = xs.isEmpty := by
    cases xs with
    | nil => exact eqv_self (.lst []) rfl
    | cons x xs => simp [py, pys, PyData.eqv, PyData.eqvAll]
  unfold dNe
  rw [e]
  exact propext ⟨fun h => h.2, fun h => ⟨eqOk k (Shs.nil.lst) hn (by decide), h⟩⟩
end L2.DL
set_option Elab.async false
set_option linter.all false
set_option autoImplicit false
set_option maxRecDepth 100000
set_option maxHeartbeats 2000000
namespace L2.DL
open PySem PySem.Spec PyProof.Rows
local macro_rules | `(tactic| walk_at "ev") => `(tactic| simp only [dSeq, dNext, dSet, dPar, dPar3, dRet, dRetN, dDrop, dIfS, dBrk, dCnt, dApp, dFor, dItL, dItT, dRng1, dRng2, dZip, dEnum, dItS, dAsg, dAugI, dNever, dPutS, dNewD, dFldM, dFldS, dStar,
  dgName, dgTup, dgCons, dgNil, dOp, dUn, dC, dNil, dCons, dCB, dTup, dLst, dIf, dTst, dTru, dAnd, dOr, dNot, dAndV, dOrV, dNotV, dYes, dInR, dFld, dMeth, dCall, dDctIx, dGet2, dRaise, dRaiseZ, dDisp, dPNil, dPCons, dRepD, dTold, dLenSet, hid_u, hid_d, hid_o, dStep2, dSlV, dIxV, dSetV, dPopV, dLenV, dLcV, lstAt, Option.isSome_some, Option.isSome_none, dSl, dNoP, dPart, dLc, dDc, dSortSet, dSortSc, dListVals, dChain, dIsiT2, dCallB, dBor, dNilB, dCBB, dOneL,
  dIsN, dNotN, dStrI, dAbs, dIn, fz_v, fz_l, fz_d, fz_i, fz_m, un_l, un_d, un_i, un_m, sl_v, sl_o, dwipe, and_assoc, insLF, insLT, insFF, insFT, startD, startN, pdT, pdI, gdT, prT, stI, putFD, lendable, noKR, noK, noKs,
  vd0, vo0, rd0, ro0, vd1, vo1, rd1, ro1, vd2, vo2, rd2, ro2, vd3, vo3, rd3, ro3, vd4, vo4, rd4, ro4, vd5, vo5, rd5, ro5, vd6, vo6, rd6, ro6, vd7, vo7, rd7, ro7, vd8, vo8, rd8, ro8, vd9, vo9, rd9, ro9, vd10, vo10, rd10, ro10, vd11, vo11, rd11, ro11, vd12, vo12, rd12, ro12, vd13, vo13, rd13, ro13, vd14, vo14, rd14, ro14, vd15, vo15, rd15, ro15, vd16, vo16, rd16, ro16, vd17, vo17, rd17, ro17, vd18, vo18, rd18, ro18, vd19, vo19, rd19, ro19, vd20, vo20, rd20, ro20, vd21, vo21, rd21, ro21, vd22, vo22, rd22, ro22, vd23, vo23, rd23, ro23, lk_people, lk_names, lk_has_name, lk_person, lk_place, lk_voice, lk_places, lk_at, lk_line, lk_voices, lk_is_together, lk_own, lenL, lenT, lenS, ixL, ixT, ixS, dcutL, dcutS, addII, addSS, addLL, int1i, int1b, negI, reprL, reprT, absI, sc_n, sc_b, sc_i, sc_s, subI, mulI, fdvI, modI, powI, ltI, leI, gtI, geI, tr_n, tr_b, tr_i, tr_l, tr_t, tr_d, ty_n, ty_b, ty_i, ty_s, ty_l, ty_t, ty_d, in_n, in_b, in_i, in_s, in_l, in_t, in_d, eqII, neII, eqSS, neSS, eqBB, neBB, isic_n, isic_b, isic_i, isic_s, isic_l, isic_t, isic_d, isio_n, isio_b, isio_i, isio_s, isio_l, isio_t, isio_d, isic_I, isic_S, isic_T, isic_L, isic_B, isio_I, dIsiO, isi_ii, isi_ib, isi_is, isi_il, isi_bi, isi_bb, isi_bs, isi_si, isi_sb, isi_ss, isi_ni, isi_nb, isi_ns, isi_li, isi_lb, isi_ls, isi_ll, isi_ti, isi_tb, isi_ts, isi_tt, isi_di, isi_db, isi_ds, isi_lt, isi_tl, isi_bt, isi_nt, isi_dt, eqLL, neLL, eqTT, neTT, isi_sl, isi_st, isi_it, kit_ll, kit_lt, max2, min2, get1, get2b, get3b, get3c,
  List.map_cons, List.map_nil, List.length_cons, List.length_nil, List.replicate, List.append_nil, List.cons_append, List.nil_append, List.getElem?_cons_zero, List.getElem?_cons_succ, List.set_cons_zero, List.set_cons_succ, List.getElem?_nil, Nat.sub_zero, Nat.reduceAdd, Nat.reduceSub, Int.reduceLT, Int.reduceLE, Int.reduceNeg, Nat.zero_add,
  true_and, and_true, eq_self, Bool.true_or, Bool.or_true, Bool.false_or, Bool.or_false, Bool.true_and, Bool.and_true, Bool.false_and, Bool.and_false, exists_eq_left, exists_eq_left', exists_eq', exists_eq, Option.some.injEq, Res.v.injEq, D.bl.injEq, D.int.injEq, D.str.injEq, D.lst.injEq, D.tup.injEq, D.dct.injEq, D.ins.injEq, Sl.o.injEq, Sl.d.injEq, List.cons.injEq, reduceCtorEq, false_or, or_false, if_true, if_false, Bool.false_eq_true, Bool.not_true, Bool.not_false, ite_true, ite_false, decide_true, decide_false, and_self, List.isEmpty_nil, List.isEmpty_cons, exists_and_left, exists_const, lenNil])
end L2.DL
set_option Elab.async false
set_option linter.all false
set_option autoImplicit false
set_option maxRecDepth 100000
set_option maxHeartbeats 1000000
namespace L2.DL
open PySem PySem.Spec PyProof.Rows
end L2.DL
set_option Elab.async false
set_option linter.all false
set_option autoImplicit false
set_option maxRecDepth 100000
set_option maxHeartbeats 2000000
namespace L2.DL
open PySem PySem.Spec PyProof.Rows
local macro_rules | `(tactic| walk_at "ev") => `(tactic| simp only [dSeq, dNext, dSet, dPar, dPar3, dRet, dRetN, dDrop, dIfS, dBrk, dCnt, dApp, dFor, dItL, dItT, dRng1, dRng2, dZip, dEnum, dItS, dAsg, dAugI, dNever, dPutS, dNewD, dFldM, dFldS, dStar,
  dgName, dgTup, dgCons, dgNil, dOp, dUn, dC, dNil, dCons, dCB, dTup, dLst, dIf, dTst, dTru, dAnd, dOr, dNot, dAndV, dOrV, dNotV, dYes, dInR, dFld, dMeth, dCall, dDctIx, dGet2, dRaise, dRaiseZ, dDisp, dPNil, dPCons, dRepD, dTold, dLenSet, hid_u, hid_d, hid_o, dStep2, dSlV, dIxV, dSetV, dPopV, dLenV, dLcV, lstAt, Option.isSome_some, Option.isSome_none, dSl, dNoP, dPart, dLc, dDc, dSortSet, dSortSc, dListVals, dChain, dIsiT2, dCallB, dBor, dNilB, dCBB, dOneL,
  dIsN, dNotN, dStrI, dAbs, dIn, fz_v, fz_l, fz_d, fz_i, fz_m, un_l, un_d, un_i, un_m, sl_v, sl_o, dwipe, and_assoc, insLF, insLT, insFF, insFT, startD, startN, pdT, pdI, gdT, prT, stI, putFD, lendable, noKR, noK, noKs,
  vd0, vo0, rd0, ro0, vd1, vo1, rd1, ro1, vd2, vo2, rd2, ro2, vd3, vo3, rd3, ro3, vd4, vo4, rd4, ro4, vd5, vo5, rd5, ro5, vd6, vo6, rd6, ro6, vd7, vo7, rd7, ro7, vd8, vo8, rd8, ro8, vd9, vo9, rd9, ro9, vd10, vo10, rd10, ro10, vd11, vo11, rd11, ro11, vd12, vo12, rd12, ro12, vd13, vo13, rd13, ro13, vd14, vo14, rd14, ro14, vd15, vo15, rd15, ro15, vd16, vo16, rd16, ro16, vd17, vo17, rd17, ro17, vd18, vo18, rd18, ro18, vd19, vo19, rd19, ro19, vd20, vo20, rd20, ro20, vd21, vo21, rd21, ro21, vd22, vo22, rd22, ro22, vd23, vo23, rd23, ro23, lk_people, lk_names, lk_has_name, lk_person, lk_place, lk_voice, lk_places, lk_at, lk_line, lk_voices, lk_is_together, lk_own, lenL, lenT, lenS, ixL, ixT, ixS, dcutL, dcutS, addII, addSS, addLL, int1i, int1b, negI, reprL, reprT, absI, sc_n, sc_b, sc_i, sc_s, subI, mulI, fdvI, modI, powI, ltI, leI, gtI, geI, tr_n, tr_b, tr_i, tr_l, tr_t, tr_d, ty_n, ty_b, ty_i, ty_s, ty_l, ty_t, ty_d, in_n, in_b, in_i, in_s, in_l, in_t, in_d, eqII, neII, eqSS, neSS, eqBB, neBB, isic_n, isic_b, isic_i, isic_s, isic_l, isic_t, isic_d, isio_n, isio_b, isio_i, isio_s, isio_l, isio_t, isio_d, isic_I, isic_S, isic_T, isic_L, isic_B, isio_I, dIsiO, isi_ii, isi_ib, isi_is, isi_il, isi_bi, isi_bb, isi_bs, isi_si, isi_sb, isi_ss, isi_ni, isi_nb, isi_ns, isi_li, isi_lb, isi_ls, isi_ll, isi_ti, isi_tb, isi_ts, isi_tt, isi_di, isi_db, isi_ds, isi_lt, isi_tl, isi_bt, isi_nt, isi_dt, eqLL, neLL, eqTT, neTT, isi_sl, isi_st, isi_it, kit_ll, kit_lt, max2, min2, get1, get2b, get3b, get3c,
  List.map_cons, List.map_nil, List.length_cons, List.length_nil, List.replicate, List.append_nil, List.cons_append, List.nil_append, List.getElem?_cons_zero, List.getElem?_cons_succ, List.set_cons_zero, List.set_cons_succ, List.getElem?_nil, Nat.sub_zero, Nat.reduceAdd, Nat.reduceSub, Int.reduceLT, Int.reduceLE, Int.reduceNeg, Nat.zero_add,
  true_and, and_true, eq_self, Bool.true_or, Bool.or_true, Bool.false_or, Bool.or_false, Bool.true_and, Bool.and_true, Bool.false_and, Bool.and_false, exists_eq_left, exists_eq_left', exists_eq', exists_eq, Option.some.injEq, Res.v.injEq, D.bl.injEq, D.int.injEq, D.str.injEq, D.lst.injEq, D.tup.injEq, D.dct.injEq, D.ins.injEq, Sl.o.injEq, Sl.d.injEq, List.cons.injEq, reduceCtorEq, false_or, or_false, if_true, if_false, Bool.false_eq_true, Bool.not_true, Bool.not_false, ite_true, ite_false, decide_true, decide_false, and_self, List.isEmpty_nil, List.isEmpty_cons, exists_and_left, exists_const, lenNil])
end L2.DL
set_option Elab.async false
set_option linter.all false
set_option autoImplicit false
set_option maxRecDepth 100000
set_option maxHeartbeats 1000000
namespace L2.DL
open PySem PySem.Spec PyProof.Rows
def pyS : D → PyData
  | .bl b => .bool b
  | .int i => .int i
  | .str x => .str x
  | _ => .none
def isS : D → Bool
  | .non => true
  | .bl _ => true
  | .int _ => true
  | .str _ => true
  | _ => false
def pyK : Key → PyData
  | .inl i => .int i
  | .inr x => .str x
mutual
def pyW : D → PyData
  | .bl b => .bool b
  | .int i => .int i
  | .str x => .str x
  | .lst xs => .list (pyWs xs)
  | .tup xs => .tuple (pyWs xs)
  | .dct kvs => .dict (kvs.map fun p => (pyK p.1, pyS p.2))
  | _ => .none
def pyWs : List D → List PyData
  | [] => []
  | x :: xs => pyW x :: pyWs xs
end
mutual
def plainW : D → Bool
  | .non => true
  | .bl _ => true
  | .int _ => true
  | .str _ => true
  | .lst xs => plainWs xs
  | .tup xs => plainWs xs
  | .dct kvs => kvs.all fun p => isS p.2
  | _ => false
def plainWs : List D → Bool
  | [] => true
  | x :: xs => plainW x && plainWs xs
end
mutual
inductive RD (h : Heap) : Value → PyData → Prop
  | base {v : Value} {d : PyData} {as : List Addr} : Reads h v d as → (d.hasDict = true → sysModules ∉ as) → RD h v d
  | list {a : Addr} {o : Obj} {vs : Array Value} {n : Nat} {xs : List PyData} : h.get? a = some o → o.cls = .type "list" → o.data = .seq vs n → RDs h vs.toList xs → RD h (.ref a) (.list xs)
  | tuple {a : Addr} {o : Obj} {vs : Array Value} {n : Nat} {xs : List PyData} : h.get? a = some o → o.cls = .type "tuple" → o.data = .seq vs n → RDs h vs.toList xs → RD h (.ref a) (.tuple xs)
inductive RDs (h : Heap) : List Value → List PyData → Prop
  | nil : RDs h [] []
  | cons {v : Value} {vs : List Value} {d : PyData} {ds : List PyData} : RD h v d → RDs h vs ds → RDs h (v :: vs) (d :: ds)
end
section
variable {h : Heap} {P : Program} {w : World}
mutual
theorem RD.reads : ∀ {v : Value} {d : PyData}, RD h v d → ∃ as, Reads h v d as
  | _, _, .base r _ => ⟨_, r⟩
  | _, _, .list a b c r => let ⟨_, q⟩ := r.reads; ⟨_, .list a b c q⟩
  | _, _, .tuple a b c r => let ⟨_, q⟩ := r.reads; ⟨_, .tuple a b c q⟩
theorem RDs.reads : ∀ {vs : List Value} {ds : List PyData}, RDs h vs ds → ∃ as, ReadsAll h vs ds as
  | _, _, .nil => ⟨_, .nil⟩
  | _, _, .cons r t => let ⟨_, q⟩ := r.reads; let ⟨_, q2⟩ := t.reads; ⟨_, .cons q q2⟩
end
end
def ShowW (d : D) : Prop := plainW d = true ∧ (pyW d).showable = true ∧ (pyW d).depth ≤ 60 ∧ (pyW d).shown.length ≤ sizeLine
def dReprW (ds : List D) (Q : Res → Prop) : Prop := ∃ xs, ds = [.lst xs] ∧ ShowW (.lst xs) ∧ Q (.v (.str (pyW (.lst xs)).shown))
end L2.DL
set_option Elab.async false
set_option linter.all false
set_option autoImplicit false
set_option maxRecDepth 100000
set_option maxHeartbeats 1000000
namespace L2.DL
open PySem PySem.Spec PyProof.Rows PySem.SeqAt MeetsSeq
end L2.DL
set_option Elab.async false
set_option linter.all false
set_option autoImplicit false
set_option maxRecDepth 100000
set_option maxHeartbeats 2000000
namespace L2.DL
open PySem PySem.Spec PyProof.Rows
local macro_rules | `(tactic| walk_at "ev") => `(tactic| simp only [dSeq, dNext, dSet, dPar, dPar3, dRet, dRetN, dDrop, dIfS, dBrk, dCnt, dApp, dFor, dItL, dItT, dRng1, dRng2, dZip, dEnum, dItS, dAsg, dAugI, dNever, dPutS, dNewD, dFldM, dFldS, dStar,
  dgName, dgTup, dgCons, dgNil, dOp, dUn, dC, dNil, dCons, dCB, dTup, dLst, dIf, dTst, dTru, dAnd, dOr, dNot, dAndV, dOrV, dNotV, dYes, dInR, dFld, dMeth, dCall, dDctIx, dGet2, dRaise, dRaiseZ, dDisp, dPNil, dPCons, dRepD, dTold, dLenSet, hid_u, hid_d, hid_o, dStep2, dSlV, dIxV, dSetV, dPopV, dLenV, dLcV, lstAt, Option.isSome_some, Option.isSome_none, dSl, dNoP, dPart, dLc, dDc, dSortSet, dSortSc, dListVals, dChain, dIsiT2, dCallB, dBor, dNilB, dCBB, dOneL,
  dIsN, dNotN, dStrI, dAbs, dIn, fz_v, fz_l, fz_d, fz_i, fz_m, un_l, un_d, un_i, un_m, sl_v, sl_o, dwipe, and_assoc, insLF, insLT, insFF, insFT, startD, startN, pdT, pdI, gdT, prT, stI, putFD, lendable, noKR, noK, noKs,
  vd0, vo0, rd0, ro0, vd1, vo1, rd1, ro1, vd2, vo2, rd2, ro2, vd3, vo3, rd3, ro3, vd4, vo4, rd4, ro4, vd5, vo5, rd5, ro5, vd6, vo6, rd6, ro6, vd7, vo7, rd7, ro7, vd8, vo8, rd8, ro8, vd9, vo9, rd9, ro9, vd10, vo10, rd10, ro10, vd11, vo11, rd11, ro11, vd12, vo12, rd12, ro12, vd13, vo13, rd13, ro13, vd14, vo14, rd14, ro14, vd15, vo15, rd15, ro15, vd16, vo16, rd16, ro16, vd17, vo17, rd17, ro17, vd18, vo18, rd18, ro18, vd19, vo19, rd19, ro19, vd20, vo20, rd20, ro20, vd21, vo21, rd21, ro21, vd22, vo22, rd22, ro22, vd23, vo23, rd23, ro23, lk_people, lk_names, lk_has_name, lk_person, lk_place, lk_voice, lk_places, lk_at, lk_line, lk_voices, lk_is_together, lk_own, lenL, lenT, lenS, ixL, ixT, ixS, dcutL, dcutS, addII, addSS, addLL, int1i, int1b, negI, reprL, reprT, absI, sc_n, sc_b, sc_i, sc_s, subI, mulI, fdvI, modI, powI, ltI, leI, gtI, geI, tr_n, tr_b, tr_i, tr_l, tr_t, tr_d, ty_n, ty_b, ty_i, ty_s, ty_l, ty_t, ty_d, in_n, in_b, in_i, in_s, in_l, in_t, in_d, eqII, neII, eqSS, neSS, eqBB, neBB, isic_n, isic_b, isic_i, isic_s, isic_l, isic_t, isic_d, isio_n, isio_b, isio_i, isio_s, isio_l, isio_t, isio_d, isic_I, isic_S, isic_T, isic_L, isic_B, isio_I, dIsiO, isi_ii, isi_ib, isi_is, isi_il, isi_bi, isi_bb, isi_bs, isi_si, isi_sb, isi_ss, isi_ni, isi_nb, isi_ns, isi_li, isi_lb, isi_ls, isi_ll, isi_ti, isi_tb, isi_ts, isi_tt, isi_di, isi_db, isi_ds, isi_lt, isi_tl, isi_bt, isi_nt, isi_dt, eqLL, neLL, eqTT, neTT, isi_sl, isi_st, isi_it, kit_ll, kit_lt, max2, min2, get1, get2b, get3b, get3c,
  List.map_cons, List.map_nil, List.length_cons, List.length_nil, List.replicate, List.append_nil, List.cons_append, List.nil_append, List.getElem?_cons_zero, List.getElem?_cons_succ, List.set_cons_zero, List.set_cons_succ, List.getElem?_nil, Nat.sub_zero, Nat.reduceAdd, Nat.reduceSub, Int.reduceLT, Int.reduceLE, Int.reduceNeg, Nat.zero_add,
  true_and, and_true, eq_self, Bool.true_or, Bool.or_true, Bool.false_or, Bool.or_false, Bool.true_and, Bool.and_true, Bool.false_and, Bool.and_false, exists_eq_left, exists_eq_left', exists_eq', exists_eq, Option.some.injEq, Res.v.injEq, D.bl.injEq, D.int.injEq, D.str.injEq, D.lst.injEq, D.tup.injEq, D.dct.injEq, D.ins.injEq, Sl.o.injEq, Sl.d.injEq, List.cons.injEq, reduceCtorEq, false_or, or_false, if_true, if_false, Bool.false_eq_true, Bool.not_true, Bool.not_false, ite_true, ite_false, decide_true, decide_false, and_self, List.isEmpty_nil, List.isEmpty_cons, exists_and_left, exists_const, lenNil])
instance {d : D} : Decidable (ShowW d) := inferInstanceAs (Decidable (_ ∧ _ ∧ _ ∧ _))
def oddD2 : List D := [.non, .bl true, .bl false, .int (-1), .int 7, .int (10 ^ Int.toNat 30), .str ("" : Str), .str ("A" : Str), .str ("a" : Str), .tup [], .lst [], .dct [], .tup [.non], .lst [.tup [.str ("a" : Str), .int 0, .int 1]], .tup [.str ("a" : Str), .int 0, .int 1],
  .tup [.str ("a" : Str), .int 1], .tup [.str ("a" : Str), .int 0, .bl true], .tup [.int 0, .int 1], .dct [(.inl 0, .int 1)]]
def sp_w_odd (C : Nm) : DSp := fun ds Q X => ds = [.src] ∧ ∀ d, d ∈ oddD2 → Q (.v d)
def t_w_odd (K : PySem.W.Frag) (C : Nm) (XD : DX) : DTS := (dSeq (dSet 1 (dLst (dCons (dC .non) (dCons (dC (.bl true)) (dCons (dC (.bl false)) (dCons (dUn dNeg (dC (.int 1))) (dCons (dC (.int 7)) (dCons (dOp dPow (dC (.int 10)) (dC (.int 30))) (dCons (dC (.str ("" : Str))) (dCons (dC (.str ("A" : Str))) (dCons (dC (.str ("a" : Str))) (dCons (dTup dNil) (dCons (dLst dNil) (dCons dNewD (dCons (dTup (dCons (dC .non) dNil)) (dCons (dLst (dCons (dTup (dCons (dC (.str ("a" : Str))) (dCons (dC (.int 0)) (dCons (dC (.int 1)) dNil)))) dNil)) (dCons (dTup (dCons (dC (.str ("a" : Str))) (dCons (dC (.int 0)) (dCons (dC (.int 1)) dNil)))) dNil)))))))))))))))))
      (dRet (dCall (sp_l_of C) XD (dCons (dVar 0) (dCons (dOp dAdd (dVar 1) (dLst (dCons (dTup (dCons (dC (.str ("a" : Str))) (dCons (dC (.int 1)) dNil))) (dCons (dTup (dCons (dC (.str ("a" : Str))) (dCons (dC (.int 0)) (dCons (dC (.bl true)) dNil)))) (dCons (dTup (dCons (dC (.int 0)) (dCons (dC (.int 1)) dNil))) (dCons (dDisp (dPCons (.inl 0) (dC (.int 1)) dPNil)) dNil)))))) dNil)))))
section
variable {K : PySem.W.Frag} {C : Nm} {XD : DX} {ds : List D} {QD : Res → Prop}
theorem pure_w_odd (h : sp_w_odd C ds QD XD) : t_w_odd K C XD { nx := fun _ => QD (.v .non), rt := QD } (startN 2 ds) := by
  obtain ⟨rfl, q⟩ := h
  unfold t_w_odd
  walk_at "ev"
  exact ⟨⟨by decide, by decide, by decide⟩, by decide, by decide, by decide, by decide, by decide, by decide, by decide, by decide, by decide, by decide, oddD2, rfl, by decide, by decide, q⟩
end
end L2.DL
set_option Elab.async false
set_option linter.all false
set_option autoImplicit false
set_option maxRecDepth 100000
set_option maxHeartbeats 1000000
namespace L2.DL
open PySem PySem.Spec PyProof.Rows
open PySem.Sem (wp)
def itAt (b : Bool) (h : Heap) (it l : Addr) (i : Nat) : Prop := match b with
  | true => h.IsTupleIter it l i
  | false => h.IsListIter it l i
def sqAt (b : Bool) (h : Heap) (l : Addr) (xs : Array Value) : Prop := match b with
  | true => h.IsTuple l xs
  | false => h.IsList l xs
theorem itAt.at {b : Bool} {h h' : Heap} {a l : Addr} {i : Nat} (x : itAt b h a l i) (e : ∀ o, h.get? a = some o → h'.get? a = some o) : itAt b h' a l i := by
  cases b with
  | true => exact Heap.IsTupleIter.at x e
  | false => exact Heap.IsListIter.at x e
theorem itAt.obj {b : Bool} {h : Heap} {a l : Addr} {i : Nat} (x : itAt b h a l i) : ∃ o c fs, h.get? a = some o ∧ o.cls = c ∧ o.data = .fields fs := by
  cases b with
  | true => obtain ⟨o, e, h1, h2⟩ := (show h.IsTupleIter a l i from x); exact ⟨o, _, _, e, h1, h2⟩
  | false => obtain ⟨o, e, h1, h2⟩ := (show h.IsListIter a l i from x); exact ⟨o, _, _, e, h1, h2⟩
theorem sqAt.at {b : Bool} {h h' : Heap} {l : Addr} {xs : Array Value} (x : sqAt b h l xs) (e : ∀ o, h.get? l = some o → h'.get? l = some o) : sqAt b h' l xs := by
  cases b with
  | true => obtain ⟨o, y, r⟩ := (show h.IsTuple l xs from x); exact ⟨o, e _ y, r⟩
  | false => obtain ⟨o, y, r⟩ := (show h.IsList l xs from x); exact ⟨o, e _ y, r⟩
theorem sqAt.there {b : Bool} {h : Heap} {l : Addr} {xs : Array Value} (x : sqAt b h l xs) : l < h.objs.size := by
  cases b with
  | true => obtain ⟨o, y, _⟩ := (show h.IsTuple l xs from x); exact Heap.lt_size y
  | false => obtain ⟨o, y, _⟩ := (show h.IsList l xs from x); exact Heap.lt_size y
section
variable {prog : Program} {w : World} {A : Around} {E : Value → Shared → Prop} {s : Shared}
theorem nextAt_item {b : Bool} {it l : Addr} {i : Nat} {xs : Array Value} {x : Value} {Q : Value → Shared → Prop} (hit : itAt b s.heap it l i) (hl : sqAt b s.heap l xs) (hx : xs[i]? = some x)
    (hQ : ∀ h', itAt b h' it l (i + 1) → Heap.SameBut it s.heap h' → Q x { s with heap := h' }) : wpAny (model prog w) A (Builtin.SmallTypes.nextOf (.ref it)) Q E s := by
  cases b with
  | true => exact RZ.nextOf_tuple_item hit hl hx hQ
  | false => exact wpAny_nextOf_list_item hit hl hx hQ
theorem nextAt_end {b : Bool} {it l : Addr} {i : Nat} {xs : Array Value} {Q : Value → Shared → Prop} (hh : A.handled = none) (hit : itAt b s.heap it l i) (hl : sqAt b s.heap l xs) (hx : xs[i]? = none)
    (hE : ∀ h' e, Heap.ExtBut it s.heap h' → (∃ o, h'.get? e = some o ∧ o.cls = .type "StopIteration") → E (.ref e) { s with heap := h' }) : wpAny (model prog w) A (Builtin.SmallTypes.nextOf (.ref it)) Q E s := by
  cases b with
  | true => exact RZ.nextOf_tuple_end hh hit hl hx hE
  | false => exact wpAny_nextOf_list_end hh hit hl hx hE
variable {b1 b2 : Bool}
theorem zipAt_item {z TI TO i1 i2 l1 l2 : Addr} {k1 k2 : Nat} {xs ys : Array Value} {x y a b : Value} {Q : Value → Shared → Prop} (D : ZipApart z TI TO i1 i2 l1 l2)
    (hz : IsZip s.heap z TI TO .none) (hTI : IsPair s.heap TI (.ref i1) (.ref i2)) (hTO : IsPair s.heap TO a b) (h1 : itAt b1 s.heap i1 l1 k1) (h2 : itAt b2 s.heap i2 l2 k2) (hl1 : sqAt b1 s.heap l1 xs) (hl2 : sqAt b2 s.heap l2 ys) (hx : xs[k1]? = some x) (hy : ys[k2]? = some y)
    (hQ : ∀ h', IsZip h' z TI TO (rawInt s.heap.objs.size) → IsPair h' TO x y → itAt b1 h' i1 l1 (k1 + 1) → itAt b2 h' i2 l2 (k2 + 1) → IsPair h' s.heap.objs.size x y → h'.objs.size = s.heap.objs.size + 1 →
      (∀ c o, c ≠ z → c ≠ TO → c ≠ i1 → c ≠ i2 → s.heap.get? c = some o → h'.get? c = some o) → Q (.ref s.heap.objs.size) { s with heap := h' }) :
    wpAny (model prog w) A (Builtin.«zip.__next__» ⟨[.ref z], []⟩) (fun fin s' => ∃ v, fin = .done (.ret v) ∧ Q v s') E s := by
  show wpAny _ _ (field (.ref z) 2 >>= _) _ _ _
  refine wpAny_bind (wpAny_field hz rfl (x := .bool false) rfl ?_)
  show wpAny _ _ (field (.ref z) 3 >>= _) _ _ _
  refine wpAny_bind (wpAny_field hz rfl (x := .ref TI) rfl (wpAny_bind (wpAny_seqItems hTI rfl ?_)))
  show wpAny _ _ (Builtin.SmallTypes.ownedTupleIsFree (.ref z) >>= _) _ _ _
  unfold Builtin.SmallTypes.ownedTupleIsFree
  refine wpAny_bind (wpAny_bind (wpAny_field hz rfl (x := .none) rfl (wpAny_pure ?_)))
  simp only [if_true]
  refine wpAny_bind (wpAny_rule (wpAny_bind (wpAny_field hz rfl (x := .ref TO) rfl ?_)))
  refine wpAny_bind (wpAny_setField_rec hz (by simp) fun h₁ hz₁ s1 => wpAny_bind ?_)
  replace hz₁ : IsZip h₁ z TI TO .ellipsis := hz₁
  simp only [List.zipIdx_cons, List.zipIdx_nil, List.forIn_cons, List.forIn_nil]
  refine wpAny_bind (wpAny_bind (wpAny_onRaise ?_))
  show wpAny _ _ (Builtin.SmallTypes.nextOf (.ref i1) >>= _) _ _ _
  have j1 : itAt b1 h₁ i1 l1 k1 := h1.at fun o e => s1.extBut _ _ D.i1z e
  have j2 : itAt b2 h₁ i2 l2 k2 := h2.at fun o e => s1.extBut _ _ D.i2z e
  have q1 : sqAt b1 h₁ l1 xs := hl1.at fun o e => s1.extBut _ _ D.l1z e
  have q2 : sqAt b2 h₁ l2 ys := hl2.at fun o e => s1.extBut _ _ D.l2z e
  refine wpAny_bind (nextAt_item j1 q1 hx fun h₂ n1 s2 => wpAny_pure ?_)
  have t2 : IsPair h₂ TO a b := s2.extBut _ _ D.TOi1 (s1.extBut _ _ D.TOz hTO)
  refine wpAny_bind (wpAny_seqItems t2 rfl (wpAny_bind (wpAny_updateSeq_pair t2 fun h₃ t3 s3 => ?_)))
  replace t3 : IsPair h₃ TO x b := t3
  refine wpAny_bind (wpAny_letGo (wpAny_pure ?_))
  refine wpAny_bind (wpAny_bind (wpAny_onRaise ?_))
  show wpAny _ _ (Builtin.SmallTypes.nextOf (.ref i2) >>= _) _ _ _
  have j3 : itAt b2 h₃ i2 l2 k2 := j2.at fun o e => s3.extBut _ _ D.TOi2.symm (s2.extBut _ _ D.i12.symm e)
  have q3 : sqAt b2 h₃ l2 ys := q2.at fun o e => s3.extBut _ _ D.l2TO (s2.extBut _ _ D.l2i1 e)
  refine wpAny_bind (nextAt_item j3 q3 hy fun h₄ n2 s4 => wpAny_pure ?_)
  have t4 : IsPair h₄ TO x b := s4.extBut _ _ D.TOi2 t3
  refine wpAny_bind (wpAny_seqItems t4 rfl (wpAny_bind (wpAny_updateSeq_pair t4 fun h₅ t5 s5 => ?_)))
  replace t5 : IsPair h₅ TO x y := t5
  refine wpAny_bind (wpAny_letGo (wpAny_pure (wpAny_pure ?_)))
  refine wpAny_bind (wpAny_seqItems t5 rfl (wpAny_bind (wpAny_newTuple ?_)))
  have z5 : h₅.objs.size = s.heap.objs.size := by rw [s5.1, s4.1, s3.1, s2.1, s1.1]
  have Z5 : IsZip h₅ z TI TO .ellipsis := s5.extBut _ _ D.TOz.symm (s4.extBut _ _ D.i2z.symm (s3.extBut _ _ D.TOz.symm (s2.extBut _ _ D.i1z.symm hz₁)))
  have n1' : itAt b1 h₅ i1 l1 (k1 + 1) := n1.at fun o e => s5.extBut _ _ D.TOi1.symm (s4.extBut _ _ D.i12 (s3.extBut _ _ D.TOi1.symm e))
  have n2' : itAt b2 h₅ i2 l2 (k2 + 1) := n2.at fun o e => s5.extBut _ _ D.TOi2.symm e
  have hzlt : z < h₅.objs.size := Heap.lt_size Z5
  show wpAny _ _ (Builtin.SmallTypes.ownedTupleHandOut (.ref z) (.ref h₅.objs.size) >>= _) _ _ _
  unfold Builtin.SmallTypes.ownedTupleHandOut
  have Z6 : IsZip (h₅.push { cls := .type "tuple", data := .seq #[x, y] }) z TI TO .ellipsis := Heap.get?_push_of_some _ Z5
  refine wpAny_bind (wpAny_bind (wpAny_setField_rec Z6 (by simp) fun h₇ Z7 s7 => ?_))
  replace Z7 : IsZip h₇ z TI TO (rawInt h₅.objs.size) := Z7
  refine wpAny_setField_rec Z7 (by simp) fun h₈ Z8 s8 => ?_
  replace Z8 : IsZip h₈ z TI TO (rawInt h₅.objs.size) := Z8
  have up : ∀ c o, c ≠ z → h₅.get? c = some o → h₈.get? c = some o := fun c o c1 e => s8.extBut _ _ c1 (s7.extBut _ _ c1 (Heap.get?_push_of_some _ e))
  have T8 : IsPair h₈ h₅.objs.size x y := s8.extBut _ _ (Nat.ne_of_gt hzlt) (s7.extBut _ _ (Nat.ne_of_gt hzlt) (Heap.get?_push_size _ rfl))
  have z8 : h₈.objs.size = h₅.objs.size + 1 := by rw [s8.1, s7.1, Heap.size_push]
  rw [z5] at Z8 T8 z8
  refine wpAny_pure ⟨_, rfl, ?_⟩
  show Q (.ref h₅.objs.size) _
  rw [z5]
  exact hQ h₈ Z8 (up _ _ D.TOz t5) (n1'.at fun o e => up _ o D.i1z e) (n2'.at fun o e => up _ o D.i2z e) T8 z8 fun c o c1 c2 c3 c4 e =>
    up c o c1 (s5.extBut _ _ c2 (s4.extBut _ _ c4 (s3.extBut _ _ c2 (s2.extBut _ _ c3 (s1.extBut _ _ c1 e)))))
theorem zipAt_end {z TI TO i1 i2 l1 l2 : Addr} {k1 k2 : Nat} {xs ys : Array Value} {a b : Value} {Q : Fin → Shared → Prop} (hh : A.handled = none) (D : ZipApart z TI TO i1 i2 l1 l2)
    (hz : IsZip s.heap z TI TO .none) (hTI : IsPair s.heap TI (.ref i1) (.ref i2)) (hTO : IsPair s.heap TO a b) (h1 : itAt b1 s.heap i1 l1 k1) (h2 : itAt b2 s.heap i2 l2 k2) (hl1 : sqAt b1 s.heap l1 xs) (hl2 : sqAt b2 s.heap l2 ys) (hend : xs[k1]? = none ∨ ys[k2]? = none)
    (hE : ∀ h' e, (∀ c o, c ≠ z → c ≠ TO → c ≠ i1 → c ≠ i2 → s.heap.get? c = some o → h'.get? c = some o) → (∃ o, h'.get? e = some o ∧ o.cls = .type "StopIteration") → E (.ref e) { s with heap := h' }) :
    wpAny (model prog w) A (Builtin.«zip.__next__» ⟨[.ref z], []⟩) Q E s := by
  show wpAny _ _ (field (.ref z) 2 >>= _) _ _ _
  refine wpAny_bind (wpAny_field hz rfl (x := .bool false) rfl ?_)
  show wpAny _ _ (field (.ref z) 3 >>= _) _ _ _
  refine wpAny_bind (wpAny_field hz rfl (x := .ref TI) rfl (wpAny_bind (wpAny_seqItems hTI rfl ?_)))
  show wpAny _ _ (Builtin.SmallTypes.ownedTupleIsFree (.ref z) >>= _) _ _ _
  unfold Builtin.SmallTypes.ownedTupleIsFree
  refine wpAny_bind (wpAny_bind (wpAny_field hz rfl (x := .none) rfl (wpAny_pure ?_)))
  simp only [if_true]
  refine wpAny_bind (wpAny_rule (wpAny_bind (wpAny_field hz rfl (x := .ref TO) rfl ?_)))
  refine wpAny_bind (wpAny_setField_rec hz (by simp) fun h₁ hz₁ s1 => wpAny_bind ?_)
  replace hz₁ : IsZip h₁ z TI TO .ellipsis := hz₁
  simp only [List.zipIdx_cons, List.zipIdx_nil, List.forIn_cons, List.forIn_nil]
  refine wpAny_bind (wpAny_bind (wpAny_onRaise ?_))
  show wpAny _ _ (Builtin.SmallTypes.nextOf (.ref i1) >>= _) _ _ _
  have j1 : itAt b1 h₁ i1 l1 k1 := h1.at fun o e => s1.extBut _ _ D.i1z e
  have j2 : itAt b2 h₁ i2 l2 k2 := h2.at fun o e => s1.extBut _ _ D.i2z e
  have q1 : sqAt b1 h₁ l1 xs := hl1.at fun o e => s1.extBut _ _ D.l1z e
  have q2 : sqAt b2 h₁ l2 ys := hl2.at fun o e => s1.extBut _ _ D.l2z e
  cases hx : xs[k1]? with
  | none =>
    refine wpAny_bind (nextAt_end hh j1 q1 hx fun h₂ e s2 he => ?_)
    obtain ⟨oe, hoe, hce⟩ := he
    have Z2 : IsZip h₂ z TI TO .ellipsis := s2 _ _ D.i1z.symm hz₁
    have hez : e ≠ z := fun x => by subst x; rw [Z2] at hoe; cases hoe; simp at hce
    exact wpAny_setField_rec Z2 (by simp) fun h₃ _ s3 => hE h₃ e (fun c o c1 _ c3 _ x => s3.extBut _ _ c1 (s2 _ _ c3 (s1.extBut _ _ c1 x))) ⟨oe, s3.extBut _ _ hez hoe, hce⟩
  | some x =>
    have hy : ys[k2]? = none := hend.elim (fun h => by rw [hx] at h; cases h) id
    refine wpAny_bind (nextAt_item j1 q1 hx fun h₂ n1 s2 => wpAny_pure ?_)
    have t2 : IsPair h₂ TO a b := s2.extBut _ _ D.TOi1 (s1.extBut _ _ D.TOz hTO)
    refine wpAny_bind (wpAny_seqItems t2 rfl (wpAny_bind (wpAny_updateSeq_pair t2 fun h₃ t3 s3 => ?_)))
    refine wpAny_bind (wpAny_letGo (wpAny_pure ?_))
    refine wpAny_bind (wpAny_bind (wpAny_onRaise ?_))
    show wpAny _ _ (Builtin.SmallTypes.nextOf (.ref i2) >>= _) _ _ _
    have j3 : itAt b2 h₃ i2 l2 k2 := j2.at fun o e => s3.extBut _ _ D.TOi2.symm (s2.extBut _ _ D.i12.symm e)
    have q3 : sqAt b2 h₃ l2 ys := q2.at fun o e => s3.extBut _ _ D.l2TO (s2.extBut _ _ D.l2i1 e)
    refine wpAny_bind (nextAt_end hh j3 q3 hy fun h₄ e s4 he => ?_)
    obtain ⟨oe, hoe, hce⟩ := he
    have Z4 : IsZip h₄ z TI TO .ellipsis := s4 _ _ D.i2z.symm (s3.extBut _ _ D.TOz.symm (s2.extBut _ _ D.i1z.symm hz₁))
    have hez : e ≠ z := fun x => by subst x; rw [Z4] at hoe; cases hoe; simp at hce
    exact wpAny_setField_rec Z4 (by simp) fun h₅ _ s5 => hE h₅ e (fun c o c1 c2 c3 c4 x => s5.extBut _ _ c1 (s4 _ _ c4 (s3.extBut _ _ c2 (s2.extBut _ _ c3 (s1.extBut _ _ c1 x))))) ⟨oe, s5.extBut _ _ hez hoe, hce⟩
theorem pyNext_zipAt {z TI TO i1 i2 l1 l2 : Addr} {k1 k2 : Nat} {xs ys : Array Value} {a b : Value} {Q : Option Value → Shared → Prop} (hh : A.handled = none) (D : ZipApart z TI TO i1 i2 l1 l2)
    (hz : IsZip s.heap z TI TO .none) (hTI : IsPair s.heap TI (.ref i1) (.ref i2)) (hTO : IsPair s.heap TO a b) (h1 : itAt b1 s.heap i1 l1 k1) (h2 : itAt b2 s.heap i2 l2 k2) (hl1 : sqAt b1 s.heap l1 xs) (hl2 : sqAt b2 s.heap l2 ys)
    (hQ : (∃ x y, xs[k1]? = some x ∧ ys[k2]? = some y ∧ ∀ h', IsZip h' z TI TO (rawInt s.heap.objs.size) → IsPair h' TO x y → itAt b1 h' i1 l1 (k1 + 1) → itAt b2 h' i2 l2 (k2 + 1) → IsPair h' s.heap.objs.size x y → h'.objs.size = s.heap.objs.size + 1 →
      (∀ c o, c ≠ z → c ≠ TO → c ≠ i1 → c ≠ i2 → s.heap.get? c = some o → h'.get? c = some o) → Q (some (.ref s.heap.objs.size)) { s with heap := h' }) ∨
      ((xs[k1]? = none ∨ ys[k2]? = none) ∧ ∀ h', (∀ c o, c ≠ z → c ≠ TO → c ≠ i1 → c ≠ i2 → s.heap.get? c = some o → h'.get? c = some o) → Q none { s with heap := h' })) :
    wpAny (model prog w) A (pyNext (.ref z)) Q E s := by
  have hT : s.TypeIs (.ref z) "zip" := ⟨_, hz, rfl⟩
  unfold pyNext
  rcases hQ with ⟨x, y, hx, hy, hQ⟩ | ⟨hend, hQ⟩
  · exact wpAny_bind (wpAny_attempt (wpAny_callSpecial?_slot (name := Str.ofString "__next__") hT F.slot_zip_next (wpAny_call_entry F.slot_zip_next hT F.entry_zip_next
      (zipAt_item D hz hTI hTO h1 h2 hl1 hl2 hx hy fun h' a1 a2 a3 a4 a5 a6 a7 => wpAny_pure (hQ h' a1 a2 a3 a4 a5 a6 a7)) (F.args_zip_next_1 _))))
  · refine wpAny_bind (wpAny_attempt (wpAny_callSpecial?_slot (name := Str.ofString "__next__") hT F.slot_zip_next (wpAny_call_entry F.slot_zip_next hT F.entry_zip_next (zipAt_end hh D hz hTI hTO h1 h2 hl1 hl2 hend fun h' e hk he => ?_) (F.args_zip_next_1 _))))
    obtain ⟨o, ho, hc⟩ := he
    exact wpAny_bind (wpAny_isInstance (T := "StopIteration") (b := true) ⟨o, ho, hc⟩ isSubtype_stop (wpAny_pure (hQ _ hk)))
end
def itO (b : Bool) (l : Addr) : Obj := match b with
  | true => { cls := .type "tuple_iterator", data := .fields #[.ref l, .int 0 0] }
  | false => { cls := .type "list_iterator", data := .fields #[.ref l, .int 0 0] }
abbrev zpH (b1 b2 : Bool) (h : Heap) (l1 l2 : Addr) : Heap := ((((h.push (itO b1 l1)).push (itO b2 l2)).push { cls := .type "tuple", data := .seq #[.ref h.objs.size, .ref (h.push (itO b1 l1)).objs.size] }).push { cls := .type "tuple", data := .seq #[.none, .none] })
abbrev zpH5 (b1 b2 : Bool) (h : Heap) (l1 l2 : Addr) : Heap := (zpH b1 b2 h l1 l2).push { cls := .type "zip", data := .fields #[.none, .bool false, .bool false, .ref ((h.push (itO b1 l1)).push (itO b2 l2)).objs.size,
  .ref (((h.push (itO b1 l1)).push (itO b2 l2)).push { cls := .type "tuple", data := .seq #[.ref h.objs.size, .ref (h.push (itO b1 l1)).objs.size] }).objs.size] }
theorem meets_zipAt (b1 b2 : Bool) (hb : b1 = !b2) (l1 l2 : Addr) (xs ys : Array Value) : Meets (Builtin.«zip.__new__» ⟨[.type "zip", .ref l1, .ref l2], []⟩) (fun _ R s => sqAt b1 s.heap l1 xs ∧ sqAt b2 s.heap l2 ys ∧ R (.ok (.ret (.ref (zpH b1 b2 s.heap l1 l2).objs.size))) { s with heap := zpH5 b1 b2 s.heap l1 l2 }) :=
  .of_wp fun prog w A R s h => by
    obtain ⟨hp, g, d, tk, os⟩ := s
    obtain ⟨hl1, hl2, h⟩ := h
    have hsub := sub_zip
    cases b2 <;> cases hb
    · have a1 : Heap.IsTuple (Shared.heap ⟨hp, g, d, tk, os⟩) l1 xs := hl1
      have a2 : Heap.IsList (Shared.heap ⟨hp.push { cls := .type "tuple_iterator", data := .fields #[.ref l1, .int 0 0] }, g, d, tk, os⟩) l2 ys := Heap.IsList.push hl2 _
      wp_walk using wpAny_pyIter_tuple a1, wpAny_pyIter_list a2
      exact ⟨_, rfl, h⟩
    · have a1 : Heap.IsList (Shared.heap ⟨hp, g, d, tk, os⟩) l1 xs := hl1
      have a2 : Heap.IsTuple (Shared.heap ⟨hp.push { cls := .type "list_iterator", data := .fields #[.ref l1, .int 0 0] }, g, d, tk, os⟩) l2 ys := Heap.IsTuple.push hl2 _
      wp_walk using wpAny_pyIter_list a1, wpAny_pyIter_tuple a2
      exact ⟨_, rfl, h⟩
theorem call_zipAt {prog : Program} {w : World} {A : Around} {E : Value → Shared → Prop} {s : Shared} (b1 b2 : Bool) (hb : b1 = !b2) {l1 l2 : Addr} {xs ys : Array Value} {Q : Value → Shared → Prop} (hl1 : sqAt b1 s.heap l1 xs) (hl2 : sqAt b2 s.heap l2 ys)
    (h : ∀ h', IsZip h' (s.heap.objs.size + 4) (s.heap.objs.size + 2) (s.heap.objs.size + 3) .none → IsPair h' (s.heap.objs.size + 2) (.ref s.heap.objs.size) (.ref (s.heap.objs.size + 1)) →
      IsPair h' (s.heap.objs.size + 3) .none .none → itAt b1 h' s.heap.objs.size l1 0 → itAt b2 h' (s.heap.objs.size + 1) l2 0 → h'.objs.size = s.heap.objs.size + 5 →
      (∀ c o, s.heap.get? c = some o → h'.get? c = some o) → Q (.ref (s.heap.objs.size + 4)) { s with heap := h' }) :
    wpAny (model prog w) A (call (.type "zip") [.ref l1, .ref l2]) Q E s := by
  refine callType_new F.called_zip (by decide) (F.typeCall_zip_2 _ _) (F.newCall_zip_2 _ _) (fun obj => F.args_object_init_3 obj _ _) F.entry_zip_new (meets_zipAt b1 b2 hb l1 l2 xs ys) ⟨hl1, hl2, ?_⟩
  delta zpH5 zpH
  show _ ∧ _
  generalize e1 : s.heap.push (itO b1 l1) = H1
  generalize e2 : H1.push (itO b2 l2) = H2
  have z1 : H1.objs.size = s.heap.objs.size + 1 := by rw [← e1]; exact Heap.size_push ..
  have z2 : H2.objs.size = s.heap.objs.size + 2 := by rw [← e2, Heap.size_push, z1]
  generalize e3 : H2.push { cls := .type "tuple", data := .seq #[.ref s.heap.objs.size, .ref H1.objs.size] } = H3
  have z3 : H3.objs.size = s.heap.objs.size + 3 := by rw [← e3, Heap.size_push, z2]
  generalize e4 : H3.push { cls := .type "tuple", data := .seq #[.none, .none] } = H4
  have z4 : H4.objs.size = s.heap.objs.size + 4 := by rw [← e4, Heap.size_push, z3]
  generalize e5 : H4.push { cls := .type "zip", data := .fields #[.none, .bool false, .bool false, .ref H2.objs.size, .ref H3.objs.size] } = H5
  have z5 : H5.objs.size = s.heap.objs.size + 5 := by rw [← e5, Heap.size_push, z4]
  have u5 : ∀ c o, H4.get? c = some o → H5.get? c = some o := fun c o q => by rw [← e5]; exact Heap.get?_push_of_some _ q
  have u4 : ∀ c o, H3.get? c = some o → H4.get? c = some o := fun c o q => by rw [← e4]; exact Heap.get?_push_of_some _ q
  have u3 : ∀ c o, H2.get? c = some o → H3.get? c = some o := fun c o q => by rw [← e3]; exact Heap.get?_push_of_some _ q
  have u2 : ∀ c o, H1.get? c = some o → H2.get? c = some o := fun c o q => by rw [← e2]; exact Heap.get?_push_of_some _ q
  have u1 : ∀ c o, s.heap.get? c = some o → H1.get? c = some o := fun c o q => by rw [← e1]; exact Heap.get?_push_of_some _ q
  have g5 : IsZip H5 (s.heap.objs.size + 4) (s.heap.objs.size + 2) (s.heap.objs.size + 3) .none := by
    have this := (congrArg (fun h : Heap => h.get? H4.objs.size) e5).symm.trans (Heap.get?_push_size _ rfl)
    rw [z4, z2, z3] at this
    exact this
  have g3 : IsPair H5 (s.heap.objs.size + 2) (.ref s.heap.objs.size) (.ref (s.heap.objs.size + 1)) := by
    have this := (congrArg (fun h : Heap => h.get? H2.objs.size) e3).symm.trans (Heap.get?_push_size _ rfl)
    rw [z2, z1] at this
    exact u5 _ _ (u4 _ _ this)
  have g4 : IsPair H5 (s.heap.objs.size + 3) .none .none := by
    have this := (congrArg (fun h : Heap => h.get? H3.objs.size) e4).symm.trans (Heap.get?_push_size _ rfl)
    rw [z3] at this
    exact u5 _ _ this
  have g1 : H5.get? s.heap.objs.size = some (itO b1 l1) := u5 _ _ (u4 _ _ (u3 _ _ (u2 _ _ (by rw [← e1]; exact Heap.get?_push_size _ (by cases b1 <;> rfl)))))
  have g2 : H5.get? (s.heap.objs.size + 1) = some (itO b2 l2) := by
    rw [← z1]
    exact u5 _ _ (u4 _ _ (u3 _ _ (by rw [← e2]; exact Heap.get?_push_size _ (by cases b2 <;> rfl))))
  have i1 : itAt b1 H5 s.heap.objs.size l1 0 := by cases b1 <;> exact ⟨_, g1, rfl, rfl⟩
  have i2 : itAt b2 H5 (s.heap.objs.size + 1) l2 0 := by cases b2 <;> exact ⟨_, g2, rfl, rfl⟩
  rw [z4]
  exact ⟨⟨_, g5, rfl⟩, h _ g5 g3 g4 i1 i2 z5 fun c o x => u5 _ _ (u4 _ _ (u3 _ _ (u2 _ _ (u1 _ _ x))))⟩
/-- a known list or tuple -/
def SqB (K : PySem.W.Frag) (b : Bool) (H : Hp) (a : Addr) (xs : List V) : Prop := match b with
  | true => SqT K H a xs
  | false => SqL K H a xs
theorem SqB.real {X : Cx} {pins : List (Addr × Obj)} {σ : L2.St} {H : Hp} {s : Shared} (I : Inv X pins σ H s) {b : Bool} {a : Addr} {xs : List V} (h : SqB X.K b H a xs) : ∃ us : List Value, Vals xs us ∧ sqAt b s.heap a us.toArray := by
  cases b with
  | true => obtain ⟨us, r, p, _⟩ := I.tuple h; exact ⟨us, r, p⟩
  | false => obtain ⟨us, r, p, _⟩ := I.list h; exact ⟨us, r, p.isList⟩
theorem SqB.inj {X : Cx} {pins : List (Addr × Obj)} {σ : L2.St} {H : Hp} {s : Shared} (I : Inv X pins σ H s) {b : Bool} {a : Addr} {xs ys : List V} (h : SqB X.K b H a xs) (h' : SqB X.K b H a ys) : xs = ys := by
  cases b with
  | true => exact I.tuple_inj h h'
  | false => exact I.list_inj h h'
def ItzB (K : PySem.W.Frag) (b1 b2 : Bool) (a b : Addr) : It :=
  ⟨fun i H => ∃ (xs ys : List V) (x y : V), SqB K b1 H a xs ∧ SqB K b2 H b ys ∧ xs[i]? = some x ∧ ys[i]? = some y,
    fun i H v H' => ∃ T x y, v = .ref T ∧ H T = none ∧ H' = upd H T (.tup [x, y]) ∧ (∀ xs, SqB K b1 H a xs → xs[i]? = some x) ∧ ∀ ys, SqB K b2 H b ys → ys[i]? = some y,
    fun i H => ∃ xs ys : List V, SqB K b1 H a xs ∧ SqB K b2 H b ys ∧ (xs.length ≤ i ∨ ys.length ≤ i)⟩
theorem turn_zipB {P : Program} {w : World} {K : PySem.W.Frag} {elts : List Expr} {kk : Nat} {tpos : Pos} {b1 b2 : Bool} {a b z TI TO i1 i2 : Addr} (D : ZipApart z TI TO i1 i2 a b) :
    Turn P w K (.Tuple elts kk tpos) (ItzB K b1 b2 a b) [z, TI, TO, i1, i2] z (fun i h => IsZip h z TI TO .none ∧ IsPair h TI (.ref i1) (.ref i2) ∧ (∃ x y, IsPair h TO x y) ∧ itAt b1 h i1 a i ∧ itAt b2 h i2 b i) where
  mem := by simp
  obj := fun i h st c hc => by
    obtain ⟨hz, hTI, ⟨x, y, hTO⟩, h1, h2⟩ := st
    obtain ⟨o1, _, _, e1, _, d1⟩ := h1.obj
    obtain ⟨o2, _, _, e2, _, d2⟩ := h2.obj
    simp only [List.mem_cons, List.not_mem_nil, or_false] at hc
    rcases hc with q | q | q | q | q
    · subst q; exact ⟨_, hz, fun v q => nomatch q⟩
    · subst q; exact ⟨_, hTI, fun v q => nomatch q⟩
    · subst q; exact ⟨_, hTO, fun v q => nomatch q⟩
    · subst q; exact ⟨o1, e1, fun v q => by rw [d1] at q; cases q⟩
    · subst q; exact ⟨o2, e2, fun v q => by rw [d2] at q; cases q⟩
  keep := fun i h h' st k => by
    obtain ⟨hz, hTI, ⟨x, y, hTO⟩, h1, h2⟩ := st
    exact ⟨k z (by simp) _ hz, k TI (by simp) _ hTI, ⟨x, y, k TO (by simp) _ hTO⟩, h1.at fun o q => k i1 (by simp) o q, h2.at fun o q => k i2 (by simp) o q⟩
  item := by
    intro X hP hw hK hc i pins s σ H E I hf st hg
    subst hP hw hK
    obtain ⟨hz, hTI, ⟨x0, y0, hTO⟩, h1, h2⟩ := st
    obtain ⟨xs, ys, x, y, hqx, hqy, hx, hy⟩ := hg
    obtain ⟨us, rv, p⟩ := hqx.real I
    obtain ⟨us2, rv2, p2⟩ := hqy.real I
    obtain ⟨u, hu, ru⟩ := rv.get hx
    obtain ⟨u2, hu2, ru2⟩ := rv2.get hy
    have lt : ∀ c, c ∈ [z, TI, TO, i1, i2] → c < s.heap.objs.size := fun c hcm => by
      obtain ⟨o1, _, _, e1, _⟩ := h1.obj
      obtain ⟨o2, _, _, e2, _⟩ := h2.obj
      simp only [List.mem_cons, List.not_mem_nil, or_false] at hcm
      rcases hcm with q | q | q | q | q
      · subst q; exact Heap.lt_size hz
      · subst q; exact Heap.lt_size hTI
      · subst q; exact Heap.lt_size hTO
      · subst q; exact Heap.lt_size e1
      · subst q; exact Heap.lt_size e2
    have hzl := lt z (by simp)
    refine pyNext_zipAt (I.ok.hd hc) D hz hTI hTO h1 h2 p p2 (.inl ⟨u, u2, by simpa using hu, by simpa using hu2, fun h' z' TO' h1' h2' hT hsz hk => ?_⟩)
    refine ⟨_, rfl, wpAny_letOwnedTupleGo_zip (s := { s with heap := h' }) z' fun h'' z'' sb => ?_⟩
    have hT2 : h''.get? s.heap.objs.size = some { cls := .type "tuple", data := .seq #[u, u2] } := (sb.2 _ (Nat.ne_of_gt hzl)).trans hT
    have new : ObjOk X.prog X.w (upd H s.heap.objs.size (.tup [x, y])) h'' s.heap.objs.size (.tup [x, y]) :=
      ⟨by show 2 ≤ sizeLine; decide, [u, u2], .cons ru (.cons ru2 .nil), ⟨_, hT2, rfl, _, rfl⟩⟩
    have out : ∀ {c}, c ∉ [z, TI, TO, i1, i2] → c ≠ z ∧ c ≠ TI ∧ c ≠ TO ∧ c ≠ i1 ∧ c ≠ i2 := fun {c} hb => by simpa using hb
    have I1 : Inv X pins σ (upd H s.heap.objs.size (.tup [x, y])) { s with heap := h'' } :=
      I.turnedNew (t' := s.toks) (ch := [z, TI, TO, i1, i2]) (fun c o hb q => let ⟨a1, _, a3, a4, a5⟩ := out hb; (sb.2 c a1).trans (hk c o a1 a3 a4 a5 q)) hf (Nat.le_refl _) new
    refine ⟨.ref s.heap.objs.size, _, I1, rfl, ⟨_, x, y, rfl, I.hok.fresh (Nat.le_refl _), rfl, fun l hl => by rw [hl.inj I hqx]; exact hx, fun l hl => by rw [hl.inj I hqy]; exact hy⟩, ⟨z'', ?_, ⟨u, u2, ?_⟩, ?_, ?_⟩, fun c hcm => ?_⟩
    · exact (sb.2 _ D.TIz).trans (hk _ _ D.TIz D.TITO D.TIi1 D.TIi2 hTI)
    · exact (sb.2 _ D.TOz).trans TO'
    · exact h1'.at fun o q => (sb.2 _ D.i1z).trans q
    · exact h2'.at fun o q => (sb.2 _ D.i2z).trans q
    · rw [upd_ne (Nat.ne_of_lt (lt c hcm))]
      exact (hf c hcm).1
  done := by
    intro X hP hw hK hc i pins s σ H E I hf st hg
    subst hP hw hK
    obtain ⟨hz, hTI, ⟨x0, y0, hTO⟩, h1, h2⟩ := st
    obtain ⟨xs, ys, hqx, hqy, hend⟩ := hg
    obtain ⟨us, rv, p⟩ := hqx.real I
    obtain ⟨us2, rv2, p2⟩ := hqy.real I
    have l1 := rv.length
    have l2 := rv2.length
    have he : us.toArray[i]? = none ∨ us2.toArray[i]? = none := hend.elim (fun q => .inl (by simp; omega)) fun q => .inr (by simp; omega)
    have out : ∀ {c}, c ∉ [z, TI, TO, i1, i2] → c ≠ z ∧ c ≠ TI ∧ c ≠ TO ∧ c ≠ i1 ∧ c ≠ i2 := fun {c} hb => by simpa using hb
    exact pyNext_zipAt (I.ok.hd hc) D hz hTI hTO h1 h2 p p2 (.inr ⟨he, fun h' hk => ⟨rfl, I.turnedL (t' := s.toks) (ch := [z, TI, TO, i1, i2]) (fun c o hb q => let ⟨a1, _, a3, a4, a5⟩ := out hb; hk c o a1 a3 a4 a5 q) hf⟩⟩)
  self := fun A i s Q E st h => wpAny_pyIter_zip st.1 h
def iZipB (K : PySem.W.Frag) (ta : TA) : TI := fun σ H R => ta σ H fun vs H1 => ∃ a b xs ys b1 b2, vs = [.ref a, .ref b] ∧ b1 = !b2 ∧ SqB K b1 H1 a xs ∧ SqB K b2 H1 b ys ∧ R (ItzB K b1 b2 a b) H1
theorem pi_zipB {X : Cx} {e e2 : Expr} {ta : TA} {p pos tpos : Pos} {elts : List Expr} {kk : Nat} (hg : Gl X "zip") (hm : X.mg "zip" = none) (ha : PA X [e, e2] ta)
    (hs : starEach [e, e2] X.env = (false, eval e X.env) :: starEach [e2] X.env := by rfl) (hpl : (backTo pos (starEach [e2] X.env)).any (·.1) = false := by rfl) :
    PI X (.Tuple elts kk tpos) (.Call (.Name "zip" p) [e, e2] [] pos) (iZipB X.K ta) := by
  refine ⟨fun pins s σ H R I h => ?_⟩
  refine Call_ (ld_blt I hg hm PyProof.Rows.boot_zip (PyProof.Rows.callWith_type1 (thn (ha.run pos pins s σ H _ I h) fun us s1 ⟨vs, H1, I1, r1, q1⟩ => ?_) hs hpl))
  obtain ⟨a, b, xs, ys, b1, b2, rfl, hb, hqx, hqy, q⟩ := q1
  obtain ⟨u, u2, rfl, ru, ru2⟩ : ∃ u u2, us = [u, u2] ∧ RelV (.ref a) u ∧ RelV (.ref b) u2 := by
    cases r1 with
    | cons r rr => cases rr with
      | cons r' rr => cases rr; exact ⟨_, _, rfl, r, r'⟩
  obtain rfl : u = Value.ref a := ru
  obtain rfl : u2 = Value.ref b := ru2
  obtain ⟨vs1, rv, p1⟩ := hqx.real I1
  obtain ⟨vs2, rv2, p2⟩ := hqy.real I1
  have fresh : ∀ c, c ∈ [s1.heap.objs.size + 4, s1.heap.objs.size + 2, s1.heap.objs.size + 3, s1.heap.objs.size, s1.heap.objs.size + 1] → FpOk X pins H1 c := fun c hcm => by
    have hle : s1.heap.objs.size ≤ c := by
      simp only [List.mem_cons, List.not_mem_nil, or_false] at hcm
      omega
    exact I1.fpOk hle (I1.hok.fresh hle)
  refine call_zipAt b1 b2 hb p1 p2 fun h' hz hTI hTO h1 h2 hsz hk => wpAny_pyIter_zip hz ?_
  have I2 : Inv X pins σ H1 { s1 with heap := h' } := I1.kept (t' := s1.toks) hk
  exact ⟨s1.heap.objs.size + 4, [s1.heap.objs.size + 4, s1.heap.objs.size + 2, s1.heap.objs.size + 3, s1.heap.objs.size, s1.heap.objs.size + 1], _, _, H1, rfl, I2, turn_zipB (PySem.W.ktu_apart s1.heap.objs.size a b p1.there p2.there), ⟨hz, hTI, ⟨_, _, hTO⟩, h1, h2⟩, fresh, q⟩
theorem walk_zipLT {K : PySem.W.Frag} {S : Src} {F1 : Hp} {a b : Addr} {vs ws : List V} {ds es : List D} (h : LstAt K F1 a vs) (r : Reps K S F1 vs ds) (h' : SqT K F1 b ws) (r' : Reps K S F1 ws es) : Walk K S (ItzB K false true a b) F1 (zipD ds es) where
  go := fun F H i d l1 l2 hd => by
    obtain ⟨x, y, hx, hy, rfl⟩ := zipD_get hd
    obtain ⟨v, hv, rv⟩ := r.get hx
    obtain ⟨w, hw, rw'⟩ := r'.get hy
    have hA : SqB K false H a vs := (l1.lst h).sq l2
    have hB : SqB K true H b ws := (l1.trans l2).seqT h'
    refine ⟨⟨vs, ws, v, w, hA, hB, hv, hw⟩, fun z H' q => ?_⟩
    obtain ⟨T, x1, y1, e1, hT, e2, f1, f2⟩ := q
    have g1 := f1 vs hA
    have g2 := f2 ws hB
    rw [hv] at g1; cases g1
    rw [hw] at g2; cases g2
    subst e1; subst e2
    have pe := PExt.new (o := .tup [v, w]) l2 hT
    exact ⟨_, pe, .tup upd_same (.cons ((rv.mono l1).mono pe.ff) (.cons ((rw'.mono l1).mono pe.ff) .nil))⟩
  stop := fun F H i l1 l2 hl => ⟨vs, ws, (l1.lst h).sq l2, (l1.trans l2).seqT h', by rw [r.length, r'.length]; exact zipD_len hl⟩
def dZipLT (t : DTA) : DTI := fun ρ Q => t ρ fun ds ρ1 => ∃ xs ys, ds = [.lst xs, .tup ys] ∧ Q (zipD xs ys) ρ1
theorem di_zipLT {X : Cx} {c : C} {e e2 : Expr} {t : DTA} {p pos tpos : Pos} {elts : List Expr} {kk : Nat} (hK : X.K = c.K) (hg : Gl X "zip") (hm : X.mg "zip" = none) (ha : PA X [e, e2] (liftA c t))
    (hs : starEach [e, e2] X.env = (false, eval e X.env) :: starEach [e2] X.env := by rfl) (hpl : (backTo pos (starEach [e2] X.env)).any (·.1) = false := by rfl) :
    PI X (.Tuple elts kk tpos) (.Call (.Name "zip" p) [e, e2] [] pos) (liftI c (dZipLT t)) :=
  PI_imp (pi_zipB hg hm ha hs hpl) fun σ H R ⟨F, ρ, QD, s, h, k⟩ =>
    ⟨F, ρ, _, s, h, fun vs H1 F1 ρ1 ds s1 st1 rv ⟨xs, ys, e, q⟩ => by
      subst e
      match rv with
      | .cons (.lst h1 r1) (.cons (.tup h2 r2) .nil) =>
        exact ⟨_, _, _, _, false, true, rfl, rfl, by rw [hK]; exact h1.sq s1.sub, by rw [hK]; exact s1.sub.seqT (.inl (.inl h2)), k _ H1 F1 ρ1 _ s1 st1 (by rw [hK]; exact walk_zipLT h1 r1 (.inl (.inl h2)) r2) q⟩⟩
end L2.DL
set_option Elab.async false
set_option linter.all false
set_option autoImplicit false
set_option maxRecDepth 100000
set_option maxHeartbeats 1000000
namespace L2.DL
open PySem PySem.Spec PyProof.Rows
section
variable {Q : Res → Prop} {xs : List D} {d : D}
theorem reprWL : dReprW [.lst xs] Q = (ShowW (.lst xs) ∧ Q (.v (.str (pyW (.lst xs)).shown))) := propext ⟨fun ⟨ys, e, h⟩ => by cases e; exact h, fun h => ⟨xs, rfl, h⟩⟩
theorem reprAA : dReprA [d] Q = (ShowOk d ∧ Q (.v (.str (py d).shown))) := propext ⟨fun ⟨ys, e, h⟩ => by cases e; exact h, fun h => ⟨d, rfl, h⟩⟩
end
theorem inD_ints {x : Int} {L : List Int} : inD (.int x) (L.map D.int) = decide (x ∈ L) := by
  unfold inD
  rw [List.any_map, Bool.eq_iff_iff]
  simp [eqD]
theorem flat_ints {L : List Int} : (L.map D.int).all flatD = true := by rw [List.all_map, List.all_eq_true]; exact fun _ _ => rfl
theorem neqSelf {d : D} {n w : Nat} {Q : Res → Prop} (h : nc d = true) (k : Sh n w d) (hn : n ≤ 60 := by decide) : dEq d d Q = Q (.v (.bl true)) := by
  unfold dEq
  rw [eqv_self d h]
  exact propext ⟨fun h => h.2, fun h => ⟨eqOk k k hn hn, h⟩⟩
/-- a while, by an invariant with a measure -/
theorem while_inv {tt : DTT} {tb : DTS} {E : DEnds} {ρ : Rho} (J : Nat → Rho → Prop) (m : Nat) (h0 : J m ρ)
    (turn : ∀ m ρ, J m ρ → ∀ E' : DEnds, (∀ ρ' m', m' < m → J m' ρ' → E'.nx ρ') → (∀ ρ' m', m' < m → J m' ρ' → E'.ct ρ') → (∀ ρ', E.nx ρ' → E'.bk ρ') → E'.rt = E.rt → tt ρ fun b ρ1 => if b = true then tb E' ρ1 else E.nx ρ1) : dWhile tt tb E ρ :=
  ⟨J, ⟨m, h0⟩, fun m ρ h => turn m ρ h { E with nx := fun ρ' => ∃ m', m' < m ∧ J m' ρ', ct := fun ρ' => ∃ m', m' < m ∧ J m' ρ', bk := E.nx } (fun ρ' m' l j => ⟨m', l, j⟩) (fun ρ' m' l j => ⟨m', l, j⟩) (fun _ q => q) rfl⟩
end L2.DL
set_option Elab.async false
set_option linter.all false
set_option autoImplicit false
set_option maxRecDepth 100000
set_option maxHeartbeats 1000000
namespace L2.DL
open PySem PySem.Spec PyProof.Rows
def dOrI (t u : DTI) : DTI := fun ρ Q => t ρ Q ∨ u ρ Q
theorem di_or {X : Cx} {c : C} {tg e : Expr} {t u : DTI} (h1 : PI X tg e (liftI c t)) (h2 : PI X tg e (liftI c u)) : PI X tg e (liftI c (dOrI t u)) :=
  ⟨fun pins s σ H R I ⟨F, ρ, QD, s1, h, k⟩ => h.elim (fun h => h1.run pins s σ H R I ⟨F, ρ, QD, s1, h, k⟩) fun h => h2.run pins s σ H R I ⟨F, ρ, QD, s1, h, k⟩⟩
end L2.DL
set_option Elab.async false
set_option linter.all false
set_option autoImplicit false
set_option maxRecDepth 100000
set_option maxHeartbeats 2000000
namespace L2.DL
open PySem PySem.Spec PyProof.Rows
local macro_rules | `(tactic| walk_at "ev") => `(tactic| simp only [dSeq, dNext, dSet, dPar, dPar3, dRet, dRetN, dDrop, dIfS, dBrk, dCnt, dApp, dFor, dItL, dItT, dRng1, dRng2, dZip, dEnum, dItS, dAsg, dAugI, dNever, dPutS, dNewD, dFldM, dFldS, dStar,
  dgName, dgTup, dgCons, dgNil, dOp, dUn, dC, dNil, dCons, dCB, dTup, dLst, dIf, dTst, dTru, dAnd, dOr, dNot, dAndV, dOrV, dNotV, dYes, dInR, dFld, dMeth, dCall, dDctIx, dGet2, dRaise, dRaiseZ, dDisp, dPNil, dPCons, dRepD, dTold, dLenSet, hid_u, hid_d, hid_o, dStep2, dSlV, dIxV, dSetV, dPopV, dLenV, dLcV, lstAt, Option.isSome_some, Option.isSome_none, dSl, dNoP, dPart, dLc, dDc, dSortSet, dSortSc, dListVals, dChain, dIsiT2, dCallB, dBor, dNilB, dCBB, dOneL,
  dIsN, dNotN, dStrI, dAbs, dIn, fz_v, fz_l, fz_d, fz_i, fz_m, un_l, un_d, un_i, un_m, sl_v, sl_o, dwipe, and_assoc, insLF, insLT, insFF, insFT, startD, startN, pdT, pdI, gdT, prT, stI, putFD, lendable, noKR, noK, noKs,
  vd0, vo0, rd0, ro0, vd1, vo1, rd1, ro1, vd2, vo2, rd2, ro2, vd3, vo3, rd3, ro3, vd4, vo4, rd4, ro4, vd5, vo5, rd5, ro5, vd6, vo6, rd6, ro6, vd7, vo7, rd7, ro7, vd8, vo8, rd8, ro8, vd9, vo9, rd9, ro9, vd10, vo10, rd10, ro10, vd11, vo11, rd11, ro11, vd12, vo12, rd12, ro12, vd13, vo13, rd13, ro13, vd14, vo14, rd14, ro14, vd15, vo15, rd15, ro15, vd16, vo16, rd16, ro16, vd17, vo17, rd17, ro17, vd18, vo18, rd18, ro18, vd19, vo19, rd19, ro19, vd20, vo20, rd20, ro20, vd21, vo21, rd21, ro21, vd22, vo22, rd22, ro22, vd23, vo23, rd23, ro23, lk_people, lk_names, lk_has_name, lk_person, lk_place, lk_voice, lk_places, lk_at, lk_line, lk_voices, lk_is_together, lk_own, lenL, lenT, lenS, ixL, ixT, ixS, dcutL, dcutS, addII, addSS, addLL, int1i, int1b, negI, reprL, reprT, absI, sc_n, sc_b, sc_i, sc_s, subI, mulI, fdvI, modI, powI, ltI, leI, gtI, geI, tr_n, tr_b, tr_i, tr_l, tr_t, tr_d, ty_n, ty_b, ty_i, ty_s, ty_l, ty_t, ty_d, in_n, in_b, in_i, in_s, in_l, in_t, in_d, eqII, neII, eqSS, neSS, eqBB, neBB, isic_n, isic_b, isic_i, isic_s, isic_l, isic_t, isic_d, isio_n, isio_b, isio_i, isio_s, isio_l, isio_t, isio_d, isic_I, isic_S, isic_T, isic_L, isic_B, isio_I, dIsiO, isi_ii, isi_ib, isi_is, isi_il, isi_bi, isi_bb, isi_bs, isi_si, isi_sb, isi_ss, isi_ni, isi_nb, isi_ns, isi_li, isi_lb, isi_ls, isi_ll, isi_ti, isi_tb, isi_ts, isi_tt, isi_di, isi_db, isi_ds, isi_lt, isi_tl, isi_bt, isi_nt, isi_dt, eqLL, neLL, eqTT, neTT, isi_sl, isi_st, isi_it, kit_ll, kit_lt, max2, min2, get1, get2b, get3b, get3c,
  List.map_cons, List.map_nil, List.length_cons, List.length_nil, List.replicate, List.append_nil, List.cons_append, List.nil_append, List.getElem?_cons_zero, List.getElem?_cons_succ, List.set_cons_zero, List.set_cons_succ, List.getElem?_nil, Nat.sub_zero, Nat.reduceAdd, Nat.reduceSub, Int.reduceLT, Int.reduceLE, Int.reduceNeg, Nat.zero_add,
  true_and, and_true, eq_self, Bool.true_or, Bool.or_true, Bool.false_or, Bool.or_false, Bool.true_and, Bool.and_true, Bool.false_and, Bool.and_false, exists_eq_left, exists_eq_left', exists_eq', exists_eq, Option.some.injEq, Res.v.injEq, D.bl.injEq, D.int.injEq, D.str.injEq, D.lst.injEq, D.tup.injEq, D.dct.injEq, D.ins.injEq, Sl.o.injEq, Sl.d.injEq, List.cons.injEq, reduceCtorEq, false_or, or_false, if_true, if_false, Bool.false_eq_true, Bool.not_true, Bool.not_false, ite_true, ite_false, decide_true, decide_false, and_self, List.isEmpty_nil, List.isEmpty_cons, exists_and_left, exists_const, lenNil, reprWL, reprAA, dZipLT])
def tiD (xs : List Int) : D := .tup (xs.map D.int)
def plcs (ps : List Pn) : List Int := ps.map fun p => p.2.1
theorem plcs_len (ps : List Pn) : (plcs ps).length = ps.length := List.length_map ..
def putP (ps : List Pn) (xs : List Int) : List Pn := (ps.zip xs).map fun q => (q.1.1, q.2, q.1.2.2)
theorem put_names : ∀ {ps : List Pn} {xs : List Int}, xs.length = ps.length → (putP ps xs).map (·.1) = ps.map (·.1)
  | [], [], _ => rfl
  | [], _ :: _, h => by cases h
  | _ :: _, [], h => by cases h
  | p :: ps, x :: xs, h => by
    have := put_names (ps := ps) (xs := xs) (by simpa using h)
    unfold putP at this ⊢
    rw [List.zip_cons_cons, List.map_cons, List.map_cons, List.map_cons, this]
theorem put_plcs : ∀ {ps : List Pn} {xs : List Int}, xs.length = ps.length → plcs (putP ps xs) = xs
  | [], [], _ => rfl
  | [], _ :: _, h => by cases h
  | _ :: _, [], h => by cases h
  | p :: ps, x :: xs, h => by
    have := put_plcs (ps := ps) (xs := xs) (by simpa using h)
    unfold putP plcs at this ⊢
    rw [List.zip_cons_cons, List.map_cons, List.map_cons, this]
theorem put_sameV : ∀ {ps : List Pn} {xs : List Int}, xs.length = ps.length → sameV ps (putP ps xs)
  | [], [], _ => rfl
  | [], _ :: _, h => by cases h
  | _ :: _, [], h => by cases h
  | p :: ps, x :: xs, h => by
    have := put_sameV (ps := ps) (xs := xs) (by simpa using h)
    unfold putP sameV at this ⊢
    rw [List.zip_cons_cons, List.map_cons, List.map_cons, List.map_cons, ← this]
theorem mem_put {ps : List Pn} {xs : List Int} {p : Pn} (h : p ∈ putP ps xs) : ∃ q x, q ∈ ps ∧ x ∈ xs ∧ p = (q.1, x, q.2.2) := by
  obtain ⟨⟨q, x⟩, hq, rfl⟩ := List.mem_map.mp h
  have := List.of_mem_zip hq
  exact ⟨q, x, this.1, this.2, rfl⟩
theorem Wf.put {ps : List Pn} (h : Wf ps) {xs : List Int} (hl : xs.length = ps.length) : Wf (putP ps xs) where
  word := fun p hp => by obtain ⟨q, x, hq, _, rfl⟩ := mem_put hp; exact h.word q hq
  nd := by rw [put_names hl]; exact h.nd
  voice := fun p hp => by obtain ⟨q, x, hq, _, rfl⟩ := mem_put hp; exact h.voice q hq
  few := by
    have : (putP ps xs).length = ps.length := by
      unfold putP; rw [List.length_map, List.length_zip, hl]; exact Nat.min_self _
    rw [this]; exact h.few
/-- nearer to x by n -/
def nrF (x n y : Int) : Int := if y < x then min x (y + n) else max x (y - n)
theorem drawn_nr (ps : List Pn) (x n : Int) : drawnL ps x n = ps.map (mvP (nrF x n)) := rfl
def sp_l_at (C : Nm) : DSp := fun ds Q X => ∃ ps xs, (ds = [wD C ps, tiD xs] ∨ ds = [wD C ps, .lst (xs.map .int)]) ∧ Wf ps ∧ xs.length = ps.length ∧ Q (.ow (wD C (putP ps xs)))
def sp_l_called (C : Nm) : DSp := fun ds Q X => ∃ xs x, ds = [tiD xs, .int x] ∧ xs.length ≤ 1000 ∧ Q (.v (tiD (xs.map (nrF x 1))))
def t_l_at (K : PySem.W.Frag) (C : Nm) (XD : DX) : DTS := (dRet (dCall (sp_l_made C) XD (dCons (dLc (dOrI (dZipLT (dCons (dDctIx (dVar 0) (dC (.str ("people" : Str)))) (dCons (dVar 1) dNil))) (dZip (dCons (dDctIx (dVar 0) (dC (.str ("people" : Str)))) (dCons (dVar 1) dNil)))) (dgTup 2 (dgCons (dgName 2) (dgCons (dgName 3) dgNil))) dYes (dTup (dCons (dOp dIx (dVar 2) (dC (.int 0))) (dCons (dVar 3) (dCons (dOp dIx (dVar 2) (dC (.int 2))) dNil)))) [2, 3]) dNil)))
def t_l_called (K : PySem.W.Frag) (C : Nm) (XD : DX) : DTS := (dRet (dCB dTupOf (dCons (dLc (dItT (dVar 0)) (dgName 2) dYes (dOp dSub (dOp dAdd (dVar 2) (dCB dInt1 (dCons (dOp dLt (dVar 2) (dVar 1)) dNil))) (dCB dInt1 (dCons (dOp dGt (dVar 2) (dVar 1)) dNil))) [2]) dNil)))
section
variable {K : PySem.W.Frag} {C : Nm} {XD : DX} {ds : List D} {QD : Res → Prop}
theorem pure_l_at (h : sp_l_at C ds QD XD) : t_l_at K C XD { nx := fun _ => QD (.v .non), rt := QD } (startN 4 ds) := by
  obtain ⟨ps, xs, hd, hw, hl, q⟩ := h
  have few := hw.few
  have fin : ∀ d : D, ∀ Q : DQ, (∀ ρ', Q (.own ((ps.zip xs).map fun q => pD (q.1.1, q.2, q.1.2.2))) ρ') → dLcL (dgTup 2 (dgCons (dgName 2) (dgCons (dgName 3) dgNil))) dYes (dTup (dCons (dOp dIx (dVar 2) (dC (.int 0))) (dCons (dVar 3) (dCons (dOp dIx (dVar 2) (dC (.int 2))) dNil)))) [2, 3] Q (zipD (ps.map pD) (xs.map D.int)) [] [Sl.d (wD C ps), Sl.d d, Sl.un, Sl.un] := fun d Q hQ => by
    rw [show zipD (ps.map pD) (xs.map D.int) = (ps.zip xs).map (fun q => D.tup [pD q.1, .int q.2]) from zipD_map]
    refine lcL_fun (fun ρ => ρ = [Sl.d (wD C ps), Sl.d d, Sl.un, Sl.un]) (fun q : Pn × Int => D.tup [pD q.1, .int q.2]) (fun _ => true) (fun q => pD (q.1.1, q.2, q.1.2.2)) ?_ (ps.zip xs) [] _ (by rw [List.length_nil, List.length_zip]; omega) rfl ?_
    · rintro p ρ rfl K1 K2 h1 h2
      walk_at "ev"
      exact ⟨by decide, h1 rfl _ _ rfl rfl⟩
    · rintro ρ rfl
      rw [filter_tt]
      exact hQ _
  have made : ∀ ρ' : Rho, (fun (r : Res) (_ : Rho) => sp_l_made C [fz r] (fun r => QD r) XD) (.own ((ps.zip xs).map fun q => pD (q.1.1, q.2, q.1.2.2))) ρ' := fun _ => ⟨putP ps xs, by unfold putP; rw [List.map_map]; rfl, hw.put hl, q⟩
  rcases hd with rfl | rfl
  · unfold t_l_at
    walk_at "ev"
    refine Or.inl ?_
    walk_at "ev"
    refine ⟨_, rfl, _, rfl, _, wd_p, _, rfl, xs.map D.int, rfl, ?_⟩
    exact fin _ _ made
  · unfold t_l_at
    walk_at "ev"
    refine Or.inr ?_
    walk_at "ev"
    exact ⟨_, rfl, _, rfl, _, wd_p, _, rfl, fin _ _ made⟩
theorem pure_l_called (h : sp_l_called C ds QD XD) : t_l_called K C XD { nx := fun _ => QD (.v .non), rt := QD } (startN 3 ds) := by
  obtain ⟨xs, x, rfl, hl, q⟩ := h
  unfold t_l_called
  walk_at "ev"
  refine ⟨_, rfl, ?_⟩
  refine lcL_fun (fun ρ => ρ = [Sl.d (tiD xs), Sl.d (.int x), Sl.un]) D.int (fun _ => true) (fun y => D.int (nrF x 1 y)) ?_ xs [] _ (by rw [List.length_nil]; omega) rfl ?_
  · rintro y ρ rfl K1 K2 h1 h2
    walk_at "ev"
    refine h1 rfl _ _ ?_ rfl
    show D.int _ = D.int _
    congr 1
    unfold nrF
    by_cases h3 : y < x
    · rw [decide_eq_true h3, decide_eq_false (show ¬ x < y by omega), if_pos h3]
      simp only [if_true, Bool.false_eq_true, if_false]
      omega
    · rw [decide_eq_false h3, if_neg h3]
      by_cases h4 : x < y
      · rw [decide_eq_true h4]
        simp only [if_true, Bool.false_eq_true, if_false]
        omega
      · rw [decide_eq_false h4]
        simp only [Bool.false_eq_true, if_false]
        omega
  · rintro ρ rfl
    rw [filter_tt]
    walk_at "ev"
    refine ⟨_, .inl rfl, ?_⟩
    have := q
    unfold tiD at this
    rw [List.map_map] at this
    exact this
end
end L2.DL
set_option Elab.async false
set_option linter.all false
set_option autoImplicit false
set_option maxRecDepth 100000
set_option maxHeartbeats 1000000
namespace L2.DL
open PySem PySem.Spec PyProof.Rows
theorem nr_zero (x y : Int) : nrF x 0 y = y := by unfold nrF; split <;> omega
theorem nr_self (x n : Int) (h : 0 ≤ n) : nrF x n x = x := by unfold nrF; rw [if_neg (by omega)]; omega
theorem nr_add (x a b y : Int) (ha : 0 ≤ a) (hb : 0 ≤ b) : nrF x b (nrF x a y) = nrF x (a + b) y := by unfold nrF; split <;> split <;> omega
theorem drawn_zero (ps : List Pn) (x : Int) : drawnL ps x 0 = ps := by
  rw [drawn_nr]
  refine (List.map_congr_left fun p _ => ?_).trans (List.map_id ps)
  show (p.1, nrF x 0 p.2.1, p.2.2) = p
  rw [nr_zero]
theorem drawn_add (ps : List Pn) (x a b : Int) (ha : 0 ≤ a) (hb : 0 ≤ b) : drawnL (drawnL ps x a) x b = drawnL ps x (a + b) := by
  rw [drawn_nr, drawn_nr, drawn_nr, List.map_map]
  refine List.map_congr_left fun p _ => ?_
  show (p.1, nrF x b (nrF x a p.2.1), p.2.2) = (p.1, nrF x (a + b) p.2.1, p.2.2)
  rw [nr_add x a b _ ha hb]
theorem plcs_drawn (ps : List Pn) (x n : Int) : plcs (drawnL ps x n) = (plcs ps).map (nrF x n) := by
  unfold plcs
  rw [drawn_nr, List.map_map, List.map_map]
  rfl
/-- so many calls of the crowd at x, one after the other -/
def callable (ps : List Pn) (x : Int) (n : Nat) : Prop := ∀ i : Nat, i < n → canC (drawnL ps x i) x = true
instance (ps : List Pn) (x : Int) (n : Nat) : Decidable (callable ps x n) := inferInstanceAs (Decidable (∀ i : Nat, i < n → _))
theorem callable.mono {ps : List Pn} {x : Int} {n m : Nat} (h : callable ps x n) (l : m ≤ n) : callable ps x m := fun i hi => h i (Nat.lt_of_lt_of_le hi l)
/-- how far the nearest stands who stands elsewhere -/
def IsNear (ps : List Pn) (x m : Int) : Prop := (∃ y, y ∈ plcs ps ∧ y ≠ x ∧ m = (if x - y < 0 then -(x - y) else x - y)) ∧ ∀ y, y ∈ plcs ps → y ≠ x → m ≤ (if x - y < 0 then -(x - y) else x - y)
theorem IsNear.pos {ps : List Pn} {x m : Int} (h : IsNear ps x m) : 0 < m := by
  obtain ⟨⟨y, _, hy, rfl⟩, _⟩ := h
  split <;> omega
theorem mem_plcs {ps : List Pn} {x : Int} : x ∈ plcs ps ↔ x ∈ placesL ps := by
  unfold placesL
  rw [mem_uset]
  exact Iff.rfl
theorem tog_iff {ps : List Pn} : togL ps = false ↔ ∃ a b, a ∈ plcs ps ∧ b ∈ plcs ps ∧ a ≠ b := by
  unfold togL
  rw [decide_eq_false_iff_not]
  constructor
  · intro h
    have h1 : 1 < (placesL ps).length := by omega
    have h0 : 0 < (placesL ps).length := by omega
    refine ⟨(placesL ps)[0], (placesL ps)[1], mem_plcs.mpr (List.getElem_mem h0), mem_plcs.mpr (List.getElem_mem h1), ?_⟩
    have := List.pairwise_iff_getElem.mp (show (placesL ps).Pairwise (· < ·) from uset_lt) 0 1 h0 h1 (by decide)
    omega
  · rintro ⟨a, b, ha, hb, hab⟩ h
    have ha := mem_plcs.mp ha
    have hb := mem_plcs.mp hb
    match e : placesL ps, h with
    | [], _ => rw [e] at ha; cases ha
    | [c], _ =>
      rw [e] at ha hb
      exact hab ((List.mem_singleton.mp ha).trans (List.mem_singleton.mp hb).symm)
theorem away_of {ps : List Pn} {x : Int} (h : togL ps = false) : ∃ y, y ∈ plcs ps ∧ y ≠ x := by
  obtain ⟨a, b, ha, hb, hab⟩ := tog_iff.mp h
  by_cases e : a = x
  · exact ⟨b, hb, fun z => hab (e.trans z.symm)⟩
  · exact ⟨a, ha, e⟩
theorem can_tog {ps : List Pn} {x : Int} (h : canC ps x = true) : togL ps = false := by
  unfold canC at h
  rw [Bool.and_eq_true] at h
  cases e : togL ps with
  | true => rw [e] at h; exact absurd h.2 (by decide)
  | false => rfl
end L2.DL
set_option Elab.async false
set_option linter.all false
set_option autoImplicit false
set_option maxRecDepth 100000
set_option maxHeartbeats 1000000
namespace L2.DL
open PySem PySem.Spec PyProof.Rows
section
variable {prog : Program} {w : World} {A : Around} {E : Value → Shared → Prop} {s : Shared} {l : Addr} {its : List Value} {ns : List Int} {Q : Value → Shared → Prop}
theorem iter_tupI {its : Array Value} (hl : s.heap.IsTuple l its)
    (h : ∀ s₂ : Shared, s₂ = { s with heap := s.heap.push { cls := .type "tuple_iterator", data := .fields #[.ref l, .int 0 0] } } → (s₂.heap.IsTupleIter s.heap.objs.size l 0 ∧ s₂.heap.IsTuple l its) → (∀ b ∈ [s.heap.objs.size, l], b < s₂.heap.objs.size) → l ≠ s.heap.objs.size → Q (.ref s.heap.objs.size) s₂) :
    wpAny (model prog w) A (pyIter (.ref l)) Q E s := by
  have hlt : l < s.heap.objs.size := by obtain ⟨_, e, _⟩ := hl; exact Heap.lt_size e
  refine wpAny_pyIter_tuple hl (h _ rfl ⟨⟨_, Heap.get?_push_size _ rfl, rfl, rfl⟩, hl.push _⟩ (fun b hb => ?_) (Nat.ne_of_lt hlt))
  show b < (s.heap.push _).objs.size
  rw [Heap.size_push]
  rcases List.mem_cons.mp hb with e | hb
  · rw [e]; exact Nat.lt_succ_self _
  · rw [List.mem_singleton.mp hb]; exact Nat.lt_succ_of_lt hlt
theorem kept_old {s₀ : Heap} {o' : Obj} {h' : Heap} (hk : ∀ b o, b ∉ [s₀.objs.size] → (s₀.push o').get? b = some o → h'.get? b = some o) : ∀ b o, s₀.get? b = some o → h'.get? b = some o := fun b o e =>
  hk b o (fun hm => Nat.ne_of_lt (Heap.lt_size e) (List.mem_singleton.mp hm)) (Heap.get?_push_of_some _ e)
theorem max_tup (hh : A.handled = none) (hl : s.heap.IsTuple l its.toArray) (hi : IntsAre its ns) (hne : 0 < ns.length)
    (h : ∀ h' tk M t', (∀ b o, s.heap.get? b = some o → h'.get? b = some o) → M ∈ ns → (∀ a, a ∈ ns → a ≤ M) → Q (.int M t') { s with heap := h', toks := tk }) : wpAny (model prog w) A (call (.builtin "max") [.ref l]) Q E s := by
  obtain ⟨xs, e⟩ := hi.allInts.items
  have hn : numsOf (intItems xs).toList = ns := by rw [← e]; exact hi.numsOf
  rw [nums_intItems] at hn
  subst hn
  rw [e] at hl
  have hsz : 0 < xs.size := by simpa using hne
  refine call_max_walk (iter_tupI hl fun s₂ e st hfp hlI => ?_)
  subst e
  refine ⟨_, _, _, _, _, _, _, rfl, Walks.tuple (A := A.in1) hh _ l hlI (intItems xs), st, hfp, by simpa [intItems] using hsz, CmpOf.ints_gt (numAt xs) (fun _ _ => intItems_at), fun v h' tk hP hk => ?_⟩
  obtain ⟨t, rfl⟩ := intItems_at hP
  have hs : (intItems xs).size = xs.size := by simp [intItems]
  rw [hs]
  obtain ⟨h1, h2⟩ := argBest_gt (numAt xs) (xs.size - 1)
  refine h h' tk _ t (kept_old hk) ?_ fun a ha => ?_
  · rw [numAt_eq]; exact PySem.getD_mem (by rw [List.length_map, Array.length_toList]; omega)
  · obtain ⟨j, hj, rfl⟩ := mem_getD ha
    rw [List.length_map, Array.length_toList] at hj
    rw [← numAt_eq]; exact h2 j (by omega)
theorem min_tup (hh : A.handled = none) (hl : s.heap.IsTuple l its.toArray) (hi : IntsAre its ns) (hne : 0 < ns.length)
    (h : ∀ h' tk M t', (∀ b o, s.heap.get? b = some o → h'.get? b = some o) → M ∈ ns → (∀ a, a ∈ ns → M ≤ a) → Q (.int M t') { s with heap := h', toks := tk }) : wpAny (model prog w) A (call (.builtin "min") [.ref l]) Q E s := by
  obtain ⟨xs, e⟩ := hi.allInts.items
  have hn : numsOf (intItems xs).toList = ns := by rw [← e]; exact hi.numsOf
  rw [nums_intItems] at hn
  subst hn
  rw [e] at hl
  have hsz : 0 < xs.size := by simpa using hne
  refine call_min_walk (iter_tupI hl fun s₂ e st hfp hlI => ?_)
  subst e
  refine ⟨_, _, _, _, _, _, _, rfl, Walks.tuple (A := A.in1) hh _ l hlI (intItems xs), st, hfp, by simpa [intItems] using hsz, CmpOf.ints_lt (numAt xs) (fun _ _ => intItems_at), fun v h' tk hP hk => ?_⟩
  obtain ⟨t, rfl⟩ := intItems_at hP
  have hs : (intItems xs).size = xs.size := by simp [intItems]
  rw [hs]
  obtain ⟨h1, h2⟩ := argBest_lt (numAt xs) (xs.size - 1)
  refine h h' tk _ t (kept_old hk) ?_ fun a ha => ?_
  · rw [numAt_eq]; exact PySem.getD_mem (by rw [List.length_map, Array.length_toList]; omega)
  · obtain ⟨j, hj, rfl⟩ := mem_getD ha
    rw [List.length_map, Array.length_toList] at hj
    rw [← numAt_eq]; exact h2 j (by omega)
end
section
variable {X : Cx}
def rMaxT (K : PySem.W.Frag) : List V → Hp → VK → Prop := fun vs H Q => ∃ (a : Addr) (ns : List Int), vs = [V.ref a] ∧ SqT K H a (ns.map V.int) ∧ 0 < ns.length ∧ ∀ m, m ∈ ns → (∀ y, y ∈ ns → y ≤ m) → Q (.int m) H
def rMinT (K : PySem.W.Frag) : List V → Hp → VK → Prop := fun vs H Q => ∃ (a : Addr) (ns : List Int), vs = [V.ref a] ∧ SqT K H a (ns.map V.int) ∧ 0 < ns.length ∧ ∀ m, m ∈ ns → (∀ y, y ∈ ns → m ≤ y) → Q (.int m) H
theorem cr_maxT (hc : X.calm = true) : CallR X (.builtin "max") (rMaxT X.K) := by
  intro pins s σ H vs us Q I r h
  obtain ⟨a, ns, rfl, hs, hne, q⟩ := h
  obtain ⟨its, rv, hl, _⟩ := I.tuple hs
  rw [Vals.ref1 r]
  exact max_tup (I.ok.hd hc) hl rv.ints hne fun h' tk m t' hk h1 h2 => ⟨.int _, H, I.kept hk, ⟨_, rfl⟩, q m h1 h2⟩
theorem cr_minT (hc : X.calm = true) : CallR X (.builtin "min") (rMinT X.K) := by
  intro pins s σ H vs us Q I r h
  obtain ⟨a, ns, rfl, hs, hne, q⟩ := h
  obtain ⟨its, rv, hl, _⟩ := I.tuple hs
  rw [Vals.ref1 r]
  exact min_tup (I.ok.hd hc) hl rv.ints hne fun h' tk m t' hk h1 h2 => ⟨.int _, H, I.kept hk, ⟨_, rfl⟩, q m h1 h2⟩
end
section
variable {K : PySem.W.Frag}
def dMaxT (ds : List D) (Q : Res → Prop) : Prop := ∃ ns : List Int, ds = [.tup (ns.map .int)] ∧ 0 < ns.length ∧ ∀ m, m ∈ ns → (∀ y, y ∈ ns → y ≤ m) → Q (.v (.int m))
theorem cd_maxT : CallD K (rMaxT K) dMaxT := by
  intro S F H xs ds QD Q s r ⟨ns, e, h0, h⟩ k
  subst e
  match r with
  | .cons (.tup h1 r1) .nil =>
    have e := Reps.of_ints r1
    subst e
    exact ⟨_, ns, rfl, s.seqT (.inl (.inl h1)), h0, fun m hm hy => k _ H F (.v (.int m)) (.refl s) (.int _) (h m hm hy)⟩
def dMinT (ds : List D) (Q : Res → Prop) : Prop := ∃ ns : List Int, ds = [.tup (ns.map .int)] ∧ 0 < ns.length ∧ ∀ m, m ∈ ns → (∀ y, y ∈ ns → m ≤ y) → Q (.v (.int m))
theorem cd_minT : CallD K (rMinT K) dMinT := by
  intro S F H xs ds QD Q s r ⟨ns, e, h0, h⟩ k
  subst e
  match r with
  | .cons (.tup h1 r1) .nil =>
    have e := Reps.of_ints r1
    subst e
    exact ⟨_, ns, rfl, s.seqT (.inl (.inl h1)), h0, fun m hm hy => k _ H F (.v (.int m)) (.refl s) (.int _) (h m hm hy)⟩
def dMin3 (ds : List D) (Q : Res → Prop) : Prop := ∃ i j l : Int, ds = [.int i, .int j, .int l] ∧ Q (.v (.int (if l < (if j < i then j else i) then l else (if j < i then j else i))))
theorem cd_min3 : CallD K (rNuC3 nuMin3) dMin3 := by
  intro S F H xs ds QD Q s r ⟨i, j, l, e, h⟩ k
  subst e
  match r with
  | .cons (.int _) (.cons (.int _) (.cons (.int _) .nil)) =>
    refine ⟨.int i, .int j, .int l, .int (if l < (if j < i then j else i) then l else (if j < i then j else i)), rfl, ?_, k _ H F (.v (.int _)) (.refl s) (.int _) h⟩
    have e2 : ∀ a b : Int, nuMin2 (.int a) (.int b) = some (V.int (if b < a then b else a)) := fun a b => by
      show some (if decide (b < a) = true then V.int b else V.int a) = _
      by_cases q : b < a
      · rw [decide_eq_true q, if_pos rfl, if_pos q]
      · rw [decide_eq_false q, if_neg (by simp), if_neg q]
    show (nuMin2 (.int i) (.int j)).bind (fun m => nuMin2 m (.int l)) = _
    rw [e2]
    exact e2 _ _
def dIsB (a b : D) (Q : Res → Prop) : Prop := ∃ x y : Bool, a = .bl x ∧ b = .bl y ∧ Q (.v (.bl (decide (x = y))))
def dNotB (a b : D) (Q : Res → Prop) : Prop := ∃ x y : Bool, a = .bl x ∧ b = .bl y ∧ Q (.v (.bl (!decide (x = y))))
end
section
variable {Q : Res → Prop} {i j l : Int} {a b : Bool}
theorem min3R : dMin3 [.int i, .int j, .int l] Q = Q (.v (.int (if l < (if j < i then j else i) then l else (if j < i then j else i)))) := propext ⟨fun ⟨_, _, _, e, q⟩ => by cases e; exact q, fun q => ⟨i, j, l, rfl, q⟩⟩
theorem isBR : dIsB (.bl a) (.bl b) Q = Q (.v (.bl (decide (a = b)))) := propext ⟨fun ⟨_, _, e1, e2, q⟩ => by cases e1; cases e2; exact q, fun q => ⟨a, b, rfl, rfl, q⟩⟩
theorem notBR : dNotB (.bl a) (.bl b) Q = Q (.v (.bl (!decide (a = b)))) := propext ⟨fun ⟨_, _, e1, e2, q⟩ => by cases e1; cases e2; exact q, fun q => ⟨a, b, rfl, rfl, q⟩⟩
end
end L2.DL
set_option Elab.async false
set_option linter.all false
set_option autoImplicit false
set_option maxRecDepth 100000
set_option maxHeartbeats 1000000
namespace L2.DL
open PySem PySem.Spec PyProof.Rows PySem.W
end L2.DL
set_option Elab.async false
set_option linter.all false
set_option autoImplicit false
set_option maxRecDepth 100000
set_option maxHeartbeats 1000000
namespace L2.DL
open PySem PySem.Spec PyProof.Rows
end L2.DL
set_option Elab.async false
set_option linter.all false
set_option autoImplicit false
set_option maxRecDepth 100000
set_option maxHeartbeats 1000000
namespace L2.DL
open PySem PySem.W PySem.Spec PyProof.Rows
end L2.DL
set_option Elab.async false
set_option linter.all false
set_option autoImplicit false
set_option maxRecDepth 100000
set_option maxHeartbeats 1000000
namespace L2.DL
open PySem PySem.Spec PyProof.Rows
end L2.DL
set_option Elab.async false
set_option linter.all false
set_option autoImplicit false
set_option maxRecDepth 100000
set_option maxHeartbeats 1000000
namespace L2.DL
open PySem PySem.Spec PyProof.Rows LamX
end L2.DL
set_option Elab.async false
set_option linter.all false
set_option autoImplicit false
set_option maxRecDepth 100000
set_option maxHeartbeats 1000000
namespace L2.DL
open PySem PySem.Spec PyProof.Rows
end L2.DL
set_option Elab.async false
set_option linter.all false
set_option autoImplicit false
set_option maxRecDepth 100000
set_option maxHeartbeats 1000000
namespace L2.DL
open PySem PySem.Spec PyProof.Rows
section
variable {prog : Program} {w : World} {A : Around} {E : Value → Shared → Prop} {z : Shared}
theorem ext_long {R : Result → Shared → Prop} {r : Addr} {a b : Int} {t u v : Tok} {n : Nat} (hh : A.handled = none) (hr : IsRange z.heap r a b 1 t u v) (big : Builtin.Range.small a b 1 = false) (hn : Builtin.Range.rangeSize a b 1 = n) (few : n ≤ 2 ^ 24)
    (D : Addr) (res : Value) (c0 : Nat) (hD : z.heap.get? D = some { cls := .type "list", data := .seq #[] c0 })
    (fin : ∀ h' tk acc c1, (∀ p o, p ≠ D → z.heap.get? p = some o → h'.get? p = some o) → h'.get? D = some { cls := .type "list", dict := none, data := .seq acc c1, slots := #[] } → ItemsOf (fun i v => ∃ t, v = .int (a + i * 1) t) acc n → R (.ok (.ret res)) { z with heap := h', toks := tk }) :
    wpAny (model prog w) A.in1 (Builtin.List.listExtendWith (.ref D) (.ref r) res) (fun f z1 => match f with | .done f => R (.ok f) z1 | .again k => k.quiet = true ∧ codeAny (model prog w) A k R z1) (fun e z1 => R (.error e) z1) z := by
  have nDr : D ≠ r := fun e => by rw [e, hr] at hD; simp at hD
  have nDI : D ≠ z.heap.objs.size := Nat.ne_of_lt (Heap.lt_size hD)
  have off : D ∉ [z.heap.objs.size] := fun m => nDI (List.mem_singleton.mp m)
  have walk := (Walks.longrange (prog := prog) (w := w) (A := A.in1) hh z.heap.objs.size a 1 n).toS
  have loop : ∀ (h : Heap) (c1 tk : Nat), IsLongIter h z.heap.objs.size (a + ((0 : Nat) : Int) * 1) ((n : Int) - ((0 : Nat) : Int)) 1 → (∀ p o, p ≠ D → z.heap.get? p = some o → h.get? p = some o) → h.get? D = some { cls := .type "list", data := .seq #[] c1 } →
      codeAny (model prog w) A (.builtin "list.extend.loop" ⟨[.ref D, .ref z.heap.objs.size, res], []⟩) R { z with heap := h, toks := tk } := fun h c1 tk hit hk hD1 => by
    refine codeAny_extend_loopS walk (by rw [sizeLine_eq]; omega) D off res n 0 _ #[] c1 rfl (Nat.zero_le _) hit hD1 (ItemsOf.nil _) fun z1 acc c2 hm hD2 hacc => ?_
    rw [Moved.eq_with hm]
    refine fin z1.heap z1.toks acc c2 (fun p o hp e => hm.heap p o (fun q => ?_) (hk p o hp e)) hD2 hacc
    rcases List.mem_cons.mp q with e2 | q
    · exact hp e2
    · exact absurd (Heap.lt_size e) (by rw [List.mem_singleton.mp q]; exact Nat.lt_irrefl _)
  unfold Builtin.List.listExtendWith
  refine wpAny_bind (wpAny_typeOf (T := "range") ⟨_, hr, rfl⟩ ?_)
  have f1 : Builtin.List.listSameRef (.ref D) (.ref r) = false := by simp [Builtin.List.listSameRef, nDr]
  have f2 : (Value.type "range" == Value.type "list") = false ∧ (Value.type "range" == Value.type "tuple") = false := ⟨by decide, by decide⟩
  simp only [f1, f2.1, f2.2, Bool.or_false, Bool.false_eq_true, if_false]
  refine wpAny_bind (wpAny_pyIter_longrange hr big ?_)
  refine wpAny_bind (wpAny_holding (wpAny_hint_range (n := n) (Heap.get?_push_of_some _ hr) hn few ?_))
  generalize ho : ({ cls := .type "longrange_iterator", data := .fields #[rawInt a, rawInt (Builtin.Range.rangeSize a b 1), rawInt 1] } : Obj) = oI
  have hit1 : IsLongIter (z.heap.push oI) z.heap.objs.size (a + ((0 : Nat) : Int) * 1) ((n : Int) - ((0 : Nat) : Int)) 1 := by
    rw [← ho, hn]
    show IsLongIter _ _ _ _ _
    simpa using Heap.get?_push_size _ rfl
  have hD1 := Heap.get?_push_of_some oI hD
  refine wpAny_ite_split (fun _ => ?_) (fun _ => wpAny_pure ⟨plainId_quiet F.plain_extend_loop _, loop _ c0 _ hit1 (fun p o _ e => Heap.get?_push_of_some _ e) hD1⟩)
  refine wpAny_bind (wpAny_rule (wpAny_bind ?_))
  show wpAny _ _ (updateSeq D (·.push .none) >>= fun _ => updateSeq D (·.pop)) _ _ _
  refine wpAny_bind (wpAny_updateSeq hD1 rfl ?_)
  have hD2 := Heap.get?_update_self (Obj.mapSeq (·.push Value.none)) hD1 rfl
  refine wpAny_updateSeq (hz := by seq_fits) hD2 rfl (wpAny_pure ⟨plainId_quiet F.plain_extend_loop _, loop _ _ _ ?_ (fun p o hp e => ?_) (Heap.get?_update_self (Obj.mapSeq (·.pop)) hD2 rfl)⟩)
  · exact (Heap.get?_update_other _ _ nDI).trans ((Heap.get?_update_other _ _ nDI).trans hit1)
  · exact (Heap.get?_update_other _ _ hp.symm).trans ((Heap.get?_update_other _ _ hp.symm).trans (Heap.get?_push_of_some _ e))
theorem call_list_long {Q : Value → Shared → Prop} {r : Addr} {a b : Int} {t u v : Tok} {n : Nat} (hh : A.handled = none) (hr : IsRange z.heap r a b 1 t u v) (big : Builtin.Range.small a b 1 = false) (hn : Builtin.Range.rangeSize a b 1 = n) (few : n ≤ 2 ^ 24)
    (fin : ∀ h' tk acc c1, (∀ p o, z.heap.get? p = some o → h'.get? p = some o) → h'.get? z.heap.objs.size = some { cls := .type "list", dict := none, data := .seq acc c1, slots := #[] } → ItemsOf (fun i v => ∃ t, v = .int (a + i * 1) t) acc n → Q (.ref z.heap.objs.size) { z with heap := h', toks := tk }) :
    wpAny (model prog w) A (call (.type "list") [.ref r]) Q E z := by
  refine callType_codes (Q₁ := fun o z1 => o = .ref z.heap.objs.size ∧ z1 = { z with heap := z.heap.push { cls := .type "list", data := .seq #[] } }) F.called_list (F.typeCall_list_1 _) F.entry_list_init (code_list_new _ ⟨rfl, rfl⟩) fun o z1 h1 => ?_
  obtain ⟨rfl, rfl⟩ := h1
  generalize eD : z.heap.objs.size = D
  have hD : (z.heap.push { cls := .type "list", data := .seq #[] }).get? D = some { cls := .type "list", data := .seq #[] } := by rw [← eD]; exact Heap.get?_push_size _ rfl
  have hr1 : IsRange (z.heap.push { cls := .type "list", data := .seq #[] }) r a b 1 t u v := Heap.get?_push_of_some _ hr
  have nDr : D ≠ r := fun e => by
    have : r < D := by rw [← eD]; exact Heap.lt_size hr
    rw [e] at this; exact absurd this (Nat.lt_irrefl _)
  have old : ∀ p o, z.heap.get? p = some o → p ≠ D := fun p o e => by rw [← eD]; exact Nat.ne_of_lt (Heap.lt_size e)
  refine ⟨⟨_, hD, rfl⟩, F.args_list_init_2 _ _, ?_⟩
  show wpAny _ A.in1.in1 (do let old ← Builtin.List.listItems (.ref D); Builtin.List.listUpdate (.ref D) (fun _ => #[]); letGo old.toList.reverse; Builtin.List.listExtendWith (.ref D) (.ref r) .none) _ _ _
  refine wpAny_bind ?_
  unfold Builtin.List.listItems
  refine wpAny_bind (wpAny_seqItems hD rfl (wpAny_pure ?_))
  show wpAny _ _ (updateSeq D (fun _ => #[]) >>= fun _ => letGo (#[] : Array Value).toList.reverse >>= fun _ => Builtin.List.listExtendWith (.ref D) (.ref r) .none) _ _ _
  refine wpAny_bind (wpAny_updateSeq hD rfl (wpAny_bind (wpAny_letGo ?_)))
  have hD2 := Heap.get?_update_self (Obj.mapSeq (fun _ => (#[] : Array Value))) hD rfl
  refine ext_long (A := A.in1) hh ((Heap.get?_update_other _ _ nDr).trans hr1) big hn few D .none _ hD2 fun h' tk acc c1 hk hD3 hi => ?_
  have := fin h' tk acc c1 (fun p o e => hk p o (old p o e) ((Heap.get?_update_other _ _ (old p o e).symm).trans (Heap.get?_push_of_some _ e))) (by rw [eD]; exact hD3) hi
  rw [eD] at this
  exact ⟨rfl, this⟩
end
section
variable {X : Cx} {e : Expr}
def tLstRgW (te : L2.St → Hp → (Int → Int → Hp → Prop) → Prop) : TE := fun σ H Q => te σ H fun a b H1 => (b - a).toNat ≤ 2 ^ 24 ∧ ∀ q, H1 q = none → Q (.ref q) (upd H1 q (.lst (rgV a b)))
theorem pe_listRgW {te : L2.St → Hp → (Int → Int → Hp → Prop) → Prop} {p pos : Pos} (hc : X.calm = true) (hg : Gl X "list") (hm : X.mg "list" = none) (he : PRg X e te) (na : starEach [e] X.env = (false, eval e X.env) :: starEach [] X.env := by rfl) : PE X (.Call (.Name "list" p) [e] [] pos) (tLstRgW te) := by
  refine ⟨fun pins s σ H Q I h => ?_⟩
  refine Call_ (ld_blt I hg hm boot_list (PyProof.Rows.callWith_type1 (args_cons (thn (he pins s σ H _ I h) fun x s1 ⟨r, a, b, t, u, v, H1, ex, hr, I1, ok, q⟩ => args_nil ?_) na) na))
  subst ex
  have fin : ∀ h' tk (acc : Array Value) c1, (∀ p o, s1.heap.get? p = some o → h'.get? p = some o) → h'.get? s1.heap.objs.size = some { cls := .type "list", dict := none, data := .seq acc c1, slots := #[] } → ItemsOf (fun i v => ∃ t, v = .int (a + i * 1) t) acc (b - a).toNat → EP X pins σ Q (.ref s1.heap.objs.size) { s1 with heap := h', toks := tk } := fun h' tk acc c1 hk e1 hi => by
    refine ⟨.ref s1.heap.objs.size, upd H1 s1.heap.objs.size (.lst (rgV a b)), I1.laid hk (Nat.le_refl _) (show ObjOk X.prog X.w _ _ _ (.lst (rgV a b)) from ⟨?_, acc.toList, c1, vals_rg hi, ?_⟩), rfl, q _ (I1.hok.fresh (Nat.le_refl _))⟩
    · rw [rgV_length, sizeLine_eq]; omega
    · rw [Array.toArray_toList]; exact e1
  cases hs : Builtin.Range.small a b 1 with
  | true => exact call_list_range (n := (b - a).toNat) (I1.ok.hd hc) hr hs (rangeSize_nat a b) ok fin
  | false => exact call_list_long (n := (b - a).toNat) (I1.ok.hd hc) hr hs (rangeSize_nat a b) ok fin
def intsR (a b : Int) : List Int := (List.range (b - a).toNat).map fun i => a + (i : Nat)
end
end L2.DL
set_option Elab.async false
set_option linter.all false
set_option autoImplicit false
set_option maxRecDepth 100000
set_option maxHeartbeats 1000000
namespace L2.DL
open PySem PySem.Spec PyProof.Rows
theorem intsR_V (a b : Int) : rgV a b = (intsR a b).map V.int := by unfold rgV intsR; rw [List.map_map]; rfl
theorem intsR_len (a b : Int) : (intsR a b).length = (b - a).toNat := by unfold intsR; rw [List.length_map, List.length_range]
def rLrg : R2 := fun x y H Q => ∃ i j : Int, x = .int i ∧ y = .int j ∧ (j - i).toNat ≤ 2 ^ 24 ∧ ∀ q, H q = none → Q (.ref q) (upd H q (.lst (rgV i j)))
def dLrg (a b : D) (Q : Res → Prop) : Prop := ∃ i j : Int, a = .int i ∧ b = .int j ∧ (j - i).toNat ≤ 2 ^ 24 ∧ Q (.own ((intsR i j).map .int))
theorem od_lrg {K : PySem.W.Frag} : OpD K rLrg dLrg := by
  rintro S F H x y d e QD Q s rx ry ⟨i, j, rfl, rfl, hn, q⟩ k
  cases rx
  cases ry
  refine ⟨i, j, rfl, rfl, hn, fun p hp => k _ _ F (.own ((intsR i j).map .int)) (PExt.own s hp) ⟨p, _, rfl, hp, upd_same, free_of s hp, ?_⟩ q⟩
  rw [intsR_V]
  exact .lst Reps.ints
section
variable {c : C} {X : Cx} {a b : Expr} {ta tb : DTE} {pos p1 p2 ps : Pos}
theorem de_listRng2 (hc : X.calm = true) (hg : Gl X "list") (hm : X.mg "list" = none) (hg2 : Gl X "range") (hm2 : X.mg "range" = none) (ha : PE X a (liftE c ta)) (hb : PE X b (liftE c tb))
    (s1 : starEach [.Call (.Name "range" p2) [a, b] [] ps] X.env = (false, eval (.Call (.Name "range" p2) [a, b] [] ps) X.env) :: starEach [] X.env := by rfl) (s2 : starEach [a, b] X.env = (false, eval a X.env) :: starEach [b] X.env := by rfl) (s3 : starEach [b] X.env = (false, eval b X.env) :: starEach [] X.env := by rfl) (s4 : (backTo ps (starEach [b] X.env)).any (·.1) = false := by rfl) :
    PE X (.Call (.Name "list" p1) [.Call (.Name "range" p2) [a, b] [] ps] [] pos) (liftE c (dOp dLrg ta tb)) :=
  PE_imp (pe_listRgW hc hg hm (prg_2 hg2 hm2 (froze ha) (froze hb) s2 s3 s4) s1) fun _ _ _ h => bin_lift od_lrg h
def dLrg1 (a : D) (Q : Res → Prop) : Prop := ∃ j : Int, a = .int j ∧ (j - 0).toNat ≤ 2 ^ 24 ∧ Q (.own ((intsR 0 j).map .int))
end
section
variable {Q : Res → Prop} {i j : Int}
theorem lrgR : dLrg (.int i) (.int j) Q = ((j - i).toNat ≤ 2 ^ 24 ∧ Q (.own ((intsR i j).map .int))) := propext ⟨fun ⟨_, _, e1, e2, h⟩ => by cases e1; cases e2; exact h, fun h => ⟨i, j, rfl, rfl, h⟩⟩
theorem lrg1R : dLrg1 (.int j) Q = ((j - 0).toNat ≤ 2 ^ 24 ∧ Q (.own ((intsR 0 j).map .int))) := propext ⟨fun ⟨_, e1, h⟩ => by cases e1; exact h, fun h => ⟨j, rfl, h⟩⟩
end
end L2.DL
set_option Elab.async false
set_option linter.all false
set_option autoImplicit false
set_option maxRecDepth 100000
set_option maxHeartbeats 1000000
namespace L2.DL
open PySem PySem.Spec PyProof.Rows
set_option backward.match.sparseCases false in
def tagD : D → Nat
  | .non => 0
  | .bl _ => 1
  | .int _ => 2
  | .str _ => 3
  | .ty _ => 5
  | _ => 4
set_option backward.match.sparseCases false in
mutual
def apD (x : List Nat) : D → Bool
  | .lst ys => !decide (ys.map tagD = x) && apDs x ys
  | .tup ys => apDs x ys
  | .dct _ => false
  | .dcT _ => false
  | .dcL _ => false
  | .dcI _ => false
  | .ins _ _ => false
  | _ => true
def apDs (x : List Nat) : List D → Bool
  | [] => true
  | y :: ys => apD x y && apDs x ys
end
set_option backward.match.sparseCases false in
def apR (x : List Nat) : Res → Bool
  | .v d => apD x d
  | .ow (.lst ys) => apDs x ys
  | .ow _ => false
def dCallBL (i : Nat) (sp : DSp) (XD : DX) (t : DTA) : DTE := fun ρ Q => t ρ fun ds ρ1 => ∃ xs, ρ1[i]? = some (Sl.o (.lst xs)) ∧ sp ds (fun r => apR (xs.map tagD) r = true ∧ Q r ρ1) XD
end L2.DL
set_option Elab.async false
set_option linter.all false
set_option autoImplicit false
set_option maxRecDepth 100000
set_option maxHeartbeats 1000000
namespace L2.DL
open PySem PySem.Spec PyProof.Rows
section
variable {X : Cx} {pins : List (Addr × Obj)} {σ : L2.St} {H : Hp} {s : Shared}
theorem DpAll.at {vs : List V} {ds : List PyData} {K : PySem.W.Frag} (h : DpAll K H vs ds) : vs.length = ds.length ∧ ∀ (i : Nat) (v : V), vs[i]? = some v → ∃ d, ds[i]? = some d ∧ Dp K H v d := by
  induction ds generalizing vs with
  | nil => cases h; exact ⟨rfl, fun i v e => by simp at e⟩
  | cons d ds ih =>
    cases h with
    | cons h1 h2 =>
      obtain ⟨a, b⟩ := ih h2
      refine ⟨by simp [a], fun i v e => ?_⟩
      cases i with
      | zero => cases e; exact ⟨d, rfl, h1⟩
      | succ i => exact b i v (by simpa using e)
end
end L2.DL
set_option Elab.async false
set_option linter.all false
set_option autoImplicit false
set_option maxRecDepth 100000
set_option maxHeartbeats 1000000
namespace L2.DL
open PySem PySem.Spec PyProof.Rows
end L2.DL
set_option Elab.async false
set_option linter.all false
set_option autoImplicit false
set_option maxRecDepth 100000
set_option maxHeartbeats 2000000
namespace L2.DL
open PySem PySem.Spec PyProof.Rows
local macro_rules | `(tactic| walk_at "ev") => `(tactic| simp only [dSeq, dNext, dSet, dPar, dPar3, dRet, dRetN, dDrop, dIfS, dBrk, dCnt, dApp, dFor, dItL, dItT, dRng1, dRng2, dZip, dEnum, dItS, dAsg, dAugI, dNever, dPutS, dNewD, dFldM, dFldS, dStar,
  dgName, dgTup, dgCons, dgNil, dOp, dUn, dC, dNil, dCons, dCB, dTup, dLst, dIf, dTst, dTru, dAnd, dOr, dNot, dAndV, dOrV, dNotV, dYes, dInR, dFld, dMeth, dCall, dDctIx, dGet2, dRaise, dRaiseZ, dDisp, dPNil, dPCons, dRepD, dTold, dLenSet, hid_u, hid_d, hid_o, dStep2, dSlV, dIxV, dSetV, dPopV, dLenV, dLcV, lstAt, Option.isSome_some, Option.isSome_none, dSl, dNoP, dPart, dLc, dDc, dSortSet, dSortSc, dListVals, dChain, dIsiT2, dCallB, dBor, dNilB, dCBB, dOneL,
  dIsN, dNotN, dStrI, dAbs, dIn, fz_v, fz_l, fz_d, fz_i, fz_m, un_l, un_d, un_i, un_m, sl_v, sl_o, dwipe, and_assoc, insLF, insLT, insFF, insFT, startD, startN, pdT, pdI, gdT, prT, stI, putFD, lendable, noKR, noK, noKs,
  vd0, vo0, rd0, ro0, vd1, vo1, rd1, ro1, vd2, vo2, rd2, ro2, vd3, vo3, rd3, ro3, vd4, vo4, rd4, ro4, vd5, vo5, rd5, ro5, vd6, vo6, rd6, ro6, vd7, vo7, rd7, ro7, vd8, vo8, rd8, ro8, vd9, vo9, rd9, ro9, vd10, vo10, rd10, ro10, vd11, vo11, rd11, ro11, vd12, vo12, rd12, ro12, vd13, vo13, rd13, ro13, vd14, vo14, rd14, ro14, vd15, vo15, rd15, ro15, vd16, vo16, rd16, ro16, vd17, vo17, rd17, ro17, vd18, vo18, rd18, ro18, vd19, vo19, rd19, ro19, vd20, vo20, rd20, ro20, vd21, vo21, rd21, ro21, vd22, vo22, rd22, ro22, vd23, vo23, rd23, ro23, lk_people, lk_names, lk_has_name, lk_person, lk_place, lk_voice, lk_places, lk_at, lk_line, lk_voices, lk_is_together, lk_own, lenL, lenT, lenS, ixL, ixT, ixS, dcutL, dcutS, addII, addSS, addLL, int1i, int1b, negI, reprL, reprT, absI, sc_n, sc_b, sc_i, sc_s, subI, mulI, fdvI, modI, powI, ltI, leI, gtI, geI, tr_n, tr_b, tr_i, tr_l, tr_t, tr_d, ty_n, ty_b, ty_i, ty_s, ty_l, ty_t, ty_d, in_n, in_b, in_i, in_s, in_l, in_t, in_d, eqII, neII, eqSS, neSS, eqBB, neBB, isic_n, isic_b, isic_i, isic_s, isic_l, isic_t, isic_d, isio_n, isio_b, isio_i, isio_s, isio_l, isio_t, isio_d, isic_I, isic_S, isic_T, isic_L, isic_B, isio_I, dIsiO, isi_ii, isi_ib, isi_is, isi_il, isi_bi, isi_bb, isi_bs, isi_si, isi_sb, isi_ss, isi_ni, isi_nb, isi_ns, isi_li, isi_lb, isi_ls, isi_ll, isi_ti, isi_tb, isi_ts, isi_tt, isi_di, isi_db, isi_ds, isi_lt, isi_tl, isi_bt, isi_nt, isi_dt, eqLL, neLL, eqTT, neTT, isi_sl, isi_st, isi_it, kit_ll, kit_lt, max2, min2, get1, get2b, get3b, get3c,
  List.map_cons, List.map_nil, List.length_cons, List.length_nil, List.replicate, List.append_nil, List.cons_append, List.nil_append, List.getElem?_cons_zero, List.getElem?_cons_succ, List.set_cons_zero, List.set_cons_succ, List.getElem?_nil, Nat.sub_zero, Nat.reduceAdd, Nat.reduceSub, Int.reduceLT, Int.reduceLE, Int.reduceNeg, Nat.zero_add,
  true_and, and_true, eq_self, Bool.true_or, Bool.or_true, Bool.false_or, Bool.or_false, Bool.true_and, Bool.and_true, Bool.false_and, Bool.and_false, exists_eq_left, exists_eq_left', exists_eq', exists_eq, Option.some.injEq, Res.v.injEq, D.bl.injEq, D.int.injEq, D.str.injEq, D.lst.injEq, D.tup.injEq, D.dct.injEq, D.ins.injEq, Sl.o.injEq, Sl.d.injEq, List.cons.injEq, reduceCtorEq, false_or, or_false, if_true, if_false, Bool.false_eq_true, Bool.not_true, Bool.not_false, ite_true, ite_false, decide_true, decide_false, and_self, List.isEmpty_nil, List.isEmpty_cons, exists_and_left, exists_const, lenNil, reprWL, reprAA, dZipLT])
end L2.DL
set_option Elab.async false
set_option linter.all false
set_option autoImplicit false
set_option maxRecDepth 100000
set_option maxHeartbeats 2000000
namespace L2.DL
open PySem PySem.Spec PyProof.Rows
local macro_rules | `(tactic| walk_at "ev") => `(tactic| simp only [dSeq, dNext, dSet, dPar, dPar3, dRet, dRetN, dDrop, dIfS, dBrk, dCnt, dApp, dFor, dItL, dItT, dRng1, dRng2, dZip, dEnum, dItS, dAsg, dAugI, dNever, dPutS, dNewD, dFldM, dFldS, dStar,
  dgName, dgTup, dgCons, dgNil, dOp, dUn, dC, dNil, dCons, dCB, dTup, dLst, dIf, dTst, dTru, dAnd, dOr, dNot, dAndV, dOrV, dNotV, dYes, dInR, dFld, dMeth, dCall, dDctIx, dGet2, dRaise, dRaiseZ, dDisp, dPNil, dPCons, dRepD, dTold, dLenSet, hid_u, hid_d, hid_o, dStep2, dSlV, dIxV, dSetV, dPopV, dLenV, dLcV, lstAt, Option.isSome_some, Option.isSome_none, dSl, dNoP, dPart, dLc, dDc, dSortSet, dSortSc, dListVals, dChain, dIsiT2, dCallB, dBor, dNilB, dCBB, dOneL,
  dIsN, dNotN, dStrI, dAbs, dIn, fz_v, fz_l, fz_d, fz_i, fz_m, un_l, un_d, un_i, un_m, sl_v, sl_o, dwipe, and_assoc, insLF, insLT, insFF, insFT, startD, startN, pdT, pdI, gdT, prT, stI, putFD, lendable, noKR, noK, noKs,
  vd0, vo0, rd0, ro0, vd1, vo1, rd1, ro1, vd2, vo2, rd2, ro2, vd3, vo3, rd3, ro3, vd4, vo4, rd4, ro4, vd5, vo5, rd5, ro5, vd6, vo6, rd6, ro6, vd7, vo7, rd7, ro7, vd8, vo8, rd8, ro8, vd9, vo9, rd9, ro9, vd10, vo10, rd10, ro10, vd11, vo11, rd11, ro11, vd12, vo12, rd12, ro12, vd13, vo13, rd13, ro13, vd14, vo14, rd14, ro14, vd15, vo15, rd15, ro15, vd16, vo16, rd16, ro16, vd17, vo17, rd17, ro17, vd18, vo18, rd18, ro18, vd19, vo19, rd19, ro19, vd20, vo20, rd20, ro20, vd21, vo21, rd21, ro21, vd22, vo22, rd22, ro22, vd23, vo23, rd23, ro23, lk_people, lk_names, lk_has_name, lk_person, lk_place, lk_voice, lk_places, lk_at, lk_line, lk_voices, lk_is_together, lk_own, lenL, lenT, lenS, ixL, ixT, ixS, dcutL, dcutS, addII, addSS, addLL, int1i, int1b, negI, reprL, reprT, absI, sc_n, sc_b, sc_i, sc_s, subI, mulI, fdvI, modI, powI, ltI, leI, gtI, geI, tr_n, tr_b, tr_i, tr_l, tr_t, tr_d, ty_n, ty_b, ty_i, ty_s, ty_l, ty_t, ty_d, in_n, in_b, in_i, in_s, in_l, in_t, in_d, eqII, neII, eqSS, neSS, eqBB, neBB, isic_n, isic_b, isic_i, isic_s, isic_l, isic_t, isic_d, isio_n, isio_b, isio_i, isio_s, isio_l, isio_t, isio_d, isic_I, isic_S, isic_T, isic_L, isic_B, isio_I, dIsiO, isi_ii, isi_ib, isi_is, isi_il, isi_bi, isi_bb, isi_bs, isi_si, isi_sb, isi_ss, isi_ni, isi_nb, isi_ns, isi_li, isi_lb, isi_ls, isi_ll, isi_ti, isi_tb, isi_ts, isi_tt, isi_di, isi_db, isi_ds, isi_lt, isi_tl, isi_bt, isi_nt, isi_dt, eqLL, neLL, eqTT, neTT, isi_sl, isi_st, isi_it, kit_ll, kit_lt, max2, min2, get1, get2b, get3b, get3c,
  List.map_cons, List.map_nil, List.length_cons, List.length_nil, List.replicate, List.append_nil, List.cons_append, List.nil_append, List.getElem?_cons_zero, List.getElem?_cons_succ, List.set_cons_zero, List.set_cons_succ, List.getElem?_nil, Nat.sub_zero, Nat.reduceAdd, Nat.reduceSub, Int.reduceLT, Int.reduceLE, Int.reduceNeg, Nat.zero_add,
  true_and, and_true, eq_self, Bool.true_or, Bool.or_true, Bool.false_or, Bool.or_false, Bool.true_and, Bool.and_true, Bool.false_and, Bool.and_false, exists_eq_left, exists_eq_left', exists_eq', exists_eq, Option.some.injEq, Res.v.injEq, D.bl.injEq, D.int.injEq, D.str.injEq, D.lst.injEq, D.tup.injEq, D.dct.injEq, D.ins.injEq, Sl.o.injEq, Sl.d.injEq, List.cons.injEq, reduceCtorEq, false_or, or_false, if_true, if_false, Bool.false_eq_true, Bool.not_true, Bool.not_false, ite_true, ite_false, decide_true, decide_false, and_self, List.isEmpty_nil, List.isEmpty_cons, exists_and_left, exists_const, lenNil, reprWL, reprAA, dZipLT])
theorem sameV.drawn {ps qs : List Pn} (h : sameV ps qs) (x n : Int) : sameV ps (drawnL qs x n) := by
  unfold sameV at h ⊢
  rw [h]
  unfold drawnL
  rw [List.map_map]
  rfl
end L2.DL
set_option Elab.async false
set_option linter.all false
set_option autoImplicit false
set_option maxRecDepth 100000
set_option maxHeartbeats 1000000
namespace L2.DL
open PySem PySem.Spec PyProof.Rows
def wtD (b : Bool × Int) : D := .tup [.str (kindS b.1), .int b.2]
theorem wtT {p : Bool × Int} {ds : List D} : (wtD p = .tup ds) = ([.str (kindS p.1), .int p.2] = ds) := propext ⟨fun h => D.tup.inj h, fun h => congrArg D.tup h⟩
theorem wtI {p : Bool × Int} {i : D} {Q : Res → Prop} : dIx (wtD p) i Q = dIx (.tup [.str (kindS p.1), .int p.2]) i Q := rfl
/-- a stretch: its kind, its width, the first person at its left end -/
abbrev Pc : Type := Bool × Int × Str
def pcD (p : Pc) : D := .tup [.str (kindS p.1), .int p.2.1, .str p.2.2]
theorem pcT {p : Pc} {ds : List D} : (pcD p = .tup ds) = ([.str (kindS p.1), .int p.2.1, .str p.2.2] = ds) := propext ⟨fun h => D.tup.inj h, fun h => congrArg D.tup h⟩
theorem pcI {p : Pc} {i : D} {Q : Res → Prop} : dIx (pcD p) i Q = dIx (.tup [.str (kindS p.1), .int p.2.1, .str p.2.2]) i Q := rfl
abbrev Rw : Type := Str × Int
def minI : Int → List Int → Int
  | a, [] => a
  | a, b :: t => minI (min a b) t
def mvF (pl t z : Int) : Int := z + t * ((if z < pl then 1 else 0) - (if pl < z then 1 else 0))
def nearR (pl : Int) (xs : List Int) : List Int := (xs.filter fun z => decide (z ≠ pl)).map fun z => if z - pl < 0 then -(z - pl) else z - pl
def sideR (pl : Int) (xs : List Int) : Nat := (if xs.any (fun z => decide (z < pl)) then 1 else 0) + (if xs.all (fun z => decide (z ≤ pl)) then 1 else 0)
def shUp (sh : List Int) (s : Nat) (t : Int) : List Int := sh.take s ++ [sh.getD s 0 + t] ++ sh.drop (s + 1)
def runRow (k : Nat) : Nat → Int → List Pn → List Int → Option (List Pn × List Int)
  | 0, _, _, _ => none
  | f + 1, left, qs, sh => if left ≤ 0 then some (qs, sh) else
      if nearR ((plcs qs).getD k 0) (plcs qs) = [] ∨ oddC qs ((plcs qs).getD k 0) = false then none else
        runRow k f (left - minI left (nearR ((plcs qs).getD k 0) (plcs qs))) (qs.map (mvP (mvF ((plcs qs).getD k 0) (minI left (nearR ((plcs qs).getD k 0) (plcs qs))))))
          (shUp sh (sideR ((plcs qs).getD k 0) (plcs qs)) (minI left (nearR ((plcs qs).getD k 0) (plcs qs))))
def idxS (z : Str) : List Str → Option Nat
  | [] => none
  | y :: ys => if y = z then some 0 else (idxS z ys).map (· + 1)
def runAll (ns : List Str) : List Rw → List Pn → List Int → Option (List Pn × List Int)
  | [], qs, sh => some (qs, sh)
  | (n, x) :: rs, qs, sh => if 1 ≤ x then (match idxS n ns with
      | some j => (match runRow j 1000 x qs sh with
        | some (q2, s2) => runAll ns rs q2 s2
        | none => none)
      | none => none) else none
theorem minI_spec : ∀ (l : List Int) (a : Int), minI a l ∈ a :: l ∧ ∀ y, y ∈ a :: l → minI a l ≤ y
  | [], a => ⟨List.mem_cons_self, fun y h => by rw [List.mem_singleton.mp h]; exact Int.le_refl _⟩
  | b :: t, a => by
    obtain ⟨h1, h2⟩ := minI_spec t (min a b)
    unfold minI
    refine ⟨?_, fun y hy => ?_⟩
    · rcases List.mem_cons.mp h1 with h | h
      · rw [h]
        rcases Int.le_total a b with c | c
        · rw [Int.min_eq_left c]; exact List.mem_cons_self
        · rw [Int.min_eq_right c]; exact List.mem_cons_of_mem _ List.mem_cons_self
      · exact List.mem_cons_of_mem _ (List.mem_cons_of_mem _ h)
    · have h0 := h2 (min a b) List.mem_cons_self
      rcases List.mem_cons.mp hy with rfl | hy
      · omega
      · rcases List.mem_cons.mp hy with rfl | hy
        · omega
        · exact h2 y (List.mem_cons_of_mem _ hy)
end L2.DL
set_option Elab.async false
set_option linter.all false
set_option autoImplicit false
set_option maxRecDepth 100000
set_option maxHeartbeats 2000000
namespace L2.DL
open PySem PySem.Spec PyProof.Rows
local macro_rules | `(tactic| walk_at "ev") => `(tactic| simp only [dSeq, dNext, dSet, dPar, dPar3, dRet, dRetN, dDrop, dIfS, dBrk, dCnt, dApp, dFor, dItL, dItT, dRng1, dRng2, dZip, dEnum, dItS, dAsg, dAugI, dNever, dPutS, dNewD, dFldM, dFldS, dStar,
  dgName, dgTup, dgCons, dgNil, dOp, dUn, dC, dNil, dCons, dCB, dTup, dLst, dIf, dTst, dTru, dAnd, dOr, dNot, dAndV, dOrV, dNotV, dYes, dInR, dFld, dMeth, dCall, dDctIx, dGet2, dRaise, dRaiseZ, dDisp, dPNil, dPCons, dRepD, dTold, dLenSet, hid_u, hid_d, hid_o, dStep2, dSlV, dIxV, dSetV, dPopV, dLenV, dLcV, lstAt, Option.isSome_some, Option.isSome_none, dSl, dNoP, dPart, dLc, dDc, dSortSet, dSortSc, dListVals, dChain, dIsiT2, dCallB, dBor, dNilB, dCBB, dOneL,
  dIsN, dNotN, dStrI, dAbs, dIn, fz_v, fz_l, fz_d, fz_i, fz_m, un_l, un_d, un_i, un_m, sl_v, sl_o, dwipe, and_assoc, insLF, insLT, insFF, insFT, startD, startN, pdT, pdI, gdT, prT, stI, putFD, lendable, noKR, noK, noKs,
  vd0, vo0, rd0, ro0, vd1, vo1, rd1, ro1, vd2, vo2, rd2, ro2, vd3, vo3, rd3, ro3, vd4, vo4, rd4, ro4, vd5, vo5, rd5, ro5, vd6, vo6, rd6, ro6, vd7, vo7, rd7, ro7, vd8, vo8, rd8, ro8, vd9, vo9, rd9, ro9, vd10, vo10, rd10, ro10, vd11, vo11, rd11, ro11, vd12, vo12, rd12, ro12, vd13, vo13, rd13, ro13, vd14, vo14, rd14, ro14, vd15, vo15, rd15, ro15, vd16, vo16, rd16, ro16, vd17, vo17, rd17, ro17, vd18, vo18, rd18, ro18, vd19, vo19, rd19, ro19, vd20, vo20, rd20, ro20, vd21, vo21, rd21, ro21, vd22, vo22, rd22, ro22, vd23, vo23, rd23, ro23, lk_people, lk_names, lk_has_name, lk_person, lk_place, lk_voice, lk_places, lk_at, lk_line, lk_voices, lk_is_together, lk_own, lenL, lenT, lenS, ixL, ixT, ixS, dcutL, dcutS, addII, addSS, addLL, int1i, int1b, negI, reprL, reprT, absI, sc_n, sc_b, sc_i, sc_s, subI, mulI, fdvI, modI, powI, ltI, leI, gtI, geI, tr_n, tr_b, tr_i, tr_l, tr_t, tr_d, ty_n, ty_b, ty_i, ty_s, ty_l, ty_t, ty_d, in_n, in_b, in_i, in_s, in_l, in_t, in_d, eqII, neII, eqSS, neSS, eqBB, neBB, isic_n, isic_b, isic_i, isic_s, isic_l, isic_t, isic_d, isio_n, isio_b, isio_i, isio_s, isio_l, isio_t, isio_d, isic_I, isic_S, isic_T, isic_L, isic_B, isio_I, dIsiO, isi_ii, isi_ib, isi_is, isi_il, isi_bi, isi_bb, isi_bs, isi_si, isi_sb, isi_ss, isi_ni, isi_nb, isi_ns, isi_li, isi_lb, isi_ls, isi_ll, isi_ti, isi_tb, isi_ts, isi_tt, isi_di, isi_db, isi_ds, isi_lt, isi_tl, isi_bt, isi_nt, isi_dt, eqLL, neLL, eqTT, neTT, isi_sl, isi_st, isi_it, kit_ll, kit_lt, max2, min2, get1, get2b, get3b, get3c,
  List.map_cons, List.map_nil, List.length_cons, List.length_nil, List.replicate, List.append_nil, List.cons_append, List.nil_append, List.getElem?_cons_zero, List.getElem?_cons_succ, List.set_cons_zero, List.set_cons_succ, List.getElem?_nil, Nat.sub_zero, Nat.reduceAdd, Nat.reduceSub, Int.reduceLT, Int.reduceLE, Int.reduceNeg, Nat.zero_add,
  true_and, and_true, eq_self, Bool.true_or, Bool.or_true, Bool.false_or, Bool.or_false, Bool.true_and, Bool.and_true, Bool.false_and, Bool.and_false, exists_eq_left, exists_eq_left', exists_eq', exists_eq, Option.some.injEq, Res.v.injEq, D.bl.injEq, D.int.injEq, D.str.injEq, D.lst.injEq, D.tup.injEq, D.dct.injEq, D.ins.injEq, Sl.o.injEq, Sl.d.injEq, List.cons.injEq, reduceCtorEq, false_or, or_false, if_true, if_false, Bool.false_eq_true, Bool.not_true, Bool.not_false, ite_true, ite_false, decide_true, decide_false, and_self, List.isEmpty_nil, List.isEmpty_cons, exists_and_left, exists_const, lenNil, reprWL, reprAA, dZipLT, min3R, isBR, notBR, pcT, wtT, wtI, pcI])
end L2.DL
set_option Elab.async false
set_option linter.all false
set_option autoImplicit false
set_option maxRecDepth 100000
set_option maxHeartbeats 1000000
namespace L2.DL
open PySem PySem.Spec PyProof.Rows
abbrev PtW : Type := Int × Int
def NonW (W : List PtW) : Prop := ∀ g, g ∈ W → 0 ≤ g.2
theorem NonW.cons {g : PtW} {A : List PtW} : NonW (g :: A) ↔ 0 ≤ g.2 ∧ NonW A := ⟨fun h => ⟨h g List.mem_cons_self, fun q hq => h q (List.mem_cons_of_mem _ hq)⟩, fun h q hq => (List.mem_cons.mp hq).elim (fun e => by rw [e]; exact h.1) (h.2 q)⟩
theorem plcs_mv (ps : List Pn) (G : Int → Int) : plcs (ps.map (mvP G)) = (plcs ps).map G := by
  unfold plcs
  rw [List.map_map, List.map_map]
  rfl
theorem drawn_mv2 (ps : List Pn) (G : Int → Int) (x n : Int) : drawnL (ps.map (mvP G)) x n = ps.map (mvP fun y => nrF x n (G y)) := by
  rw [drawn_nr, List.map_map]
  rfl
inductive Runs (ps : List Pn) : (Int → Int) → List Rw → (Int → Int) → List (Nat × Int) → Prop where
  | nil (F : Int → Int) : Runs ps F [] F []
  | cons {F F' : Int → Int} {p : Pn} {n : Int} {sd : Nat} {rs : List Rw} {l : List (Nat × Int)} : p ∈ ps → 1 ≤ n → sd < 3 →
      (∀ i : Nat, (i : Int) < n → canC (ps.map (mvP fun y => nrF (F p.2.1) i (F y))) (F p.2.1) = true ∧ sideR (F p.2.1) (plcs (ps.map (mvP fun y => nrF (F p.2.1) i (F y)))) = sd) →
      Runs ps (fun y => nrF (F p.2.1) n (F y)) rs F' l → Runs ps F ((p.1, n) :: rs) F' ((sd, n) :: l)
end L2.DL
set_option Elab.async false
set_option linter.all false
set_option autoImplicit false
set_option maxRecDepth 100000
set_option maxHeartbeats 1000000
namespace L2.DL
open PySem PySem.Spec PyProof.Rows
theorem sh_zero {sh : List Int} {sd : Nat} (h : sd < sh.length) : shUp sh sd 0 = sh := by
  unfold shUp
  rw [List.append_assoc, List.getD_eq_getElem?_getD, List.getElem?_eq_getElem h, Int.add_zero]
  show List.take sd sh ++ ([sh[sd]] ++ List.drop (sd + 1) sh) = sh
  rw [List.singleton_append, ← List.drop_eq_getElem_cons h, List.take_append_drop]
theorem sh_len {sh : List Int} {sd : Nat} {t : Int} (h : sd < sh.length) : (shUp sh sd t).length = sh.length := by
  unfold shUp
  simp only [List.length_append, List.length_take, List.length_drop, List.length_singleton]
  omega
theorem sh_add {sh : List Int} {sd : Nat} {a b : Int} (hl : sh.length = 3) (h : sd < 3) : shUp (shUp sh sd a) sd b = shUp sh sd (a + b) := by
  obtain ⟨x, y, z, rfl⟩ : ∃ x y z, sh = [x, y, z] := by
    match sh, hl with
    | [x, y, z], _ => exact ⟨x, y, z, rfl⟩
  match sd, h with
  | 0, _ => simp [shUp, Int.add_assoc]
  | 1, _ => simp [shUp, Int.add_assoc]
  | 2, _ => simp [shUp, Int.add_assoc]
theorem runRow_ok {k sd : Nat} (hsd : sd < 3) : ∀ (m : Nat) {qs : List Pn} {x n : Int} {sh : List Int}, k < qs.length → (plcs qs).getD k 0 = x → 0 ≤ n → sh.length = 3 →
    (∀ i : Nat, (i : Int) < n → canC (drawnL qs x i) x = true ∧ sideR x (plcs (drawnL qs x i)) = sd) → ((plcs qs).filter fun y => decide (y ≠ x)).length + 1 < m → runRow k m n qs sh = some (drawnL qs x n, shUp sh sd n) := by
  intro m
  induction m with
  | zero => intro qs x n sh _ _ _ _ _ h; omega
  | succ m ih =>
    intro qs x n sh hk hx hn hl hc hm
    unfold runRow
    by_cases h0 : n ≤ 0
    · obtain rfl : n = 0 := by omega
      rw [if_pos (Int.le_refl _), drawn_zero, sh_zero (by omega)]
    rw [if_neg h0, hx]
    obtain ⟨c0, s0⟩ := hc 0 (by simpa using (show 0 < n by omega))
    rw [show ((0 : Nat) : Int) = 0 from rfl, drawn_zero] at c0 s0
    obtain ⟨y, hy, hyx⟩ := away_of (x := x) (can_tog c0)
    have hyn : (if y - x < 0 then -(y - x) else y - x) ∈ nearR x (plcs qs) := by
      unfold nearR
      exact List.mem_map.mpr ⟨y, List.mem_filter.mpr ⟨hy, decide_eq_true hyx⟩, rfl⟩
    have hod : oddC qs x = true := by
      unfold canC at c0
      rw [Bool.and_eq_true] at c0
      exact c0.1
    rw [if_neg (by rintro (h | h); (rw [h] at hyn; cases hyn); (rw [hod] at h; cases h)), s0]
    obtain ⟨t1, t2⟩ := minI_spec (nearR x (plcs qs)) n
    generalize minI n (nearR x (plcs qs)) = t at t1 t2
    have tle : t ≤ n := t2 n List.mem_cons_self
    have tpos : 0 < t := by
      rcases List.mem_cons.mp t1 with h | h
      · omega
      · unfold nearR at h
        obtain ⟨z, hz, rfl⟩ := List.mem_map.mp h
        have := of_decide_eq_true (List.mem_filter.mp hz).2
        split <;> omega
    have tz : ∀ z, z ∈ plcs qs → z ≠ x → t ≤ (if z - x < 0 then -(z - x) else z - x) := fun z hz hzx => t2 _ (List.mem_cons_of_mem _ (by
      unfold nearR
      exact List.mem_map.mpr ⟨z, List.mem_filter.mpr ⟨hz, decide_eq_true hzx⟩, rfl⟩))
    have emv : qs.map (mvP (mvF x t)) = drawnL qs x t := by
      rw [drawn_nr]
      refine List.map_congr_left fun p hp => ?_
      unfold mvP
      congr 2
      by_cases hpx : p.2.1 = x
      · rw [hpx, nr_self _ _ (by omega)]
        unfold mvF
        simp
      · have := tz p.2.1 (List.mem_map_of_mem hp) hpx
        unfold mvF nrF
        rcases Int.lt_or_gt_of_ne hpx with h | h
        · rw [if_pos h, if_neg (by omega), if_pos h]
          rw [if_pos (by omega)] at this
          omega
        · rw [if_neg (by omega), if_pos h, if_neg (by omega)]
          rw [if_neg (by omega)] at this
          omega
    rw [emv]
    have xm : x ∈ plcs qs := by
      rw [← hx, List.getD_eq_getElem?_getD, List.getElem?_eq_getElem (by rw [plcs_len]; exact hk)]
      exact List.getElem_mem _
    have hx2 : (plcs (drawnL qs x t)).getD k 0 = x := by
      rw [plcs_drawn, List.getD_eq_getElem?_getD, List.getElem?_map]
      have hk2 : k < (plcs qs).length := by rw [plcs_len]; exact hk
      rw [List.getD_eq_getElem?_getD, List.getElem?_eq_getElem hk2] at hx
      rw [List.getElem?_eq_getElem hk2]
      show nrF x t (plcs qs)[k] = x
      rw [show (plcs qs)[k] = x from hx, nr_self _ _ (by omega)]
    have hlen : (drawnL qs x t).length = qs.length := by unfold drawnL; rw [List.length_map]
    have fin : ∀ a b : Int, a = b → some (drawnL (drawnL qs x t) x (n - t), shUp (shUp sh sd t) sd (n - t)) = some (drawnL qs x n, shUp sh sd n) := fun _ _ _ => by
      rw [drawn_add _ _ _ _ (by omega) (by omega), sh_add hl hsd]
      rw [show t + (n - t) = n by omega]
    by_cases htn : t = n
    · subst htn
      rw [Int.sub_self]
      cases m with
      | zero => omega
      | succ m =>
        unfold runRow
        rw [if_pos (Int.le_refl _)]
    · have tin : t ∈ nearR x (plcs qs) := (List.mem_cons.mp t1).resolve_left htn
      refine (ih (by rw [hlen]; exact hk) hx2 (by omega) (by rw [sh_len (by omega)]; exact hl) (fun i hi => ?_) ?_).trans (fin 0 0 rfl)
      · rw [drawn_add _ _ _ _ (by omega) (by omega)]
        have := hc (t.toNat + i) (by omega)
        rwa [show ((t.toNat + i : Nat) : Int) = t + i by omega] at this
      · unfold nearR at tin
        obtain ⟨z, hz, ez⟩ := List.mem_map.mp tin
        obtain ⟨hz1, hz2⟩ := List.mem_filter.mp hz
        have hz2 := of_decide_eq_true hz2
        have nz : nrF x t z = x := by
          unfold nrF
          by_cases h : z < x
          · rw [if_pos h]
            rw [if_pos (by omega)] at ez
            omega
          · rw [if_neg h]
            rw [if_neg (by omega)] at ez
            omega
        rw [plcs_drawn]
        have key : ∀ L : List Int, ((L.map (nrF x t)).filter fun y => decide (y ≠ x)).length ≤ (L.filter fun y => decide (y ≠ x)).length ∧ (z ∈ L → ((L.map (nrF x t)).filter fun y => decide (y ≠ x)).length < (L.filter fun y => decide (y ≠ x)).length) := by
          intro L
          induction L with
          | nil => exact ⟨Nat.le_refl _, fun h => by cases h⟩
          | cons a L ih2 =>
            rw [List.map_cons, List.filter_cons, List.filter_cons]
            by_cases hax : a = x
            · have e2 : nrF x t a = x := by rw [hax, nr_self _ _ (by omega)]
              rw [if_neg (show ¬ decide (nrF x t a ≠ x) = true by simp [e2]), if_neg (show ¬ decide (a ≠ x) = true by simp [hax])]
              refine ⟨ih2.1, fun h => ih2.2 ?_⟩
              rcases List.mem_cons.mp h with h | h
              · exact absurd (h.trans hax) hz2
              · exact h
            · rw [if_pos (decide_eq_true hax)]
              by_cases ha2 : nrF x t a = x
              · rw [if_neg (by simp [ha2])]
                exact ⟨by have := ih2.1; simp only [List.length_cons]; omega, fun _ => by have := ih2.1; simp only [List.length_cons]; omega⟩
              · rw [if_pos (decide_eq_true ha2)]
                simp only [List.length_cons]
                refine ⟨by have := ih2.1; omega, fun h => ?_⟩
                rcases List.mem_cons.mp h with h | h
                · rw [← h] at ha2; exact absurd nz ha2
                · have := ih2.2 h; omega
        have := (key (plcs qs)).2 hz1
        omega
theorem idxS_mem : ∀ {ps : List Pn} {p : Pn}, (ps.map (·.1)).Nodup → p ∈ ps → ∃ j, idxS p.1 (ps.map (·.1)) = some j ∧ ps[j]? = some p
  | q :: t, p, hn, hp => by
    rw [List.map_cons, List.nodup_cons] at hn
    rcases List.mem_cons.mp hp with rfl | hp
    · exact ⟨0, by unfold idxS; rw [List.map_cons]; simp, rfl⟩
    · obtain ⟨j, h1, h2⟩ := idxS_mem hn.2 hp
      have : q.1 ≠ p.1 := fun e => hn.1 (by rw [e]; exact List.mem_map_of_mem hp)
      refine ⟨j + 1, ?_, by simpa using h2⟩
      rw [List.map_cons]
      unfold idxS
      rw [if_neg this, h1]
      rfl
theorem Runs.run {ps : List Pn} (hw : Wf ps) {F F' : Int → Int} {rows : List Rw} {l : List (Nat × Int)} (h : Runs ps F rows F' l) : ∀ sh : List Int, sh.length = 3 →
    runAll (ps.map (·.1)) rows (ps.map (mvP F)) sh = some (ps.map (mvP F'), l.foldl (fun s e => shUp s e.1 e.2) sh) := by
  induction h with
  | nil F => intro sh _; rfl
  | @cons F F' p n sd rs l hp h1 h2 h3 _ ih =>
    intro sh hl
    obtain ⟨j, e1, e2⟩ := idxS_mem hw.nd hp
    have hj : j < ps.length := (List.getElem?_eq_some_iff.mp e2).1
    unfold runAll
    rw [if_pos h1, e1]
    have hx : (plcs (ps.map (mvP F))).getD j 0 = F p.2.1 := by
      rw [plcs_mv, List.getD_eq_getElem?_getD, List.getElem?_map, show plcs ps = ps.map fun p => p.2.1 from rfl, List.getElem?_map, e2]
      rfl
    simp only
    have ms : ((plcs (ps.map (mvP F))).filter fun y => decide (y ≠ F p.2.1)).length + 1 < 1000 := by
      have := List.length_filter_le (fun y => decide (y ≠ F p.2.1)) (plcs (ps.map (mvP F)))
      rw [plcs_len, List.length_map] at this
      have := hw.few
      omega
    rw [runRow_ok h2 1000 (by rw [List.length_map]; exact hj) hx (by omega) hl (fun i hi => by rw [drawn_mv2]; exact h3 i hi) ms]
    simp only
    rw [drawn_mv2, ih _ (by rw [sh_len (by omega)]; exact hl)]
    rfl
end L2.DL
set_option Elab.async false
set_option linter.all false
set_option autoImplicit false
set_option maxRecDepth 100000
set_option maxHeartbeats 1000000
namespace L2.DL
open PySem PySem.Spec PyProof.Rows
abbrev Pq : Type := Int × Int × Str
end L2.DL
set_option Elab.async false
set_option linter.all false
set_option autoImplicit false
set_option maxRecDepth 100000
set_option maxHeartbeats 1000000
namespace L2.DL
open PySem PySem.Spec PyProof.Rows
end L2.DL
set_option Elab.async false
set_option linter.all false
set_option autoImplicit false
set_option maxRecDepth 100000
set_option maxHeartbeats 1000000
namespace L2.DL
open PySem PySem.Spec PyProof.Rows
def Q0 (ps : List Pn) : List Pq := (pairs (placesL ps)).map fun q => (q.1, q.2 - q.1, firstAt ps q.1)
end L2.DL
set_option Elab.async false
set_option linter.all false
set_option autoImplicit false
set_option maxRecDepth 100000
set_option maxHeartbeats 1000000
namespace L2.DL
open PySem PySem.Spec PyProof.Rows
end L2.DL
set_option Elab.async false
set_option linter.all false
set_option autoImplicit false
set_option maxRecDepth 100000
set_option maxHeartbeats 1000000
namespace L2.DL
open PySem PySem.Spec PyProof.Rows
end L2.DL
set_option Elab.async false
set_option linter.all false
set_option autoImplicit false
set_option maxRecDepth 100000
set_option maxHeartbeats 1000000
namespace L2.DL
open PySem PySem.Spec PyProof.Rows
end L2.DL
set_option Elab.async false
set_option linter.all false
set_option autoImplicit false
set_option maxRecDepth 100000
set_option maxHeartbeats 1000000
namespace L2.DL
open PySem PySem.Spec PyProof.Rows
theorem Runs.rows {ps : List Pn} {F F' : Int → Int} {rows : List Rw} {l : List (Nat × Int)} (h : Runs ps F rows F' l) : l.map (·.2) = rows.map (·.2) ∧ (∀ r, r ∈ rows → (∃ p, p ∈ ps ∧ p.1 = r.1) ∧ 1 ≤ r.2) ∧ ∀ e, e ∈ l → e.1 < 3 := by
  induction h with
  | nil F => exact ⟨rfl, fun r h => (by cases h), fun e h => (by cases h)⟩
  | @cons F F' p n sd rs l hp h1 h2 h3 _ ih =>
    obtain ⟨a, b, c⟩ := ih
    refine ⟨by rw [List.map_cons, List.map_cons, a], fun r hr => ?_, fun e he => ?_⟩
    · rcases List.mem_cons.mp hr with rfl | hr
      · exact ⟨⟨p, hp, rfl⟩, h1⟩
      · exact b r hr
    · rcases List.mem_cons.mp he with rfl | he
      · exact h2
      · exact c e he
end L2.DL
set_option Elab.async false
set_option linter.all false
set_option autoImplicit false
set_option maxRecDepth 100000
set_option maxHeartbeats 1000000
namespace L2
open PySem PySem.W PySem.Calls PySem.Spec PyProof.Rows PyProof.V
section
variable {prog : Program} {w : World} {A : Around} {E : Value → Shared → Prop} {s : Shared}
/-- compared with an empty dict -/
theorem samePairs0 {nm : String} {a b : Addr} {o o' : Obj} {es : Array DictEntry} {ep ep' : Nat} {Q : Bool → Shared → Prop} (ha : (a == sysModules) = false) (hb : (b == sysModules) = false)
    (h1 : s.heap.get? a = some o) (d1 : o.data = .dict es ep) (h2 : s.heap.get? b = some o') (d2 : o'.data = .dict #[] ep') (h : Q (es.size == 0) s) :
    wpAny (model prog w) A (Builtin.Dict.samePairs nm a b) Q E s := by
  unfold Builtin.Dict.samePairs Builtin.Dict.showsAll
  rw [if_neg (show ¬ (a == sysModules) = true by rw [ha]; exact Bool.false_ne_true), if_neg (show ¬ (b == sysModules) = true by rw [hb]; exact Bool.false_ne_true)]
  refine wpAny_bind (wpAny_pure (wpAny_bind (wpAny_pure ?_)))
  refine wpAny_bind (wpAny_dictEntries h1 d1 ?_)
  dsimp only
  refine wpAny_bind (wpAny_dictEntries h2 d2 ?_)
  by_cases hsz : es.size = 0
  · have e : es = #[] := Array.eq_empty_of_size_eq_zero hsz
    subst e
    rw [if_neg (by simp)]
    refine wpAny_bind (wpAny_dictEpoch h1 d1 ?_)
    refine wpAny_bind ?_
    rw [Std.Legacy.Range.forIn_eq_forIn_range']
    simp only [Std.Legacy.Range.size, List.size_toArray, List.length_nil, Nat.sub_zero, Nat.add_sub_cancel, Nat.div_one, List.range'_zero, List.forIn_nil]
    exact wpAny_pure (wpAny_pure (by simpa using h))
  · rw [if_pos (by simpa using hsz)]
    have hbf : (es.size == 0) = false := by simpa using hsz
    rw [hbf] at h
    exact wpAny_bind (wpAny_rule (wpAny_pure h))
theorem neEmpty {a b : Addr} {o o' : Obj} {es : Array DictEntry} {ep ep' : Nat} {Q : Value → Shared → Prop} (ha : (a == sysModules) = false) (hb : (b == sysModules) = false)
    (h1 : s.heap.get? a = some o) (x1 : o.ExactDict) (d1 : o.data = .dict es ep) (h2 : s.heap.get? b = some o') (x2 : o'.ExactDict) (d2 : o'.data = .dict #[] ep') (hu : A.units < cLine) (h : Q (.bool (!(es.size == 0))) s) :
    wpAny (model prog w) A (compareOp .NotEq (.ref a) (.ref b)) Q E s := by
  have ta : s.TypeIs (.ref a) "dict" := ⟨o, h1, x1.1⟩
  have tb : s.TypeIs (.ref b) "dict" := ⟨o', h2, x2.1⟩
  refine wpAny_richCompare_same_room (op := .NotEq) ta tb PySem.F.slot_dict_ne (wpAny_call_entry PySem.F.slot_dict_ne ta PySem.F.entry_dict_ne ?_ (PySem.F.args_dict_ne_2 _ _)) hu
  show wpAny _ _ (Builtin.Dict.dictSlotArgs "__ne__" ⟨[.ref a, .ref b], []⟩ >>= _) _ _ s
  refine wpAny_bind ?_
  unfold Builtin.Dict.dictSlotArgs
  refine wpAny_bind (wpAny_notOrdered_dict ta ?_)
  show wpAny _ _ (pure (Value.ref a, Value.ref b)) _ _ s
  refine wpAny_pure ?_
  refine wpAny_bind (wpAny_isInstance (T := "dict") tb PySem.F.sub_dict_dict ?_)
  simp only [Bool.not_true, Bool.false_eq_true, if_false]
  refine wpAny_bind (wpAny_pure (wpAny_bind (wpAny_pure ?_)))
  refine wpAny_bind (samePairs0 ha hb h1 d1 h2 d2 ?_)
  refine wpAny_pure ⟨_, rfl, ?_, ?_⟩
  · exact fun x => nomatch x
  · simpa using h
end
section
variable {X : Cx}
def rNeE : R2 := fun x y H Q => ∃ a b kvs, x = .ref a ∧ y = .ref b ∧ Rd H a (.dT kvs) ∧ H b = some (.dT []) ∧ Q (.bl (!kvs.isEmpty)) H
theorem op_neE (hu : X.A.units < cLine) : OpR X (compareOp .NotEq) rNeE := by
  intro pins s σ H x y v u Q I rx ry h
  obtain ⟨a, b, kvs, rfl, rfl, ea, eb, q⟩ := h
  obtain rfl : v = Value.ref a := rx
  obtain rfl : u = Value.ref b := ry
  obtain ⟨_, ya, xs, ra, o, es, ep, h1, x1, d1, l1, _⟩ := dt_rd I.hok ea
  obtain ⟨_, yb, ys, rb, o', es', ep', h2, x2, d2, l2, _⟩ := dt_of I.hok eb
  cases rb
  have e0 : es' = #[] := by
    obtain ⟨l⟩ := es'
    simp only [List.map_nil] at l2
    rw [l2]
  subst e0
  refine neEmpty ya yb h1 x1 d1 h2 x2 d2 hu ?_
  have hs : es.size = xs.length := size_of_entries l1
  have hl : kvs.length = xs.length := Paired.length ra
  have : (!(es.size == 0)) = !kvs.isEmpty := by
    cases kvs with
    | nil => have : es.size = 0 := by rw [hs, ← hl]; rfl
             rw [this]; rfl
    | cons p r =>
      have : es.size = r.length + 1 := by rw [hs, ← hl]; rfl
      rw [this]; rfl
  rw [this]
  exact ⟨.bl (!kvs.isEmpty), H, I, rfl, q⟩
/-- locked for good -/
def tLockP (t : TE) : TE := fun σ H Q => t σ H fun v H1 => ∃ d u, v = .ref d ∧ H1 d = some u ∧ Mut (some u) ∧ ∀ od, Q v (upd H1 d (.frz od u))
theorem pe_lockP {e : Expr} {t : TE} (h : PE X e t) : PE X e (tLockP t) := by
  refine ⟨fun pins s σ H Q I hw => ?_⟩
  refine thn (h.run pins s σ H _ I hw) fun v s1 ⟨x, H1, I1, r, d, u, ex, hd, mu, q⟩ => ?_
  obtain ⟨od, I2⟩ := I1.lock hd mu
  exact ⟨x, _, I2, r, q od⟩
/-- {k: v}, k a tuple of ints and texts -/
def tDispT1 (tk tv : TE) : TE := fun σ H Q => ∀ p, H p = none → tk σ (upd H p (.dT [])) fun x H1 => tv σ H1 fun y H2 => ∃ b k, x = .ref b ∧ H2 b = some (.tup (k.map kV)) ∧ H2 p = some (.dT []) ∧ Q (.ref p) (upd H2 p (.dT [(k, y)]))
def dispQ (Q : VK) (p : Addr) (ps : List (V × V)) (H2 : Hp) : Prop := match ps with
  | [(x, y)] => ∃ b k, x = .ref b ∧ H2 b = some (.tup (k.map kV)) ∧ H2 p = some (.dT []) ∧ Q (.ref p) (upd H2 p (.dT [(k, y)]))
  | _ => False
theorem pe_dispT1 {pos : Pos} {k v : Expr} {tk tv : TE} (hu : X.A.units + 1 < cLine) (hk : PE X k tk) (hv : PE X v tv) : PE X (.Dict [some k] [v] pos) (tDispT1 tk tv) := by
  refine ⟨fun pins s σ H Q I q => ?_⟩
  have hn := I.hok.fresh (Nat.le_refl s.heap.objs.size)
  have I1 := I.laid (a := s.heap.objs.size) (o := .dT []) (h' := s.heap.push { cls := .type "dict", data := .dict #[] }) (t' := s.toks) (fun _ _ q => Heap.get?_push_of_some _ q) (Nat.le_refl _) (dt_empty s.heap I.big)
  refine wpAny_Dict_any rfl rfl (by simp) (by simp) (thn ((pps_cons (pos := pos) hk hv pps_nil).run pins _ σ _ (dispQ Q s.heap.objs.size) I1 (q _ hn)) fun ws s2 ⟨ps, H2, I2, rel, q2⟩ => ?_)
  match ps, q2 with
  | [(x, y)], ⟨b, k, ex, eb, e, q2⟩ =>
  subst ex
  cases rel with
  | @cons _ w _ ws r t =>
  cases t
  obtain ⟨u1, u2⟩ := w
  obtain ⟨r1, r2⟩ := r
  cases (show u1 = Value.ref b from r1)
  obtain ⟨z, hd, xs, rel, dd⟩ := dt_of I2.hok e
  cases rel
  unfold storeAll
  rw [List.forIn_cons]
  refine wpAny_bind (wpAny_bind (wpAny_dictSet_heap (knd := tupleKind (mixKind X.prog X.w)) (hsz := by simp) (show (tupleKind (mixKind X.prog X.w)).room X.A from by show X.A.units < cLine; omega) (key_of I2.hok eb) dd fun h' dd' hs => wpAny_pure ?_))
  show wpAny _ _ (forIn ([] : List (Value × Value)) PUnit.unit _) _ _ _
  rw [List.forIn_nil]
  refine wpAny_pure ?_
  obtain ⟨q, es, ep, hq, h2, h3, h4, _, h5⟩ := dd'
  refine ⟨.ref s.heap.objs.size, _, d_write (ob := .dT [(k, y)]) I2 (by rw [e]; exact True.intro) hs ⟨q, hq⟩ ⟨(by rw [sizeLine_eq]; show 1 ≤ 16777216; omega), hd, _, ((KT.put (H := H2) (kvs := []) (xs := []) .nil k eb r2)).keeps fun c ys ec => ?_, q, es, ep, hq, h2, h3, h4, h5⟩, rfl, q2⟩
  rw [upd_ne (ne_of ec e (fun z => nomatch z))]
  exact ec
end
end L2
set_option Elab.async false
set_option linter.all false
set_option autoImplicit false
set_option maxRecDepth 100000
set_option maxHeartbeats 1000000
set_option backward.match.sparseCases false
namespace L2.DL
open PySem PySem.Spec PyProof.Rows
abbrev TK := List Key
/-- ints, as a key -/
def ik (ns : List Int) : TK := ns.map Sum.inl
/-- the tuple that a key is -/
def kTup (k : TK) : D := .tup (k.map kD)
def keysOf : List D → Option TK
  | [] => some []
  | x :: xs => match keyOf x, keysOf xs with
    | some k, some ks => some (k :: ks)
    | _, _ => none
def keyT : D → Option TK
  | .tup xs => keysOf xs
  | _ => none
theorem keysOf_ints (ns : List Int) : keysOf (ns.map .int) = some (ik ns) := by
  induction ns with
  | nil => rfl
  | cons n ns ih => simp only [List.map_cons, keysOf, keyOf, ih]; rfl
theorem keyT_ints (ns : List Int) : keyT (.tup (ns.map .int)) = some (ik ns) := keysOf_ints ns
theorem kTup_ints (ns : List Int) : kTup (ik ns) = .tup (ns.map .int) := by
  unfold kTup ik
  rw [List.map_map]
  rfl
theorem ik_inj {a b : List Int} (h : ik a = ik b) : a = b := by
  induction a generalizing b with
  | nil => cases b with
    | nil => rfl
    | cons _ _ => cases h
  | cons x a ih => cases b with
    | nil => cases h
    | cons y b =>
      simp only [ik, List.map_cons, List.cons.injEq, Sum.inl.injEq] at h
      rw [h.1, ih (by unfold ik; exact h.2)]
section
variable {K : PySem.W.Frag} {S : Src} {F : Hp}
theorem reps_keysOf : ∀ {vs : List V} {ds : List D} {ks : TK}, Reps K S F vs ds → keysOf ds = some ks → vs = ks.map kV
  | _, _, _, .nil, h => by cases h; rfl
  | _, _, ks, .cons (d := d) (ds := ds) a b, h => by
    unfold keysOf at h
    cases e1 : keyOf d with
    | none => rw [e1] at h; cases h
    | some k =>
      cases e2 : keysOf ds with
      | none => rw [e1, e2] at h; cases h
      | some ks' =>
        rw [e1, e2] at h
        cases h
        rw [List.map_cons, rep_keyOf a e1, reps_keysOf b e2]
theorem rep_keyT {v : V} {d : D} {k : TK} (r : Rep K S F v d) (h : keyT d = some k) : ∃ b, v = .ref b ∧ F b = some (.tup (k.map kV)) := by
  cases r with
  | tup h1 h2 => exact ⟨_, rfl, by rw [← reps_keysOf h2 h]; exact h1⟩
  | _ => cases h
end
def valT (kds : List (TK × D)) (k : TK) : Option D := (kds.find? fun kv => decide (kv.1 = k)).map (·.2)
def putT (kds : List (TK × D)) (k : TK) (d : D) : List (TK × D) :=
  if (kds.any fun kv => decide (kv.1 = k)) = true then kds.map (fun kv => if kv.1 = k then (kv.1, d) else kv) else kds ++ [(k, d)]
theorem any_keysT {α β : Type} {k : TK} : ∀ {xs : List (TK × α)} {ys : List (TK × β)}, xs.map (·.1) = ys.map (·.1) → (xs.any fun kv => decide (kv.1 = k)) = ys.any fun kv => decide (kv.1 = k)
  | [], [], _ => rfl
  | [], _ :: _, h => by simp at h
  | _ :: _, [], h => by simp at h
  | (a, x) :: xs, (b, y) :: ys, h => by
    simp only [List.map_cons, List.cons.injEq] at h
    rw [List.any_cons, List.any_cons, any_keysT h.2, h.1]
theorem keysT_len {α β : Type} {xs : List (TK × α)} {ys : List (TK × β)} (h : xs.map (·.1) = ys.map (·.1)) : xs.length = ys.length := by
  have := congrArg List.length h
  rwa [List.length_map, List.length_map] at this
section
variable {K : PySem.W.Frag} {S : Src} {F : Hp}
theorem putT_rep {k : TK} {v : V} {d : D} {kvs : List (TK × V)} {kds : List (TK × D)} (h : kvs.map (·.1) = kds.map (·.1)) (r : Reps K S F (kvs.map (·.2)) (kds.map (·.2))) (rv : Rep K S F v d) :
    (putK kvs k v).map (·.1) = (putT kds k d).map (·.1) ∧ Reps K S F ((putK kvs k v).map (·.2)) ((putT kds k d).map (·.2)) := by
  unfold putK putT
  rw [any_keysT h]
  split
  · have key : ∀ {kvs : List (TK × V)} {kds : List (TK × D)}, kvs.map (·.1) = kds.map (·.1) → Reps K S F (kvs.map (·.2)) (kds.map (·.2)) →
        (kvs.map fun kv => if kv.1 = k then (kv.1, v) else kv).map (·.1) = (kds.map fun kv => if kv.1 = k then (kv.1, d) else kv).map (·.1) ∧ Reps K S F ((kvs.map fun kv => if kv.1 = k then (kv.1, v) else kv).map (·.2)) ((kds.map fun kv => if kv.1 = k then (kv.1, d) else kv).map (·.2)) := by
      intro kvs
      induction kvs with
      | nil => intro kds h r; cases kds with
        | nil => exact ⟨rfl, .nil⟩
        | cons _ _ => simp at h
      | cons p kvs ih =>
        intro kds h r
        cases kds with
        | nil => simp at h
        | cons q kds =>
          simp only [List.map_cons, List.cons.injEq] at h
          cases r with
          | cons r1 r2 =>
            obtain ⟨a, b⟩ := ih h.2 r2
            simp only [List.map_cons]
            rw [h.1]
            split
            · exact ⟨by simp only [List.cons.injEq]; exact ⟨trivial, a⟩, .cons rv b⟩
            · exact ⟨by simp only [List.cons.injEq]; exact ⟨h.1, a⟩, .cons r1 b⟩
    exact key h r
  · rw [List.map_append, List.map_append, List.map_append, List.map_append, h]
    exact ⟨rfl, r.append (.cons rv .nil)⟩
/-- a dict with tuple keys that is frozen, locked or not -/
theorem rep_dT {v : V} {d : D} {kds : List (TK × D)} (r : Rep K S F v d) (h : d = .dcT kds ∨ d = .dcL kds) : ∃ a kvs, v = .ref a ∧ Rd F a (.dT kvs) ∧ kvs.map (·.1) = kds.map (·.1) ∧ Reps K S F (kvs.map (·.2)) (kds.map (·.2)) := by
  rcases h with h | h
  · subst h
    cases r with
    | dcT h1 h2 h3 => exact ⟨_, _, rfl, .inl h1, h2, h3⟩
  · subst h
    cases r with
    | dcL h1 h2 h3 => exact ⟨_, _, rfl, .inr ⟨_, h1⟩, h2, h3⟩
theorem Le.rd {F H : Hp} {a : Addr} {o : HO} (e : Le F H) (h : Rd F a o) : Rd H a o := h.elim (fun h => .inl (e _ _ h)) fun ⟨q, h⟩ => .inr ⟨q, e _ _ h⟩
/-- a tuple of H becomes known -/
theorem PExt.learn {F H : Hp} {b : Addr} {vs : List V} (s : Le F H) (h : H b = some (.tup vs)) : ∃ F', PExt F H F' H ∧ F' b = some (.tup vs) := by
  cases e : F b with
  | some o =>
    have := s b o e
    rw [h] at this
    cases this
    exact ⟨F, .refl s, e⟩
  | none =>
    refine ⟨upd F b (.tup vs), ⟨fun q u z => ?_, fun q u z => ?_, Le.refl _, fun q z => ?_, fun k q u z => ?_⟩, upd_same⟩
    · by_cases hq : q = b
      · subst hq; rw [upd_same] at z; cases z; exact h
      · rw [upd_ne hq] at z; exact s q u z
    · rw [upd_ne (ne_of_none z e)]; exact z
    · by_cases hq : q = b
      · subst hq; exact .inr (.inr ⟨vs, h⟩)
      · rw [upd_ne hq] at z; exact .inl z
    · by_cases hq : q = b
      · subst hq; rw [upd_same] at z; cases z; exact kn_of h
      · rw [upd_ne hq] at z; exact k q u z
end
/-- the keys, as data -/
def keysD (kds : List (TK × D)) : List D := (kds.map (·.1)).map kTup
def dNewT : DTE := fun ρ Q => Q (.ow (.dcT [])) ρ
/-- x[i] = e, x owned -/
def dPutT (i : Nat) (ty tv : DTE) : DTS := fun D ρ => tv ρ fun r ρ1 => (∃ kds, ρ1[i]? = some (Sl.o (.dcT kds))) ∧ ty ρ1 fun r2 ρ2 => ∃ kds k, ρ2[i]? = some (Sl.o (.dcT kds)) ∧ keyT (fz r2) = some k ∧ kds.length < sizeLine ∧ D.nx (ρ2.set i (.o (.dcT (putT kds k (fz r)))))
/-- x.get(k, e), x owned -/
def dGetT (i : Nat) (ty tx : DTE) : DTE := fun ρ Q => (∃ kds, ρ[i]? = some (Sl.o (.dcT kds))) ∧ ty ρ fun r2 ρ2 => ∃ k, keyT (fz r2) = some k ∧ tx ρ2 fun r3 ρ3 => ∃ kds, ρ3[i]? = some (Sl.o (.dcT kds)) ∧ Q (.v ((valT kds k).getD (fz r3))) ρ3
/-- d[k], frozen -/
def dIxT (td ty : DTE) : DTE := fun ρ Q => td ρ fun r ρ1 => ty ρ1 fun r2 ρ2 => ∃ kds k d, (fz r = .dcT kds ∨ fz r = .dcL kds) ∧ keyT (fz r2) = some k ∧ valT kds k = some d ∧ Q (.v d) ρ2
/-- len(x), x owned or frozen -/
def dLenT (i : Nat) : DTE := fun ρ Q => ∃ kds, (ρ[i]? = some (Sl.o (.dcT kds)) ∨ ρ[i]? = some (Sl.d (.dcL kds)) ∨ ρ[i]? = some (Sl.d (.dcT kds))) ∧ Q (.v (.int kds.length)) ρ
def dLenTD (ds : List D) (Q : Res → Prop) : Prop := ∃ kds, (ds = [.dcT kds] ∨ ds = [.dcL kds]) ∧ Q (.v (.int kds.length))
def dKeysT (ds : List D) (Q : Res → Prop) : Prop := ∃ kds : List (TK × D), (ds = [.dcT kds] ∨ ds = [.dcL kds]) ∧ Q (.own (keysD kds))
/-- locked for good -/
def dLk (te : DTE) : DTE := fun ρ Q => te ρ fun r ρ1 => ∃ kds, r = .ow (.dcT kds) ∧ Q (.v (.dcL kds)) ρ1
/-- a name's dict, locked for good -/
def dVarK (i : Nat) : DTE := fun ρ Q => ∃ kds, ρ[i]? = some (Sl.o (.dcT kds)) ∧ Q (.v (.dcL kds)) (ρ.set i (.d (.dcL kds)))
/-- d != {} -/
def dNeE (te : DTE) : DTE := fun ρ Q => te ρ fun r ρ1 => ∃ kds, (fz r = .dcT kds ∨ fz r = .dcL kds) ∧ Q (.v (.bl (!kds.isEmpty))) ρ1
def dItKT (te : DTE) : DTI := fun ρ Q => te ρ fun r ρ1 => ∃ kds, fz r = .dcL kds ∧ Q (keysD kds) ρ1
def dDispT1 (tk tv : DTE) : DTE := fun ρ Q => tk ρ fun r ρ1 => tv ρ1 fun r2 ρ2 => ∃ k, keyT (fz r) = some k ∧ Q (.ow (.dcT [(k, fz r2)])) ρ2
section
variable {c : C} {X : Cx} {e o ix f tg : Expr} {te td ty tv tx tk : DTE} {i : Nat} {pos pos' apos cpos p : Pos}
theorem de_dcT0 : PE X (.Dict [] [] pos) (liftE c dNewT) :=
  PE_imp pe_dnewT fun σ H Q ⟨F, ρ, QD, s, h, k⟩ => fun p hp => by
    have pe : PExt F H F (upd H p (.dT [])) := PExt.own s.sub hp
    have rr : RR0 c.K c.S F H (upd H p (.dT [])) (.ref p) (.ow (.dcT [])) := ⟨p, _, rfl, hp, upd_same, free_of s.sub hp, .dcT rfl .nil⟩
    obtain ⟨a, b⟩ := rr.rr s
    exact k _ _ F ρ _ (pe.sr s) pe.stp a b h
theorem ds_putT (hu : X.A.units + 1 < cLine) (ho : PE X o (tVar i)) (hi : PE X ix (liftE c ty)) (hv : PE X e (liftE c tv)) (hs : swapsWith e (some (.Subscript o ix pos')) pos.line X.env = pure false := by rfl) : PS X (.Assign [.Subscript o ix pos'] e pos) (liftS c (dPutT i ty tv)) :=
  PS_imp (ps_dput hu ho (froze hi) (froze hv) hs) fun E σ H ⟨F, ρ, DD, s, h, k⟩ =>
    ⟨F, ρ, (fun d ρ1 => (∃ kds, ρ1[i]? = some (Sl.o (.dcT kds))) ∧ ty ρ1 fun r2 ρ2 => ∃ kds k, ρ2[i]? = some (Sl.o (.dcT kds)) ∧ keyT (fz r2) = some k ∧ kds.length < sizeLine ∧ DD.nx (ρ2.set i (.o (.dcT (putT kds k d))))), s, h, fun v H1 F1 ρ1 d s1 st1 rv ⟨⟨kds0, hi0⟩, q⟩ => by
      obtain ⟨p, ob, e1, e2, e3, e4, e5, e6⟩ := s1.ow i _ hi0
      refine ⟨_, e1, F1, ρ1, (fun d2 ρ2 => ∃ kds k, ρ2[i]? = some (Sl.o (.dcT kds)) ∧ keyT d2 = some k ∧ kds.length < sizeLine ∧ DD.nx (ρ2.set i (.o (.dcT (putT kds k d))))), s1, q, fun y H2 F2 ρ2 d2 s2 st2 ry ⟨kds, k0, hi2, hk, hl, q2⟩ => ?_⟩
      obtain ⟨p', ob', g1, g2, g3, g4, g5, g6⟩ := s2.ow i _ hi2
      rw [e1] at g1
      cases g1
      cases g4 with
      | dcT hk1 hr1 =>
        obtain ⟨a, b⟩ := putT_rep (k := k0) hk1 hr1 (rv.mono st2.ff)
        obtain ⟨bb, rfl, eb⟩ := rep_keyT ry hk
        refine ⟨p, _, rfl, DPut.t g2 (s2.sub _ _ eb) (by rw [keysT_len hk1]; exact hl), k.nx _ _ F2 _ (st1.ff.trans st2.ff) (s2.grow hi2 e1 (.dcT a b)) q2⟩⟩
theorem neE_lift {σ : L2.St} {H : Hp} {Q : VK} (z : liftE c (dNeE te) σ H Q) : tOp rNeE (liftV c (frz te)) tDNewT σ H Q := by
  obtain ⟨F, ρ, QD, s, h, k⟩ := z
  exact ⟨F, ρ, (fun d ρ1 => ∃ kds, (d = .dcT kds ∨ d = .dcL kds) ∧ QD (.v (.bl (!kds.isEmpty))) ρ1), s, h, fun x H1 F1 ρ1 d s1 st1 rx ⟨kds, hd, q⟩ p hp => by
      obtain ⟨a, kvs, rfl, h1, h2, _⟩ := rep_dT rx hd
      have pe : PExt F1 H1 F1 (upd H1 p (.dT [])) := PExt.own s1.sub hp
      have ei : (!kvs.isEmpty) = !kds.isEmpty := by
        cases kvs with
        | nil => cases kds with
          | nil => rfl
          | cons _ _ => cases h2
        | cons _ _ => cases kds with
          | nil => cases h2
          | cons _ _ => rfl
      exact ⟨a, p, kvs, rfl, rfl, pe.hh.rd (s1.sub.rd h1), upd_same, by rw [ei]; exact k _ _ F1 ρ1 (.v (.bl _)) (pe.sr s1) (st1.trans pe.stp) (.bl _) trivial q⟩⟩
theorem dt_neE (hu : X.A.units + 1 < cLine) (ha : PE X e (liftE c te)) (hm : behindInMarks .NotEq (.Dict [] [] pos') = false := by rfl) : PT X (.Compare e [.NotEq] [.Dict [] [] pos'] pos) (liftT c (dTst (dNeE te))) :=
  PT_imp (pt_cmpR (op_neE (by omega)) (froze ha) pe_dnewT hm) fun σ H Q q => neE_lift (tst_lift q)
theorem walk_keysT {K : PySem.W.Frag} {S : Src} {F1 : Hp} {a : Addr} {ob : Obj} {kvs : List (TK × V)} {kds : List (TK × D)} (h : F1 a = some (.frz ob (.dT kvs))) (hk : kvs.map (·.1) = kds.map (·.1)) : Walk K S (Itkt a ob kvs) F1 (keysD kds) where
  go := fun F H i d l1 l2 hd => by
    have hH := l2 _ _ (l1 _ _ h)
    unfold keysD at hd
    rw [← hk, List.getElem?_map, List.getElem?_map] at hd
    cases e : kvs[i]? with
    | none => rw [e] at hd; cases hd
    | some kv =>
      rw [e] at hd
      cases hd
      refine ⟨⟨hH, (List.getElem?_eq_some_iff.mp e).1⟩, fun x H' y => ?_⟩
      obtain ⟨e1, k, v, q, e2, rfl, e3⟩ := y
      subst e1
      rw [e] at e2
      cases e2
      obtain ⟨F', pe, eb⟩ := PExt.learn l2 e3
      exact ⟨F', pe, .tup eb (reps_keys k)⟩
  stop := fun F H i l1 l2 hl => ⟨l2 _ _ (l1 _ _ h), by unfold keysD at hl; rw [List.length_map, List.length_map] at hl; rw [keysT_len hk]; exact hl⟩
theorem di_keysT (he : PE X e (liftE c te)) : PI X tg e (liftI c (dItKT te)) :=
  PI_imp (pi_keys (froze he)) fun σ H R ⟨F, ρ, QD, s, h, k⟩ =>
    ⟨F, ρ, (fun d ρ1 => ∃ kds : List (TK × D), d = .dcL kds ∧ QD (keysD kds) ρ1), s, h, fun v H1 F1 ρ1 d s1 st1 rv ⟨kds, hd, q⟩ => by
      subst hd
      cases rv with
      | dcL h1 h2 h3 => exact ⟨_, _, rfl, .inr ⟨_, s1.sub _ _ h1, k _ H1 F1 ρ1 _ s1 st1 (walk_keysT h1 h2) q⟩⟩⟩
theorem de_lk (he : PE X e (liftE c te)) : PE X e (liftE c (dLk te)) :=
  PE_imp (pe_lockP he) fun σ H Q ⟨F, ρ, QD, s, h, k⟩ =>
    ⟨F, ρ, (fun r ρ1 => ∃ kds, r = .ow (.dcT kds) ∧ QD (.v (.dcL kds)) ρ1), s, h, fun v H1 F1 ρ1 r s1 st1 rr nw ⟨kds, er, q⟩ => by
      subst er
      obtain ⟨p, vs, rfl, h1, h2, h3, h4, h5, h6⟩ := rr
      obtain ⟨p', ep, n0⟩ := nw
      cases ep
      cases h3 with
      | dcT hk hr =>
        rename_i kvs
        refine ⟨p, _, rfl, h1, trivial, fun od => ?_⟩
        have le : Le F1 (upd F1 p (.frz od (.dT kvs))) := fun q o z => by rw [upd_ne (ne_of_none z h2)]; exact z
        have s2 := s1.over (o := .frz od (.dT kvs)) h2 h4 h5 h6 h1 ⟨fun _ z => (by cases z), fun _ _ z => (by unfold LamX.CodeO at z; cases z)⟩
        refine k (.ref p) (upd H1 p (.frz od (.dT kvs))) (upd F1 p (.frz od (.dT kvs))) ρ1 (.v (.dcL kds)) ⟨fun q o z => ?_, s2.f0.trans le, s2.h0, fun q z => ?_, s2.src, fun q z => ?_, s2.len, fun i d z => ?_, fun i ys z => ?_, s2.dis⟩ ⟨st1.ff.trans le, fun q o z1 z2 z3 => ?_, fun q z => ?_, st1.oo, fun q z => ?_⟩ (.dcL upd_same hk (hr.mono le)) trivial q
        · by_cases hq : q = p
          · subst hq; rw [upd_same] at z; cases z; exact kn_of upd_same
          · rw [upd_ne hq] at z; exact s2.sub' q o z
        · by_cases hq : q = p
          · subst hq; exact .inr (.inl h6)
          · rw [upd_ne hq] at z; exact s2.n0 q z
        · by_cases hq : q = p
          · subst hq; exact absurd z h4
          · rw [upd_ne hq]; exact s2.srcF q z
        · obtain ⟨w, a, b⟩ := s2.sl i d z
          exact ⟨w, a, b.mono le⟩
        · obtain ⟨q, ws, a, b, d, e, f, g⟩ := s2.ow i ys z
          have hq : q ≠ p := fun y => h5 ⟨i, ys, z, by rw [a, y]⟩
          exact ⟨q, ws, a, b, by rw [upd_ne hq]; exact d, HRep.mono le e, f, g⟩
        · have hq : q ≠ p := fun y => by rw [y, n0] at z1; cases z1
          rw [upd_ne hq]; exact st1.hh q o z1 z2 z3
        · by_cases hq : q = p
          · subst hq; exact .inr (.inl (.inl n0))
          · rw [upd_ne hq] at z; exact st1.nn q z
        · by_cases hq : q = p
          · rw [hq, n0] at z; exact absurd rfl z
          · rw [kn_same (upd_ne hq)]; exact st1.tr q z⟩
theorem SR.know {F H : Hp} {σ : L2.St} {ρ : Rho} {p : Addr} {o : HO} (s : SR c F H σ ρ) (hk : kn H p = some o) (hF : F p = none) (hS : ¬ inS c.S p) (hO : ¬ Own σ ρ p) (h0 : kn c.H0 p = none) : SR c (upd F p o) H σ ρ := by
  have le : Le F (upd F p o) := fun q u z => by rw [upd_ne (ne_of_none z hF)]; exact z
  refine ⟨fun q u z => ?_, s.f0.trans le, s.h0, fun q z => ?_, s.src, fun q z => ?_, s.len, fun i d z => ?_, fun i ys z => ?_, s.dis⟩
  · by_cases hq : q = p
    · subst hq; rw [upd_same] at z; cases z; exact hk
    · rw [upd_ne hq] at z; exact s.sub' q u z
  · by_cases hq : q = p
    · subst hq; exact .inr (.inl h0)
    · rw [upd_ne hq] at z; exact s.n0 q z
  · by_cases hq : q = p
    · subst hq; exact absurd z hS
    · rw [upd_ne hq]; exact s.srcF q z
  · obtain ⟨w, a, b⟩ := s.sl i d z
    exact ⟨w, a, b.mono le⟩
  · obtain ⟨q, ws, a, b, d, e, f, g⟩ := s.ow i ys z
    have hq : q ≠ p := fun y => hO ⟨i, ys, z, by rw [a, y]⟩
    exact ⟨q, ws, a, b, by rw [upd_ne hq]; exact d, HRep.mono le e, f, g⟩
theorem SR.tell {F H : Hp} {σ : L2.St} {ρ : Rho} {i : Nat} {v : V} {d : D} (s : SR c F H σ ρ) (hv : σ[i]? = some (some v)) (r : Rep c.K c.S F v d) : SR c F H σ (ρ.set i (.d d)) where
  sub' := s.sub'
  f0 := s.f0
  h0 := s.h0
  n0 := s.n0
  src := s.src
  srcF := s.srcF
  len := by rw [List.length_set]; exact s.len
  sl := fun j d' z => by
    rcases getElem?_set_cases z with ⟨e1, e2, _⟩ | ⟨_, e2⟩
    · cases e2
      exact ⟨v, by rw [e1]; exact hv, r⟩
    · exact s.sl j d' e2
  ow := fun j ys z => by
    rcases getElem?_set_cases z with ⟨_, e2, _⟩ | ⟨_, e2⟩
    · cases e2
    · exact s.ow j ys e2
  dis := fun j k ys zs z1 z2 z3 => by
    rcases getElem?_set_cases z1 with ⟨_, e2, _⟩ | ⟨_, e1⟩
    · cases e2
    · rcases getElem?_set_cases z2 with ⟨_, e2, _⟩ | ⟨_, e2⟩
      · cases e2
      · exact s.dis j k ys zs e1 e2 z3
theorem de_varK {x : Str} (hN : X.N[i]? = some x) (hv : Vis X.env.scope x) (hd : (x == ("__debug__" : Str)) = false := by decide) (hcd : (x == ("__classdict__" : Str)) = false := by decide) : PE X (.Name x pos) (liftE c (dVarK i)) :=
  PE_imp (pe_lockP (pe_var hN hv hd hcd)) fun σ H Q ⟨F, ρ, QD, s, ⟨kds, hi, q⟩, k⟩ => by
    obtain ⟨p, ob, e1, e2, e3, e4, e5, e6⟩ := s.ow i _ hi
    cases e4 with
    | dcT hk hr =>
      rename_i kvs
      refine ⟨.ref p, e1, p, _, rfl, e2, trivial, fun od => ?_⟩
      have own : Own σ ρ p := ⟨i, _, hi, e1⟩
      have nO : ¬ Own σ (ρ.set i .un) p := fun ⟨m, zs, z1, z2⟩ => by
        rcases getElem?_set_cases z1 with ⟨f1, f2, f3⟩ | ⟨f1, f2⟩
        · cases f2
        · exact f1 (s.dis m i zs _ f2 hi (by rw [z2, e1]))
      have le : Le F (upd F p (.frz od (.dT kvs))) := fun q o z => by rw [upd_ne (ne_of_none z e3)]; exact z
      have s2 := (s.drop i).over (o := .frz od (.dT kvs)) e3 e6 nO e5 e2 ⟨fun _ z => (by cases z), fun _ _ z => (by unfold LamX.CodeO at z; cases z)⟩
      have s3 := s2.know (p := p) (o := .frz od (.dT kvs)) (kn_of upd_same) e3 e6 nO e5
      have rp : Rep c.K c.S (upd F p (.frz od (.dT kvs))) (.ref p) (.dcL kds) := .dcL upd_same hk (hr.mono le)
      have s4 := s3.tell (i := i) e1 rp
      rw [List.set_set] at s4
      refine k (.ref p) _ _ _ (.v (.dcL kds)) s4 ⟨le, fun q o z1 z2 z3 => ?_, fun q z => ?_, fun q z => ?_, fun q z => ?_⟩ rp trivial q
      · have hq : q ≠ p := fun y => z3 (by rw [y]; exact own)
        rw [upd_ne hq]; exact kn_some z1
      · by_cases hq : q = p
        · subst hq; exact .inr (.inr (.inl own))
        · rw [upd_ne hq] at z; exact .inl z
      · obtain ⟨j, ys, z1, z2⟩ := z
        rcases getElem?_set_cases z1 with ⟨_, f2, _⟩ | ⟨_, f2⟩
        · cases f2
        · exact ⟨j, ys, f2, z2⟩
      · by_cases hq : q = p
        · rw [hq, kn_of upd_same]; simp
        · rw [kn_same (upd_ne hq)]; exact z
theorem dvk (i : Nat) {x : Str} (hN : X.N[i]? = some x := by rfl) (hv : Vis X.env.scope x := by first | exact Or.inl rfl | exact Or.inr (Or.inl rfl) | exact Or.inr (Or.inr rfl)) (hd : (x == ("__debug__" : Str)) = false := by decide)
    (hcd : (x == ("__classdict__" : Str)) = false := by decide) : PE X (.Name x pos) (liftE c (dVarK i)) := de_varK hN hv hd hcd
theorem de_dispT1 {ke ve : Expr} (hu : X.A.units + 1 < cLine) (hk : PE X ke (liftE c tk)) (hv : PE X ve (liftE c tv)) : PE X (.Dict [some ke] [ve] pos) (liftE c (dDispT1 tk tv)) :=
  PE_imp (pe_dispT1 hu (froze hk) (froze hv)) fun σ H Q ⟨F, ρ, QD, s, ht, k⟩ p hp => by
    have pe : PExt F H F (upd H p (.dT [])) := PExt.own s.sub hp
    have nS := s.newS hp
    have nO := s.newO hp
    have n0 := s.newH hp
    have fF := free_of s.sub hp
    refine ⟨F, ρ, (fun d ρ1 => tv ρ1 fun r2 ρ2 => ∃ k, keyT d = some k ∧ QD (.ow (.dcT [(k, fz r2)])) ρ2), pe.sr s, ht, fun x H1 F1 ρ1 d1 s1 st1 rx q1 => ?_⟩
    refine ⟨F1, ρ1, (fun d2 ρ2 => ∃ k, keyT d1 = some k ∧ QD (.ow (.dcT [(k, d2)])) ρ2), s1, q1, fun y H2 F2 ρ2 d2 s2 st12 ry ⟨k0, hk0, q⟩ => ?_⟩
    have st2 := st1.trans st12
    obtain ⟨b, rfl, eb⟩ := rep_keyT rx hk0
    have hH2 : H2 p = some (.dT []) := st2.hh p _ (kn_of upd_same) nS nO
    have fF2 : F2 p = none := by
      cases z : F2 p with
      | none => rfl
      | some o =>
        rcases st2.nn p (by rw [z]; simp) with h | h | h | h
        · exact absurd fF h
        · exact (h.no upd_same (fun _ y => by cases y) (fun _ y => by cases y)).elim
        · exact absurd h nO
        · exact absurd h nS
    have nO2 : ¬ Own σ ρ2 p := fun z => nO (st2.oo p z)
    refine ⟨b, k0, rfl, s2.sub _ _ (st12.ff _ _ eb), hH2, ?_⟩
    refine k (.ref p) _ F2 ρ2 (.ow (.dcT [(k0, d2)])) (s2.over fF2 nS nO2 n0 hH2 ⟨fun _ z => (by cases z), fun _ _ z => (by unfold LamX.CodeO at z; cases z)⟩) ⟨st2.ff, fun q o hq a b => ?_, fun q hq => ?_, st2.oo, fun q hq => ?_⟩ ⟨p, _, rfl, upd_same, fF2, .dcT rfl (.cons ry .nil), nS, nO2, n0⟩ ⟨p, rfl, kn_none hp⟩ q
    · have ne : q ≠ p := fun z => by rw [z, kn_none hp] at hq; cases hq
      rw [upd_ne ne]
      exact st2.hh q o (by rw [kn_same (upd_ne ne)]; exact hq) a b
    · rcases st2.nn q hq with h | h | h
      · exact .inl h
      · refine .inr (.inl ?_)
        by_cases e : q = p
        · rw [e]; exact .inl (kn_none hp)
        · exact h.elim (fun h => .inl (by rw [kn_same (upd_ne e)] at h; exact h)) fun ⟨vs, h⟩ => .inr ⟨vs, by rw [upd_ne e] at h; exact h⟩
      · exact .inr (.inr h)
    · by_cases e : q = p
      · rw [e, kn_none hp] at hq; exact absurd rfl hq
      · rw [kn_same (upd_ne e)]
        exact st2.tr q (by rw [kn_same (upd_ne e)]; exact hq)
end
end L2.DL
set_option Elab.async false
set_option linter.all false
set_option autoImplicit false
set_option maxRecDepth 100000
set_option maxHeartbeats 2000000
namespace L2.DL
open PySem PySem.Spec PyProof.Rows
theorem un_dT (k : List (TK × D)) : unAt (.dcT k) = .dcT k := rfl
theorem un_dL (k : List (TK × D)) : unAt (.dcL k) = .dcL k := rfl
def callP (qs : List Pn) : List Int := (placesL qs).filter (canC qs)
def Rch (ps : List Pn) : Nat → List Pn → Prop
  | 0, q => q = ps
  | n + 1, q => ∃ q', Rch ps n q' ∧ ∃ x, x ∈ callP q' ∧ q = drawnL q' x 1
def nvL (ps : List Pn) : List (Str × Int) := ps.map fun p => (p.1, p.2.2)
theorem nv_drawn (qs : List Pn) (x n : Int) : nvL (drawnL qs x n) = nvL qs := by
  unfold nvL drawnL
  rw [List.map_map]
  rfl
theorem eq_nv : ∀ {a b : List Pn}, nvL a = nvL b → plcs a = plcs b → a = b
  | [], [], _, _ => rfl
  | [], _ :: _, h, _ => by simp [nvL] at h
  | _ :: _, [], h, _ => by simp [nvL] at h
  | (n, x, v) :: a, (m, y, w) :: b, h, k => by
    simp only [nvL, plcs, List.map_cons, List.cons.injEq, Prod.mk.injEq] at h k
    obtain ⟨⟨h1, h2⟩, h3⟩ := h
    obtain ⟨k1, k2⟩ := k
    rw [h1, h2, k1, eq_nv (a := a) (b := b) h3 k2]
theorem Rch.nv {ps : List Pn} : ∀ {n : Nat} {q : List Pn}, Rch ps n q → nvL q = nvL ps
  | 0, q, h => by rw [show q = ps from h]
  | n + 1, q, h => by
    obtain ⟨q', h1, x, _, rfl⟩ := h
    rw [nv_drawn, Rch.nv h1]
theorem Rch.wf {ps : List Pn} (hw : Wf ps) : ∀ {n : Nat} {q : List Pn}, Rch ps n q → Wf q
  | 0, q, h => by rw [show q = ps from h]; exact hw
  | n + 1, q, h => by
    obtain ⟨q', h1, x, _, rfl⟩ := h
    exact (Rch.wf hw h1).drawn x 1
/-- all stand between a and b -/
def InI (a b : Int) (q : List Pn) : Prop := ∀ y, y ∈ plcs q → a ≤ y ∧ y ≤ b
theorem can_two {q : List Pn} {x : Int} (h : x ∈ callP q) : ∃ y, y ∈ plcs q ∧ y ≠ x := by
  obtain ⟨hx, hc⟩ := List.mem_filter.mp h
  unfold canC at hc
  simp only [Bool.and_eq_true, Bool.not_eq_true'] at hc
  have tg := hc.2
  unfold togL at tg
  have two : ¬ (placesL q).length < 2 := of_decide_eq_false tg
  have nd : (placesL q).Nodup := (uset_lt (l := plcs q)).imp fun h => by omega
  match e : placesL q, two, nd, hx with
  | [], two, _, _ => exact absurd (by simp) two
  | [_], two, _, _ => exact absurd (by simp) two
  | a :: b :: r, _, nd, hx =>
    have mm : ∀ z, z ∈ placesL q → z ∈ plcs q := fun z hz => mem_uset.mp hz
    by_cases ha : a = x
    · refine ⟨b, mm b (by rw [e]; simp), fun hb => ?_⟩
      rw [ha, hb] at nd
      simp at nd
    · exact ⟨a, mm a (by rw [e]; simp), ha⟩
theorem call_in {q : List Pn} {a b x : Int} (h : InI a b q) (hx : x ∈ callP q) : a < b ∧ ∃ a' b', InI a' b' (drawnL q x 1) ∧ b' - a' = b - a - 1 := by
  have hxp : x ∈ plcs q := mem_uset.mp (List.mem_filter.mp hx).1
  obtain ⟨y, hy, ne⟩ := can_two hx
  have h1 := h x hxp
  have h2 := h y hy
  refine ⟨by omega, ?_⟩
  by_cases hxa : a < x
  · refine ⟨a + 1, b, fun z hz => ?_, by omega⟩
    rw [plcs_drawn] at hz
    obtain ⟨w, hw, rfl⟩ := List.mem_map.mp hz
    have := h w hw
    unfold nrF
    split <;> omega
  · refine ⟨a, b - 1, fun z hz => ?_, by omega⟩
    rw [plcs_drawn] at hz
    obtain ⟨w, hw, rfl⟩ := List.mem_map.mp hz
    have := h w hw
    unfold nrF
    split <;> omega
def kq (q : List Pn) : TK := ik (plcs q)
theorem kq_inj {ps a b : List Pn} (ha : nvL a = nvL ps) (hb : nvL b = nvL ps) (h : kq a = kq b) : a = b := eq_nv (ha.trans hb.symm) (ik_inj h)
theorem kTup_kq (q : List Pn) : kTup (kq q) = spoD q := by
  unfold kq
  rw [kTup_ints]
  unfold spoD plcs
  rw [List.map_map]
  rfl
theorem keyT_spo (q : List Pn) : keyT (spoD q) = some (kq q) := by
  have : spoD q = .tup ((plcs q).map .int) := by unfold spoD plcs; rw [List.map_map]; rfl
  rw [this]
  exact keyT_ints _
def dcS (S : List (List Pn)) (g : List Pn → D) : List (TK × D) := S.map fun q => (kq q, g q)
theorem dcS_keys (S : List (List Pn)) (g : List Pn → D) : keysD (dcS S g) = S.map spoD := by
  unfold keysD dcS
  rw [List.map_map, List.map_map]
  exact List.map_congr_left fun q _ => kTup_kq q
theorem any_dcS {ps q : List Pn} {S : List (List Pn)} {g : List Pn → D} (hS : ∀ s, s ∈ S → nvL s = nvL ps) (hq : nvL q = nvL ps) : ((dcS S g).any fun kv => decide (kv.1 = kq q)) = decide (q ∈ S) := by
  induction S with
  | nil => simp [dcS]
  | cons s S ih =>
    have ih := ih fun z hz => hS z (List.mem_cons_of_mem _ hz)
    unfold dcS at ih ⊢
    rw [List.map_cons, List.any_cons, ih]
    by_cases e : s = q
    · subst e; simp
    · have ne : ¬ kq s = kq q := fun h => e (kq_inj (hS s List.mem_cons_self) hq h)
      have ne2 : ¬ q = s := fun h => e h.symm
      simp only [ne, decide_false, Bool.false_or, List.mem_cons, ne2, false_or]
theorem put_dcS {ps q : List Pn} {S : List (List Pn)} {g g' : List Pn → D} {d : D} (hS : ∀ s, s ∈ S → nvL s = nvL ps) (hq : nvL q = nvL ps) (hd : g' q = d) (hg : ∀ s, s ∈ S → s ≠ q → g' s = g s) :
    putT (dcS S g) (kq q) d = dcS (if q ∈ S then S else S ++ [q]) g' := by
  unfold putT
  rw [any_dcS hS hq]
  by_cases h : q ∈ S
  · rw [if_pos (decide_eq_true h), if_pos h]
    unfold dcS
    rw [List.map_map]
    refine List.map_congr_left fun s hs => ?_
    show (if kq s = kq q then _ else _) = _
    by_cases e : s = q
    · subst e
      rw [if_pos rfl, hd]
    · rw [if_neg (fun z => e (kq_inj (hS s hs) hq z)), hg s hs e]
  · rw [if_neg (by rw [decide_eq_false h]; exact Bool.false_ne_true), if_neg h]
    unfold dcS
    rw [List.map_append]
    congr 1
    · exact List.map_congr_left fun s hs => by rw [hg s hs (fun z => h (z ▸ hs))]
    · rw [List.map_cons, List.map_nil, hd]
theorem dcS_len (S : List (List Pn)) (g : List Pn → D) : (dcS S g).length = S.length := List.length_map ..
section
open Classical
def addS (T : List (List Pn)) (q : List Pn) : List (List Pn) := if q ∈ T then T else T ++ [q]
theorem addS_nd {T : List (List Pn)} {q : List Pn} (h : T.Nodup) : (addS T q).Nodup := by
  unfold addS
  split
  · exact h
  · rename_i n
    rw [List.nodup_append]
    exact ⟨h, by simp, fun a ha b hb e => n (by rw [List.mem_singleton.mp hb] at e; exact e ▸ ha)⟩
theorem mem_addS {T : List (List Pn)} {q z : List Pn} : z ∈ addS T q ↔ z ∈ T ∨ z = q := by
  unfold addS
  split
  · rename_i h
    exact ⟨.inl, fun e => e.elim id fun e => e ▸ h⟩
  · rw [List.mem_append, List.mem_singleton]
theorem mem_take_succ {α : Type} {l : List α} {k : Nat} (hk : k < l.length) {z : α} : z ∈ l.take (k + 1) ↔ z ∈ l.take k ∨ z = l[k] := by
  rw [List.take_succ_eq_append_getElem hk, List.mem_append, List.mem_singleton]
structure LotI (ps : List Pn) (most n : Nat) (S L : List (List Pn)) : Prop where
  nS : S.Nodup
  mS : ∀ q, q ∈ S ↔ ∃ m, m < n ∧ Rch ps m q
  nL : L.Nodup
  mL : ∀ q, q ∈ L ↔ Rch ps n q
  lS : S.length ≤ most
  lL : L.length ≤ 60 * most + 1
structure LotK (ps : List Pn) (n : Nat) (S P S' T : List (List Pn)) : Prop where
  nS : S'.Nodup
  mS : ∀ q, q ∈ S' ↔ q ∈ S ∨ q ∈ P
  nT : T.Nodup
  mT : ∀ q, q ∈ T ↔ ∃ q', q' ∈ P ∧ ∃ x, x ∈ callP q' ∧ q = drawnL q' x 1
  lS : S'.length ≤ S.length + P.length
  lT : T.length ≤ 60 * P.length
theorem LotK.next {ps : List Pn} {most n : Nat} {S L S' T : List (List Pn)} (h : LotI ps most n S L) (k : LotK ps n S L S' T) (le : S'.length ≤ most) : LotI ps most (n + 1) S' T where
  nS := k.nS
  mS := fun q => by
    rw [k.mS, h.mS, h.mL]
    exact ⟨fun e => e.elim (fun ⟨m, a, b⟩ => ⟨m, by omega, b⟩) fun e => ⟨n, by omega, e⟩, fun ⟨m, a, b⟩ => by
      by_cases e : m = n
      · exact .inr (e ▸ b)
      · exact .inl ⟨m, by omega, b⟩⟩
  nL := k.nT
  mL := fun q => by
    rw [k.mT]
    exact ⟨fun ⟨q', a, x, b, c⟩ => ⟨q', (h.mL q').mp a, x, b, c⟩, fun ⟨q', a, x, b, c⟩ => ⟨q', (h.mL q').mpr a, x, b, c⟩⟩
  lS := le
  lL := by
    have : L.length ≤ S'.length := h.nL.length_le_of_subset fun q hq => (k.mS q).mpr (.inr hq)
    have := k.lT
    omega
def loL : List Int → Int
  | [] => 0
  | [x] => x
  | x :: y :: l => min x (loL (y :: l))
def hiL : List Int → Int
  | [] => 0
  | [x] => x
  | x :: y :: l => max x (hiL (y :: l))
theorem lo_le : ∀ {l : List Int} {x : Int}, x ∈ l → loL l ≤ x ∧ x ≤ hiL l
  | [x], z, h => by rw [List.mem_singleton.mp h]; exact ⟨Int.le_refl _, Int.le_refl _⟩
  | x :: y :: l, z, h => by
    unfold loL hiL
    rcases List.mem_cons.mp h with e | e
    · subst e; omega
    · have := lo_le e
      omega
theorem lo_mem : ∀ {l : List Int}, l ≠ [] → loL l ∈ l ∧ hiL l ∈ l
  | [], h => absurd rfl h
  | [x], _ => ⟨List.mem_singleton.mpr rfl, List.mem_singleton.mpr rfl⟩
  | x :: y :: l, _ => by
    obtain ⟨a, b⟩ := lo_mem (l := y :: l) (by simp)
    unfold loL hiL
    refine ⟨?_, ?_⟩
    · by_cases h : x ≤ loL (y :: l)
      · rw [Int.min_eq_left h]; exact List.mem_cons_self
      · rw [Int.min_eq_right (by omega)]; exact List.mem_cons_of_mem _ a
    · by_cases h : hiL (y :: l) ≤ x
      · rw [Int.max_eq_left h]; exact List.mem_cons_self
      · rw [Int.max_eq_right (by omega)]; exact List.mem_cons_of_mem _ b
def sprd (q : List Pn) : Int := hiL (plcs q) - loL (plcs q)
theorem sprd_call {q : List Pn} {x : Int} (hx : x ∈ callP q) : sprd (drawnL q x 1) < sprd q := by
  obtain ⟨_, a, b, h, e⟩ := call_in (a := loL (plcs q)) (b := hiL (plcs q)) (fun y hy => lo_le hy) hx
  have ne : plcs (drawnL q x 1) ≠ [] := fun z => by
    have hxp : x ∈ plcs q := mem_uset.mp (List.mem_filter.mp hx).1
    rw [plcs_drawn, List.map_eq_nil_iff] at z
    rw [z] at hxp
    cases hxp
  obtain ⟨m1, m2⟩ := lo_mem ne
  have h1 := h _ m1
  have h2 := h _ m2
  unfold sprd
  omega
theorem Rch.chain {ps : List Pn} : ∀ {n : Nat} {q : List Pn}, Rch ps n q → ∃ c : List (List Pn), c.length = n ∧ c.Nodup ∧ (∀ z, z ∈ c → ∃ m, m < n ∧ Rch ps m z) ∧ ∀ z, z ∈ c → sprd q < sprd z
  | 0, q, h => ⟨[], rfl, List.nodup_nil, fun z h => (nomatch h), fun z h => (nomatch h)⟩
  | n + 1, q, h => by
    obtain ⟨q', h1, x, hx, rfl⟩ := h
    obtain ⟨c, e1, e2, e3, e4⟩ := Rch.chain h1
    have lt := sprd_call hx
    refine ⟨q' :: c, by rw [List.length_cons, e1], List.nodup_cons.mpr ⟨fun m => by have := e4 q' m; omega, e2⟩, fun z hz => ?_, fun z hz => ?_⟩
    · rcases List.mem_cons.mp hz with e | e
      · subst e; exact ⟨n, by omega, h1⟩
      · obtain ⟨m, a, b⟩ := e3 z e
        exact ⟨m, by omega, b⟩
    · rcases List.mem_cons.mp hz with e | e
      · subst e; exact lt
      · have := e4 z e
        omega
theorem LotI.few {ps : List Pn} {most n : Nat} {S L : List (List Pn)} (I : LotI ps most n S L) {q : List Pn} (h : Rch ps n q) : n ≤ most := by
  obtain ⟨c, e1, e2, e3, _⟩ := h.chain
  have : c.length ≤ S.length := e2.length_le_of_subset fun z hz => (I.mS z).mpr (e3 z hz)
  have := I.lS
  omega
theorem nodup_take {α : Type} : ∀ {l : List α} {k : Nat} (hk : k < l.length), l.Nodup → l[k] ∉ l.take k
  | x :: l, 0, _, _ => by simp
  | x :: l, k + 1, hk, h => by
    rw [List.nodup_cons] at h
    rw [List.getElem_cons_succ, List.take_succ_cons, List.mem_cons]
    rintro (e | e)
    · exact h.1 (e ▸ List.getElem_mem _)
    · exact nodup_take (by simpa using hk) h.2 e
end
end L2.DL
set_option Elab.async false
set_option linter.all false
set_option autoImplicit false
set_option maxRecDepth 100000
set_option maxHeartbeats 2000000
namespace L2.DL
open PySem PySem.Spec PyProof.Rows
def allT (a : Int) (w : Nat) : Nat → List (List Int)
  | 0 => [[]]
  | k + 1 => (List.range w).flatMap fun i => (allT a w k).map fun t => (a + (i : Nat)) :: t
theorem allT_len (a : Int) (w : Nat) : ∀ k, (allT a w k).length = w ^ k
  | 0 => rfl
  | k + 1 => by
    unfold allT
    rw [List.length_flatMap]
    simp only [List.length_map, allT_len a w k]
    rw [List.map_const', List.sum_replicate_nat, List.length_range, Nat.pow_succ, Nat.mul_comm]
theorem mem_allT {a : Int} {w : Nat} : ∀ {t : List Int}, (∀ y, y ∈ t → a ≤ y ∧ y < a + w) → t ∈ allT a w t.length
  | [], _ => List.mem_singleton.mpr rfl
  | y :: t, h => by
    rw [List.length_cons]
    unfold allT
    have hy := h y List.mem_cons_self
    refine List.mem_flatMap.mpr ⟨(y - a).toNat, List.mem_range.mpr (by omega), List.mem_map.mpr ⟨t, mem_allT fun z hz => h z (List.mem_cons_of_mem _ hz), ?_⟩⟩
    rw [show a + (((y - a).toNat : Nat) : Int) = y by omega]
theorem in_call {q : List Pn} {a b x : Int} (h : InI a b q) (hx : x ∈ callP q) : InI a b (drawnL q x 1) := fun z hz => by
  have hxp : x ∈ plcs q := mem_uset.mp (List.mem_filter.mp hx).1
  have h1 := h x hxp
  rw [plcs_drawn] at hz
  obtain ⟨w, hw, rfl⟩ := List.mem_map.mp hz
  have := h w hw
  unfold nrF
  split <;> omega
theorem Rch.inI {ps : List Pn} {a b : Int} (h : InI a b ps) : ∀ {n : Nat} {q : List Pn}, Rch ps n q → InI a b q
  | 0, q, e => by rw [show q = ps from e]; exact h
  | n + 1, q, e => by
    obtain ⟨q', h1, x, hx, rfl⟩ := e
    exact in_call (Rch.inI h h1) hx
theorem nodup_plcs {ps : List Pn} : ∀ {S : List (List Pn)}, S.Nodup → (∀ q, q ∈ S → nvL q = nvL ps) → (S.map plcs).Nodup
  | [], _, _ => List.nodup_nil
  | s :: S, h, hv => by
    rw [List.nodup_cons] at h
    rw [List.map_cons, List.nodup_cons]
    refine ⟨fun m => ?_, nodup_plcs h.2 fun q hq => hv q (List.mem_cons_of_mem _ hq)⟩
    obtain ⟨q, hq, e⟩ := List.mem_map.mp m
    have : q = s := eq_nv ((hv q (List.mem_cons_of_mem _ hq)).trans (hv s List.mem_cons_self).symm) e
    exact h.1 (this ▸ hq)
end L2.DL
set_option Elab.async false
set_option linter.all false
set_option autoImplicit false
set_option maxRecDepth 100000
set_option maxHeartbeats 2000000
namespace L2.DL
open PySem PySem.Spec PyProof.Rows
end L2.DL
set_option Elab.async false
set_option linter.all false
set_option autoImplicit false
set_option maxRecDepth 100000
set_option maxHeartbeats 2000000
namespace L2.DL
open PySem PySem.Spec PyProof.Rows
local macro_rules | `(tactic| walk_at "ev") => `(tactic| simp only [dSeq, dNext, dSet, dPar, dPar3, dRet, dRetN, dDrop, dIfS, dBrk, dCnt, dApp, dFor, dItL, dItT, dRng1, dRng2, dZip, dEnum, dItS, dAsg, dAugI, dNever, dPutS, dNewD, dFldM, dFldS, dStar,
  dgName, dgTup, dgCons, dgNil, dOp, dUn, dC, dNil, dCons, dCB, dTup, dLst, dIf, dTst, dTru, dAnd, dOr, dNot, dAndV, dOrV, dNotV, dYes, dInR, dFld, dMeth, dCall, dDctIx, dGet2, dRaise, dRaiseZ, dDisp, dPNil, dPCons, dRepD, dTold, dLenSet, hid_u, hid_d, hid_o, dStep2, dSlV, dIxV, dSetV, dPopV, dLenV, dLcV, lstAt, Option.isSome_some, Option.isSome_none, dSl, dNoP, dPart, dLc, dDc, dSortSet, dSortSc, dListVals, dChain, dIsiT2, dCallB, dBor, dNilB, dCBB, dOneL,
  dIsN, dNotN, dStrI, dAbs, dIn, fz_v, fz_l, fz_d, fz_i, fz_m, un_l, un_d, un_i, un_m, sl_v, sl_o, dwipe, and_assoc, insLF, insLT, insFF, insFT, startD, startN, pdT, pdI, gdT, prT, stI, putFD, lendable, noKR, noK, noKs,
  vd0, vo0, rd0, ro0, vd1, vo1, rd1, ro1, vd2, vo2, rd2, ro2, vd3, vo3, rd3, ro3, vd4, vo4, rd4, ro4, vd5, vo5, rd5, ro5, vd6, vo6, rd6, ro6, vd7, vo7, rd7, ro7, vd8, vo8, rd8, ro8, vd9, vo9, rd9, ro9, vd10, vo10, rd10, ro10, vd11, vo11, rd11, ro11, vd12, vo12, rd12, ro12, vd13, vo13, rd13, ro13, vd14, vo14, rd14, ro14, vd15, vo15, rd15, ro15, vd16, vo16, rd16, ro16, vd17, vo17, rd17, ro17, vd18, vo18, rd18, ro18, vd19, vo19, rd19, ro19, vd20, vo20, rd20, ro20, vd21, vo21, rd21, ro21, vd22, vo22, rd22, ro22, vd23, vo23, rd23, ro23, lk_people, lk_names, lk_has_name, lk_person, lk_place, lk_voice, lk_places, lk_at, lk_line, lk_voices, lk_is_together, lk_own, lenL, lenT, lenS, ixL, ixT, ixS, dcutL, dcutS, addII, addSS, addLL, int1i, int1b, negI, reprL, reprT, absI, sc_n, sc_b, sc_i, sc_s, subI, mulI, fdvI, modI, powI, ltI, leI, gtI, geI, tr_n, tr_b, tr_i, tr_l, tr_t, tr_d, ty_n, ty_b, ty_i, ty_s, ty_l, ty_t, ty_d, in_n, in_b, in_i, in_s, in_l, in_t, in_d, eqII, neII, eqSS, neSS, eqBB, neBB, isic_n, isic_b, isic_i, isic_s, isic_l, isic_t, isic_d, isio_n, isio_b, isio_i, isio_s, isio_l, isio_t, isio_d, isic_I, isic_S, isic_T, isic_L, isic_B, isio_I, dIsiO, isi_ii, isi_ib, isi_is, isi_il, isi_bi, isi_bb, isi_bs, isi_si, isi_sb, isi_ss, isi_ni, isi_nb, isi_ns, isi_li, isi_lb, isi_ls, isi_ll, isi_ti, isi_tb, isi_ts, isi_tt, isi_di, isi_db, isi_ds, isi_lt, isi_tl, isi_bt, isi_nt, isi_dt, eqLL, neLL, eqTT, neTT, isi_sl, isi_st, isi_it, kit_ll, kit_lt, max2, min2, get1, get2b, get3b, get3c,
  List.map_cons, List.map_nil, List.length_cons, List.length_nil, List.replicate, List.append_nil, List.cons_append, List.nil_append, List.getElem?_cons_zero, List.getElem?_cons_succ, List.set_cons_zero, List.set_cons_succ, List.getElem?_nil, Nat.sub_zero, Nat.reduceAdd, Nat.reduceSub, Int.reduceLT, Int.reduceLE, Int.reduceNeg, Nat.zero_add,
  true_and, and_true, eq_self, Bool.true_or, Bool.or_true, Bool.false_or, Bool.or_false, Bool.true_and, Bool.and_true, Bool.false_and, Bool.and_false, exists_eq_left, exists_eq_left', exists_eq', exists_eq, Option.some.injEq, Res.v.injEq, D.bl.injEq, D.int.injEq, D.str.injEq, D.lst.injEq, D.tup.injEq, D.dct.injEq, D.ins.injEq, Sl.o.injEq, Sl.d.injEq, List.cons.injEq, reduceCtorEq, false_or, or_false, if_true, if_false, Bool.false_eq_true, Bool.not_true, Bool.not_false, ite_true, ite_false, decide_true, decide_false, and_self, List.isEmpty_nil, List.isEmpty_cons, exists_and_left, exists_const, lenNil, reprWL, reprAA, dZipLT, min3R, isBR, notBR])
def wdL (ps : List Pn) : List Int := (gapsL ps).map fun g => g.2.1
def mxL (l : List Int) : Int := l.foldr max 0
def totF (ps : List Pn) : Int := (wdL ps).sum
def leastF (ps : List Pn) : Int := max ((totF ps + 1) / 2) (mxL (wdL ps))
def mostB (ps : List Pn) (x : Int) : Int := min (x - firstP ps) (min (lastP ps - x) (totF ps - mxL (wdL ps)))
def atF (ps : List Pn) (d : D) : D := match d with
  | .int x => if mostB ps x < 0 then .non else .tup [.int (totF ps - mostB ps x), .int (totF ps)]
  | _ => .non
def paperF (ps : List Pn) (d e : D) : Str := match d, e with
  | .int x, .int n => if totF ps - n < 0 then "many" else if x - firstP ps < totF ps - n then "left" else if lastP ps - x < totF ps - n then "right" else if totF ps - mxL (wdL ps) < totF ps - n then "wide" else "meets"
  | _, _ => "many"
theorem mxL_ge : ∀ {l : List Int} {x : Int}, x ∈ l → x ≤ mxL l
  | y :: l, x, h => by
    unfold mxL
    rw [List.foldr_cons]
    rcases List.mem_cons.mp h with h | h
    · omega
    · have := mxL_ge h
      unfold mxL at this
      omega
theorem mxL_0 : ∀ l : List Int, 0 ≤ mxL l
  | [] => Int.le_refl _
  | y :: l => by
    have := mxL_0 l
    unfold mxL at this ⊢
    rw [List.foldr_cons]
    omega
theorem mxL_mem : ∀ l : List Int, mxL l = 0 ∨ mxL l ∈ l
  | [] => .inl rfl
  | y :: l => by
    have := mxL_mem l
    have h0 := mxL_0 l
    have e : mxL (y :: l) = max y (mxL l) := rfl
    rw [e]
    by_cases h : y ≤ mxL l
    · rw [Int.max_eq_right h]
      exact this.imp id fun z => List.mem_cons_of_mem _ z
    · rw [Int.max_eq_left (by omega)]
      exact .inr List.mem_cons_self
theorem mx_uniq {c m : Int} {l : List Int} (hc : 0 ≤ c) (h : m ∈ c :: l) (h2 : ∀ y, y ∈ c :: l → y ≤ m) : m = max c (mxL l) := by
  have h1 := h2 c List.mem_cons_self
  rcases List.mem_cons.mp h with e | e
  · have : mxL l ≤ c := by
      rcases mxL_mem l with z | z
      · omega
      · have := h2 _ (List.mem_cons_of_mem _ z); omega
    omega
  · have h3 := mxL_ge e
    rcases mxL_mem l with z | z
    · omega
    · have := h2 _ (List.mem_cons_of_mem _ z); omega
theorem wd_pos {ps : List Pn} {x : Int} (h : x ∈ wdL ps) : 0 < x := by
  obtain ⟨g, hg, rfl⟩ := List.mem_map.mp h
  exact gaps_pos hg
theorem sum_nonneg : ∀ {l : List Int}, (∀ x, x ∈ l → 0 ≤ x) → 0 ≤ l.sum ∧ mxL l ≤ l.sum
  | [], _ => ⟨Int.le_refl _, Int.le_refl _⟩
  | y :: l, h => by
    obtain ⟨a, b⟩ := sum_nonneg (l := l) fun x hx => h x (List.mem_cons_of_mem _ hx)
    have hy := h y List.mem_cons_self
    rw [List.sum_cons]
    have e : mxL (y :: l) = max y (mxL l) := rfl
    rw [e]
    omega
theorem tele : ∀ (a : Int) (t : List Int), ((pairs (a :: t)).map fun q => q.2 - q.1).sum = (a :: t).getLastD 0 - a
  | a, [] => by simp [pairs]
  | a, b :: t => by
    have := tele b t
    rw [pairs_cons2, List.map_cons, List.sum_cons, this]
    simp only [List.getLastD_cons]
    omega
theorem tot_eq {ps : List Pn} (h : placesL ps ≠ []) : totF ps = lastP ps - firstP ps := by
  unfold totF wdL
  rw [gapsL_eq, List.map_map]
  unfold lastP firstP
  cases e : placesL ps with
  | nil => exact absurd e h
  | cons a t => exact tele a t
theorem free_facts (ps : List Pn) : 0 ≤ totF ps ∧ 0 ≤ mxL (wdL ps) ∧ mxL (wdL ps) ≤ totF ps := by
  have := sum_nonneg (l := wdL ps) fun x hx => Int.le_of_lt (wd_pos hx)
  exact ⟨this.1, mxL_0 _, this.2⟩
theorem head_at0 {l : List Int} (h : l ≠ []) : atI (l.map D.int) 0 = some (.int (l.headD 0)) := by
  cases l with
  | nil => exact absurd rfl h
  | cons a t => exact get1
theorem sumR {ns : List Int} {Q : Res → Prop} : dSum [.lst (ns.map D.int)] Q = Q (.v (.int ns.sum)) := by
  refine propext ⟨fun ⟨ms, e, q⟩ => ?_, fun q => ⟨ns, rfl, q⟩⟩
  simp only [List.cons.injEq, D.lst.injEq, and_true] at e
  rw [ints_inj.mp e]
  exact q
theorem paper_cases (ps : List Pn) (d e : D) : paperF ps d e = "many" ∨ paperF ps d e = "left" ∨ paperF ps d e = "right" ∨ paperF ps d e = "wide" ∨ paperF ps d e = "meets" := by
  unfold paperF
  split
  · split
    · exact .inl rfl
    · split
      · exact .inr (.inl rfl)
      · split
        · exact .inr (.inr (.inl rfl))
        · split
          · exact .inr (.inr (.inr (.inl rfl)))
          · exact .inr (.inr (.inr (.inr rfl)))
  · exact .inl rfl
def sp_widths (C : Nm) : DSp := fun ds Q X => ∃ ps, ds = [stD C ps] ∧ Wf ps ∧ Q (.own ((wdL ps).map .int))
def sp_free_numbers (C : Nm) : DSp := fun ds Q X => ∃ ps, ds = [stD C ps] ∧ Wf ps ∧ Q (.v (.tup [.int (leastF ps), .int (totF ps)]))
def sp_most_between (C : Nm) : DSp := fun ds Q X => ∃ ps x, ds = [stD C ps, .int x] ∧ Wf ps ∧ placesL ps ≠ [] ∧ Q (.v (.int (mostB ps x)))
def sp_free_numbers_at (C : Nm) : DSp := fun ds Q X => ∃ ps d, ds = [stD C ps, d] ∧ Wf ps ∧ placesL ps ≠ [] ∧ tyC C d ∧ Q (.v (atF ps d))
def sp_free_paper (C : Nm) : DSp := fun ds Q X => ∃ ps d e, ds = [stD C ps, d, e] ∧ Wf ps ∧ placesL ps ≠ [] ∧ tyC C d ∧ tyC C e ∧ Q (.v (.tup [.str (paperF ps d e)]))
def sp_can_meet_free (C : Nm) : DSp := fun ds Q X => ∃ ps d e, ds = [stD C ps, d, e] ∧ Wf ps ∧ placesL ps ≠ [] ∧ tyC C d ∧ tyC C e ∧ Q (.v (.bl (decide (paperF ps d e = ("meets" : Str)))))
def t_widths (K : PySem.W.Frag) (C : Nm) (XD : DX) : DTS := (dRet (dLc (dItL (dCall (sp_gaps C) XD (dCons (dVar 0) dNil))) (dgTup 3 (dgCons (dgName 1) (dgCons (dgName 2) (dgCons (dgName 3) dgNil)))) dYes (dVar 2) [1, 2, 3]))
def t_free_numbers (K : PySem.W.Frag) (C : Nm) (XD : DX) : DTS := (dSeq (dSet 1 (dCall (sp_widths C) XD (dCons (dVar 0) dNil)))
      (dRet (dTup (dCons (dCB dMaxL (dCons (dLst (dCons (dOp dFdv (dOp dAdd (dCB dSum (dCons (dVar 1) dNil)) (dC (.int 1))) (dC (.int 2))) (dStar (dVar 1) dNil))) dNil)) (dCons (dCB dSum (dCons (dVar 1) dNil)) dNil)))))
def t_most_between (K : PySem.W.Frag) (C : Nm) (XD : DX) : DTS := (dSeq (dPar3 2 3 4 (dOp dIx (dMeth (C ("Standing" : Str)) ("places" : Str) (sp_Standing_places C) XD (dVar 0) dNil) (dC (.int 0))) (dOp dIx (dMeth (C ("Standing" : Str)) ("places" : Str) (sp_Standing_places C) XD (dVar 0) dNil) (dUn dNeg (dC (.int 1)))) (dCall (sp_widths C) XD (dCons (dVar 0) dNil)))
      (dRet (dCB dMin3 (dCons (dOp dSub (dVar 1) (dVar 2)) (dCons (dOp dSub (dVar 3) (dVar 1)) (dCons (dOp dSub (dCB dSum (dCons (dVar 4) dNil)) (dCB dMaxL (dCons (dLst (dCons (dC (.int 0)) (dStar (dVar 4) dNil))) dNil))) dNil))))))
def t_free_numbers_at (K : PySem.W.Frag) (C : Nm) (XD : DX) : DTS := (dSeq (dIfS (dOr (dNot (dTru (dCall (sp_is_integer C) XD (dCons (dVar 1) dNil)))) (dTst (dOp dLt (dCall (sp_most_between C) XD (dCons (dVar 0) (dCons (dVar 1) dNil))) (dC (.int 0))))) (dRet (dC .non)) dNext)
      (dSeq (dSet 2 (dCB dSum (dCons (dCall (sp_widths C) XD (dCons (dVar 0) dNil)) dNil)))
      (dRet (dTup (dCons (dOp dSub (dVar 2) (dCall (sp_most_between C) XD (dCons (dVar 0) (dCons (dVar 1) dNil)))) (dCons (dVar 2) dNil))))))
def t_free_paper (K : PySem.W.Frag) (C : Nm) (XD : DX) : DTS := (dSeq (dIfS (dOr (dNot (dTru (dCall (sp_is_integer C) XD (dCons (dVar 1) dNil)))) (dNot (dTru (dCall (sp_is_integer C) XD (dCons (dVar 2) dNil))))) (dRet (dTup (dCons (dC (.str ("many" : Str))) dNil))) dNext)
      (dSeq (dSet 3 (dCall (sp_widths C) XD (dCons (dVar 0) dNil)))
      (dSeq (dSet 4 (dOp dSub (dCB dSum (dCons (dVar 3) dNil)) (dVar 2)))
      (dSeq (dIfS (dTst (dOp dLt (dVar 4) (dC (.int 0)))) (dRet (dTup (dCons (dC (.str ("many" : Str))) dNil))) dNext)
      (dSeq (dIfS (dTst (dOp dGt (dVar 4) (dOp dSub (dVar 1) (dOp dIx (dMeth (C ("Standing" : Str)) ("places" : Str) (sp_Standing_places C) XD (dVar 0) dNil) (dC (.int 0)))))) (dRet (dTup (dCons (dC (.str ("left" : Str))) dNil))) dNext)
      (dSeq (dIfS (dTst (dOp dGt (dVar 4) (dOp dSub (dOp dIx (dMeth (C ("Standing" : Str)) ("places" : Str) (sp_Standing_places C) XD (dVar 0) dNil) (dUn dNeg (dC (.int 1)))) (dVar 1)))) (dRet (dTup (dCons (dC (.str ("right" : Str))) dNil))) dNext)
      (dRet (dIf (dTst (dOp dGt (dVar 4) (dOp dSub (dCB dSum (dCons (dVar 3) dNil)) (dCB dMaxL (dCons (dLst (dCons (dC (.int 0)) (dStar (dVar 3) dNil))) dNil))))) (dTup (dCons (dC (.str ("wide" : Str))) dNil)) (dTup (dCons (dC (.str ("meets" : Str))) dNil))))))))))
def t_can_meet_free (K : PySem.W.Frag) (C : Nm) (XD : DX) : DTS := (dRet (dOp dEq2 (dCall (sp_free_paper C) XD (dCons (dVar 0) (dCons (dVar 1) (dCons (dVar 2) dNil)))) (dTup (dCons (dC (.str ("meets" : Str))) dNil))))
section
variable {K : PySem.W.Frag} {C : Nm} {XD : DX} {ds : List D} {QD : Res → Prop}
theorem pure_widths (h : sp_widths C ds QD XD) : t_widths K C XD { nx := fun _ => QD (.v .non), rt := QD } (startN 4 ds) := by
  obtain ⟨ps, rfl, hw, q⟩ := h
  unfold t_widths
  walk_at "ev"
  refine ⟨ps, rfl, hw, ?_⟩
  walk_at "ev"
  refine lcL_fun (fun ρ => ρ = [Sl.d (stD C ps), Sl.un, Sl.un, Sl.un]) gapD (fun _ => true) (fun g => D.int g.2.1) ?_ (gapsL ps) [] _ (by have := hw.few; have := gapsL_len ps; rw [List.length_nil]; omega) rfl ?_
  · rintro g ρ rfl K1 K2 h1 h2
    walk_at "ev"
    exact h1 rfl _ _ rfl rfl
  · rintro ρ rfl
    rw [filter_tt]
    unfold wdL at q
    rw [List.map_map] at q
    exact q
theorem wd_len {ps : List Pn} (hw : Wf ps) : (wdL ps).length ≤ 60 := by
  unfold wdL
  rw [List.length_map]
  exact Nat.le_trans (gapsL_len ps) hw.few
theorem pure_free_numbers (h : sp_free_numbers C ds QD XD) : t_free_numbers K C XD { nx := fun _ => QD (.v .non), rt := QD } (startN 2 ds) := by
  obtain ⟨ps, rfl, hw, q⟩ := h
  unfold t_free_numbers
  walk_at "ev"
  refine ⟨ps, rfl, hw, ?_⟩
  walk_at "ev"
  rw [sumR]
  walk_at "ev"
  have wl := wd_len hw
  have ff := free_facts ps
  unfold totF at ff
  refine ⟨⟨by decide, by decide⟩, small (m := 61) (by rw [List.length_map]; omega), ((wdL ps).sum + 1) / 2 :: wdL ps, by rw [List.map_cons], Nat.succ_pos _, fun m h1 h2 => ?_⟩
  have e := mx_uniq (by omega) h1 h2
  walk_at "ev"
  rw [sumR, e]
  exact ⟨by decide, q⟩
theorem pure_most_between (h : sp_most_between C ds QD XD) : t_most_between K C XD { nx := fun _ => QD (.v .non), rt := QD } (startN 5 ds) := by
  obtain ⟨ps, x, rfl, hw, ne, q⟩ := h
  unfold t_most_between
  walk_at "ev"
  refine ⟨ps, rfl, hw, _, head_at0 ne, ps, rfl, hw, _, at_last _ ne, ps, rfl, hw, ?_⟩
  walk_at "ev"
  rw [sumR]
  have wl := wd_len hw
  refine ⟨small (m := 61) (by rw [List.length_map]; omega), 0 :: wdL ps, by rw [List.map_cons], Nat.succ_pos _, fun m h1 h2 => ?_⟩
  have e := mx_uniq (Int.le_refl _) h1 h2
  have m0 := mxL_0 (wdL ps)
  walk_at "ev"
  have e2 : (if (wdL ps).sum - m < (if (placesL ps).getLastD 0 - x < x - (placesL ps).headD 0 then (placesL ps).getLastD 0 - x else x - (placesL ps).headD 0) then (wdL ps).sum - m else (if (placesL ps).getLastD 0 - x < x - (placesL ps).headD 0 then (placesL ps).getLastD 0 - x else x - (placesL ps).headD 0)) = mostB ps x := by
    unfold mostB totF firstP lastP
    rw [e]
    split <;> split <;> omega
  rw [e2]
  exact q
theorem pure_free_numbers_at (h : sp_free_numbers_at C ds QD XD) : t_free_numbers_at K C XD { nx := fun _ => QD (.v .non), rt := QD } (startN 3 ds) := by
  obtain ⟨ps, d, rfl, hw, ne, hd, q⟩ := h
  unfold t_free_numbers_at
  walk_at "ev"
  refine ⟨d, rfl, hd, ?_⟩
  walk_at "ev"
  cases hi : isIntD d with
  | false =>
    walk_at "ev"
    have : atF ps d = .non := by cases d <;> first | rfl | cases hi
    rw [this] at q
    exact q
  | true =>
    obtain ⟨x, rfl⟩ : ∃ x, d = .int x := by cases d <;> first | exact ⟨_, rfl⟩ | cases hi
    walk_at "ev"
    refine ⟨ps, x, rfl, hw, ne, ?_⟩
    have ea : atF ps (.int x) = if mostB ps x < 0 then .non else .tup [.int (totF ps - mostB ps x), .int (totF ps)] := rfl
    rw [ea] at q
    walk_at "ev"
    by_cases h : mostB ps x < 0
    · rw [if_pos h] at q
      rw [decide_eq_true h]
      walk_at "ev"
      exact q
    · rw [if_neg h] at q
      rw [decide_eq_false h]
      walk_at "ev"
      refine ⟨ps, rfl, hw, ?_⟩
      walk_at "ev"
      rw [sumR]
      walk_at "ev"
      refine ⟨ps, x, rfl, hw, ne, ?_⟩
      walk_at "ev"
      exact ⟨by decide, q⟩
theorem pure_free_paper (h : sp_free_paper C ds QD XD) : t_free_paper K C XD { nx := fun _ => QD (.v .non), rt := QD } (startN 5 ds) := by
  obtain ⟨ps, d, e, rfl, hw, ne, hd, he, q⟩ := h
  unfold t_free_paper
  walk_at "ev"
  refine ⟨d, rfl, hd, ?_⟩
  walk_at "ev"
  cases hi : isIntD d with
  | false =>
    walk_at "ev"
    have : paperF ps d e = "many" := by cases d <;> first | rfl | cases hi
    rw [this] at q
    exact ⟨by decide, q⟩
  | true =>
    obtain ⟨x, rfl⟩ : ∃ x, d = .int x := by cases d <;> first | exact ⟨_, rfl⟩ | cases hi
    walk_at "ev"
    refine ⟨e, rfl, he, ?_⟩
    walk_at "ev"
    cases hj : isIntD e with
    | false =>
      walk_at "ev"
      have : paperF ps (.int x) e = "many" := by cases e <;> first | rfl | cases hj
      rw [this] at q
      exact ⟨by decide, q⟩
    | true =>
      obtain ⟨n, rfl⟩ : ∃ n, e = .int n := by cases e <;> first | exact ⟨_, rfl⟩ | cases hj
      have ep : paperF ps (.int x) (.int n) = (if totF ps - n < 0 then ("many" : Str) else if x - firstP ps < totF ps - n then ("left" : Str) else if lastP ps - x < totF ps - n then ("right" : Str) else if totF ps - mxL (wdL ps) < totF ps - n then ("wide" : Str) else ("meets" : Str)) := rfl
      rw [ep] at q
      walk_at "ev"
      refine ⟨ps, rfl, hw, ?_⟩
      walk_at "ev"
      rw [sumR]
      walk_at "ev"
      unfold totF firstP lastP at q
      by_cases h1 : (wdL ps).sum - n < 0
      · rw [if_pos h1] at q
        rw [decide_eq_true h1]
        walk_at "ev"
        exact ⟨by decide, q⟩
      rw [if_neg h1] at q
      rw [decide_eq_false h1]
      walk_at "ev"
      refine ⟨ps, rfl, hw, _, head_at0 ne, ?_⟩
      walk_at "ev"
      by_cases h2 : x - (placesL ps).headD 0 < (wdL ps).sum - n
      · rw [if_pos h2] at q
        rw [decide_eq_true h2]
        walk_at "ev"
        exact ⟨by decide, q⟩
      rw [if_neg h2] at q
      rw [decide_eq_false h2]
      walk_at "ev"
      refine ⟨ps, rfl, hw, _, at_last _ ne, ?_⟩
      walk_at "ev"
      by_cases h3 : (placesL ps).getLastD 0 - x < (wdL ps).sum - n
      · rw [if_pos h3] at q
        rw [decide_eq_true h3]
        walk_at "ev"
        exact ⟨by decide, q⟩
      rw [if_neg h3] at q
      rw [decide_eq_false h3]
      walk_at "ev"
      rw [sumR]
      have wl := wd_len hw
      refine ⟨small (m := 61) (by rw [List.length_map]; omega), 0 :: wdL ps, by rw [List.map_cons], Nat.succ_pos _, fun m k1 k2 => ?_⟩
      have em := mx_uniq (Int.le_refl _) k1 k2
      have m0 := mxL_0 (wdL ps)
      have em2 : m = mxL (wdL ps) := by omega
      subst em2
      walk_at "ev"
      by_cases h4 : (wdL ps).sum - mxL (wdL ps) < (wdL ps).sum - n
      · rw [if_pos h4] at q
        rw [decide_eq_true h4]
        walk_at "ev"
        exact ⟨by decide, q⟩
      rw [if_neg h4] at q
      rw [decide_eq_false h4]
      walk_at "ev"
      exact ⟨by decide, q⟩
theorem pure_can_meet_free (h : sp_can_meet_free C ds QD XD) : t_can_meet_free K C XD { nx := fun _ => QD (.v .non), rt := QD } (startN 3 ds) := by
  obtain ⟨ps, d, e, rfl, hw, ne, hd, he, q⟩ := h
  unfold t_can_meet_free
  walk_at "ev"
  refine ⟨ps, d, e, rfl, hw, ne, hd, he, ?_⟩
  walk_at "ev"
  refine ⟨by decide, ?_⟩
  rcases paper_cases ps d e with h | h | h | h | h
  all_goals
    rw [h] at q ⊢
    exact ⟨⟨rfl, rfl, by decide +kernel, by decide +kernel⟩, (congrArg (fun b => QD (.v (.bl b))) (by decide +kernel)).mpr q⟩
end
end L2.DL
set_option Elab.async false
set_option linter.all false
set_option autoImplicit false
set_option maxRecDepth 100000
set_option maxHeartbeats 1000000
namespace L2.DL
open PySem PySem.Spec PyProof.Rows
def freeP (q : List Pn) : List Int := if togL q = true then [] else placesL q
theorem free_mem {q : List Pn} {x : Int} (h : x ∈ freeP q) : x ∈ placesL q ∧ togL q = false := by
  unfold freeP at h
  split at h
  · cases h
  · rename_i t
    exact ⟨h, by simpa using t⟩
theorem mem_free {q : List Pn} {x : Int} (h : x ∈ placesL q) (t : togL q = false) : x ∈ freeP q := by
  unfold freeP
  rw [t]
  exact h
def Fch (ps : List Pn) : Nat → List Pn → Prop
  | 0, q => q = ps
  | n + 1, q => ∃ q', Fch ps n q' ∧ ∃ x, x ∈ freeP q' ∧ q = drawnL q' x 1
theorem Fch.nv {ps : List Pn} : ∀ {n : Nat} {q : List Pn}, Fch ps n q → nvL q = nvL ps
  | 0, q, h => by rw [show q = ps from h]
  | n + 1, q, h => by
    obtain ⟨q', h1, x, _, rfl⟩ := h
    rw [nv_drawn, Fch.nv h1]
theorem Fch.wf {ps : List Pn} (hw : Wf ps) : ∀ {n : Nat} {q : List Pn}, Fch ps n q → Wf q
  | 0, q, h => by rw [show q = ps from h]; exact hw
  | n + 1, q, h => by
    obtain ⟨q', h1, x, _, rfl⟩ := h
    exact (Fch.wf hw h1).drawn x 1
theorem Fch.cons {ps : List Pn} {x : Int} (hx : x ∈ freeP ps) : ∀ {n : Nat} {q : List Pn}, Fch (drawnL ps x 1) n q → Fch ps (n + 1) q
  | 0, q, h => ⟨ps, rfl, x, hx, h⟩
  | n + 1, q, h => by
    obtain ⟨q', h1, y, hy, rfl⟩ := h
    exact ⟨q', Fch.cons hx h1, y, hy, rfl⟩
theorem Fch.inI {ps : List Pn} {a b : Int} (h : InI a b ps) : ∀ {n : Nat} {q : List Pn}, Fch ps n q → InI a b q
  | 0, q, e => by rw [show q = ps from e]; exact h
  | n + 1, q, e => by
    obtain ⟨q', h1, x, hx, rfl⟩ := e
    have i := Fch.inI h h1
    intro z hz
    have hxp : x ∈ plcs q' := mem_uset.mp (free_mem hx).1
    have h1 := i x hxp
    rw [plcs_drawn] at hz
    obtain ⟨w, hw, rfl⟩ := List.mem_map.mp hz
    have := i w hw
    unfold nrF
    split <;> omega
theorem few_free {ps : List Pn} {a : Int} {w : Nat} (h : InI a (a + w) ps) {S : List (List Pn)} (nd : S.Nodup) (hS : ∀ q, q ∈ S → ∃ m, Fch ps m q) : S.length ≤ (w + 1) ^ ps.length := by
  have nv : ∀ q, q ∈ S → nvL q = nvL ps := fun q hq => let ⟨m, r⟩ := hS q hq; r.nv
  have := (nodup_plcs nd nv).length_le_of_subset (l₂ := allT a (w + 1) ps.length) fun t ht => by
    obtain ⟨q, hq, rfl⟩ := List.mem_map.mp ht
    obtain ⟨m, r⟩ := hS q hq
    have i := r.inI h
    have e : (plcs q).length = ps.length := by
      rw [plcs_len]
      have := congrArg List.length (nv q hq)
      unfold nvL at this
      rwa [List.length_map, List.length_map] at this
    rw [← e]
    exact mem_allT fun y hy => by have := i y hy; omega
  rwa [List.length_map, allT_len] at this
theorem fch_stop {ps : List Pn} {n : Nat} (h : ∀ q, ¬ Fch ps n q) : ∀ {m : Nat}, n ≤ m → ∀ q, ¬ Fch ps m q := by
  intro m
  induction m with
  | zero => intro hm q; have : n = 0 := by omega
            rw [← this]; exact h q
  | succ m ih =>
    intro hm q
    by_cases e : n = m + 1
    · rw [← e]; exact h q
    · intro ⟨q', h1, _⟩
      exact ih (by omega) q' h1
theorem nr_mono (x : Int) {a b : Int} (h : a ≤ b) : nrF x 1 a ≤ nrF x 1 b := by unfold nrF; split <;> split <;> omega
theorem first_is {q : List Pn} {m : Int} (h : m ∈ placesL q) (l : ∀ y, y ∈ placesL q → m ≤ y) : firstP q = m := by
  unfold firstP
  have s : (placesL q).Pairwise (· < ·) := uset_lt
  cases e : placesL q with
  | nil => rw [e] at h; cases h
  | cons a t =>
    rw [e] at h l s
    have h1 := l a List.mem_cons_self
    rcases List.mem_cons.mp h with z | z
    · exact z.symm
    · have := (List.pairwise_cons.mp s).1 m z
      show a = m
      omega
theorem last_is {q : List Pn} {m : Int} (h : m ∈ placesL q) (l : ∀ y, y ∈ placesL q → y ≤ m) : lastP q = m := by
  have ne : placesL q ≠ [] := fun e => by rw [e] at h; cases h
  have s : (placesL q).Pairwise (· < ·) := uset_lt
  have e : lastP q = (placesL q).getLast ne := by unfold lastP; rw [List.getLastD_eq_getLast?, List.getLast?_eq_some_getLast ne]; rfl
  have h1 := l _ (List.getLast_mem ne)
  rw [e]
  have h2 : m ≤ (placesL q).getLast ne := by
    have : placesL q = (placesL q).dropLast ++ [(placesL q).getLast ne] := (List.dropLast_concat_getLast ne).symm
    rw [this, List.mem_append] at h
    rcases h with z | z
    · rw [this, List.pairwise_append] at s
      have := s.2.2 m z _ (List.mem_singleton.mpr rfl)
      omega
    · rw [List.mem_singleton.mp z]; exact Int.le_refl _
  omega
theorem firstP_mem {q : List Pn} (h : placesL q ≠ []) : firstP q ∈ placesL q ∧ ∀ y, y ∈ placesL q → firstP q ≤ y := by
  unfold firstP
  have s : (placesL q).Pairwise (· < ·) := uset_lt
  cases e : placesL q with
  | nil => exact absurd e h
  | cons a t =>
    rw [e] at s
    refine ⟨List.mem_cons_self, fun y hy => ?_⟩
    show a ≤ y
    rcases List.mem_cons.mp hy with z | z
    · rw [z]; exact Int.le_refl _
    · have := (List.pairwise_cons.mp s).1 y z
      omega
theorem lastP_mem {q : List Pn} (h : placesL q ≠ []) : lastP q ∈ placesL q ∧ ∀ y, y ∈ placesL q → y ≤ lastP q := by
  have s : (placesL q).Pairwise (· < ·) := uset_lt
  have e : lastP q = (placesL q).getLast h := by unfold lastP; rw [List.getLastD_eq_getLast?, List.getLast?_eq_some_getLast h]; rfl
  rw [e]
  refine ⟨List.getLast_mem h, fun y hy => ?_⟩
  have : placesL q = (placesL q).dropLast ++ [(placesL q).getLast h] := (List.dropLast_concat_getLast h).symm
  rw [this, List.mem_append] at hy
  rcases hy with z | z
  · rw [this, List.pairwise_append] at s
    have := s.2.2 y z _ (List.mem_singleton.mpr rfl)
    omega
  · rw [List.mem_singleton.mp z]; exact Int.le_refl _
theorem mem_drawn_pl {q : List Pn} {x y : Int} : y ∈ placesL (drawnL q x 1) ↔ ∃ z, z ∈ placesL q ∧ y = nrF x 1 z := by
  rw [← mem_plcs, plcs_drawn, List.mem_map]
  exact ⟨fun ⟨z, a, b⟩ => ⟨z, mem_plcs.mp a, b.symm⟩, fun ⟨z, a, b⟩ => ⟨z, mem_plcs.mpr a, b.symm⟩⟩
theorem drawn_ne {q : List Pn} {x : Int} (h : placesL q ≠ []) : placesL (drawnL q x 1) ≠ [] := fun e => by
  have := mem_drawn_pl (x := x).mpr ⟨_, (firstP_mem h).1, rfl⟩
  rw [e] at this
  cases this
theorem first_drawn {q : List Pn} {x : Int} (h : placesL q ≠ []) : firstP (drawnL q x 1) = nrF x 1 (firstP q) :=
  first_is (mem_drawn_pl.mpr ⟨_, (firstP_mem h).1, rfl⟩) fun y hy => by
    obtain ⟨z, hz, rfl⟩ := mem_drawn_pl.mp hy
    exact nr_mono x ((firstP_mem h).2 z hz)
theorem last_drawn {q : List Pn} {x : Int} (h : placesL q ≠ []) : lastP (drawnL q x 1) = nrF x 1 (lastP q) :=
  last_is (mem_drawn_pl.mpr ⟨_, (lastP_mem h).1, rfl⟩) fun y hy => by
    obtain ⟨z, hz, rfl⟩ := mem_drawn_pl.mp hy
    exact nr_mono x ((lastP_mem h).2 z hz)
theorem apart_lt {q : List Pn} (t : togL q = false) : placesL q ≠ [] ∧ firstP q < lastP q := by
  obtain ⟨a, b, ha, hb, ne⟩ := tog_iff.mp t
  have ha := mem_plcs.mp ha
  have hb := mem_plcs.mp hb
  have n : placesL q ≠ [] := fun e => by rw [e] at ha; cases ha
  refine ⟨n, ?_⟩
  have h1 := (firstP_mem n).2
  have h2 := (lastP_mem n).2
  have := h1 a ha
  have := h1 b hb
  have := h2 a ha
  have := h2 b hb
  omega
theorem tog_same {q : List Pn} (t : togL q = true) {x : Int} (hx : x ∈ placesL q) : firstP q = x ∧ lastP q = x ∧ wdL q = [] := by
  have l := of_decide_eq_true t
  match e : placesL q, l, hx with
  | [a], _, hx =>
    cases List.mem_singleton.mp hx
    have g : gapsL q = [] := List.eq_nil_of_length_eq_zero (by rw [gapsL_length, e]; rfl)
    refine ⟨by unfold firstP; rw [e]; rfl, by unfold lastP; rw [e]; rfl, by unfold wdL; rw [g]; rfl⟩
theorem wd_wk (ps : List Pn) : wdL ps = (wkL ps).map (·.1) := by unfold wdL wkL; rw [List.map_map]; rfl
theorem mx_nonneg_le {l : List Int} {B : Int} (h0 : 0 ≤ B) (h : ∀ x, x ∈ l → x ≤ B) : mxL l ≤ B := by
  rcases mxL_mem l with e | e
  · omega
  · exact h _ e
theorem mx_drop (L : List WK) : mxL ((dropZ L).map (·.1)) = mxL (L.map (·.1)) := by
  induction L with
  | nil => rfl
  | cons g L ih =>
    have e : dropZ (g :: L) = (if 0 < g.1 then [g] else []) ++ dropZ L := rfl
    rw [e, List.map_append]
    by_cases h : 0 < g.1
    · rw [if_pos h]
      show max g.1 (mxL ((dropZ L).map (·.1))) = max g.1 (mxL (L.map (·.1)))
      rw [ih]
    · rw [if_neg h]
      show mxL ((dropZ L).map (·.1)) = max g.1 (mxL (L.map (·.1)))
      rw [ih]
      have := mxL_0 (L.map (·.1))
      omega
theorem wd_drawn_mx {ps : List Pn} {x : Int} (hx : x ∈ placesL ps) : mxL (wdL (drawnL ps x 1)) = mxL ((gapsL ps).map fun g => g.2.1 - nearG x g) := by
  rw [wd_wk, wk_drawn hx, mx_drop, List.map_map]
  rfl
theorem mx_call {ps : List Pn} {x : Int} (hx : x ∈ placesL ps) : mxL (wdL ps) - 1 ≤ mxL (wdL (drawnL ps x 1)) ∧ mxL (wdL (drawnL ps x 1)) ≤ mxL (wdL ps) := by
  rw [wd_drawn_mx hx]
  have n : ∀ g, nearG x g = 0 ∨ nearG x g = 1 := fun g => by unfold nearG; split <;> omega
  constructor
  · have := mxL_0 ((gapsL ps).map fun g => g.2.1 - nearG x g)
    rcases mxL_mem (wdL ps) with e | e
    · omega
    · obtain ⟨g, hg, e2⟩ := List.mem_map.mp e
      have := mxL_ge (List.mem_map.mpr ⟨g, hg, rfl⟩ : g.2.1 - nearG x g ∈ (gapsL ps).map fun g => g.2.1 - nearG x g)
      have := n g
      omega
  · refine mx_nonneg_le (mxL_0 _) fun y hy => ?_
    obtain ⟨g, hg, rfl⟩ := List.mem_map.mp hy
    have i : g.2.1 ∈ wdL ps := List.mem_map.mpr ⟨g, hg, rfl⟩
    have := mxL_ge i
    have := n g
    omega
/-- what calls did -/
theorem free_sound {ps : List Pn} (ne : placesL ps ≠ []) : ∀ {n : Nat} {q : List Pn}, Fch ps n q → placesL q ≠ [] ∧ ∃ a c B : Int, 0 ≤ a ∧ 0 ≤ c ∧ 0 ≤ B ∧ (n : Int) = a + c + B ∧ firstP q = firstP ps + a + B ∧ lastP q = lastP ps - c - B ∧ B ≤ (totF ps - mxL (wdL ps)) - (totF q - mxL (wdL q))
  | 0, q, h => by
    cases (show q = ps from h)
    exact ⟨ne, 0, 0, 0, by omega, by omega, by omega, by omega, by omega, by omega, by omega⟩
  | n + 1, q, h => by
    obtain ⟨q', h1, x, hx, rfl⟩ := h
    obtain ⟨ne', a, c, B, a0, c0, B0, e1, e2, e3, e4⟩ := free_sound ne h1
    obtain ⟨hx1, t⟩ := free_mem hx
    have lt := (apart_lt t).2
    have nd := drawn_ne (x := x) ne'
    have f := first_drawn (x := x) ne'
    have l := last_drawn (x := x) ne'
    have m := mx_call hx1
    have t1 := tot_eq ne'
    have t2 := tot_eq nd
    have b1 := (firstP_mem ne').2 x hx1
    have b2 := (lastP_mem ne').2 x hx1
    refine ⟨nd, ?_⟩
    by_cases c1 : x = lastP q'
    · have f' : nrF x 1 (firstP q') = firstP q' + 1 := by unfold nrF; rw [if_pos (by omega)]; omega
      have l' : nrF x 1 (lastP q') = lastP q' := by unfold nrF; rw [if_neg (by omega)]; omega
      exact ⟨a + 1, c, B, by omega, c0, B0, by omega, by omega, by omega, by omega⟩
    · by_cases c2 : x = firstP q'
      · have f' : nrF x 1 (firstP q') = firstP q' := by unfold nrF; rw [if_neg (by omega)]; omega
        have l' : nrF x 1 (lastP q') = lastP q' - 1 := by unfold nrF; rw [if_neg (by omega)]; omega
        exact ⟨a, c + 1, B, a0, by omega, B0, by omega, by omega, by omega, by omega⟩
      · have f' : nrF x 1 (firstP q') = firstP q' + 1 := by unfold nrF; rw [if_pos (by omega)]; omega
        have l' : nrF x 1 (lastP q') = lastP q' - 1 := by unfold nrF; rw [if_neg (by omega)]; omega
        exact ⟨a, c, B + 1, a0, c0, by omega, by omega, by omega, by omega, by omega⟩
/-- the crowd between two gaps -/
theorem wd_get {ps : List Pn} {k : Nat} (h : k + 1 < (placesL ps).length) : (wdL ps)[k]? = some ((placesL ps)[k + 1] - (placesL ps)[k]) := by
  unfold wdL
  rw [List.getElem?_map, gaps_get h]
  rfl
theorem between_max {ps : List Pn} (two : mxL (wdL ps) < totF ps) : ∃ k, ∃ h : k + 2 < (placesL ps).length, mxL (wdL ps) = (placesL ps)[k + 1] - (placesL ps)[k] ∨ mxL (wdL ps) = (placesL ps)[k + 2] - (placesL ps)[k + 1] := by
  have wl : (wdL ps).length = (placesL ps).length - 1 := by unfold wdL; rw [List.length_map, gapsL_length]
  have l2 : 2 ≤ (wdL ps).length := by
    match e : wdL ps with
    | [] => unfold totF at two; rw [e] at two; exact absurd two (by decide)
    | [w] =>
      unfold totF at two
      rw [e] at two
      have : mxL [w] = max w 0 := rfl
      have : ([w] : List Int).sum = w := by simp
      omega
    | _ :: _ :: _ => simp
  have m : mxL (wdL ps) ∈ wdL ps := by
    rcases mxL_mem (wdL ps) with e | e
    · have : ∃ w, w ∈ wdL ps := by
        cases h : wdL ps with
        | nil => rw [h] at l2; simp at l2
        | cons w _ => exact ⟨w, List.mem_cons_self⟩
      obtain ⟨w, hw⟩ := this
      have := wd_pos hw
      have := mxL_ge hw
      omega
    · exact e
  obtain ⟨i, hi, e⟩ := List.getElem_of_mem m
  by_cases c : i + 1 < (wdL ps).length
  · refine ⟨i, by omega, .inl ?_⟩
    have := wd_get (ps := ps) (k := i) (by omega)
    rw [List.getElem?_eq_getElem hi, e] at this
    exact Option.some.inj this
  · have i1 : 1 ≤ i := by omega
    refine ⟨i - 1, by omega, .inr ?_⟩
    have := wd_get (ps := ps) (k := i) (by omega)
    rw [List.getElem?_eq_getElem hi, e] at this
    have := Option.some.inj this
    simp only [show i - 1 + 2 = i + 1 by omega, show i - 1 + 1 = i by omega]
    exact this
theorem sum_ge_two {l : List Int} (h : ∀ x, x ∈ l → 0 < x) {i j : Nat} {a b : Int} (hij : i < j) (hi : l[i]? = some a) (hj : l[j]? = some b) : a + b ≤ l.sum := by
  induction l generalizing i j with
  | nil => simp at hi
  | cons x l ih =>
    have hl := fun y hy => h y (List.mem_cons_of_mem x hy)
    have nn := (sum_nonneg (l := l) fun y hy => Int.le_of_lt (hl y hy)).1
    cases j with
    | zero => omega
    | succ j =>
      rw [List.getElem?_cons_succ] at hj
      rw [List.sum_cons]
      cases i with
      | zero =>
        cases hi
        have : b ∈ l := List.mem_of_getElem? hj
        have : b ≤ l.sum := by
          have m := (sum_nonneg (l := l) fun y hy => Int.le_of_lt (hl y hy)).2
          have := mxL_ge this
          omega
        omega
      | succ i =>
        rw [List.getElem?_cons_succ] at hi
        have := ih hl (by omega) hi hj
        have := h x List.mem_cons_self
        omega
theorem sum_ge_three {l : List Int} (h : ∀ x, x ∈ l → 0 < x) {i j m : Nat} {a b d : Int} (ij : i ≠ j) (im : i ≠ m) (jm : j ≠ m) (hi : l[i]? = some a) (hj : l[j]? = some b) (hm : l[m]? = some d) : a + b + d ≤ l.sum := by
  induction l generalizing i j m with
  | nil => simp at hi
  | cons x l ih =>
    have hl := fun y hy => h y (List.mem_cons_of_mem x hy)
    have two : ∀ (i j : Nat) (a b : Int), i ≠ j → l[i]? = some a → l[j]? = some b → a + b ≤ l.sum := fun i j a b ne hi hj => by
      rcases Nat.lt_or_gt_of_ne ne with z | z
      · exact sum_ge_two hl z hi hj
      · have := sum_ge_two hl z hj hi
        omega
    rw [List.sum_cons]
    cases i with
    | zero =>
      cases hi
      cases j with
      | zero => exact absurd rfl ij
      | succ j =>
        cases m with
        | zero => exact absurd rfl im
        | succ m =>
          rw [List.getElem?_cons_succ] at hj hm
          have := two j m b d (by omega) hj hm
          omega
    | succ i =>
      rw [List.getElem?_cons_succ] at hi
      cases j with
      | zero =>
        cases hj
        cases m with
        | zero => exact absurd rfl jm
        | succ m =>
          rw [List.getElem?_cons_succ] at hm
          have := two i m a d (by omega) hi hm
          omega
      | succ j =>
        rw [List.getElem?_cons_succ] at hj
        cases m with
        | zero =>
          cases hm
          have := two i j a b (by omega) hi hj
          omega
        | succ m =>
          rw [List.getElem?_cons_succ] at hm
          have := ih hl (i := i) (j := j) (m := m) (by omega) (by omega) (by omega) hi hj hm
          have := h x List.mem_cons_self
          omega
/-- a call between at the widest gap: it becomes narrower, or another one is as wide -/
theorem mx_between {ps : List Pn} {k : Nat} (h : k + 2 < (placesL ps).length) (e : mxL (wdL ps) = (placesL ps)[k + 1] - (placesL ps)[k] ∨ mxL (wdL ps) = (placesL ps)[k + 2] - (placesL ps)[k + 1]) :
    mxL (wdL (drawnL ps ((placesL ps)[k + 1]) 1)) ≤ mxL (wdL ps) - 1 ∨ 2 * mxL (wdL ps) + 1 ≤ totF ps := by
  have hk : k + 1 < (placesL ps).length := by omega
  have hx : (placesL ps)[k + 1] ∈ placesL ps := List.getElem_mem hk
  have g1 := wd_get (ps := ps) (k := k) (by omega)
  have g2 : (wdL ps)[k + 1]? = some ((placesL ps)[k + 2] - (placesL ps)[k + 1]) := wd_get (ps := ps) (k := k + 1) h
  have pos : ∀ x, x ∈ wdL ps → 0 < x := fun x hx => wd_pos hx
  have p1 := pos _ (List.mem_of_getElem? g1)
  have p2 := pos _ (List.mem_of_getElem? g2)
  rw [wd_drawn_mx hx]
  by_cases c : ∀ g, g ∈ gapsL ps → g.2.1 - nearG ((placesL ps)[k + 1]) g ≤ mxL (wdL ps) - 1
  · exact .inl (mx_nonneg_le (by omega) fun y hy => by
      obtain ⟨g, hg, rfl⟩ := List.mem_map.mp hy
      exact c g hg)
  · right
    obtain ⟨g, hc⟩ := Classical.not_forall.mp c
    obtain ⟨hg, hc⟩ := Classical.not_imp.mp hc
    obtain ⟨i, hi, eg⟩ := List.getElem_of_mem hg
    rw [gapsL_length] at hi
    have gi := gaps_get (ps := ps) (k := i) (by omega)
    rw [List.getElem?_eq_getElem (by rw [gapsL_length]; omega), eg, Option.some.injEq] at gi
    have wi := wd_get (ps := ps) (k := i) (by omega)
    have le := mxL_ge (List.mem_of_getElem? wi)
    rw [gi] at hc
    have na := near_at (ps := ps) (k := k + 1) (i := i) hk (by omega)
    rw [na] at hc
    have hc : ¬ ((placesL ps)[i + 1] - (placesL ps)[i] - (if k + 1 = i ∨ k + 1 = i + 1 then 1 else 0) ≤ mxL (wdL ps) - 1) := hc
    by_cases z : k + 1 = i ∨ k + 1 = i + 1
    · rw [if_pos z] at hc
      omega
    · rw [if_neg z] at hc
      have := sum_ge_three pos (i := k) (j := k + 1) (m := i) (by omega) (by omega) (by omega) g1 g2 wi
      unfold totF
      rcases e with e | e
      · omega
      · omega
/-- any share of calls between, if there are few enough -/
theorem free_ex : ∀ (N : Nat) (q : List Pn), placesL q ≠ [] → totF q = N → ∀ a c B : Int, 0 ≤ a → 0 ≤ c → 0 ≤ B → a + c + 2 * B = N → B ≤ totF q - mxL (wdL q) →
    ∃ q', Fch q (a + c + B).toNat q' ∧ togL q' = true ∧ firstP q' = firstP q + a + B ∧ placesL q' ≠ [] := by
  intro N
  induction N using Nat.strongRecOn with
  | ind N ih =>
  intro q ne tw a c B a0 c0 B0 eq le
  have te := tot_eq ne
  cases t : togL q with
  | true =>
    obtain ⟨e1, e2, e3⟩ := tog_same t (firstP_mem ne).1
    have : N = 0 := by omega
    refine ⟨q, ?_, t, by omega, ne⟩
    rw [show (a + c + B).toNat = 0 by omega]
    rfl
  | false =>
    have lt := (apart_lt t).2
    have go : ∀ x, x ∈ placesL q → ∀ a' c' B' : Int, 0 ≤ a' → 0 ≤ c' → 0 ≤ B' → a' + c' + B' + 1 = a + c + B → a' + c' + 2 * B' = totF (drawnL q x 1) → B' ≤ totF (drawnL q x 1) - mxL (wdL (drawnL q x 1)) → firstP (drawnL q x 1) + a' + B' = firstP q + a + B → totF (drawnL q x 1) < N → ∃ q', Fch q (a + c + B).toNat q' ∧ togL q' = true ∧ firstP q' = firstP q + a + B ∧ placesL q' ≠ [] := fun x hx a' c' B' h1 h2 h3 h4 h5 h6 h7 h8 => by
      have nn := (free_facts (drawnL q x 1)).1
      obtain ⟨q', r1, r2, r3, r4⟩ := ih (totF (drawnL q x 1)).toNat (by omega) (drawnL q x 1) (drawn_ne ne) (by omega) a' c' B' h1 h2 h3 (by omega) h6
      refine ⟨q', ?_, r2, by omega, r4⟩
      rw [show (a + c + B).toNat = (a' + c' + B').toNat + 1 by omega]
      exact Fch.cons (mem_free hx t) r1
    have f := fun x => first_drawn (x := x) ne
    have l := fun x => last_drawn (x := x) ne
    have td := fun x => tot_eq (drawn_ne (x := x) ne)
    by_cases hB : 0 < B
    · obtain ⟨k, hk, hm⟩ := between_max (ps := q) (by omega)
      have hx : (placesL q)[k + 1] ∈ placesL q := List.getElem_mem _
      have s : (placesL q).Pairwise (· < ·) := uset_lt
      have o1 := List.pairwise_iff_getElem.mp s k (k + 1) (by omega) (by omega) (by omega)
      have o2 := List.pairwise_iff_getElem.mp s (k + 1) (k + 2) (by omega) (by omega) (by omega)
      have b1 := (firstP_mem ne).2 (placesL q)[k] (List.getElem_mem _)
      have b2 := (lastP_mem ne).2 (placesL q)[k + 2] (List.getElem_mem _)
      have f' : nrF ((placesL q)[k + 1]) 1 (firstP q) = firstP q + 1 := by unfold nrF; rw [if_pos (by omega)]; omega
      have l' : nrF ((placesL q)[k + 1]) 1 (lastP q) = lastP q - 1 := by unfold nrF; rw [if_neg (by omega)]; omega
      have f1 := f ((placesL q)[k + 1])
      have l1 := l ((placesL q)[k + 1])
      have t1 := td ((placesL q)[k + 1])
      have m1 := mx_call hx
      refine go _ hx a c (B - 1) a0 c0 (by omega) (by omega) (by omega) ?_ (by omega) (by omega)
      rcases mx_between hk hm with z | z
      · omega
      · omega
    · have B00 : B = 0 := by omega
      by_cases ha : 0 < a
      · have hx := (lastP_mem ne).1
        have f' : nrF (lastP q) 1 (firstP q) = firstP q + 1 := by unfold nrF; rw [if_pos (by omega)]; omega
        have l' : nrF (lastP q) 1 (lastP q) = lastP q := by unfold nrF; rw [if_neg (by omega)]; omega
        have f1 := f (lastP q)
        have l1 := l (lastP q)
        have t1 := td (lastP q)
        have ff := (free_facts (drawnL q (lastP q) 1)).2.2
        exact go _ hx (a - 1) c B (by omega) c0 B0 (by omega) (by omega) (by omega) (by omega) (by omega)
      · have hx := (firstP_mem ne).1
        have f' : nrF (firstP q) 1 (firstP q) = firstP q := by unfold nrF; rw [if_neg (by omega)]; omega
        have l' : nrF (firstP q) 1 (lastP q) = lastP q - 1 := by unfold nrF; rw [if_neg (by omega)]; omega
        have f1 := f (firstP q)
        have l1 := l (firstP q)
        have t1 := td (firstP q)
        have ff := (free_facts (drawnL q (firstP q) 1)).2.2
        exact go _ hx a (c - 1) B a0 (by omega) B0 (by omega) (by omega) (by omega) (by omega) (by omega)
/-- all can be together at x behind m calls -/
def AtF (ps : List Pn) (m : Nat) (x : Int) : Prop := ∃ q, Fch ps m q ∧ togL q = true ∧ x ∈ placesL q
theorem at_iff {ps : List Pn} (ne : placesL ps ≠ []) (m : Nat) (x : Int) : AtF ps m x ↔ totF ps - mostB ps x ≤ m ∧ (m : Int) ≤ totF ps := by
  have te := tot_eq ne
  constructor
  · rintro ⟨q, r, t, hx⟩
    obtain ⟨nq, a, c, B, a0, c0, B0, e1, e2, e3, e4⟩ := free_sound ne r
    obtain ⟨h1, h2, h3⟩ := tog_same t hx
    have tq := tot_eq nq
    have mq : mxL (wdL q) = 0 := by rw [h3]; rfl
    unfold mostB
    omega
  · rintro ⟨h1, h2⟩
    unfold mostB at h1
    obtain ⟨q, r, t, f, nq⟩ := free_ex (totF ps).toNat ps ne (by omega) (x - firstP ps - (totF ps - m)) (lastP ps - x - (totF ps - m)) (totF ps - m) (by omega) (by omega) (by omega) (by omega) (by omega)
    refine ⟨q, ?_, t, ?_⟩
    · rw [show (x - firstP ps - (totF ps - m) + (lastP ps - x - (totF ps - m)) + (totF ps - m)).toNat = m by omega] at r
      exact r
    · have := (firstP_mem nq).1
      rw [f] at this
      rw [show x = firstP ps + (x - firstP ps - (totF ps - m)) + (totF ps - m) by omega]
      exact this
end L2.DL
set_option Elab.async false
set_option linter.all false
set_option autoImplicit false
set_option maxRecDepth 100000
set_option maxHeartbeats 1000000
namespace L2.DL
open PySem PySem.Spec PyProof.Rows
structure Z3It (h : Heap) (N l1 l2 l3 : Nat) (k : Nat) : Prop where
  a : h.IsListIter N l1 k
  b : h.IsListIter (N + 1) l2 k
  c : h.IsListIter (N + 2) l3 k
  t : IsTupOf3 h (N + 3) (.ref N) (.ref (N + 1)) (.ref (N + 2))
theorem Z3It.at {h h' : Heap} {N l1 l2 l3 : Nat} {k : Nat} (x : Z3It h N l1 l2 l3 k) (e : ∀ (c : Nat) o, N ≤ c → c ≤ N + 3 → h.get? c = some o → h'.get? c = some o) : Z3It h' N l1 l2 l3 k :=
  ⟨x.a.at fun o q => e _ o (Nat.le_refl _) (by first | omega | (show @Ne Nat _ _; omega)) q, x.b.at fun o q => e _ o (by first | omega | (show @Ne Nat _ _; omega)) (by first | omega | (show @Ne Nat _ _; omega)) q, x.c.at fun o q => e _ o (by first | omega | (show @Ne Nat _ _; omega)) (by first | omega | (show @Ne Nat _ _; omega)) q, e _ _ (by first | omega | (show @Ne Nat _ _; omega)) (by first | omega | (show @Ne Nat _ _; omega)) x.t⟩
section
variable {prog : Program} {w : World} {A : Around} {E : Value → Shared → Prop} {s : Shared} {N T l1 l2 l3 : Nat} {f : Bool} {oT : Obj} {k : Nat} {xs ys us : Array Value}
/-- how a zip of three lists stands: nothing given out yet, or the tuple T given out last and kept -/
def Z3St (h : Heap) (N l1 l2 l3 S : Nat) (k : Nat) : Prop :=
  Z3It h N l1 l2 l3 k ∧ ((IsZip h (N + 5) (N + 3) (N + 4) .none ∧ ∃ a b c, IsTupOf3 h (N + 4) a b c) ∨ ∃ T f oT, IsZipHeld h (N + 5) (N + 3) (N + 4) T f ∧ h.get? T = some oT ∧ N + 5 < T ∧ T ≠ S)
theorem Z3St.keep {h h' : Heap} {S : Nat} (x : Z3St h N l1 l2 l3 S k) (hS : N + 5 < S) (e : ∀ (c : Nat) o, c ≠ S → h.get? c = some o → h'.get? c = some o) : Z3St h' N l1 l2 l3 S k := by
  obtain ⟨i, r⟩ := x
  refine ⟨i.at fun c o _ h2 q => e c o (by first | omega | (show @Ne Nat _ _; omega)) q, ?_⟩
  rcases r with ⟨z, a, b, c, t⟩ | ⟨T, f, oT, z, t, h1, h2⟩
  · exact .inl ⟨e _ _ (by first | omega | (show @Ne Nat _ _; omega)) z, a, b, c, e _ _ (by first | omega | (show @Ne Nat _ _; omega)) t⟩
  · exact .inr ⟨T, f, oT, e _ _ (by first | omega | (show @Ne Nat _ _; omega)) z, e _ _ h2 t, h1, h2⟩
end
/-- the tuples laid so far -/
structure Z3G (xs ys us : Array Value) (lo : Nat) (h : Heap) (as : List Nat) : Prop where
  rise : as.Pairwise (· < ·)
  above : ∀ a ∈ as, lo < a
  tups : ∀ (j : Nat) (a : Nat), as[j]? = some a → ∃ x y u, xs[j]? = some x ∧ ys[j]? = some y ∧ us[j]? = some u ∧ IsTupOf3 h a x y u
theorem Z3G.there {xs ys us : Array Value} {lo : Nat} {h : Heap} {as : List Nat} (g : Z3G xs ys us lo h as) {a : Nat} (ha : a ∈ as) : a < h.objs.size := by
  obtain ⟨j, hj⟩ := List.mem_iff_getElem?.mp ha
  obtain ⟨_, _, _, _, _, _, e⟩ := g.tups j a hj
  exact Heap.lt_size e
def tri3 : List D → List D → List D → List D
  | x :: xs, y :: ys, u :: us => .tup [x, y, u] :: tri3 xs ys us
  | _, _, _ => []
def dLz3 (ds : List D) (Q : Res → Prop) : Prop := ∃ xs ys us, ds = [.lst xs, .lst ys, .lst us] ∧ Q (.own (tri3 xs ys us))
theorem lz3R {xs ys us : List D} {Q : Res → Prop} : dLz3 [.lst xs, .lst ys, .lst us] Q = Q (.own (tri3 xs ys us)) := propext ⟨fun ⟨_, _, _, e, h⟩ => by cases e; exact h, fun h => ⟨xs, ys, us, rfl, h⟩⟩
def dFz (t : DTE) : DTE := fun ρ Q => t ρ fun r ρ' => Q (.v (fz r)) ρ'
theorem fzR {t : DTE} {ρ : Rho} {Q : Res → Rho → Prop} : dFz t ρ Q = t ρ fun r ρ' => Q (.v (fz r)) ρ' := rfl
end L2.DL
set_option Elab.async false
set_option linter.all false
set_option autoImplicit false
set_option maxRecDepth 100000
set_option maxHeartbeats 1000000
namespace L2.DL
open PySem PySem.Spec PyProof.Rows
end L2.DL
set_option Elab.async false
set_option linter.all false
set_option autoImplicit false
set_option maxRecDepth 100000
set_option maxHeartbeats 1000000
namespace L2.DL
open PySem PySem.Spec PyProof.Rows
/-- what a class with an own == must have -/
structure EqM (K : PySem.W.Frag) (C f : Addr) : Prop where
  eq : PySem.W.findIn K (.ref C) "__eq__" = some (some (.ref f))
  fn : PySem.W.isFn K (.ref f) = true
  ne : PySem.W.findIn K (.ref C) "__ne__" = some (some (.builtin "object.__ne__"))
  ob : PySem.W.subIn K (.ref C) (.type "object") = some true
structure CalleeQ (P : Program) (w : World) (K : PySem.W.Frag) (mg : Str → Option Value) (base : Heap) (k : Nat) (C : Addr) (sp : DSp) : Prop where
  ex : ∃ (f : Addr) (fd : FuncData) (ps : List Str), EqM K C f ∧ FnG P w K mg base k f fd ps (spD K sp) ∧ Binds K fd ps []
theorem CalleeQ.mono {P : Program} {w : World} {K : PySem.W.Frag} {mg : Str → Option Value} {base : Heap} {j k : Nat} {C : Addr} {sp : DSp} (G : CalleeQ P w K mg base j C sp) (h : j ≤ k) : CalleeQ P w K mg base k C sp :=
  let ⟨f, fd, ps, a, b, d⟩ := G.ex
  ⟨f, fd, ps, a, b.mono h, d⟩
def dEqO (C : Addr) (neg : Bool) (sp : DSp) (XD : DX) (ta tb : DTE) : DTE := fun ρ Q => ta ρ fun r1 ρ1 => tb ρ1 fun r2 ρ2 => ∃ fs gs, fz r1 = .ins C fs ∧ fz r2 = .ins C gs ∧ sp [.ins C fs, .ins C gs] (fun r => ∃ b, r = .v (.bl b) ∧ Q (.v (.bl (neg != b))) ρ2) XD
end L2.DL
set_option Elab.async false
set_option linter.all false
set_option autoImplicit false
set_option maxRecDepth 100000
set_option maxHeartbeats 1000000
namespace L2.DL
open PySem PySem.Spec PyProof.Rows
/-- the values of some expressions, each a new list -/
def dOwnL : List DTE → Rho → (List D → Rho → Prop) → Prop
  | [], ρ, Q => Q [] ρ
  | t :: ts, ρ, Q => t ρ fun r ρ1 => ∃ ys, r = .ow (.lst ys) ∧ dOwnL ts ρ1 fun ds ρ2 => Q (.lst ys :: ds) ρ2
inductive AloneL (c : C) (σ : L2.St) (Hb F H : Hp) (ρ : Rho) : List Addr → List D → Prop
  | nil : AloneL c σ Hb F H ρ [] []
  | cons {p : Addr} {ps : List Addr} {ys dss : List D} {vs : List V} : kn Hb p = none → p ∉ ps → H p = some (.lst vs) → F p = none → Reps c.K c.S F vs ys → ¬ inS c.S p → ¬ Own σ ρ p → kn c.H0 p = none → AloneL c σ Hb F H ρ ps dss → AloneL c σ Hb F H ρ (p :: ps) (.lst ys :: dss)
section
variable {c : C} {σ : L2.St} {Hb F H F' H' : Hp} {ρ ρ' : Rho} {X : Cx}
theorem AloneL.len {ps : List Addr} {dss : List D} (h : AloneL c σ Hb F H ρ ps dss) : ps.length = dss.length := by
  induction h with
  | nil => rfl
  | cons _ _ _ _ _ _ _ _ _ ih => rw [List.length_cons, List.length_cons, ih]
theorem AloneL.at {ps : List Addr} {dss : List D} (h : AloneL c σ Hb F H ρ ps dss) {p : Addr} (hp : p ∈ ps) : F p = none ∧ ¬ inS c.S p ∧ ¬ Own σ ρ p ∧ kn c.H0 p = none ∧ ∃ vs ys, H p = some (.lst vs) ∧ Reps c.K c.S F vs ys ∧ D.lst ys ∈ dss := by
  induction h with
  | nil => cases hp
  | cons a b d e f g i k _ ih =>
    rcases List.mem_cons.mp hp with rfl | hp
    · exact ⟨e, g, i, k, _, _, d, f, List.mem_cons_self⟩
    · obtain ⟨a1, a2, a3, a4, vs, ys, a5, a6, a7⟩ := ih hp
      exact ⟨a1, a2, a3, a4, vs, ys, a5, a6, List.mem_cons_of_mem _ a7⟩
end
def dNest (i j : Nat) (ts : List DTE) (tt : DTT) : DTS := fun E ρ => i < ρ.length ∧ j < ρ.length ∧ dOwnL ts ρ fun dss ρ1 => dss.length ≤ sizeLine ∧ tt ((ρ1.set i (Sl.d (.lst dss))).map hideO) fun b _ => if b = true then E.rt (.v (.bl false)) else (∀ ys, D.lst ys ∈ dss → ys.length < sizeLine) ∧ E.nx ((ρ1.set i .un).set j .un)
end L2.DL
set_option Elab.async false
set_option linter.all false
set_option autoImplicit false
set_option maxRecDepth 100000
set_option maxHeartbeats 1000000
namespace L2.DL
open PySem PySem.Spec PyProof.Rows
def dThenFz (i : Nat) (t : DTS) : DTS := fun E ρ => t { E with nx := fun ρ' => dVar i ρ' fun _ ρ'' => E.nx ρ'' } ρ
end L2.DL
set_option Elab.async false
set_option linter.all false
set_option autoImplicit false
set_option maxRecDepth 100000
set_option maxHeartbeats 1000000
namespace L2.DL
open PySem PySem.Spec PyProof.Rows
/-- xs[::-1] -/
def dRevL (te : DTE) : DTE := fun ρ Q => te ρ fun r ρ1 => ∃ xs, fz r = .lst xs ∧ Q (.own xs.reverse) ρ1
def dOpV (dr : D → D → (Res → Prop) → Prop) (i : Nat) (tb : DTE) : DTE := fun ρ Q => (∃ xs, ρ[i]? = some (Sl.o xs)) ∧ tb ρ fun r2 ρ2 => ∃ xs, ρ2[i]? = some (Sl.o xs) ∧ dr (unAt xs) (fz r2) fun r => scal1 r = true ∧ Q r ρ2
end L2.DL
set_option Elab.async false
set_option linter.all false
set_option autoImplicit false
set_option maxRecDepth 100000
set_option maxHeartbeats 1000000
namespace L2.DL
open PySem PySem.Spec PyProof.Rows
/-- d.get(k, x) of a name's dict -/
def dGetS (i : Nat) (ty tx : DTE) : DTE := fun ρ Q => (∃ kds, ρ[i]? = some (Sl.o (.dct kds))) ∧ ty ρ fun r2 ρ2 => ∃ k, keyOf (fz r2) = some k ∧ tx ρ2 fun r3 ρ3 => ∃ kds, ρ3[i]? = some (Sl.o (.dct kds)) ∧ Q (.v ((valD kds k).getD (fz r3))) ρ3
/-- locked for good -/
def dLkI (te : DTE) : DTE := fun ρ Q => te ρ fun r ρ1 => ∃ kds, r = .ow (.dct kds) ∧ Q (.v (.dcI kds)) ρ1
def dItKI (te : DTE) : DTI := fun ρ Q => te ρ fun r ρ1 => ∃ kds, fz r = .dcI kds ∧ Q (kds.map fun kv => kD kv.1) ρ1
def dIxI (td ty : DTE) : DTE := fun ρ Q => td ρ fun r ρ1 => ty ρ1 fun r2 ρ2 => ∃ kds k d, fz r = .dcI kds ∧ keyOf (fz r2) = some k ∧ valD kds k = some d ∧ Q (.v d) ρ2
def dGetI (td ty tx : DTE) : DTE := fun ρ Q => td ρ fun r ρ1 => ∃ kds, fz r = .dcI kds ∧ ty ρ1 fun r2 ρ2 => ∃ k, keyOf (fz r2) = some k ∧ tx ρ2 fun r3 ρ3 => Q (.v ((valD kds k).getD (fz r3))) ρ3
section
variable {c : C} {X : Cx} {e o ix f tg : Expr} {te td ty tx : DTE} {i : Nat} {pos apos cpos : Pos}
theorem de_getS (hu : X.A.units + 1 < cLine) (ho : PE X o (tVar i)) (he : PE X e (liftE c ty)) (hf : PE X f (liftE c tx))
    (m : M2 X o "get" apos e f cpos := by exact ⟨by rfl, by rfl, by rfl, by rfl⟩) : PE X (.Call (.Attribute o "get" apos) [e, f] [] cpos) (liftE c (dGetS i ty tx)) :=
  PE_imp (pe_dget2 hu ho (froze he) (froze hf) m) fun σ H Q ⟨F, ρ, QD, s, ⟨⟨kds0, hi0⟩, h⟩, k⟩ => by
    obtain ⟨a, ob, e1, e2, e3, e4, e5, e6⟩ := s.ow i _ hi0
    have isD : IsD H a := by
      cases e4 with
      | dct _ _ => exact .inl ⟨_, .inl e2⟩
    refine ⟨.ref a, e1, a, rfl, isD, F, ρ, (fun d2 ρ2 => ∃ k, keyOf d2 = some k ∧ tx ρ2 fun r3 ρ3 => ∃ kds, ρ3[i]? = some (Sl.o (.dct kds)) ∧ QD (.v ((valD kds k).getD (fz r3))) ρ3), s, h, fun y H2 F2 ρ2 d2 s2 st2 ry ⟨k0, hk, q2⟩ => ?_⟩
    refine ⟨F2, ρ2, (fun d3 ρ3 => ∃ kds, ρ3[i]? = some (Sl.o (.dct kds)) ∧ QD (.v ((valD kds k0).getD d3)) ρ3), s2, q2, fun z H3 F3 ρ3 d3 s3 st3 rz ⟨kds, hi3, q3⟩ => ?_⟩
    obtain ⟨p', ob', g1, g2, g3, g4, g5, g6⟩ := s3.ow i _ hi3
    rw [e1] at g1
    cases g1
    cases g4 with
    | dct hk1 hr1 =>
      obtain ⟨v1, v2⟩ := val_rep (k := k0) hk1 hr1
      refine ⟨_, by rw [rep_keyOf ry hk]; exact DGet.k g2, ?_⟩
      cases e : valD kds k0 with
      | none =>
        rw [v1 e]
        rw [e] at q3
        exact k z H3 F3 ρ3 (.v d3) s3 (st2.trans st3) rz trivial q3
      | some d' =>
        obtain ⟨w, hw, rw'⟩ := v2 d' e
        rw [hw]
        rw [e] at q3
        exact k w H3 F3 ρ3 (.v d') s3 (st2.trans st3) rw' trivial q3
theorem keys_lenI {α β : Type} {xs : List (Key × α)} {ys : List (Key × β)} (h : xs.map (·.1) = ys.map (·.1)) : xs.length = ys.length := by
  have := congrArg List.length h
  rwa [List.length_map, List.length_map] at this
theorem walk_keysI {K : PySem.W.Frag} {S : Src} {F1 : Hp} {a : Addr} {ob : Obj} {kvs : List (Key × V)} {kds : List (Key × D)} (h : F1 a = some (.frz ob (.dK kvs))) (hk : kvs.map (·.1) = kds.map (·.1)) : Walk K S (Itk a ob kvs) F1 (kds.map fun kv => kD kv.1) where
  go := fun F H i d l1 l2 hd => by
    have hH := l2 _ _ (l1 _ _ h)
    have e0 : (kds.map fun kv => kD kv.1) = kvs.map fun kv => kD kv.1 := by
      have := congrArg (List.map kD) hk
      rw [List.map_map, List.map_map] at this
      exact this.symm
    rw [e0, List.getElem?_map] at hd
    cases e : kvs[i]? with
    | none => rw [e] at hd; cases hd
    | some kv =>
      rw [e] at hd
      cases hd
      refine ⟨⟨hH, (List.getElem?_eq_some_iff.mp e).1⟩, fun x H' y => ?_⟩
      obtain ⟨e1, k, v, e2, e3⟩ := y
      subst e1
      rw [e] at e2
      cases e2
      rw [e3]
      exact ⟨F, .refl l2, rep_key k⟩
  stop := fun F H i l1 l2 hl => ⟨l2 _ _ (l1 _ _ h), by rw [List.length_map] at hl; rw [keys_lenI hk]; exact hl⟩
theorem di_keysI (he : PE X e (liftE c te)) : PI X tg e (liftI c (dItKI te)) :=
  PI_imp (pi_keys (froze he)) fun σ H R ⟨F, ρ, QD, s, h, k⟩ =>
    ⟨F, ρ, (fun d ρ1 => ∃ kds : List (Key × D), d = .dcI kds ∧ QD (kds.map fun kv : Key × D => kD kv.1) ρ1), s, h, fun v H1 F1 ρ1 d s1 st1 rv ⟨kds, hd, q⟩ => by
      subst hd
      cases rv with
      | dcI h1 h2 h3 => exact ⟨_, _, rfl, .inl ⟨_, s1.sub _ _ h1, k _ H1 F1 ρ1 _ s1 st1 (walk_keysI h1 h2) q⟩⟩⟩
theorem de_lkI (he : PE X e (liftE c te)) : PE X e (liftE c (dLkI te)) :=
  PE_imp (pe_lockP he) fun σ H Q ⟨F, ρ, QD, s, h, k⟩ =>
    ⟨F, ρ, (fun r ρ1 => ∃ kds, r = .ow (.dct kds) ∧ QD (.v (.dcI kds)) ρ1), s, h, fun v H1 F1 ρ1 r s1 st1 rr nw ⟨kds, er, q⟩ => by
      subst er
      obtain ⟨p, vs, rfl, h1, h2, h3, h4, h5, h6⟩ := rr
      obtain ⟨p', ep, n0⟩ := nw
      cases ep
      cases h3 with
      | dct hk hr =>
        rename_i kvs
        refine ⟨p, _, rfl, h1, trivial, fun od => ?_⟩
        have le : Le F1 (upd F1 p (.frz od (.dK kvs))) := fun q o z => by rw [upd_ne (ne_of_none z h2)]; exact z
        have s2 := s1.over (o := .frz od (.dK kvs)) h2 h4 h5 h6 h1 ⟨fun _ z => (by cases z), fun _ _ z => (by unfold LamX.CodeO at z; cases z)⟩
        refine k (.ref p) (upd H1 p (.frz od (.dK kvs))) (upd F1 p (.frz od (.dK kvs))) ρ1 (.v (.dcI kds)) ⟨fun q o z => ?_, s2.f0.trans le, s2.h0, fun q z => ?_, s2.src, fun q z => ?_, s2.len, fun i d z => ?_, fun i ys z => ?_, s2.dis⟩ ⟨st1.ff.trans le, fun q o z1 z2 z3 => ?_, fun q z => ?_, st1.oo, fun q z => ?_⟩ (.dcI upd_same hk (hr.mono le)) trivial q
        · by_cases hq : q = p
          · subst hq; rw [upd_same] at z; cases z; exact kn_of upd_same
          · rw [upd_ne hq] at z; exact s2.sub' q o z
        · by_cases hq : q = p
          · subst hq; exact .inr (.inl h6)
          · rw [upd_ne hq] at z; exact s2.n0 q z
        · by_cases hq : q = p
          · subst hq; exact absurd z h4
          · rw [upd_ne hq]; exact s2.srcF q z
        · obtain ⟨w, a, b⟩ := s2.sl i d z
          exact ⟨w, a, b.mono le⟩
        · obtain ⟨q, ws, a, b, d, e, f, g⟩ := s2.ow i ys z
          have hq : q ≠ p := fun y => h5 ⟨i, ys, z, by rw [a, y]⟩
          exact ⟨q, ws, a, b, by rw [upd_ne hq]; exact d, HRep.mono le e, f, g⟩
        · have hq : q ≠ p := fun y => by rw [y, n0] at z1; cases z1
          rw [upd_ne hq]; exact st1.hh q o z1 z2 z3
        · by_cases hq : q = p
          · subst hq; exact .inr (.inl (.inl n0))
          · rw [upd_ne hq] at z; exact st1.nn q z
        · by_cases hq : q = p
          · rw [hq, n0] at z; exact absurd rfl z
          · rw [kn_same (upd_ne hq)]; exact st1.tr q z⟩
theorem de_ixI (hu : X.A.units + 1 < cLine) (ho : PE X o (liftE c td)) (hi : PE X ix (liftE c ty)) (hs : NoSl ix) : PE X (.Subscript o ix pos) (liftE c (dIxI td ty)) :=
  PE_imp (pe_dget hu (froze ho) (froze hi) hs) fun σ H Q ⟨F, ρ, QD, s, h, k⟩ =>
    ⟨F, ρ, (fun d ρ1 => ty ρ1 fun r2 ρ2 => ∃ kds k d', d = .dcI kds ∧ keyOf (fz r2) = some k ∧ valD kds k = some d' ∧ QD (.v d') ρ2), s, h, fun x H1 F1 ρ1 d s1 st1 rx q =>
      ⟨F1, ρ1, (fun e ρ2 => ∃ kds k d', d = .dcI kds ∧ keyOf e = some k ∧ valD kds k = some d' ∧ QD (.v d') ρ2), s1, q, fun y H2 F2 ρ2 e s2 st2 ry ⟨kds, k0, d', e1, e2, e3, qq⟩ => by
        clear q
        subst e1
        cases rx.mono st2.ff with
        | dcI h1 h2 h3 =>
          obtain ⟨v, hv, rv⟩ := (val_rep (k := k0) h2 h3).2 d' e3
          exact ⟨_, v, rfl, by rw [rep_keyOf ry e2, ← hv]; exact .inl ⟨_, k0, .inr ⟨_, s2.sub _ _ h1⟩, rfl, rfl⟩, k v H2 F2 ρ2 (.v d') s2 (st1.trans st2) rv trivial qq⟩⟩⟩
theorem de_getI (hu : X.A.units + 1 < cLine) (ho : PE X o (liftE c td)) (he : PE X e (liftE c ty)) (hf : PE X f (liftE c tx))
    (m : M2 X o "get" apos e f cpos := by exact ⟨by rfl, by rfl, by rfl, by rfl⟩) : PE X (.Call (.Attribute o "get" apos) [e, f] [] cpos) (liftE c (dGetI td ty tx)) :=
  PE_imp (pe_dget2 hu (froze ho) (froze he) (froze hf) m) fun σ H Q ⟨F, ρ, QD, s, h, k⟩ =>
    ⟨F, ρ, (fun d ρ1 => ∃ kds, d = .dcI kds ∧ ty ρ1 fun r2 ρ2 => ∃ k, keyOf (fz r2) = some k ∧ tx ρ2 fun r3 ρ3 => QD (.v ((valD kds k).getD (fz r3))) ρ3), s, h, fun x H1 F1 ρ1 d s1 st1 rx ⟨kds, e1, q⟩ => by
      subst e1
      cases rx with
      | dcI h1 h2 h3 =>
        rename_i a od kvs
        refine ⟨a, rfl, .inl ⟨_, .inr ⟨_, s1.sub _ _ h1⟩⟩, F1, ρ1, (fun d2 ρ2 => ∃ k, keyOf d2 = some k ∧ tx ρ2 fun r3 ρ3 => QD (.v ((valD kds k).getD (fz r3))) ρ3), s1, q, fun y H2 F2 ρ2 d2 s2 st2 ry ⟨k0, e2, q2⟩ => ?_⟩
        refine ⟨F2, ρ2, (fun d3 ρ3 => QD (.v ((valD kds k0).getD d3)) ρ3), s2, q2, fun z H3 F3 ρ3 d3 s3 st3 rz q3 => ?_⟩
        have h1' := s3.sub _ _ (st3.ff _ _ (st2.ff _ _ h1))
        obtain ⟨v1, v2⟩ := val_rep (k := k0) h2 (h3.mono (st2.ff.trans st3.ff))
        refine ⟨valV kvs k0, by rw [rep_keyOf ry e2]; exact .inl ⟨_, k0, .inr ⟨_, h1'⟩, rfl, rfl⟩, ?_⟩
        cases e : valD kds k0 with
        | none =>
          rw [v1 e]
          rw [e] at q3
          exact k z H3 F3 ρ3 (.v d3) s3 (st1.trans (st2.trans st3)) rz trivial q3
        | some d' =>
          obtain ⟨w, hw, rw'⟩ := v2 d' e
          rw [hw]
          rw [e] at q3
          exact k w H3 F3 ρ3 (.v d') s3 (st1.trans (st2.trans st3)) rw' trivial q3⟩
def rInI (neg : Bool) : R2 := fun y x H Q => ∃ a od kvs k, x = .ref a ∧ H a = some (.frz od (.dK kvs)) ∧ y = kV k ∧ Q (.bl (if neg then !(valV kvs k).isSome else (valV kvs k).isSome)) H
theorem op_notInI (hu : X.A.units + 1 < cLine) : OpR X (compareOp .NotIn) (rInI true) := by
  intro pins s σ H y x u v Q I ry rx ⟨a, od, kvs, k, e, h, ey, q⟩
  subst e; subst ey
  obtain rfl : v = Value.ref a := rx
  exact d_notIn hu I (.inl ⟨_, k, .inr ⟨_, h⟩, rfl, rfl⟩) ry fun s' I' => ⟨.bl _, H, I', rfl, q⟩
def dInI (neg : Bool) (a b : D) (Q : Res → Prop) : Prop := ∃ kds k, b = .dcI kds ∧ keyOf a = some k ∧ Q (.v (.bl (if neg then !(valD kds k).isSome else (valD kds k).isSome)))
theorem od_inI {K : PySem.W.Frag} {neg : Bool} : OpD K (rInI neg) (dInI neg) := by
  intro S F H x y d e QD Q s rx ry ⟨kds, k0, hb, hk, h⟩ k
  subst hb
  cases ry with
  | dcI h1 h2 h3 =>
    rename_i a od kvs
    have e : (valV kvs k0).isSome = (valD kds k0).isSome := by
      obtain ⟨n, m⟩ := val_rep (k := k0) h2 h3
      cases z : valD kds k0 with
      | none => rw [n z] <;> rfl
      | some d => obtain ⟨v, hv, _⟩ := m d z; rw [hv]; rfl
    exact ⟨a, od, kvs, k0, rfl, s _ _ h1, rep_keyOf rx hk, by rw [e]; exact k _ H F (.v (.bl _)) (.refl s) (.bl _) h⟩
end
end L2.DL
set_option Elab.async false
set_option linter.all false
set_option autoImplicit false
set_option maxRecDepth 100000
set_option maxHeartbeats 2000000
namespace L2.DL
open PySem PySem.Spec PyProof.Rows
local macro_rules | `(tactic| walk_at "ev") => `(tactic| simp only [dSeq, dNext, dSet, dPar, dPar3, dRet, dRetN, dDrop, dIfS, dBrk, dCnt, dApp, dFor, dItL, dItT, dRng1, dRng2, dZip, dEnum, dItS, dAsg, dAugI, dNever, dPutS, dNewD, dFldM, dFldS, dStar,
  dgName, dgTup, dgCons, dgNil, dOp, dUn, dC, dNil, dCons, dCB, dTup, dLst, dIf, dTst, dTru, dAnd, dOr, dNot, dAndV, dOrV, dNotV, dYes, dInR, dFld, dMeth, dCall, dDctIx, dGet2, dRaise, dRaiseZ, dDisp, dPNil, dPCons, dRepD, dTold, dLenSet, hid_u, hid_d, hid_o, dStep2, dSlV, dIxV, dSetV, dPopV, dLenV, dLcV, lstAt, Option.isSome_some, Option.isSome_none, dSl, dNoP, dPart, dLc, dDc, dSortSet, dSortSc, dListVals, dChain, dIsiT2, dCallB, dBor, dNilB, dCBB, dOneL,
  dIsN, dNotN, dStrI, dAbs, dIn, fz_v, fz_l, fz_d, fz_i, fz_m, un_l, un_d, un_i, un_m, sl_v, sl_o, dwipe, and_assoc, insLF, insLT, insFF, insFT, startD, startN, pdT, pdI, gdT, prT, stI, putFD, lendable, noKR, noK, noKs,
  vd0, vo0, rd0, ro0, vd1, vo1, rd1, ro1, vd2, vo2, rd2, ro2, vd3, vo3, rd3, ro3, vd4, vo4, rd4, ro4, vd5, vo5, rd5, ro5, vd6, vo6, rd6, ro6, vd7, vo7, rd7, ro7, vd8, vo8, rd8, ro8, vd9, vo9, rd9, ro9, vd10, vo10, rd10, ro10, vd11, vo11, rd11, ro11, vd12, vo12, rd12, ro12, vd13, vo13, rd13, ro13, vd14, vo14, rd14, ro14, vd15, vo15, rd15, ro15, vd16, vo16, rd16, ro16, vd17, vo17, rd17, ro17, vd18, vo18, rd18, ro18, vd19, vo19, rd19, ro19, vd20, vo20, rd20, ro20, vd21, vo21, rd21, ro21, vd22, vo22, rd22, ro22, vd23, vo23, rd23, ro23, lk_people, lk_names, lk_has_name, lk_person, lk_place, lk_voice, lk_places, lk_at, lk_line, lk_voices, lk_is_together, lk_own, lenL, lenT, lenS, ixL, ixT, ixS, dcutL, dcutS, addII, addSS, addLL, int1i, int1b, negI, reprL, reprT, absI, sc_n, sc_b, sc_i, sc_s, subI, mulI, fdvI, modI, powI, ltI, leI, gtI, geI, tr_n, tr_b, tr_i, tr_l, tr_t, tr_d, ty_n, ty_b, ty_i, ty_s, ty_l, ty_t, ty_d, in_n, in_b, in_i, in_s, in_l, in_t, in_d, eqII, neII, eqSS, neSS, eqBB, neBB, isic_n, isic_b, isic_i, isic_s, isic_l, isic_t, isic_d, isio_n, isio_b, isio_i, isio_s, isio_l, isio_t, isio_d, isic_I, isic_S, isic_T, isic_L, isic_B, isio_I, dIsiO, isi_ii, isi_ib, isi_is, isi_il, isi_bi, isi_bb, isi_bs, isi_si, isi_sb, isi_ss, isi_ni, isi_nb, isi_ns, isi_li, isi_lb, isi_ls, isi_ll, isi_ti, isi_tb, isi_ts, isi_tt, isi_di, isi_db, isi_ds, isi_lt, isi_tl, isi_bt, isi_nt, isi_dt, eqLL, neLL, eqTT, neTT, isi_sl, isi_st, isi_it, kit_ll, kit_lt, max2, min2, get1, get2b, get3b, get3c,
  List.map_cons, List.map_nil, List.length_cons, List.length_nil, List.replicate, List.append_nil, List.cons_append, List.nil_append, List.getElem?_cons_zero, List.getElem?_cons_succ, List.set_cons_zero, List.set_cons_succ, List.getElem?_nil, Nat.sub_zero, Nat.reduceAdd, Nat.reduceSub, Int.reduceLT, Int.reduceLE, Int.reduceNeg, Nat.zero_add,
  true_and, and_true, eq_self, Bool.true_or, Bool.or_true, Bool.false_or, Bool.or_false, Bool.true_and, Bool.and_true, Bool.false_and, Bool.and_false, exists_eq_left, exists_eq_left', exists_eq', exists_eq, Option.some.injEq, Res.v.injEq, D.bl.injEq, D.int.injEq, D.str.injEq, D.lst.injEq, D.tup.injEq, D.dct.injEq, D.ins.injEq, Sl.o.injEq, Sl.d.injEq, List.cons.injEq, reduceCtorEq, false_or, or_false, if_true, if_false, Bool.false_eq_true, Bool.not_true, Bool.not_false, ite_true, ite_false, decide_true, decide_false, and_self, List.isEmpty_nil, List.isEmpty_cons, exists_and_left, exists_const, lenNil, reprWL, reprAA, dZipLT, min3R, isBR, notBR, pcT, wtT, wtI, pcI, dCallBL, lrgR, lrg1R, dNewT, dLk, dDispT1, dNeE, dPutT, dGetT, dLenT, dVarK, dItKT, dIxT, dLenTD, dKeysT, un_dT, un_dL, fzR, lz3R, dThenFz, dNest, dOwnL, dEqO, hideO, dOpV, dRevL, dGetS, dLkI, dItKI, dIxI, dGetI, dInI])
open Classical in
noncomputable def numsF (ps : List Pn) (n : Nat) (x : Int) : List Int := ((List.range n).filter fun m => decide (AtF ps m x)).map fun m => ((m : Nat) : Int)
section
open Classical
theorem numsF_hit {ps : List Pn} {x : Int} {n : Nat} (h : AtF ps n x) : numsF ps (n + 1) x = numsF ps n x ++ [(n : Int)] := by
  unfold numsF
  rw [List.range_succ, List.filter_append, List.map_append]
  congr 1
  rw [List.filter_eq_self.mpr fun m hm => by rw [List.mem_singleton.mp hm]; exact decide_eq_true h]
  rfl
theorem numsF_miss {ps : List Pn} {x : Int} {n : Nat} (h : ¬ AtF ps n x) : numsF ps (n + 1) x = numsF ps n x := by
  unfold numsF
  rw [List.range_succ, List.filter_append, List.map_append, List.filter_eq_nil_iff.mpr fun m (hm : m ∈ [n]) => by rw [List.mem_singleton.mp hm, decide_eq_false h]; decide]
  simp
theorem numsF_nil {ps : List Pn} {x : Int} {n : Nat} (h : ∀ m, m < n → ¬ AtF ps m x) : numsF ps n x = [] := by
  unfold numsF
  rw [List.filter_eq_nil_iff.mpr fun m hm => by rw [decide_eq_false (h m (List.mem_range.mp hm))]; decide]
  rfl
theorem numsF_len (ps : List Pn) (n : Nat) (x : Int) : (numsF ps n x).length ≤ n := by
  unfold numsF
  rw [List.length_map]
  exact Nat.le_trans (List.length_filter_le _ _) (by rw [List.length_range]; exact Nat.le_refl _)
end
open Classical in
noncomputable def gF (ps : List Pn) (n : Nat) (Lk : List (List Pn)) (x : Int) : List Int := numsF ps n x ++ (if ∃ q, q ∈ Lk ∧ togL q = true ∧ x ∈ placesL q then [(n : Int)] else [])
theorem ite_iffQ {P Q : Prop} [Decidable P] [Decidable Q] {α : Type} {a b : α} (h : P ↔ Q) : (if P then a else b) = if Q then a else b := by
  by_cases p : P
  · rw [if_pos p, if_pos (h.mp p)]
  · rw [if_neg p, if_neg (fun q => p (h.mpr q))]
def fD (T : List Int) (g : Int → List Int) : List (Key × D) := T.map fun x => (.inl x, .lst ((g x).map .int))
def addI (T : List Int) (x : Int) : List Int := if x ∈ T then T else T ++ [x]
theorem addI_nd {T : List Int} {x : Int} (h : T.Nodup) : (addI T x).Nodup := by
  unfold addI
  split
  · exact h
  · rename_i n
    rw [List.nodup_append]
    exact ⟨h, by simp, fun a ha b hb e => by rw [List.mem_singleton] at hb; rw [e, hb] at ha; exact n ha⟩
theorem mem_addI {T : List Int} {x z : Int} : z ∈ addI T x ↔ z ∈ T ∨ z = x := by
  unfold addI
  split
  · rename_i h
    exact ⟨.inl, fun e => e.elim id fun e => by rw [e]; exact h⟩
  · rw [List.mem_append, List.mem_singleton]
theorem any_fD {T : List Int} {g : Int → List Int} {x : Int} : ((fD T g).any fun kv => decide (kv.1 = .inl x)) = decide (x ∈ T) := by
  unfold fD
  rw [List.any_map, Bool.eq_iff_iff, List.any_eq_true, decide_eq_true_iff]
  constructor
  · rintro ⟨y, hy, e⟩
    have e : (Sum.inl y : Key) = .inl x := of_decide_eq_true e
    cases e
    exact hy
  · exact fun h => ⟨x, h, decide_eq_true rfl⟩
theorem put_fD {T : List Int} {g g' : Int → List Int} {x : Int} {l : List Int} (hx : g' x = l) (hg : ∀ y, y ∈ T → y ≠ x → g' y = g y) : putD (fD T g) (.inl x) (.lst (l.map .int)) = fD (addI T x) g' := by
  unfold putD
  rw [any_fD]
  unfold addI
  by_cases h : x ∈ T
  · rw [if_pos (decide_eq_true h), if_pos h]
    unfold fD
    rw [List.map_map]
    refine List.map_congr_left fun y hy => ?_
    show (if (Sum.inl y : Key) = .inl x then _ else _) = _
    by_cases e : y = x
    · subst e
      rw [if_pos rfl, hx]
    · rw [if_neg (fun z => e (Sum.inl.inj z)), hg y hy e]
  · rw [if_neg (by rw [decide_eq_false h]; exact Bool.false_ne_true), if_neg h]
    unfold fD
    rw [List.map_append]
    congr 1
    · exact List.map_congr_left fun y hy => by rw [hg y hy (fun z => h (z ▸ hy))]
    · rw [List.map_cons, List.map_nil, hx]
theorem val_fD {g : Int → List Int} {x : Int} : ∀ {T : List Int}, valD (fD T g) (.inl x) = if x ∈ T then some (.lst ((g x).map .int)) else none
  | [] => rfl
  | y :: T => by
    have ih := val_fD (g := g) (x := x) (T := T)
    unfold valD fD at ih ⊢
    rw [List.map_cons, List.find?_cons]
    by_cases e : y = x
    · subst e; simp
    · rw [show decide ((Sum.inl y : Key) = .inl x) = false from decide_eq_false fun z => e (Sum.inl.inj z)]
      have : (x ∈ y :: T) ↔ x ∈ T := by simp only [List.mem_cons, Ne.symm e, false_or]
      simp only [this]
      exact ih
theorem fD_len (T : List Int) (g : Int → List Int) : (fD T g).length = T.length := List.length_map ..
theorem gF_all {ps : List Pn} {n : Nat} {L : List (List Pn)} (mL : ∀ q, q ∈ L ↔ Fch ps n q) (x : Int) : gF ps n L x = numsF ps (n + 1) x := by
  unfold gF
  by_cases h : AtF ps n x
  · obtain ⟨q, r, t, hx⟩ := h
    rw [if_pos ⟨q, (mL q).mpr r, t, hx⟩, numsF_hit ⟨q, r, t, hx⟩]
  · rw [if_neg (fun ⟨q, a, b, d⟩ => h ⟨q, (mL q).mp a, b, d⟩), numsF_miss h, List.append_nil]
theorem gF_nil (ps : List Pn) (n : Nat) (x : Int) : gF ps n [] x = numsF ps n x := by
  unfold gF
  rw [if_neg (fun ⟨q, a, _⟩ => nomatch a), List.append_nil]
theorem inI_pl {ps q : List Pn} {a b : Int} (h : InI a b ps) {n : Nat} (r : Fch ps n q) {x : Int} (hx : x ∈ placesL q) : a ≤ x ∧ x ≤ b := r.inI h x (mem_plcs.mpr hx)
theorem few_keys {T : List Int} {a : Int} {w : Nat} (nd : T.Nodup) (h : ∀ x, x ∈ T → a ≤ x ∧ x ≤ a + w) : T.length ≤ w + 1 := by
  have := nd.length_le_of_subset (l₂ := (List.range (w + 1)).map fun i => a + ((i : Nat) : Int)) fun x hx => by
    have := h x hx
    exact List.mem_map.mpr ⟨(x - a).toNat, List.mem_range.mpr (by omega), by omega⟩
  rwa [List.length_map, List.length_range] at this
theorem same_tog {ps a b : List Pn} (ha : nvL a = nvL ps) (hb : nvL b = nvL ps) (ta : togL a = true) (tb : togL b = true) {x : Int} (xa : x ∈ placesL a) (xb : x ∈ placesL b) : a = b := by
  have la : a.length = b.length := by
    have := congrArg List.length (ha.trans hb.symm)
    unfold nvL at this
    rwa [List.length_map, List.length_map] at this
  have all : ∀ q : List Pn, togL q = true → x ∈ placesL q → plcs q = q.map fun _ => x := fun q t hx => by
    unfold plcs
    refine List.map_congr_left fun p hp => ?_
    have h1 := (tog_same t (mem_places hp)).1
    have h2 := (tog_same t hx).1
    omega
  refine eq_nv (ha.trans hb.symm) ?_
  rw [all a ta xa, all b tb xb, List.map_const', List.map_const', la]
theorem at_natH {l : List D} {k : Nat} {d : D} (h : l[k]? = some d) : atI l (k : Int) = some d := by
  have hk : k < l.length := (List.getElem?_eq_some_iff.mp h).1
  unfold atI ixN
  rw [if_pos (by omega), if_pos (by omega)]
  simpa using h
def sp_l_narrow_world (C : Nm) : DSp := fun ds Q X => ∃ most total : Int, ds = [.src, .int most, .int total] ∧ 1 ≤ most ∧ most ≤ 40 ∧ 0 ≤ total ∧ total ≤ 100 ∧ ∀ ps : List Pn, 1 ≤ ps.length → (ps.length : Int) ≤ most → Wf ps → Near 1000 ps → (∃ a, InI a (a + total) ps) → Q (.ow (wD C ps))
def sp_l_free_lot (C : Nm) : DSp := fun ds Q X => ∃ ps : List Pn, ds = [wD C ps] ∧ Wf ps ∧ 1 ≤ ps.length ∧ (∃ (a : Int) (w : Nat), InI a (a + w) ps ∧ w ≤ 100 ∧ (w + 1) ^ ps.length ≤ 1000000) ∧ ∀ (T : List Int) (N : Nat), T.Nodup → (∀ x, x ∈ T ↔ ∃ m, AtF ps m x) → (∀ m q, Fch ps m q → m < N) → N ≤ 102 → Q (.ow (.dct (fD T (numsF ps N))))
def t_l_narrow_world (K : PySem.W.Frag) (C : Nm) (XD : DX) : DTS := (dSeq (dSet 3 (dCall (sp_l_world C) XD (dCons (dVar 0) (dCons (dVar 1) (dCons (dC (.int 5)) (dCons (dC (.int 2)) dNil))))))
      (dSeq (dSet 4 (dCall (sp_w_spots C) XD (dCons (dVar 3) dNil)))
      (dSeq (dSet 5 (dCB dMinT (dCons (dVar 4) dNil)))
      (dRet (dCall (sp_l_at C) XD (dCons (dVar 3) (dCons (dLc (dItT (dVar 4)) (dgName 6) dYes (dCB dMin2 (dCons (dVar 6) (dCons (dOp dAdd (dVar 5) (dVar 2)) dNil))) [6]) dNil)))))))
def t_l_free_lot (K : PySem.W.Frag) (C : Nm) (XD : DX) : DTS := (dSeq (dPar3 1 2 3 dNewD (dLk (dDispT1 (dCall (sp_w_spots C) XD (dCons (dVar 0) dNil)) (dC (.bl true)))) (dC (.int 0)))
      (dSeq (dWhile (dTst (dNeE (dVar 2))) (dSeq (dSet 4 dNewT)
      (dSeq (dFor (dItKT (dVar 2)) (dgName 5) (dSeq (dIfS (dTst (dOp dEq2 (dLenSet (dVar 5)) (dC (.int 1)))) (dPutS 1 (dOp dIx (dVar 5) (dC (.int 0))) (dOp dAdd (dGetS 1 (dOp dIx (dVar 5) (dC (.int 0))) (dLst dNil)) (dLst (dCons (dVar 3) dNil)))) dNext)
      (dFor (dItL (dIf (dTst (dOp dGt (dLenSet (dVar 5)) (dC (.int 1)))) (dSortSet (dVar 5)) (dLst dNil))) (dgName 6) (dPutT 4 (dCall (sp_l_called C) XD (dCons (dVar 5) (dCons (dVar 6) dNil))) (dC (.bl true))))))
      (dPar 2 3 (dVarK 4) (dOp dAdd (dVar 3) (dC (.int 1)))))))
      (dRetVar 1)))
section
variable {K : PySem.W.Frag} {C : Nm} {XD : DX} {ds : List D} {QD : Res → Prop}
theorem pure_l_narrow_world (h : sp_l_narrow_world C ds QD XD) : t_l_narrow_world K C XD { nx := fun _ => QD (.v .non), rt := QD } (startN 7 ds) := by
  obtain ⟨most, total, rfl, m0, m1, t0, t1, q⟩ := h
  unfold t_l_narrow_world
  walk_at "ev"
  refine ⟨most, 5, 2, rfl, m0, by omega, by decide, by decide, by decide, fun ps n1 n2 dr _ _ => ?_⟩
  walk_at "ev"
  have hw := dr.wf (by omega)
  refine ⟨ps, rfl, by omega, ?_⟩
  walk_at "ev"
  refine ⟨plcs ps, by unfold plcs; rw [List.map_map]; rfl, by rw [plcs_len]; omega, fun m hm hmin => ?_⟩
  walk_at "ev"
  have hmb : -10 ≤ m ∧ m ≤ 10 + (5 + 2) * 60 := by
    obtain ⟨p, hp, rfl⟩ := List.mem_map.mp hm
    exact ⟨dr.lo p hp, dr.hi p hp⟩
  rw [show unAt (wD C ps) = wD C ps from rfl]
  refine lcL_fun (fun ρ => ρ = [.d .src, .d (.int most), .d (.int total), .d (wD C ps), .d (.tup (ps.map fun p => D.int p.2.1)), .d (.int m), .un]) (fun p : Pn => D.int p.2.1) (fun _ => true) (fun p => D.int (min p.2.1 (m + total))) ?_ ps [] _ (by rw [List.length_nil]; omega) rfl ?_
  · rintro p ρ rfl K1 K2 g1 g2
    walk_at "ev"
    refine g1 rfl _ _ ?_ rfl
    show D.int (if m + total < p.2.1 then m + total else p.2.1) = D.int (min p.2.1 (m + total))
    congr 1
    split <;> omega
  · rintro ρ rfl
    rw [filter_tt, List.nil_append]
    refine ⟨ps, ps.map fun p => min p.2.1 (m + total), .inr (by rw [List.map_map]; rfl), hw, by rw [List.length_map], ?_⟩
    have xl : (ps.map fun p => min p.2.1 (m + total)).length = ps.length := by rw [List.length_map]
    have sv := put_sameV xl
    have pp := put_plcs xl
    have hw' : Wf (putP ps (ps.map fun p => min p.2.1 (m + total))) := hw.put xl
    generalize hps : putP ps (ps.map fun p => min p.2.1 (m + total)) = ps' at sv pp hw'
    have ps'l : ps'.length = ps.length := sv.len.symm
    have inn : ∀ y, y ∈ plcs ps' → m ≤ y ∧ y ≤ m + total := fun y hy => by
      rw [pp] at hy
      obtain ⟨p0, h0, e0⟩ := List.mem_map.mp hy
      have := hmin p0.2.1 (List.mem_map_of_mem (f := fun p : Pn => p.2.1) h0)
      omega
    exact q ps' (by omega) (by omega) hw' (fun p hp => by have := inn _ (List.mem_map_of_mem (f := fun p : Pn => p.2.1) hp); omega) ⟨m, inn⟩
theorem pure_l_free_lot (h : sp_l_free_lot C ds QD XD) : t_l_free_lot K C XD { nx := fun _ => QD (.v .non), rt := QD } (startN 7 ds) := by
  obtain ⟨ps, rfl, hw, n1, ⟨a, w, hI, hw100, hbig⟩, q⟩ := h
  unfold t_l_free_lot
  walk_at "ev"
  have few := hw.few
  have hz : (sizeLine : Nat) = 16777216 := by decide
  have ne : placesL ps ≠ [] := fun e => by
    cases ps with
    | nil => simp at n1
    | cons p t =>
      have := mem_places (ps := p :: t) (p := p) List.mem_cons_self
      rw [e] at this
      cases this
  have tw : totF ps ≤ w := by
    have := tot_eq ne
    have h1 := hI _ (mem_plcs.mpr (firstP_mem ne).1)
    have h2 := hI _ (mem_plcs.mpr (lastP_mem ne).1)
    omega
  have hN : ∀ m q, Fch ps m q → m < w + 1 := fun m q r => by
    obtain ⟨nq, a, c, B, a0, c0, B0, e1, e2, e3, e4⟩ := free_sound ne r
    have t0 := tot_eq ne
    have t1 := tot_eq nq
    have := (free_facts q).1
    omega
  have nq : ∀ {n q}, Fch ps n q → placesL q ≠ [] := fun r => (free_sound ne r).1
  refine ⟨ps, rfl, few, kq ps, keyT_spo ps, _, rfl, ?_⟩
  refine while_inv (fun m ρ => ∃ (n : Nat) (T : List Int) (L : List (List Pn)) (s4 s5 s6 : Sl), ρ = [.d (wD C ps), .o (.dct (fD T (numsF ps n))), .d (.dcL (dcS L fun _ => .bl true)), .d (.int (n : Nat)), s4, s5, s6] ∧ L.Nodup ∧ (∀ q, q ∈ L ↔ Fch ps n q) ∧ T.Nodup ∧ (∀ x, x ∈ T ↔ ∃ m, m < n ∧ AtF ps m x) ∧ m = w + 1 - n ∧ n ≤ w + 1) (w + 1)
    ⟨0, [], [ps], .un, .un, .un, rfl, by simp, fun q => by simp [Fch], List.nodup_nil, fun x => ⟨fun h => (nomatch h), fun ⟨m, h, _⟩ => absurd h (Nat.not_lt_zero m)⟩, rfl, Nat.zero_le _⟩ ?_
  rintro m ρ ⟨n, T, L, s4, s5, s6, rfl, nL, mL, nT, mT, rfl, hn⟩ E' h1 h2 h3 h4
  have el : (dcS L fun _ => D.bl true).isEmpty = L.isEmpty := by cases L <;> rfl
  show dTst (dNeE (dVar 2)) _ _
  refine ⟨_, .inr rfl, _, rfl, ?_⟩
  rw [el]
  cases hL : L.isEmpty with
  | true =>
    have L0 : L = [] := List.isEmpty_iff.mp hL
    have none : ∀ q, ¬ Fch ps n q := fun q r => by
      have := (mL q).mpr r
      rw [L0] at this
      cases this
    have lt : ∀ m q, Fch ps m q → m < n := fun m q r => by
      rcases Nat.lt_or_ge m n with h | h
      · exact h
      · exact absurd r (fch_stop none h q)
    rw [Bool.not_true, if_neg Bool.false_ne_true]
    walk_at "ev"
    exact q T n nT (fun x => by
      rw [mT]
      exact ⟨fun ⟨m, _, b⟩ => ⟨m, b⟩, fun ⟨m, b⟩ => ⟨m, (let ⟨z, r, _⟩ := b; lt m z r), b⟩⟩) lt (by omega)
  | false =>
    rw [Bool.not_false, if_pos rfl]
    walk_at "ev"
    refine ⟨_, rfl, ?_⟩
    rw [dcS_keys]
    refine loop_ix spoD L (fun k ρ => ∃ (T' : List Int) (S : List (List Pn)) (s5 s6 : Sl), ρ = [.d (wD C ps), .o (.dct (fD T' (gF ps n (L.take k)))), .d (.dcL (dcS L fun _ => .bl true)), .d (.int (n : Nat)), .o (.dcT (dcS S fun _ => .bl true)), s5, s6] ∧ T'.Nodup ∧ (∀ x, x ∈ T' ↔ x ∈ T ∨ ∃ q, q ∈ L.take k ∧ togL q = true ∧ x ∈ placesL q) ∧ S.Nodup ∧ (∀ q, q ∈ S ↔ ∃ q', q' ∈ L.take k ∧ ∃ x, x ∈ freeP q' ∧ q = drawnL q' x 1)) ?_ ?_ _
      ⟨T, [], s5, s6, ?_, nT, fun x => by simp, List.nodup_nil, fun q => by simp⟩
    · rintro k hk ρ ⟨T', S, s5, s6, rfl, nT', mT', nS, mS⟩ E2 g1 g2 g3 g4
      have r0 := (mL _).mp (List.getElem_mem hk)
      have nq0 := nq r0
      have wq := r0.wf hw
      have tk : ∀ {z : List Pn}, z ∈ L.take (k + 1) ↔ z ∈ L.take k ∨ z = L[k] := fun {z} => mem_take_succ hk
      have spo : spoD L[k] = D.tup ((plcs L[k]).map D.int) := by unfold spoD plcs; rw [List.map_map]; rfl
      have len64 : (plcs L[k]).length < 64 := by rw [plcs_len]; have := wq.few; omega
      have ul : (uset (plcs L[k])).length = (placesL L[k]).length := rfl
      have lp : 1 ≤ (placesL L[k]).length := by
        cases e : placesL L[k] with
        | nil => exact absurd e nq0
        | cons _ _ => simp
      have nn : n ≤ w := by have := hN n _ r0; omega
      walk_at "ev"
      refine ⟨plcs L[k], .inr spo, len64, ?_⟩
      cases t : togL L[k] with
      | true =>
        have l1 : (placesL L[k]).length < 2 := of_decide_eq_true t
        rw [if_pos (decide_eq_true (show ((uset (plcs L[k])).length : Int) = 1 by rw [ul]; omega))]
        obtain ⟨x, hx⟩ : ∃ x, x ∈ placesL L[k] := ⟨_, (firstP_mem nq0).1⟩
        have only : ∀ y, y ∈ placesL L[k] → y = x := fun y hy => by
          have a1 := (tog_same t hy).1
          have a2 := (tog_same t hx).1
          omega
        have e0 : (plcs L[k])[0]? = some x := by
          cases e : plcs L[k] with
          | nil => have := mem_plcs.mpr hx; rw [e] at this; cases this
          | cons y r =>
            rw [← only y (mem_plcs.mp (by rw [e]; exact List.mem_cons_self))]
            rfl
        have ix0 : ∀ Q, Q (.v (.int x)) → dIx (spoD L[k]) (.int 0) Q := fun Q h => by
          rw [spo]
          exact ⟨_, at_natH (k := 0) (by rw [List.getElem?_map, e0]; rfl), h⟩
        have none : ¬ ∃ q, q ∈ L.take k ∧ togL q = true ∧ x ∈ placesL q := fun ⟨z, hz, tz, xz⟩ => by
          have rz := (mL z).mp (List.mem_of_mem_take hz)
          have : z = L[k] := same_tog rz.nv r0.nv tz t xz hx
          exact nodup_take hk nL (this ▸ hz)
        have gk : gF ps n (L.take k) x = numsF ps n x := by unfold gF; rw [if_neg none, List.append_nil]
        have gv : (valD (fD T' (gF ps n (L.take k))) (.inl x)).getD (.lst []) = .lst ((numsF ps n x).map .int) := by
          rw [val_fD]
          by_cases hT : x ∈ T'
          · rw [if_pos hT, gk]; rfl
          · rw [if_neg hT, numsF_nil fun m hm am => hT ((mT' x).mpr (.inl ((mT x).mpr ⟨m, hm, am⟩)))]
            rfl
        refine ix0 _ ⟨.inl x, rfl, by decide, ?_⟩
        rw [gv]
        have nl := numsF_len ps n x
        refine ⟨by rw [List.length_map]; show _ + 1 ≤ _; omega, ?_⟩
        have tl : T'.length ≤ w + 1 := few_keys nT' fun y hy => by
          rcases (mT' y).mp hy with h | ⟨z, hz, _, hy2⟩
          · obtain ⟨m, _, z, r, _, hy2⟩ := (mT y).mp h
            exact inI_pl hI r hy2
          · exact inI_pl hI ((mL z).mp (List.mem_of_mem_take hz)) hy2
        refine ix0 _ ⟨.inl x, rfl, by rw [fD_len]; omega, plcs L[k], .inr spo, len64, ?_⟩
        rw [if_neg (by rw [decide_eq_false (show ¬ (1 : Int) < ((uset (plcs L[k])).length : Int) by rw [ul]; omega)]; decide)]
        refine g1 _ ⟨addI T' x, S, .d (spoD L[k]), s6, ?_, addI_nd nT', fun y => ?_, nS, fun z => ?_⟩
        · have pe := put_fD (T := T') (g := gF ps n (L.take k)) (g' := gF ps n (L.take (k + 1))) (x := x) (l := numsF ps n x ++ [(n : Int)]) (by
            unfold gF
            rw [if_pos ⟨L[k], tk.mpr (.inr rfl), t, hx⟩]) (fun y hy ne2 => by
            unfold gF
            congr 1
            refine ite_iffQ ⟨fun ⟨z, hz, tz, xz⟩ => ?_, fun ⟨z, hz, tz, xz⟩ => ⟨z, tk.mpr (.inl hz), tz, xz⟩⟩
            rcases tk.mp hz with hz | hz
            · exact ⟨z, hz, tz, xz⟩
            · subst hz
              exact absurd (only y xz) ne2)
          rw [← pe, List.map_append]
          rfl
        · rw [mem_addI, mT', or_assoc]
          constructor
          · rintro (h | ⟨z, hz, h⟩ | h)
            · exact .inl h
            · exact .inr ⟨z, tk.mpr (.inl hz), h⟩
            · exact .inr ⟨L[k], tk.mpr (.inr rfl), t, by rw [h]; exact hx⟩
          · rintro (h | ⟨z, hz, tz, yz⟩)
            · exact .inl h
            · rcases tk.mp hz with hz | hz
              · exact .inr (.inl ⟨z, hz, tz, yz⟩)
              · subst hz
                exact .inr (.inr (only y yz))
        · rw [mS]
          constructor
          · rintro ⟨z', hz, h⟩
            exact ⟨z', tk.mpr (.inl hz), h⟩
          · rintro ⟨z', hz, y, hy, h⟩
            rcases tk.mp hz with hz | hz
            · exact ⟨z', hz, y, hy, h⟩
            · subst hz
              have := (free_mem hy).2
              rw [t] at this
              cases this
      | false =>
        have l2 : ¬ (placesL L[k]).length < 2 := of_decide_eq_false t
        rw [if_neg (by rw [decide_eq_false (show ¬ ((uset (plcs L[k])).length : Int) = 1 by rw [ul]; omega)]; decide)]
        refine ⟨plcs L[k], .inr spo, len64, ?_⟩
        rw [if_pos (decide_eq_true (show (1 : Int) < ((uset (plcs L[k])).length : Int) by rw [ul]; omega))]
        refine ⟨plcs L[k], .inr spo, len64, ?_⟩
        have fp : ∀ {y : Int}, y ∈ freeP L[k] ↔ y ∈ placesL L[k] := fun {y} => ⟨fun h => (free_mem h).1, fun h => mem_free h t⟩
        refine loop_ix D.int (placesL L[k]) (fun j ρ => ∃ (S' : List (List Pn)) (s6 : Sl), ρ = [.d (wD C ps), .o (.dct (fD T' (gF ps n (L.take k)))), .d (.dcL (dcS L fun _ => .bl true)), .d (.int (n : Nat)), .o (.dcT (dcS S' fun _ => .bl true)), .d (spoD L[k]), s6] ∧ S'.Nodup ∧ ∀ z, z ∈ S' ↔ z ∈ S ∨ ∃ y, y ∈ (placesL L[k]).take j ∧ z = drawnL L[k] y 1) ?_ ?_ _ ⟨S, s6, rfl, nS, fun z => by simp⟩
        · rintro j hj ρ ⟨S', s6, rfl, nS', mS'⟩ E3 f1 f2 f3 f4
          have nvS : ∀ s, s ∈ S' → nvL s = nvL ps := fun s hs => by
            rcases (mS' s).mp hs with h | ⟨y, _, e⟩
            · obtain ⟨z', hz, y, _, e⟩ := (mS s).mp h
              rw [e, nv_drawn]
              exact ((mL z').mp (List.mem_of_mem_take hz)).nv
            · rw [e, nv_drawn]
              exact r0.nv
          have sl : S'.length ≤ (w + 1) ^ ps.length := few_free hI nS' fun s hs => by
            rcases (mS' s).mp hs with h | ⟨y, hy, e⟩
            · obtain ⟨z', hz, y, hy, e⟩ := (mS s).mp h
              exact ⟨n + 1, z', (mL z').mp (List.mem_of_mem_take hz), y, hy, e⟩
            · exact ⟨n + 1, L[k], r0, y, fp.mpr (List.mem_of_mem_take hy), e⟩
          have nq1 : nvL (drawnL L[k] (placesL L[k])[j] 1) = nvL ps := by rw [nv_drawn]; exact r0.nv
          walk_at "ev"
          have etd : ∀ x : Int, tiD ((plcs L[k]).map (nrF x 1)) = spoD (drawnL L[k] x 1) := fun x => by
            rw [← plcs_drawn]
            unfold spoD tiD plcs
            rw [List.map_map]
            rfl
          refine ⟨⟨_, rfl⟩, plcs L[k], _, by rw [spo]; rfl, by rw [plcs_len]; have := wq.few; omega, ?_⟩
          rw [etd]
          refine ⟨_, rfl, _, keyT_spo _, by rw [dcS_len]; omega, ?_⟩
          rw [put_dcS (g' := fun _ => D.bl true) nvS nq1 rfl fun _ _ _ => rfl]
          refine f1 _ ⟨addS S' (drawnL L[k] (placesL L[k])[j] 1), _, rfl, addS_nd nS', fun z => ?_⟩
          rw [mem_addS, mS', or_assoc]
          constructor
          · rintro (h | ⟨y, hy, h⟩ | h)
            · exact .inl h
            · exact .inr ⟨y, (mem_take_succ hj).mpr (.inl hy), h⟩
            · exact .inr ⟨_, (mem_take_succ hj).mpr (.inr rfl), h⟩
          · rintro (h | ⟨y, hy, h⟩)
            · exact .inl h
            · rcases (mem_take_succ hj).mp hy with hy | hy
              · exact .inr (.inl ⟨y, hy, h⟩)
              · subst hy; exact .inr (.inr h)
        · rintro ρ ⟨S', s6, rfl, nS', mS'⟩
          rw [List.take_length] at mS'
          refine g1 _ ⟨T', S', .d (spoD L[k]), s6, ?_, nT', fun y => ?_, nS', fun z => ?_⟩
          · have : fD T' (gF ps n (L.take k)) = fD T' (gF ps n (L.take (k + 1))) := by
              congr 1
              funext y
              unfold gF
              congr 1
              refine ite_iffQ ⟨fun ⟨z, hz, tz, xz⟩ => ⟨z, tk.mpr (.inl hz), tz, xz⟩, fun ⟨z, hz, tz, xz⟩ => ?_⟩
              rcases tk.mp hz with hz | hz
              · exact ⟨z, hz, tz, xz⟩
              · subst hz
                rw [t] at tz
                cases tz
            rw [this]
          · rw [mT']
            constructor
            · rintro (h | ⟨z, hz, h⟩)
              · exact .inl h
              · exact .inr ⟨z, tk.mpr (.inl hz), h⟩
            · rintro (h | ⟨z, hz, tz, yz⟩)
              · exact .inl h
              · rcases tk.mp hz with hz | hz
                · exact .inr ⟨z, hz, tz, yz⟩
                · subst hz
                  rw [t] at tz
                  cases tz
          · rw [mS', mS]
            constructor
            · rintro (⟨z', hz, h⟩ | ⟨y, hy, e⟩)
              · exact ⟨z', tk.mpr (.inl hz), h⟩
              · exact ⟨L[k], tk.mpr (.inr rfl), y, fp.mpr hy, e⟩
            · rintro ⟨z', hz, y, hy, e⟩
              rcases tk.mp hz with hz | hz
              · exact .inl ⟨z', hz, y, hy, e⟩
              · subst hz
                exact .inr ⟨y, fp.mp hy, e⟩
    · rintro ρ ⟨T', S, s5, s6, rfl, nT', mT', nS, mS⟩
      rw [List.take_length] at mT' mS
      walk_at "ev"
      obtain ⟨q0, hq0⟩ : ∃ q, q ∈ L := by
        cases L with
        | nil => cases hL
        | cons a _ => exact ⟨a, List.mem_cons_self⟩
      have hnN := hN n q0 ((mL q0).mp hq0)
      refine ⟨_, rfl, h1 _ (w + 1 - (n + 1)) (by omega) ⟨n + 1, T', S, .d (.dcL (dcS S fun _ => .bl true)), s5, s6, ?_, nS, fun z => ?_, nT', fun x => ?_, rfl, by omega⟩⟩
      · rw [List.take_length, show gF ps n L = numsF ps (n + 1) from funext (gF_all mL)]
        rfl
      · rw [mS]
        exact ⟨fun ⟨z', hz, y, hy, e⟩ => ⟨z', (mL z').mp hz, y, hy, e⟩, fun ⟨z', hz, y, hy, e⟩ => ⟨z', (mL z').mpr hz, y, hy, e⟩⟩
      · rw [mT', mT]
        constructor
        · rintro (⟨m, hm, am⟩ | ⟨z, hz, tz, xz⟩)
          · exact ⟨m, by omega, am⟩
          · exact ⟨n, by omega, z, (mL z).mp hz, tz, xz⟩
        · rintro ⟨m, hm, am⟩
          by_cases e : m = n
          · subst e
            obtain ⟨z, r, tz, xz⟩ := am
            exact .inr ⟨z, (mL z).mpr r, tz, xz⟩
          · exact .inl ⟨m, by omega, am⟩
    · rw [List.take_zero, show gF ps n [] = numsF ps n from funext (gF_nil ps n)]
      rfl
end
end L2.DL
set_option Elab.async false
set_option linter.all false
set_option autoImplicit false
set_option maxRecDepth 100000
set_option maxHeartbeats 2000000
namespace L2.DL
open PySem PySem.Spec PyProof.Rows
local macro_rules | `(tactic| walk_at "ev") => `(tactic| simp only [dSeq, dNext, dSet, dPar, dPar3, dRet, dRetN, dDrop, dIfS, dBrk, dCnt, dApp, dFor, dItL, dItT, dRng1, dRng2, dZip, dEnum, dItS, dAsg, dAugI, dNever, dPutS, dNewD, dFldM, dFldS, dStar,
  dgName, dgTup, dgCons, dgNil, dOp, dUn, dC, dNil, dCons, dCB, dTup, dLst, dIf, dTst, dTru, dAnd, dOr, dNot, dAndV, dOrV, dNotV, dYes, dInR, dFld, dMeth, dCall, dDctIx, dGet2, dRaise, dRaiseZ, dDisp, dPNil, dPCons, dRepD, dTold, dLenSet, hid_u, hid_d, hid_o, dStep2, dSlV, dIxV, dSetV, dPopV, dLenV, dLcV, lstAt, Option.isSome_some, Option.isSome_none, dSl, dNoP, dPart, dLc, dDc, dSortSet, dSortSc, dListVals, dChain, dIsiT2, dCallB, dBor, dNilB, dCBB, dOneL,
  dIsN, dNotN, dStrI, dAbs, dIn, fz_v, fz_l, fz_d, fz_i, fz_m, un_l, un_d, un_i, un_m, sl_v, sl_o, dwipe, and_assoc, insLF, insLT, insFF, insFT, startD, startN, pdT, pdI, gdT, prT, stI, putFD, lendable, noKR, noK, noKs,
  vd0, vo0, rd0, ro0, vd1, vo1, rd1, ro1, vd2, vo2, rd2, ro2, vd3, vo3, rd3, ro3, vd4, vo4, rd4, ro4, vd5, vo5, rd5, ro5, vd6, vo6, rd6, ro6, vd7, vo7, rd7, ro7, vd8, vo8, rd8, ro8, vd9, vo9, rd9, ro9, vd10, vo10, rd10, ro10, vd11, vo11, rd11, ro11, vd12, vo12, rd12, ro12, vd13, vo13, rd13, ro13, vd14, vo14, rd14, ro14, vd15, vo15, rd15, ro15, vd16, vo16, rd16, ro16, vd17, vo17, rd17, ro17, vd18, vo18, rd18, ro18, vd19, vo19, rd19, ro19, vd20, vo20, rd20, ro20, vd21, vo21, rd21, ro21, vd22, vo22, rd22, ro22, vd23, vo23, rd23, ro23, lk_people, lk_names, lk_has_name, lk_person, lk_place, lk_voice, lk_places, lk_at, lk_line, lk_voices, lk_is_together, lk_own, lenL, lenT, lenS, ixL, ixT, ixS, dcutL, dcutS, addII, addSS, addLL, int1i, int1b, negI, reprL, reprT, absI, sc_n, sc_b, sc_i, sc_s, subI, mulI, fdvI, modI, powI, ltI, leI, gtI, geI, tr_n, tr_b, tr_i, tr_l, tr_t, tr_d, ty_n, ty_b, ty_i, ty_s, ty_l, ty_t, ty_d, in_n, in_b, in_i, in_s, in_l, in_t, in_d, eqII, neII, eqSS, neSS, eqBB, neBB, isic_n, isic_b, isic_i, isic_s, isic_l, isic_t, isic_d, isio_n, isio_b, isio_i, isio_s, isio_l, isio_t, isio_d, isic_I, isic_S, isic_T, isic_L, isic_B, isio_I, dIsiO, isi_ii, isi_ib, isi_is, isi_il, isi_bi, isi_bb, isi_bs, isi_si, isi_sb, isi_ss, isi_ni, isi_nb, isi_ns, isi_li, isi_lb, isi_ls, isi_ll, isi_ti, isi_tb, isi_ts, isi_tt, isi_di, isi_db, isi_ds, isi_lt, isi_tl, isi_bt, isi_nt, isi_dt, eqLL, neLL, eqTT, neTT, isi_sl, isi_st, isi_it, kit_ll, kit_lt, max2, min2, get1, get2b, get3b, get3c,
  List.map_cons, List.map_nil, List.length_cons, List.length_nil, List.replicate, List.append_nil, List.cons_append, List.nil_append, List.getElem?_cons_zero, List.getElem?_cons_succ, List.set_cons_zero, List.set_cons_succ, List.getElem?_nil, Nat.sub_zero, Nat.reduceAdd, Nat.reduceSub, Int.reduceLT, Int.reduceLE, Int.reduceNeg, Nat.zero_add,
  true_and, and_true, eq_self, Bool.true_or, Bool.or_true, Bool.false_or, Bool.or_false, Bool.true_and, Bool.and_true, Bool.false_and, Bool.and_false, exists_eq_left, exists_eq_left', exists_eq', exists_eq, Option.some.injEq, Res.v.injEq, D.bl.injEq, D.int.injEq, D.str.injEq, D.lst.injEq, D.tup.injEq, D.dct.injEq, D.ins.injEq, Sl.o.injEq, Sl.d.injEq, List.cons.injEq, reduceCtorEq, false_or, or_false, if_true, if_false, Bool.false_eq_true, Bool.not_true, Bool.not_false, ite_true, ite_false, decide_true, decide_false, and_self, List.isEmpty_nil, List.isEmpty_cons, exists_and_left, exists_const, lenNil, reprWL, reprAA, dZipLT, min3R, isBR, notBR, pcT, wtT, wtI, pcI, dCallBL, lrgR, lrg1R, dNewT, dLk, dDispT1, dNeE, dPutT, dGetT, dLenT, dVarK, dItKT, dIxT, dLenTD, dKeysT, un_dT, un_dL, fzR, lz3R, dThenFz, dNest, dOwnL, dEqO, hideO, dOpV, dRevL, dGetS, dLkI, dItKI, dIxI, dGetI, dInI])
def t_law_k65 (K : PySem.W.Frag) (C : Nm) (XD : DX) : DTS := (dSeq (dFor (dRng1 (dCons (dC (.int 4)) dNil)) (dgName 2) (dSeq (dSet 3 (dCall (sp_l_narrow_world C) XD (dCons (dVar 1) (dCons (dC (.int 5)) (dCons (dC (.int 9)) dNil)))))
      (dSeq (dPar3 4 5 6 (dDctIx (dVar 3) (dC (.str ("standing" : Str)))) (dCall (sp_w_spots C) XD (dCons (dVar 3) dNil)) (dLkI (dCall (sp_l_free_lot C) XD (dCons (dVar 3) dNil))))
      (dSeq (dSet 7 (dLst dNil))
      (dSeq (dFor (dItKI (dVar 6)) (dgName 8) (dSet 7 (dCB dSortL (dCons (dOp dAdd (dVar 7) (dIxI (dVar 6) (dVar 8))) dNil))))
      (dSeq (dIfS (dTst (dOp dNe2 (dCB dReprA (dCons (dCall (sp_free_numbers C) XD (dCons (dVar 4) dNil)) dNil)) (dCB dReprA (dCons (dTup (dCons (dOp dIx (dVar 7) (dC (.int 0))) (dCons (dOp dIx (dVar 7) (dUn dNeg (dC (.int 1)))) dNil))) dNil)))) (dRet (dC (.bl false))) dNext)
      (dSeq (dFor (dRng2 (dCons (dOp dSub (dCB dMinT (dCons (dVar 5) dNil)) (dC (.int 2))) (dCons (dOp dAdd (dCB dMaxT (dCons (dVar 5) dNil)) (dC (.int 3))) dNil))) (dgName 8) (dSeq (dSet 9 (dGetI (dVar 6) (dVar 8) (dLst dNil)))
      (dSeq (dSet 10 (dIf (dTst (dOp dNe2 (dVar 9) (dLst dNil))) (dTup (dCons (dOp dIx (dVar 9) (dC (.int 0))) (dCons (dOp dIx (dVar 9) (dUn dNeg (dC (.int 1)))) dNil))) (dC .non)))
      (dSeq (dIfS (dTst (dOp dNe2 (dCB dReprA (dCons (dCall (sp_free_numbers_at C) XD (dCons (dVar 4) (dCons (dVar 8) dNil))) dNil)) (dCB dReprA (dCons (dVar 10) dNil)))) (dRet (dC (.bl false))) dNext)
      (dSeq (dIfS (dAnd (dTst (dOp dNe2 (dVar 9) (dLst dNil))) (dTst (dOp dNe2 (dVar 9) (dOp dLrg (dOp dIx (dVar 9) (dC (.int 0))) (dOp dAdd (dOp dIx (dVar 9) (dUn dNeg (dC (.int 1)))) (dC (.int 1))))))) (dRet (dC (.bl false))) dNext)
      (dFor (dRng2 (dCons (dUn dNeg (dC (.int 2))) (dCons (dOp dAdd (dOp dSub (dCB dMaxT (dCons (dVar 5) dNil)) (dCB dMinT (dCons (dVar 5) dNil))) (dC (.int 3))) dNil))) (dgName 11) (dIfS (dTst (dOp dNe2 (dCB dReprA (dCons (dCall (sp_can_meet_free C) XD (dCons (dVar 4) (dCons (dVar 8) (dCons (dVar 11) dNil)))) dNil)) (dCB dReprA (dCons (dOp (dIn false) (dVar 11) (dVar 9)) dNil)))) (dRet (dC (.bl false))) dNext)))))))
      (dFor (dItL (dLst (dCons (dC .non) (dCons (dC (.bl true)) (dCons (dC (.bl false)) (dCons (dC (.str ("0" : Str))) (dCons (dTup dNil) (dCons (dLst dNil) (dCons dNewD (dCons (dCall (sp_w_odd C) XD (dCons (dVar 1) dNil)) dNil)))))))))) (dgName 12) (dSeq (dSet 10 (dAndV (dCB (dIsiC K (C "Standing")) (dCons (dVar 12) (dCons (dC (.ty "int")) dNil))) (dNotV (dCB (dIsiC K (C "Standing")) (dCons (dVar 12) (dCons (dC (.ty "bool")) dNil))))))
      (dSeq (dSet 13 (dLst (dCons (dCall (sp_can_meet_free C) XD (dCons (dVar 4) (dCons (dVar 12) (dCons (dOp dIx (dVar 7) (dC (.int 0))) dNil)))) (dCons (dCall (sp_can_meet_free C) XD (dCons (dVar 4) (dCons (dCB dMinT (dCons (dVar 5) dNil)) (dCons (dVar 12) dNil)))) dNil))))
      (dSeq (dIfS (dTst (dOp dNe2 (dCB dRepr (dCons (dVar 13) dNil)) (dCB dRepr (dCons (dLst (dCons (dAndV (dVar 10) (dOp (dIn false) (dOp dIx (dVar 7) (dC (.int 0))) (dGetI (dVar 6) (dVar 12) (dLst dNil)))) (dCons (dAndV (dVar 10) (dOp (dIn false) (dVar 12) (dGetI (dVar 6) (dCB dMinT (dCons (dVar 5) dNil)) (dLst dNil)))) dNil))) dNil)))) (dRet (dC (.bl false))) dNext)
      (dIfS (dAnd (dTst (dOp dNotN (dCall (sp_free_numbers_at C) XD (dCons (dVar 4) (dCons (dVar 12) dNil))) (dC .non))) (dOr (dNot (dTru (dVar 10))) (dTst (dOp (dInI true) (dVar 12) (dVar 6))))) (dRet (dC (.bl false))) dNext))))))))))))
      (dRet (dAndV (dOp dEq2 (dCall (sp_free_numbers C) XD (dCons (dCall (sp_Standing C) XD (dCons (dLst (dCons (dTup (dCons (dC (.str ("a" : Str))) (dCons (dC (.int 5)) (dCons (dC (.int 0)) dNil)))) dNil)) dNil)) dNil)) (dTup (dCons (dC (.int 0)) (dCons (dC (.int 0)) dNil)))) (dOp dEq2 (dCall (sp_free_numbers_at C) XD (dCons (dCall (sp_Standing C) XD (dCons (dLst (dCons (dTup (dCons (dC (.str ("a" : Str))) (dCons (dC (.int 5)) (dCons (dC (.int 0)) dNil)))) dNil)) dNil)) (dCons (dC (.int 5)) dNil))) (dTup (dCons (dC (.int 0)) (dCons (dC (.int 0)) dNil)))))))
theorem places_nearF {B : Int} {ps : List Pn} (h : Near B ps) {x : Int} (hx : x ∈ placesL ps) : -B ≤ x ∧ x ≤ B := by
  obtain ⟨p, hp, rfl⟩ := of_places hx
  exact h p hp
theorem sorted_head {E : List Int} {v : Int} (s : E.Pairwise (· ≤ ·)) (h : v ∈ E) (l : ∀ y, y ∈ E → v ≤ y) : E.headD 0 = v := by
  cases E with
  | nil => cases h
  | cons e t =>
    show e = v
    have := l e List.mem_cons_self
    rcases List.mem_cons.mp h with z | z
    · exact z.symm
    · have := (List.pairwise_cons.mp s).1 v z
      omega
theorem sorted_last {E : List Int} {v : Int} (s : E.Pairwise (· ≤ ·)) (h : v ∈ E) (l : ∀ y, y ∈ E → y ≤ v) : E.getLastD 0 = v := by
  have ne : E ≠ [] := fun e => by rw [e] at h; cases h
  have e : E.getLastD 0 = E.getLast ne := by rw [List.getLastD_eq_getLast?, List.getLast?_eq_some_getLast ne]; rfl
  have d : E = E.dropLast ++ [E.getLast ne] := (List.dropLast_concat_getLast ne).symm
  have h1 := l _ (List.getLast_mem ne)
  rw [e]
  rw [d, List.mem_append] at h
  rcases h with z | z
  · rw [d, List.pairwise_append] at s
    have := s.2.2 v z _ (List.mem_singleton.mpr rfl)
    omega
  · exact (List.mem_singleton.mp z).symm
theorem iteN {b : Bool} {i : Decidable ((!b) = true)} {A B : Prop} (h : b = true) (q : B) : @ite Prop ((!b) = true) i A B := by
  subst h
  rw [if_neg (fun z => by cases z)]
  exact q
theorem sh_intsF {l : List Int} (hb : ∀ x, x ∈ l → x.natAbs < 10 ^ 45) (few : l.length ≤ 60) : Sh 1 9060 (.lst (l.map D.int)) :=
  ((Shs.map (n := 0) (w := 150) fun x hx => Sh.int (hb x hx)).lst).mono (Nat.le_refl _) (Nat.mul_le_mul_right 151 few)
theorem meets_iff {ps : List Pn} {x c : Int} : decide (paperF ps (.int x) (.int c) = ("meets" : Str)) = decide (totF ps - mostB ps x ≤ c ∧ c ≤ totF ps) := by
  have e : paperF ps (.int x) (.int c) = (if totF ps - c < 0 then ("many" : Str) else if x - firstP ps < totF ps - c then ("left" : Str) else if lastP ps - x < totF ps - c then ("right" : Str) else if totF ps - mxL (wdL ps) < totF ps - c then ("wide" : Str) else ("meets" : Str)) := rfl
  rw [e]
  unfold mostB
  refine decide_eq_decide.mpr ?_
  by_cases h1 : totF ps - c < 0
  · rw [if_pos h1]; exact ⟨fun h => absurd h (by decide +kernel), fun h => by omega⟩
  rw [if_neg h1]
  by_cases h2 : x - firstP ps < totF ps - c
  · rw [if_pos h2]; exact ⟨fun h => absurd h (by decide +kernel), fun h => by omega⟩
  rw [if_neg h2]
  by_cases h3 : lastP ps - x < totF ps - c
  · rw [if_pos h3]; exact ⟨fun h => absurd h (by decide +kernel), fun h => by omega⟩
  rw [if_neg h3]
  by_cases h4 : totF ps - mxL (wdL ps) < totF ps - c
  · rw [if_pos h4]; exact ⟨fun h => absurd h (by decide +kernel), fun h => by omega⟩
  rw [if_neg h4]
  exact ⟨fun _ => by omega, fun _ => rfl⟩
def OddF (d : D) : Prop := (∃ z : Int, d = .int z ∧ -(10 ^ 31) ≤ z ∧ z ≤ 10 ^ 31) ∨ d = .non ∨ (∃ b, d = .bl b) ∨ (∃ x, d = .str x) ∨ (∃ l, d = .tup l) ∨ (∃ l, d = .lst l) ∨ ∃ l, d = .dct l
theorem odd_ok : ∀ d, d ∈ oddD2 → OddF d := by
  intro d h
  simp only [oddD2, List.mem_cons, List.not_mem_nil, or_false] at h
  rcases h with rfl | rfl | rfl | rfl | rfl | rfl | rfl | rfl | rfl | rfl | rfl | rfl | rfl | rfl | rfl | rfl | rfl | rfl | rfl
  all_goals first
    | exact .inl ⟨_, rfl, by decide, by decide⟩
    | exact .inr (.inl rfl)
    | exact .inr (.inr (.inl ⟨_, rfl⟩))
    | exact .inr (.inr (.inr (.inl ⟨_, rfl⟩)))
    | exact .inr (.inr (.inr (.inr (.inl ⟨_, rfl⟩))))
    | exact .inr (.inr (.inr (.inr (.inr (.inl ⟨_, rfl⟩)))))
    | exact .inr (.inr (.inr (.inr (.inr (.inr ⟨_, rfl⟩)))))
theorem shb (a b : Bool) : ShowOk (.lst [.bl a, .bl b]) := ((Shs.cons (Sh.bl (b := a)) (Shs.cons (Sh.bl (b := b)) Shs.nil)).lst).show
theorem atF_non {ps : List Pn} {d : D} (h : ∀ z, d ≠ .int z) : atF ps d = .non := by
  cases d with
  | int z => exact absurd rfl (h z)
  | _ => rfl
theorem paper_l {ps : List Pn} {d e : D} (h : ∀ z, d ≠ .int z) : decide (paperF ps d e = ("meets" : Str)) = false := by
  have : paperF ps d e = ("many" : Str) := by
    cases d with
    | int z => exact absurd rfl (h z)
    | _ => rfl
  rw [this]
  decide +kernel
theorem paper_r {ps : List Pn} {d e : D} (h : ∀ z, e ≠ .int z) : decide (paperF ps d e = ("meets" : Str)) = false := by
  have : paperF ps d e = ("many" : Str) := by
    cases e with
    | int z => exact absurd rfl (h z)
    | _ => cases d <;> rfl
  rw [this]
  decide +kernel
def folk1 : List Pn := [("a", 5, 0)]
theorem iteY {b : Bool} {i : Decidable ((!b) = true)} {A B : Prop} (h : b = false) (q : A) : @ite Prop ((!b) = true) i A B := by
  subst h
  rw [if_pos (show (!false) = true from rfl)]
  exact q
theorem sho2 {a b : Int} (ha : a.natAbs < 10 ^ 45) (hb : b.natAbs < 10 ^ 45) : ShowOk (.tup [.int a, .int b]) := ((Shs.cons (Sh.int ha) (Shs.cons (Sh.int hb) (Shs.nil.mono (Nat.zero_le _) (Nat.le_refl _)))).tup).show
open Classical in
theorem mem_numsF {ps : List Pn} {N : Nat} {x y : Int} : y ∈ numsF ps N x ↔ ∃ m : Nat, m < N ∧ AtF ps m x ∧ (m : Int) = y := by
  unfold numsF
  rw [List.mem_map]
  constructor
  · rintro ⟨m, hm, e⟩
    obtain ⟨h1, h2⟩ := List.mem_filter.mp hm
    exact ⟨m, List.mem_range.mp h1, of_decide_eq_true h2, e⟩
  · rintro ⟨m, h1, h2, e⟩
    exact ⟨m, List.mem_filter.mpr ⟨List.mem_range.mpr h1, decide_eq_true h2⟩, e⟩
theorem mem_intsF {a b x : Int} : x ∈ intsR a b ↔ a ≤ x ∧ x < b := by
  unfold intsR
  rw [List.mem_map]
  constructor
  · rintro ⟨k, hk, e⟩
    have := List.mem_range.mp hk
    omega
  · rintro ⟨h1, h2⟩
    exact ⟨(x - a).toNat, List.mem_range.mpr (by omega), by omega⟩
theorem intsF_lt (a b : Int) : (intsR a b).Pairwise (· < ·) := by
  unfold intsR
  rw [List.pairwise_map]
  exact List.pairwise_lt_range.imp fun h => by omega
theorem numsF_in {ps : List Pn} (ne : placesL ps ≠ []) {N : Nat} (hN : ∀ m q, Fch ps m q → m < N) (x : Int) : numsF ps N x = intsR (totF ps - mostB ps x) (totF ps + 1) := by
  refine lt_ext ?_ (intsF_lt _ _) fun y => ?_
  · unfold numsF
    rw [List.pairwise_map]
    exact ((List.pairwise_lt_range (n := N)).filter _).imp fun h => by omega
  · rw [mem_numsF, mem_intsF]
    constructor
    · rintro ⟨m, _, am, e⟩
      have := (at_iff ne m x).mp am
      omega
    · rintro ⟨h1, h2⟩
      have te := tot_eq ne
      have ff := free_facts ps
      have y0 : 0 ≤ y := by unfold mostB at h1; omega
      have am : AtF ps y.toNat x := (at_iff ne _ x).mpr ⟨by omega, by omega⟩
      obtain ⟨q, r, _⟩ := am
      exact ⟨y.toNat, hN _ q r, (at_iff ne _ x).mpr ⟨by omega, by omega⟩, by omega⟩
/-- the fewest calls of all -/
theorem least_at {ps : List Pn} (ne : placesL ps ≠ []) : (∀ x, 0 ≤ mostB ps x → leastF ps ≤ totF ps - mostB ps x) ∧ ∃ x, 0 ≤ mostB ps x ∧ leastF ps = totF ps - mostB ps x := by
  have te := tot_eq ne
  have ff := free_facts ps
  unfold leastF mostB
  refine ⟨fun x h => by omega, firstP ps + min (totF ps / 2) (totF ps - mxL (wdL ps)), by omega, by omega⟩
section
variable {K : PySem.W.Frag} {C : Nm} {XD : DX}
theorem pure_law_k65 : t_law_k65 K C XD { nx := fun _ => False, rt := fun r => r = .v (.bl true) } (Sl.un :: Sl.d .src :: List.replicate 12 Sl.un) := by
  unfold t_law_k65
  walk_at "ev"
  refine ⟨by decide, by decide, ?_⟩
  refine loop_rng 0 4 (fun _ ρ => ∃ a2 a3 a4 a5 a6 a7 a8 a9 a10 a11 a12 a13, ρ = [Sl.un, Sl.d .src, a2, a3, a4, a5, a6, a7, a8, a9, a10, a11, a12, a13]) ?_ ?_ _ ⟨_, _, _, _, _, _, _, _, _, _, _, _, rfl⟩
  · rintro k ρ hk ⟨a2, a3, a4, a5, a6, a7, a8, a9, a10, a11, a12, a13, rfl⟩ E' h1 h2 h3 h4
    walk_at "ev"
    refine ⟨5, 9, rfl, by decide, by decide, by decide, by decide, fun ps n1 n2 hw hn ⟨a, hI⟩ => ?_⟩
    walk_at "ev"
    rw [show unAt (wD C ps) = wD C ps from rfl]
    have few := hw.few
    have l5 : ps.length ≤ 5 := by omega
    have ne : placesL ps ≠ [] := by
      intro z
      obtain ⟨p, hp⟩ : ∃ p, p ∈ ps := List.exists_mem_of_length_pos (by omega)
      have := mem_places hp
      rw [z] at this
      cases this
    have te := tot_eq ne
    have fm := firstP_mem ne
    have lm := lastP_mem ne
    have fb := places_nearF hn fm.1
    have lb := places_nearF hn lm.1
    have fi := hI _ (mem_plcs.mpr fm.1)
    have li := hI _ (mem_plcs.mpr lm.1)
    have ff := free_facts ps
    have big : (9 + 1) ^ ps.length ≤ 1000000 := Nat.le_trans (Nat.pow_le_pow_right (by decide) l5) (by decide)
    refine ⟨_, rfl, _, rfl, _, wd_s, ps, rfl, few, ps, rfl, hw, n1, ⟨a, 9, hI, by decide, big⟩, fun T N nT mT hN hN2 => ?_⟩
    have nums := numsF_in ne hN
    refine ⟨_, rfl, _, rfl, ?_⟩
    have keys : ((fD T (numsF ps N)).map fun kv : Key × D => kD kv.1) = T.map D.int := by unfold fD; rw [List.map_map]; rfl
    rw [keys]
    have tl : T.length ≤ 9 + 1 := few_keys (a := a) (w := 9) nT fun x hx => by
      obtain ⟨m, z, r, _, hx⟩ := (mT x).mp hx
      exact inI_pl hI r hx
    have vT : ∀ x, x ∈ T → valD (fD T (numsF ps N)) (.inl x) = some (.lst ((numsF ps N x).map .int)) := fun x hx => by rw [val_fD, if_pos hx]
    refine loop_ix D.int T (fun j ρ => ∃ (E : List Int) (s8 : Sl), ρ = [Sl.un, Sl.d .src, Sl.d (.int (0 + (k : Int))), Sl.d (wD C ps), Sl.d (stD C ps), Sl.d (.tup (ps.map fun p => .int p.2.1)), Sl.d (.dcI (fD T (numsF ps N))), Sl.o (.lst (E.map .int)), s8, a9, a10, a11, a12, a13] ∧ E.Pairwise (· ≤ ·) ∧ E.length ≤ j * 5 ∧ ∀ y, y ∈ E ↔ ∃ x, x ∈ T.take j ∧ y ∈ numsF ps N x) ?_ ?_ _ ⟨[], _, rfl, .nil, by simp, by simp⟩
    · rintro j hj ρ ⟨E, s8, rfl, sE, lE, mE⟩ E2 j1 j2 j3 j4
      have hx := List.getElem_mem hj
      have nl : (numsF ps N T[j]).length ≤ 5 := by
        rw [nums, intsR_len]
        unfold mostB
        omega
      have j9 : (j + 1) * 5 ≤ 10 * 5 := Nat.mul_le_mul_right _ (by omega)
      walk_at "ev"
      refine ⟨_, rfl, _, rfl, _, vT _ hx, ?_⟩
      refine ⟨small (m := 10000) (by rw [List.length_map, List.length_map]; omega), ?_⟩
      refine ⟨E ++ numsF ps N T[j], by rw [List.map_append]; rfl, by rw [List.length_append]; omega, fun F f1 f2 => ?_⟩
      refine j1 _ ⟨F, _, rfl, f2, by rw [f1.length_eq, List.length_append, Nat.succ_mul]; omega, fun y => ?_⟩
      rw [f1.mem_iff, List.mem_append, mE]
      constructor
      · rintro (⟨x, h, hy⟩ | h)
        · exact ⟨x, (mem_take_succ hj).mpr (.inl h), hy⟩
        · exact ⟨_, (mem_take_succ hj).mpr (.inr rfl), h⟩
      · rintro ⟨x, h, hy⟩
        rcases (mem_take_succ hj).mp h with h | h
        · exact .inl ⟨x, h, hy⟩
        · subst h; exact .inr hy
    rintro ρ ⟨E, s8, rfl, sE, lE, mE⟩
    rw [List.take_length] at mE
    walk_at "ev"
    have mE2 : ∀ y, y ∈ E ↔ ∃ x, totF ps - mostB ps x ≤ y ∧ y ≤ totF ps := fun y => by
      rw [mE]
      constructor
      · rintro ⟨x, _, h⟩
        rw [nums, mem_intsF] at h
        exact ⟨x, h.1, by omega⟩
      · rintro ⟨x, h1, h2⟩
        have hm : y ∈ numsF ps N x := by rw [nums, mem_intsF]; omega
        obtain ⟨m, _, am, _⟩ := mem_numsF.mp hm
        exact ⟨x, (mT x).mpr ⟨m, am⟩, hm⟩
    obtain ⟨la, xl, lb0, le0⟩ := least_at ne
    have hl : leastF ps ∈ E := (mE2 _).mpr ⟨xl, by omega, by omega⟩
    have hh : totF ps ∈ E := (mE2 _).mpr ⟨xl, by omega, by omega⟩
    have E0 : E ≠ [] := fun e => by rw [e] at hl; cases hl
    have e1 : E.headD 0 = leastF ps := sorted_head sE hl fun y hy => by
      obtain ⟨x, h1, h2⟩ := (mE2 y).mp hy
      have := la x (by omega)
      omega
    have e2 : E.getLastD 0 = totF ps := sorted_last sE hh fun y hy => by
      obtain ⟨x, h1, h2⟩ := (mE2 y).mp hy
      exact h2
    have i1 := head_at0 E0
    have i2 := at_last E E0
    rw [e1] at i1
    rw [e2] at i2
    have leb : 0 ≤ leastF ps ∧ leastF ps ≤ totF ps := by unfold leastF; omega
    have sh2 := sho2 (a := leastF ps) (b := totF ps) (by omega) (by omega)
    refine ⟨ps, rfl, hw, sh2, _, i1, _, i2, by decide, sh2, ?_⟩
    refine iteN (decide_eq_true rfl) ?_
    have minm : ∀ Q, Q (.v (.int (firstP ps))) → dMinT [D.tup (ps.map fun p => D.int p.2.1)] Q := fun Q h => ⟨plcs ps, by unfold plcs; rw [List.map_map]; rfl, by rw [plcs_len]; omega, fun m hm hmin => by
      rw [first_is (mem_plcs.mp hm) fun y hy => hmin y (mem_plcs.mpr hy)] at h
      exact h⟩
    have maxm : ∀ Q, Q (.v (.int (lastP ps))) → dMaxT [D.tup (ps.map fun p => D.int p.2.1)] Q := fun Q h => ⟨plcs ps, by unfold plcs; rw [List.map_map]; rfl, by rw [plcs_len]; omega, fun m hm hmax => by
      rw [last_is (mem_plcs.mp hm) fun y hy => hmax y (mem_plcs.mpr hy)] at h
      exact h⟩
    refine minm _ ?_
    walk_at "ev"
    refine maxm _ ?_
    walk_at "ev"
    refine ⟨by omega, by omega, by omega, by omega, ?_⟩
    have getN : ∀ x, (valD (fD T (numsF ps N)) (.inl x)).getD (.lst []) = .lst ((numsF ps N x).map .int) := fun x => by
      rw [val_fD]
      by_cases hT : x ∈ T
      · rw [if_pos hT]; rfl
      · rw [if_neg hT, show numsF ps N x = [] from numsF_nil fun m _ am => hT ((mT x).mpr ⟨m, am⟩)]
        rfl
    refine loop_rng (firstP ps - 2) (lastP ps + 3 - (firstP ps - 2)).toNat (fun _ ρ => ∃ s8 s9 s10 s11, ρ = [Sl.un, Sl.d .src, Sl.d (.int (0 + (k : Int))), Sl.d (wD C ps), Sl.d (stD C ps), Sl.d (.tup (ps.map fun p => .int p.2.1)), Sl.d (.dcI (fD T (numsF ps N))), Sl.d (.lst (E.map .int)), s8, s9, s10, s11, a12, a13]) ?_ ?_ _ ⟨_, _, _, _, rfl⟩
    · rintro i ρ hi ⟨s8, s9, s10, s11, rfl⟩ E2 j1 j2 j3 j4
      generalize hx : firstP ps - 2 + (i : Int) = x
      walk_at "ev"
      refine ⟨_, rfl, _, rfl, ?_⟩
      rw [getN, nums]
      have ncM : nc (.lst ((intsR (totF ps - mostB ps x) (totF ps + 1)).map D.int)) = true := by simp only [nc]; exact ncs_map fun _ _ => rfl
      have mle : mostB ps x ≤ 9 := by unfold mostB; omega
      have shM : Sh 1 9060 (.lst ((intsR (totF ps - mostB ps x) (totF ps + 1)).map D.int)) := sh_intsF (fun y hy => by have := mem_intsF.mp hy; omega) (by rw [intsR_len]; omega)
      have ie : ((intsR (totF ps - mostB ps x) (totF ps + 1)).map D.int).isEmpty = decide (mostB ps x < 0) := by
        rw [List.isEmpty_map, Bool.eq_iff_iff, decide_eq_true_iff, List.isEmpty_iff_length_eq_zero, intsR_len]
        omega
      refine .inr ?_
      rw [neNil ncM shM, ie]
      by_cases mb : mostB ps x < 0
      · rw [decide_eq_true mb]
        have ea : atF ps (.int x) = .non := if_pos mb
        refine ⟨_, rfl, ?_⟩
        rw [if_neg (by decide)]
        refine ⟨ps, _, rfl, hw, ne, rfl, ?_⟩
        rw [ea]
        refine ⟨Sh.non.show, Sh.non.show, iteN (decide_eq_true rfl) ?_⟩
        refine .inr ?_
        rw [neNil ncM shM, ie, decide_eq_true mb]
        refine ⟨_, rfl, ?_⟩
        rw [if_neg (by decide)]
        refine maxm _ ?_
        refine minm _ ?_
        walk_at "ev"
        refine ⟨by decide, by decide, by omega, by omega, ?_⟩
        refine loop_rng (-2) (lastP ps - firstP ps + 3 - -2).toNat (fun _ ρ => ∃ s11, ρ = [Sl.un, Sl.d .src, Sl.d (.int (0 + (k : Int))), Sl.d (wD C ps), Sl.d (stD C ps), Sl.d (.tup (ps.map fun p => .int p.2.1)), Sl.d (.dcI (fD T (numsF ps N))), Sl.d (.lst (E.map .int)), Sl.d (.int x), Sl.d (.lst ((intsR (totF ps - mostB ps x) (totF ps + 1)).map .int)), Sl.d (.non), s11, a12, a13]) ?_ ?_ _ ⟨_, rfl⟩
        · rintro i2 ρ hi2 ⟨s11, rfl⟩ E3 f1 f2 f3 f4
          generalize -2 + (i2 : Int) = c
          walk_at "ev"
          refine ⟨ps, _, _, rfl, hw, ne, rfl, rfl, Sh.bl.show, rfl, flat_ints, Sh.bl.show, ?_⟩
          refine iteN (decide_eq_true ?_) (f1 _ ⟨_, rfl⟩)
          rw [inD_ints, meets_iff, decide_eq_decide.mpr (show (totF ps - mostB ps x ≤ c ∧ c ≤ totF ps) ↔ c ∈ intsR (totF ps - mostB ps x) (totF ps + 1) by rw [mem_intsF]; omega)]
          rfl
        · rintro ρ ⟨s11, rfl⟩
          exact j1 _ ⟨_, _, _, _, rfl⟩
      · rw [decide_eq_false mb]
        have ea : atF ps (.int x) = .tup [.int (totF ps - mostB ps x), .int (totF ps)] := if_neg mb
        have M0 : intsR (totF ps - mostB ps x) (totF ps + 1) ≠ [] := fun z => by
          have := congrArg List.length z
          rw [intsR_len, List.length_nil] at this
          omega
        have lt := intsF_lt (totF ps - mostB ps x) (totF ps + 1)
        have x1 := head_at0 M0
        have x2 := at_last _ M0
        rw [sorted_head (lt.imp fun h => Int.le_of_lt h) (v := totF ps - mostB ps x) (mem_intsF.mpr (by omega)) fun y hy => (mem_intsF.mp hy).1] at x1
        rw [sorted_last (lt.imp fun h => Int.le_of_lt h) (v := totF ps) (mem_intsF.mpr (by omega)) fun y hy => by have := (mem_intsF.mp hy).2; omega] at x2
        have sh3 := sho2 (a := totF ps - mostB ps x) (b := totF ps) (by omega) (by omega)
        refine ⟨_, rfl, ?_⟩
        rw [if_pos (by decide)]
        refine ⟨_, x1, _, x2, by decide, ps, _, rfl, hw, ne, rfl, ?_⟩
        rw [ea]
        refine ⟨sh3, sh3, iteN (decide_eq_true rfl) ?_⟩
        refine .inr ?_
        rw [neNil ncM shM, ie, decide_eq_false mb]
        refine ⟨_, rfl, ?_⟩
        rw [if_pos (by decide)]
        refine ⟨_, x1, _, x2, ?_⟩
        walk_at "ev"
        refine ⟨by omega, ?_⟩
        rw [neSelf ncM shM]
        refine ⟨_, rfl, ?_⟩
        rw [if_neg (by decide)]
        refine maxm _ ?_
        refine minm _ ?_
        walk_at "ev"
        refine ⟨by decide, by decide, by omega, by omega, ?_⟩
        refine loop_rng (-2) (lastP ps - firstP ps + 3 - -2).toNat (fun _ ρ => ∃ s11, ρ = [Sl.un, Sl.d .src, Sl.d (.int (0 + (k : Int))), Sl.d (wD C ps), Sl.d (stD C ps), Sl.d (.tup (ps.map fun p => .int p.2.1)), Sl.d (.dcI (fD T (numsF ps N))), Sl.d (.lst (E.map .int)), Sl.d (.int x), Sl.d (.lst ((intsR (totF ps - mostB ps x) (totF ps + 1)).map .int)), Sl.d (.tup [.int (totF ps - mostB ps x), .int (totF ps)]), s11, a12, a13]) ?_ ?_ _ ⟨_, rfl⟩
        · rintro i2 ρ hi2 ⟨s11, rfl⟩ E3 f1 f2 f3 f4
          generalize -2 + (i2 : Int) = c
          walk_at "ev"
          refine ⟨ps, _, _, rfl, hw, ne, rfl, rfl, Sh.bl.show, rfl, flat_ints, Sh.bl.show, ?_⟩
          refine iteN (decide_eq_true ?_) (f1 _ ⟨_, rfl⟩)
          rw [inD_ints, meets_iff, decide_eq_decide.mpr (show (totF ps - mostB ps x ≤ c ∧ c ≤ totF ps) ↔ c ∈ intsR (totF ps - mostB ps x) (totF ps + 1) by rw [mem_intsF]; omega)]
          rfl
        · rintro ρ ⟨s11, rfl⟩
          exact j1 _ ⟨_, _, _, _, rfl⟩
    rintro ρ ⟨s8, s9, s10, s11, rfl⟩
    walk_at "ev"
    refine ⟨rfl, fun dO hO => ?_⟩
    walk_at "ev"
    have oks : ∀ d, d ∈ [D.non, D.bl true, D.bl false, D.str ("0" : Str), D.tup [], D.lst [], D.dct [], dO] → OddF d := fun d hd => by
      simp only [List.mem_cons, List.not_mem_nil, or_false] at hd
      rcases hd with rfl | rfl | rfl | rfl | rfl | rfl | rfl | rfl
      · exact .inr (.inl rfl)
      · exact .inr (.inr (.inl ⟨_, rfl⟩))
      · exact .inr (.inr (.inl ⟨_, rfl⟩))
      · exact .inr (.inr (.inr (.inl ⟨_, rfl⟩)))
      · exact .inr (.inr (.inr (.inr (.inl ⟨_, rfl⟩))))
      · exact .inr (.inr (.inr (.inr (.inr (.inl ⟨_, rfl⟩)))))
      · exact .inr (.inr (.inr (.inr (.inr (.inr ⟨_, rfl⟩)))))
      · exact odd_ok _ hO
    refine ⟨by decide, ?_⟩
    rw [← List.map_id [D.non, D.bl true, D.bl false, D.str ("0" : Str), D.tup [], D.lst [], D.dct [], dO]]
    refine loop_inv id (fun rest ρ => (∀ d, d ∈ rest → OddF d) ∧ ∃ s10 s12 s13, ρ = [Sl.un, Sl.d .src, Sl.d (.int (0 + (k : Int))), Sl.d (wD C ps), Sl.d (stD C ps), Sl.d (.tup (ps.map fun p => .int p.2.1)), Sl.d (.dcI (fD T (numsF ps N))), Sl.d (.lst (E.map .int)), s8, s9, s10, s11, s12, s13]) ?_ ?_ _ _ ⟨oks, _, _, _, rfl⟩
    · rintro d rest ρ ⟨hd, s10, s12, s13, rfl⟩ E2 j1 j2 j3 j4
      have hdd := hd d List.mem_cons_self
      have nxt : ∀ s10 s12 s13, E2.nx [Sl.un, Sl.d .src, Sl.d (.int (0 + (k : Int))), Sl.d (wD C ps), Sl.d (stD C ps), Sl.d (.tup (ps.map fun p => .int p.2.1)), Sl.d (.dcI (fD T (numsF ps N))), Sl.d (.lst (E.map .int)), s8, s9, s10, s11, s12, s13] := fun a b c => j1 _ ⟨fun y hy => hd y (List.mem_cons_of_mem _ hy), _, _, _, rfl⟩
      rcases hdd with ⟨z, rfl, z0, z1⟩ | hdd
      · rw [show id (D.int z) = D.int z from rfl]
        have same : ∀ x c : Int, decide (paperF ps (.int x) (.int c) = ("meets" : Str)) = inD (.int c) ((numsF ps N x).map .int) := fun x c => by
          rw [meets_iff, inD_ints, nums]
          refine decide_eq_decide.mpr ?_
          rw [mem_intsF]
          omega
        have c1 : ∀ x c : Int, ∀ Q, Q (.v (.bl (inD (.int c) ((numsF ps N x).map .int)))) → sp_can_meet_free C [stD C ps, .int x, .int c] Q XD := fun x c Q h => ⟨ps, _, _, rfl, hw, ne, rfl, rfl, by rw [same]; exact h⟩
        walk_at "ev"
        refine ⟨_, i1, c1 _ _ _ ?_⟩
        refine minm _ (c1 _ _ _ ?_)
        refine ⟨by decide, shb _ _, _, i1, _, rfl, _, rfl, (numsF ps N z).map .int, .inl (getN z), rfl, flat_ints, _, rfl, minm _ ?_⟩
        refine ⟨_, rfl, (numsF ps N (firstP ps)).map .int, .inl (getN _), rfl, flat_ints, by decide, shb _ _, iteN (decide_eq_true rfl) ?_⟩
        by_cases mb : mostB ps z < 0
        · refine ⟨ps, _, rfl, hw, ne, rfl, ?_⟩
          rw [show atF ps (.int z) = .non from if_pos mb]
          exact iteN (b := isN D.non) rfl (nxt _ _ _)
        · have zT : z ∈ T := (mT z).mpr ⟨(totF ps).toNat, (at_iff ne _ z).mpr (by omega)⟩
          refine ⟨ps, _, rfl, hw, ne, rfl, ?_⟩
          rw [show atF ps (.int z) = .tup [.int (totF ps - mostB ps z), .int (totF ps)] from if_neg mb]
          have sm : (valD (fD T (numsF ps N)) (.inl z)).isSome = true := by rw [vT z zT]; rfl
          exact iteY (b := isN (D.tup [.int (totF ps - mostB ps z), .int (totF ps)])) rfl ⟨_, rfl, _, rfl, iteN sm (nxt _ _ _)⟩
      · have go : ∀ d : D, (∀ z, d ≠ .int z) → tyC C d → (∀ Q, Q (.v (.bl false)) → sp_can_meet_free C [stD C ps, d, .int (leastF ps)] Q XD) ∧ (∀ Q, Q (.v (.bl false)) → sp_can_meet_free C [stD C ps, .int (firstP ps), d] Q XD) ∧ ∀ Q, Q (.v .non) → sp_free_numbers_at C [stD C ps, d] Q XD := fun d nd td =>
          ⟨fun Q h => ⟨ps, _, _, rfl, hw, ne, td, rfl, by rw [paper_l nd]; exact h⟩, fun Q h => ⟨ps, _, _, rfl, hw, ne, rfl, td, by rw [paper_r nd]; exact h⟩, fun Q h => ⟨ps, _, rfl, hw, ne, td, by rw [atF_non nd]; exact h⟩⟩
        rcases hdd with rfl | ⟨b, rfl⟩ | ⟨b, rfl⟩ | ⟨b, rfl⟩ | ⟨b, rfl⟩ | ⟨b, rfl⟩
        · rw [show id D.non = D.non from rfl]
          obtain ⟨c1, c2, c3⟩ := go D.non (fun z h => by cases h) rfl
          walk_at "ev"
          refine ⟨_, i1, c1 _ ?_⟩
          refine minm _ (c2 _ ?_)
          refine ⟨by decide, shb _ _, by decide, shb _ _, iteN (decide_eq_true rfl) (c3 _ ?_)⟩
          exact iteN (b := isN D.non) rfl (nxt _ _ _)
        · rw [show id (D.bl b) = (D.bl b) from rfl]
          obtain ⟨c1, c2, c3⟩ := go (D.bl b) (fun z h => by cases h) rfl
          walk_at "ev"
          refine ⟨_, i1, c1 _ ?_⟩
          refine minm _ (c2 _ ?_)
          refine ⟨by decide, shb _ _, by decide, shb _ _, iteN (decide_eq_true rfl) (c3 _ ?_)⟩
          exact iteN (b := isN D.non) rfl (nxt _ _ _)
        · rw [show id (D.str b) = (D.str b) from rfl]
          obtain ⟨c1, c2, c3⟩ := go (D.str b) (fun z h => by cases h) rfl
          walk_at "ev"
          refine ⟨_, i1, c1 _ ?_⟩
          refine minm _ (c2 _ ?_)
          refine ⟨by decide, shb _ _, by decide, shb _ _, iteN (decide_eq_true rfl) (c3 _ ?_)⟩
          exact iteN (b := isN D.non) rfl (nxt _ _ _)
        · rw [show id (D.tup b) = (D.tup b) from rfl]
          obtain ⟨c1, c2, c3⟩ := go (D.tup b) (fun z h => by cases h) rfl
          walk_at "ev"
          refine ⟨_, i1, c1 _ ?_⟩
          refine minm _ (c2 _ ?_)
          refine ⟨by decide, shb _ _, by decide, shb _ _, iteN (decide_eq_true rfl) (c3 _ ?_)⟩
          exact iteN (b := isN D.non) rfl (nxt _ _ _)
        · rw [show id (D.lst b) = (D.lst b) from rfl]
          obtain ⟨c1, c2, c3⟩ := go (D.lst b) (fun z h => by cases h) rfl
          walk_at "ev"
          refine ⟨_, i1, c1 _ ?_⟩
          refine minm _ (c2 _ ?_)
          refine ⟨by decide, shb _ _, by decide, shb _ _, iteN (decide_eq_true rfl) (c3 _ ?_)⟩
          exact iteN (b := isN D.non) rfl (nxt _ _ _)
        · rw [show id (D.dct b) = (D.dct b) from rfl]
          obtain ⟨c1, c2, c3⟩ := go (D.dct b) (fun z h => by cases h) rfl
          walk_at "ev"
          refine ⟨_, i1, c1 _ ?_⟩
          refine minm _ (c2 _ ?_)
          refine ⟨by decide, shb _ _, by decide, shb _ _, iteN (decide_eq_true rfl) (c3 _ ?_)⟩
          exact iteN (b := isN D.non) rfl (nxt _ _ _)
    · rintro ρ ⟨_, s10, s12, s13, rfl⟩
      exact h1 _ ⟨_, _, _, _, _, _, _, _, _, _, _, _, rfl⟩
  rintro ρ ⟨a2, a3, a4, a5, a6, a7, a8, a9, a10, a11, a12, a13, rfl⟩
  walk_at "ev"
  have wf1 : Wf folk1 := ⟨by decide +kernel, by decide +kernel, by decide +kernel, by decide⟩
  have n1 : placesL folk1 ≠ [] := by decide +kernel
  have l0 : leastF folk1 = 0 := by decide +kernel
  have t0 : totF folk1 = 0 := by decide +kernel
  have a0 : atF folk1 (.int 5) = .tup [.int 0, .int 0] := rfl
  refine ⟨by decide, by decide, folk1, rfl, wf1, folk1, rfl, wf1, by decide, .inr ?_⟩
  rw [l0, t0]
  show dEq (D.tup [D.int 0, D.int 0]) (D.tup [D.int 0, D.int 0]) _
  have st : Sh 1 302 (D.tup [D.int 0, D.int 0]) := (Shs.cons (Sh.int (by decide)) (Shs.cons (Sh.int (by decide)) (Shs.nil.mono (Nat.zero_le _) (Nat.le_refl _)))).tup
  rw [neqSelf rfl st]
  refine ⟨_, rfl, ?_⟩
  rw [if_pos rfl]
  refine ⟨by decide, by decide, folk1, rfl, wf1, folk1, _, rfl, wf1, n1, rfl, ?_⟩
  rw [a0]
  refine ⟨by decide, .inr ?_⟩
  show dEq (D.tup [D.int 0, D.int 0]) (D.tup [D.int 0, D.int 0]) _
  rw [neqSelf rfl st]
end
end L2.DL
set_option Elab.async false
set_option linter.all false
set_option autoImplicit false
set_option maxRecDepth 100000
set_option maxHeartbeats 4000000
namespace K65
open PySem PySem.Spec PyProof.Rows L2 L2.DL
abbrev N_l_source : List Str := ["_law_script", "_law_mixed_here", "_law_cell"]
theorem sc_l_source : FnScope N_l_source ["_law_script"] (defScope s_l_source) := ⟨rfl, rfl, rfl, by decide +kernel, rfl, by decide +kernel, by decide +kernel⟩
abbrev N_Standing_people : List Str := ["self"]
theorem sc_Standing_people : FnScope N_Standing_people ["self"] (defScope s_Standing_people) := ⟨rfl, rfl, rfl, by decide +kernel, rfl, by decide +kernel, by decide +kernel⟩
abbrev N_Standing_places : List Str := ["self", "name", "place", "voice"]
theorem sc_Standing_places : FnScope N_Standing_places ["self"] (defScope s_Standing_places) := ⟨rfl, rfl, rfl, by decide +kernel, rfl, by decide +kernel, by decide +kernel⟩
abbrev N_voices_at : List Str := ["standing", "place", "name", "spot", "voice"]
theorem sc_voices_at : FnScope N_voices_at ["standing", "place"] (defScope s_voices_at) := ⟨rfl, rfl, rfl, by decide +kernel, rfl, by decide +kernel, by decide +kernel⟩
abbrev N_gaps : List Str := ["standing", "found", "many", "places", "left", "right"]
theorem sc_gaps : FnScope N_gaps ["standing"] (defScope s_gaps) := ⟨rfl, rfl, rfl, by decide +kernel, rfl, by decide +kernel, by decide +kernel⟩
abbrev N_widths : List Str := ["standing", "left", "width", "kind"]
theorem sc_widths : FnScope N_widths ["standing"] (defScope s_widths) := ⟨rfl, rfl, rfl, by decide +kernel, rfl, by decide +kernel, by decide +kernel⟩
abbrev N_most_between : List Str := ["standing", "place", "first", "last", "some"]
theorem sc_most_between : FnScope N_most_between ["standing", "place"] (defScope s_most_between) := ⟨rfl, rfl, rfl, by decide +kernel, rfl, by decide +kernel, by decide +kernel⟩
abbrev N_is_integer : List Str := ["value"]
theorem sc_is_integer : FnScope N_is_integer ["value"] (defScope s_is_integer) := ⟨rfl, rfl, rfl, by decide +kernel, rfl, by decide +kernel, by decide +kernel⟩
abbrev N_free_numbers_at : List Str := ["standing", "place", "total"]
theorem sc_free_numbers_at : FnScope N_free_numbers_at ["standing", "place"] (defScope s_free_numbers_at) := ⟨rfl, rfl, rfl, by decide +kernel, rfl, by decide +kernel, by decide +kernel⟩
abbrev N_is_word : List Str := ["value", "sign"]
theorem sc_is_word : FnScope N_is_word ["value"] (defScope s_is_word) := ⟨rfl, rfl, rfl, by decide +kernel, rfl, by decide +kernel, by decide +kernel⟩
abbrev N_is_row : List Str := ["value", "many"]
theorem sc_is_row : FnScope N_is_row ["value", "many"] (defScope s_is_row) := ⟨rfl, rfl, rfl, by decide +kernel, rfl, by decide +kernel, by decide +kernel⟩
abbrev N_wrong_person : List Str := ["value", "names"]
theorem sc_wrong_person : FnScope N_wrong_person ["value", "names"] (defScope s_wrong_person) := ⟨rfl, rfl, rfl, by decide +kernel, rfl, by decide +kernel, by decide +kernel⟩
abbrev N_wrong_people : List Str := ["value", "names", "k", "person", "path"]
theorem sc_wrong_people : FnScope N_wrong_people ["value"] (defScope s_wrong_people) := ⟨rfl, rfl, rfl, by decide +kernel, rfl, by decide +kernel, by decide +kernel⟩
abbrev N_Standing_init : List Str := ["self", "people", "path", "person"]
theorem sc_Standing_init : FnScope N_Standing_init ["self", "people"] (defScope s_Standing_init) := ⟨rfl, rfl, rfl, by decide +kernel, rfl, by decide +kernel, by decide +kernel⟩
abbrev N_free_numbers : List Str := ["standing", "some"]
theorem sc_free_numbers : FnScope N_free_numbers ["standing"] (defScope s_free_numbers) := ⟨rfl, rfl, rfl, by decide +kernel, rfl, by decide +kernel, by decide +kernel⟩
abbrev N_l_pick : List Str := ["_law_source_here", "_law_many", "_law_left", "_law_mixed_here"]
theorem sc_l_pick : FnScope N_l_pick ["_law_source_here", "_law_many"] (defScope s_l_pick) := ⟨rfl, rfl, rfl, by decide +kernel, rfl, by decide +kernel, by decide +kernel⟩
abbrev N_l_of : List Str := ["_law_source_here", "_law_some"]
theorem sc_l_of : FnScope N_l_of ["_law_source_here", "_law_some"] (defScope s_l_of) := ⟨rfl, rfl, rfl, by decide +kernel, rfl, by decide +kernel, by decide +kernel⟩
abbrev N_w_odd : List Str := ["_law_source_here", "_law_some"]
theorem sc_w_odd : FnScope N_w_odd ["_law_source_here"] (defScope s_w_odd) := ⟨rfl, rfl, rfl, by decide +kernel, rfl, by decide +kernel, by decide +kernel⟩
abbrev N_free_paper : List Str := ["standing", "place", "calls", "some", "between"]
theorem sc_free_paper : FnScope N_free_paper ["standing", "place", "calls"] (defScope s_free_paper) := ⟨rfl, rfl, rfl, by decide +kernel, rfl, by decide +kernel, by decide +kernel⟩
abbrev N_can_meet_free : List Str := ["standing", "place", "calls"]
theorem sc_can_meet_free : FnScope N_can_meet_free ["standing", "place", "calls"] (defScope s_can_meet_free) := ⟨rfl, rfl, rfl, by decide +kernel, rfl, by decide +kernel, by decide +kernel⟩
abbrev N_w_spots : List Str := ["_law_world_here", "_law_one"]
theorem sc_w_spots : FnScope N_w_spots ["_law_world_here"] (defScope s_w_spots) := ⟨rfl, rfl, rfl, by decide +kernel, rfl, by decide +kernel, by decide +kernel⟩
abbrev N_l_called : List Str := ["_law_spots_here", "_law_place", "_law_spot"]
theorem sc_l_called : FnScope N_l_called ["_law_spots_here", "_law_place"] (defScope s_l_called) := ⟨rfl, rfl, rfl, by decide +kernel, rfl, by decide +kernel, by decide +kernel⟩
abbrev N_l_free_lot : List Str := ["_law_world_here", "_law_found", "_law_level", "_law_calls", "_law_later", "_law_spots_here", "_law_place"]
theorem sc_l_free_lot : FnScope N_l_free_lot ["_law_world_here"] (defScope s_l_free_lot) := ⟨rfl, rfl, rfl, by decide +kernel, rfl, by decide +kernel, by decide +kernel⟩
abbrev N_l_made : List Str := ["_law_people", "_law_one"]
theorem sc_l_made : FnScope N_l_made ["_law_people"] (defScope s_l_made) := ⟨rfl, rfl, rfl, by decide +kernel, rfl, by decide +kernel, by decide +kernel⟩
abbrev N_l_at : List Str := ["_law_world_here", "_law_spots_here", "_law_one", "_law_spot"]
theorem sc_l_at : FnScope N_l_at ["_law_world_here", "_law_spots_here"] (defScope s_l_at) := ⟨rfl, rfl, rfl, by decide +kernel, rfl, by decide +kernel, by decide +kernel⟩
abbrev N_l_mixed : List Str := ["_law_source_here", "_law_things", "_law_rest", "_law_lap"]
theorem sc_l_mixed : FnScope N_l_mixed ["_law_source_here", "_law_things"] (defScope s_l_mixed) := ⟨rfl, rfl, rfl, by decide +kernel, rfl, by decide +kernel, by decide +kernel⟩
abbrev N_l_names : List Str := ["_law_source_here", "_law_many", "_law_shift", "_law_names_here", "_law_tails", "_law_k", "_law_letter"]
theorem sc_l_names : FnScope N_l_names ["_law_source_here", "_law_many"] (defScope s_l_names) := ⟨rfl, rfl, rfl, by decide +kernel, rfl, by decide +kernel, by decide +kernel⟩
abbrev N_l_world : List Str := ["_law_source_here", "_law_most", "_law_far", "_law_parity", "_law_here", "_law_people", "_law_name", "_law_one"]
theorem sc_l_world : FnScope N_l_world ["_law_source_here", "_law_most", "_law_far", "_law_parity"] (defScope s_l_world) := ⟨rfl, rfl, rfl, by decide +kernel, rfl, by decide +kernel, by decide +kernel⟩
abbrev N_l_narrow_world : List Str := ["_law_source_here", "_law_most", "_law_total", "_law_world_here", "_law_spots_here", "_law_low", "_law_spot"]
theorem sc_l_narrow_world : FnScope N_l_narrow_world ["_law_source_here", "_law_most", "_law_total"] (defScope s_l_narrow_world) := ⟨rfl, rfl, rfl, by decide +kernel, rfl, by decide +kernel, by decide +kernel⟩
abbrev N_law : List Str := ["_law_script", "_law_source_here", "_law_lap", "_law_world_here", "_law_standing", "_law_spots_here", "_law_lot", "_law_every", "_law_place", "_law_numbers", "_law_due", "_law_calls", "_law_odd_here", "_law_told"]
theorem sc_law : FnScope N_law ["_law_script"] (defScope s_law) := ⟨rfl, rfl, rfl, by decide +kernel, rfl, by decide +kernel, by decide +kernel⟩
structure GB (mg : Str → Option Value) (C : Nm) : Prop where
  abs : mg "abs" = none
  all : mg "all" = none
  bool : mg "bool" = none
  enumerate : mg "enumerate" = none
  int : mg "int" = none
  isinstance : mg "isinstance" = none
  len : mg "len" = none
  list : mg "list" = none
  max : mg "max" = none
  min : mg "min" = none
  range : mg "range" = none
  repr : mg "repr" = none
  set : mg "set" = none
  sorted : mg "sorted" = none
  str : mg "str" = none
  sum : mg "sum" = none
  tuple : mg "tuple" = none
  zip : mg "zip" = none
  c_FIGURES : ∃ t, mg "FIGURES" = some (.str ("0123456789" : Str) t)
  c_LETTERS : ∃ t, mg "LETTERS" = some (.str ("abcdefghijklmnopqrstuvwxyz" : Str) t)
  o_Standing : mg "Standing" = some (.ref (C "Standing"))
structure CS (K : PySem.W.Frag) (C : Nm) : Prop where
  c_Standing : Cls K (C "Standing")
  f_own_people : NoAttr K (C "Standing") "own_people"
  n_Standing : InsN K (C "Standing")
section
variable {P : Program} {w : World} {K : PySem.W.Frag} {mg : Str → Option Value} {base : Heap}
theorem ok_l_source {C : Nm} {f : Addr} {fd : FuncData} (gb : GB mg C) (F : Fun K "_law_source" "_law_source" s_l_source f fd) : FnG P w K mg base 1 f fd ["_law_script"] (spSrc K) := by
  refine okG F sc_l_source (fun vs H Q E h => by obtain ⟨a, ns, rfl, _⟩ := h; rfl) fun cdv A outer s H vs Q E hgd hr h => ?_
  have nd := sc_l_source.nd
  refine ⟨_, pss_cons (ps_set (i := 1) nd rfl (.inl rfl) pe_int)
    (pss_cons (ps_for (passes_of rfl) rfl (pi_list (pv 0)) (pg_name (i := 2) nd rfl (.inl rfl))
      (pss_one (ps_set (i := 1) nd rfl (.inl rfl) (pe_op op_mod (pe_callTy call_int1 rfl gb.int (by decide +kernel) (pa_cons (pe_op op_add (pe_op op_add (pe_op op_mul (pv 1) pe_int) (pe_op op_mul (pv 2) pe_int)) pe_int) pa_nil)) pe_int))))
    (pss_one (ps_ret (pe_disp (pps_cons pe_str (pe_revL (pe_lc (own := [("_law_cell", 2)]) rfl nd (pi_list (pv 0)) (blkOk_by (own := [("_law_cell", 2)]) (N := N_l_source) (sc := defScope s_l_source) (by decide +kernel)) (fun _ _ _ _ _ => pg_name (i := 2) nd rfl (.inl rfl)) (fun _ _ _ _ _ => pts_nil) (fun _ _ _ _ _ => pe_callB call_abs rfl gb.abs (by decide +kernel) (pa_cons (pv 2) pa_nil))))
      (pps_cons pe_str pe_int (pps_cons pe_str (pv 1) (pps_cons pe_str pe_int pps_nil)))) rfl rfl (by decide) (by decide))))), ?_⟩
  exact pure_source (N := []) h
theorem ok_Standing_people {C : Nm} {f : Addr} {fd : FuncData} (gb : GB mg C) (st : CS K C)  (F : Fun K "people" "Standing.people" s_Standing_people f fd) : FnG P w K mg base 1 f fd ["self"] (spD K (sp_Standing_people C)) := by
  refine fnD F sc_Standing_people (fun ds QD XD h => by first | (obtain ⟨rfl, _⟩ := h; rfl) | (obtain ⟨_, rfl, _⟩ := h; rfl) | (obtain ⟨_, _, rfl, _⟩ := h; rfl) | (obtain ⟨_, _, _, rfl, _⟩ := h; rfl) | (obtain ⟨_, _, _, _, rfl, _⟩ := h; rfl) | (obtain ⟨_, _, _, _, _, rfl, _⟩ := h; rfl) | (obtain ⟨_, _, _, _, _, _, rfl, _⟩ := h; rfl) | (obtain ⟨_, _, _, _, _, _, _, rfl, _⟩ := h; rfl) | (obtain ⟨rfl | rfl, _⟩ := h <;> rfl) | (obtain ⟨_, rfl | rfl, _⟩ := h <;> rfl) | (obtain ⟨_, _, rfl | rfl, _⟩ := h <;> rfl) | (obtain ⟨_, _, _, rfl | rfl, _⟩ := h <;> rfl) | (obtain ⟨_, _, _, _, rfl | rfl, _⟩ := h <;> rfl)) fun cdv A outer s H E c XD hgd hr eK hp lk => ?_
  subst eK
  have hK : c.K = c.K := rfl
  have nd := sc_Standing_people.nd
  exact ⟨t_Standing_people c.K C XD, (dss_one (ds_ret (de_listVals rfl (de_fld st.c_Standing st.f_own_people hK (dv 0)) rfl gb.list (fun z => pe_listVals rfl z rfl gb.list)))), fun ds QD h => pure_Standing_people h⟩
theorem ok_Standing_places {C : Nm} {f : Addr} {fd : FuncData} (gb : GB mg C) (st : CS K C) (M_people : CalleeM P w K mg base 1 (C "Standing") "people" (sp_Standing_people C)) (F : Fun K "places" "Standing.places" s_Standing_places f fd) : FnG P w K mg base 2 f fd ["self"] (spD K (sp_Standing_places C)) := by
  refine fnD F sc_Standing_places (fun ds QD XD h => by first | (obtain ⟨rfl, _⟩ := h; rfl) | (obtain ⟨_, rfl, _⟩ := h; rfl) | (obtain ⟨_, _, rfl, _⟩ := h; rfl) | (obtain ⟨_, _, _, rfl, _⟩ := h; rfl) | (obtain ⟨_, _, _, _, rfl, _⟩ := h; rfl) | (obtain ⟨_, _, _, _, _, rfl, _⟩ := h; rfl) | (obtain ⟨_, _, _, _, _, _, rfl, _⟩ := h; rfl) | (obtain ⟨_, _, _, _, _, _, _, rfl, _⟩ := h; rfl) | (obtain ⟨rfl | rfl, _⟩ := h <;> rfl) | (obtain ⟨_, rfl | rfl, _⟩ := h <;> rfl) | (obtain ⟨_, _, rfl | rfl, _⟩ := h <;> rfl) | (obtain ⟨_, _, _, rfl | rfl, _⟩ := h <;> rfl) | (obtain ⟨_, _, _, _, rfl | rfl, _⟩ := h <;> rfl)) fun cdv A outer s H E c XD hgd hr eK hp lk => ?_
  subst eK
  have hK : c.K = c.K := rfl
  have nd := sc_Standing_places.nd
  exact ⟨t_Standing_places c.K C XD, (dss_one (ds_ret (de_sortSc (own := [("name", 1), ("place", 2), ("voice", 3)]) rfl nd rfl gb.sorted (di_list hK (de_meth0 (dv 0) M_people hK hgd (hr.mono (by decide)) lk)) (blkOk_by (own := [("name", 1), ("place", 2), ("voice", 3)]) (N := N_Standing_places) (sc := defScope s_Standing_places) (by decide +kernel)) (by decide) (fun _ _ _ _ _ => (dg_tup rfl hK (dgs_cons (dg_name (i := 1) nd rfl (.inl rfl)) (dgs_cons (dg_name (i := 2) nd rfl (.inl rfl)) (dgs_cons (dg_name (i := 3) nd rfl (.inl rfl)) dgs_nil))))) (fun _ _ _ _ _ => dts_nil) (fun _ _ _ _ _ => (dv 2))))), fun ds QD h => pure_Standing_places h⟩
theorem ok_voices_at {C : Nm} {f : Addr} {fd : FuncData} (gb : GB mg C) (st : CS K C) (M_people : CalleeM P w K mg base 1 (C "Standing") "people" (sp_Standing_people C)) (F : Fun K "voices_at" "voices_at" s_voices_at f fd) : FnG P w K mg base 2 f fd ["standing", "place"] (spD K (sp_voices_at C)) := by
  refine fnD F sc_voices_at (fun ds QD XD h => by first | (obtain ⟨rfl, _⟩ := h; rfl) | (obtain ⟨_, rfl, _⟩ := h; rfl) | (obtain ⟨_, _, rfl, _⟩ := h; rfl) | (obtain ⟨_, _, _, rfl, _⟩ := h; rfl) | (obtain ⟨_, _, _, _, rfl, _⟩ := h; rfl) | (obtain ⟨_, _, _, _, _, rfl, _⟩ := h; rfl) | (obtain ⟨_, _, _, _, _, _, rfl, _⟩ := h; rfl) | (obtain ⟨_, _, _, _, _, _, _, rfl, _⟩ := h; rfl) | (obtain ⟨rfl | rfl, _⟩ := h <;> rfl) | (obtain ⟨_, rfl | rfl, _⟩ := h <;> rfl) | (obtain ⟨_, _, rfl | rfl, _⟩ := h <;> rfl) | (obtain ⟨_, _, _, rfl | rfl, _⟩ := h <;> rfl) | (obtain ⟨_, _, _, _, rfl | rfl, _⟩ := h <;> rfl)) fun cdv A outer s H E c XD hgd hr eK hp lk => ?_
  subst eK
  have hK : c.K = c.K := rfl
  have nd := sc_voices_at.nd
  exact ⟨t_voices_at c.K C XD, (dss_one (ds_ret (de_callB cd_len call_len rfl gb.len (by decide +kernel) (da_cons (de_lc (own := [("name", 2), ("spot", 3), ("voice", 4)]) rfl nd  (di_list hK (de_meth0 (dv 0) M_people hK hgd (hr.mono (by decide)) lk)) (blkOk_by (own := [("name", 2), ("spot", 3), ("voice", 4)]) (N := N_voices_at) (sc := defScope s_voices_at) (by decide +kernel)) (by decide) (fun _ _ _ _ _ => (dg_tup rfl hK (dgs_cons (dg_name (i := 2) nd rfl (.inl rfl)) (dgs_cons (dg_name (i := 3) nd rfl (.inl rfl)) (dgs_cons (dg_name (i := 4) nd rfl (.inl rfl)) dgs_nil))))) (fun _ _ _ _ _ => (dts_one (PW.pt (dw_and (dt_cmp od_eq2 (op_eq2 hr.units) (dv 3) (dv 1) (nomark _)) (dw_and1 (dt_cmp od_eq2 (op_eq2 hr.units) (dv 4) de_int (nomark _))))))) (fun _ _ _ _ _ => (dv 2))) da_nil)))), fun ds QD h => pure_voices_at h⟩
theorem ok_gaps {C : Nm} {f : Addr} {fd : FuncData} (gb : GB mg C) (st : CS K C) (G_voices_at : Callee P w K mg base 2 "voices_at" (sp_voices_at C)) (M_places : CalleeM P w K mg base 2 (C "Standing") "places" (sp_Standing_places C)) (F : Fun K "gaps" "gaps" s_gaps f fd) : FnG P w K mg base 3 f fd ["standing"] (spD K (sp_gaps C)) := by
  refine fnD F sc_gaps (fun ds QD XD h => by first | (obtain ⟨rfl, _⟩ := h; rfl) | (obtain ⟨_, rfl, _⟩ := h; rfl) | (obtain ⟨_, _, rfl, _⟩ := h; rfl) | (obtain ⟨_, _, _, rfl, _⟩ := h; rfl) | (obtain ⟨_, _, _, _, rfl, _⟩ := h; rfl) | (obtain ⟨_, _, _, _, _, rfl, _⟩ := h; rfl) | (obtain ⟨_, _, _, _, _, _, rfl, _⟩ := h; rfl) | (obtain ⟨_, _, _, _, _, _, _, rfl, _⟩ := h; rfl) | (obtain ⟨rfl | rfl, _⟩ := h <;> rfl) | (obtain ⟨_, rfl | rfl, _⟩ := h <;> rfl) | (obtain ⟨_, _, rfl | rfl, _⟩ := h <;> rfl) | (obtain ⟨_, _, _, rfl | rfl, _⟩ := h <;> rfl) | (obtain ⟨_, _, _, _, rfl | rfl, _⟩ := h <;> rfl)) fun cdv A outer s H E c XD hgd hr eK hp lk => ?_
  subst eK
  have hK : c.K = c.K := rfl
  have nd := sc_gaps.nd
  exact ⟨t_gaps c.K C XD, (dss_cons (ds_par3 (i := 1) (j := 2) (l := 3) rfl nd rfl rfl rfl (by decide) (by decide) (by decide) rfl rfl rfl (de_lst da_nil) de_int (de_meth0 (dv 0) M_places hK hgd (hr.mono (by decide)) lk) (by rfl))
      (dss_cons (ds_for hp rfl (di_zip hK rfl gb.zip (da_cons (dv 3) (da_cons (de_slice hK (dv 3) (do_some de_int) do_none) da_nil))) (dg_tup rfl hK (dgs_cons (dg_name (i := 4) nd rfl (.inl rfl)) (dgs_cons (dg_name (i := 5) nd rfl (.inl rfl)) dgs_nil))) (dss_cons (ds_augI (i := 2) nd rfl (.inl rfl) (de_call G_voices_at hK hgd (hr.mono (by decide)) rfl lk (da_cons (dv 0) (da_cons (dv 4) da_nil))) ip_add)
      (dss_one (ds_append (i := 1) rfl (by first | exact Or.inl rfl | exact Or.inr (Or.inl rfl)) (de_tup (da_cons (dv 4) (da_cons (de_op od_sub op_sub (dv 5) (dv 4)) (da_cons (de_if (dt_cmp od_eq2 (op_eq2 hr.units) (de_op od_mod op_mod (dv 2) de_int) de_int (nomark _)) de_str de_str) da_nil)))) (h1 := pe_bm PySem.F.plainAttrs_list PySem.F.slot_list_append PySem.F.type_list_append mt_append (pe_var (i := 1) rfl (by first | exact Or.inl rfl | exact Or.inr (Or.inl rfl))) (pa_cons (froze (de_tup (da_cons (dv 4) (da_cons (de_op od_sub op_sub (dv 5) (dv 4)) (da_cons (de_if (dt_cmp od_eq2 (op_eq2 hr.units) (de_op od_mod op_mod (dv 2) de_int) de_int (nomark _)) de_str de_str) da_nil))))) pa_nil))))))
      (dss_one (dretv 1)))), fun ds QD h => pure_gaps h⟩
theorem ok_widths {C : Nm} {f : Addr} {fd : FuncData} (gb : GB mg C) (st : CS K C) (G_gaps : Callee P w K mg base 3 "gaps" (sp_gaps C)) (F : Fun K "widths" "widths" s_widths f fd) : FnG P w K mg base 4 f fd ["standing"] (spD K (sp_widths C)) := by
  refine fnD F sc_widths (fun ds QD XD h => by first | (obtain ⟨rfl, _⟩ := h; rfl) | (obtain ⟨_, rfl, _⟩ := h; rfl) | (obtain ⟨_, _, rfl, _⟩ := h; rfl) | (obtain ⟨_, _, _, rfl, _⟩ := h; rfl) | (obtain ⟨_, _, _, _, rfl, _⟩ := h; rfl) | (obtain ⟨_, _, _, _, _, rfl, _⟩ := h; rfl) | (obtain ⟨_, _, _, _, _, _, rfl, _⟩ := h; rfl) | (obtain ⟨_, _, _, _, _, _, _, rfl, _⟩ := h; rfl) | (obtain ⟨rfl | rfl, _⟩ := h <;> rfl) | (obtain ⟨_, rfl | rfl, _⟩ := h <;> rfl) | (obtain ⟨_, _, rfl | rfl, _⟩ := h <;> rfl) | (obtain ⟨_, _, _, rfl | rfl, _⟩ := h <;> rfl) | (obtain ⟨_, _, _, _, rfl | rfl, _⟩ := h <;> rfl)) fun cdv A outer s H E c XD hgd hr eK hp lk => ?_
  subst eK
  have hK : c.K = c.K := rfl
  have nd := sc_widths.nd
  exact ⟨t_widths c.K C XD, (dss_one (ds_ret (de_lc (own := [("left", 1), ("width", 2), ("kind", 3)]) rfl nd  (di_list hK (de_call G_gaps hK hgd (hr.mono (by decide)) rfl lk (da_cons (dv 0) da_nil))) (blkOk_by (own := [("left", 1), ("width", 2), ("kind", 3)]) (N := N_widths) (sc := defScope s_widths) (by decide +kernel)) (by decide) (fun _ _ _ _ _ => (dg_tup rfl hK (dgs_cons (dg_name (i := 1) nd rfl (.inl rfl)) (dgs_cons (dg_name (i := 2) nd rfl (.inl rfl)) (dgs_cons (dg_name (i := 3) nd rfl (.inl rfl)) dgs_nil))))) (fun _ _ _ _ _ => dts_nil) (fun _ _ _ _ _ => (dv 2))))), fun ds QD h => pure_widths h⟩
theorem ok_most_between {C : Nm} {f : Addr} {fd : FuncData} (gb : GB mg C) (st : CS K C) (M_places : CalleeM P w K mg base 2 (C "Standing") "places" (sp_Standing_places C)) (G_widths : Callee P w K mg base 4 "widths" (sp_widths C)) (F : Fun K "most_between" "most_between" s_most_between f fd) : FnG P w K mg base 5 f fd ["standing", "place"] (spD K (sp_most_between C)) := by
  refine fnD F sc_most_between (fun ds QD XD h => by first | (obtain ⟨rfl, _⟩ := h; rfl) | (obtain ⟨_, rfl, _⟩ := h; rfl) | (obtain ⟨_, _, rfl, _⟩ := h; rfl) | (obtain ⟨_, _, _, rfl, _⟩ := h; rfl) | (obtain ⟨_, _, _, _, rfl, _⟩ := h; rfl) | (obtain ⟨_, _, _, _, _, rfl, _⟩ := h; rfl) | (obtain ⟨_, _, _, _, _, _, rfl, _⟩ := h; rfl) | (obtain ⟨_, _, _, _, _, _, _, rfl, _⟩ := h; rfl) | (obtain ⟨rfl | rfl, _⟩ := h <;> rfl) | (obtain ⟨_, rfl | rfl, _⟩ := h <;> rfl) | (obtain ⟨_, _, rfl | rfl, _⟩ := h <;> rfl) | (obtain ⟨_, _, _, rfl | rfl, _⟩ := h <;> rfl) | (obtain ⟨_, _, _, _, rfl | rfl, _⟩ := h <;> rfl)) fun cdv A outer s H E c XD hgd hr eK hp lk => ?_
  subst eK
  have hK : c.K = c.K := rfl
  have nd := sc_most_between.nd
  exact ⟨t_most_between c.K C XD, (dss_cons (ds_par3 (i := 2) (j := 3) (l := 4) rfl nd rfl rfl rfl (by decide) (by decide) (by decide) rfl rfl rfl (de_ix od_ix ix_seq (de_meth0 (dv 0) M_places hK hgd (hr.mono (by decide)) lk) de_int (fun _ _ => rfl)) (de_ix od_ix ix_seq (de_meth0 (dv 0) M_places hK hgd (hr.mono (by decide)) lk) (de_un ud_neg un_neg de_int) (fun _ _ => rfl)) (de_call G_widths hK hgd (hr.mono (by decide)) rfl lk (da_cons (dv 0) da_nil)) (by rfl))
      (dss_one (ds_ret (de_callB cd_min3 (call_min3Nu rfl) rfl gb.min (by decide +kernel) (da_cons (de_op od_sub op_sub (dv 1) (dv 2)) (da_cons (de_op od_sub op_sub (dv 3) (dv 1)) (da_cons (de_op od_sub op_sub (de_callB cd_sum (cr_sum rfl) rfl gb.sum (by decide +kernel) (da_cons (dv 4) da_nil)) (de_callB cd_maxL (cr_max rfl) rfl gb.max (by decide +kernel) (da_cons (de_lst (da_cons de_int (da_star hK (dv 4) da_nil))) da_nil))) da_nil))))))), fun ds QD h => pure_most_between h⟩
theorem ok_is_integer {C : Nm} {f : Addr} {fd : FuncData} (gb : GB mg C) (st : CS K C)  (F : Fun K "is_integer" "is_integer" s_is_integer f fd) : FnG P w K mg base 1 f fd ["value"] (spD K (sp_is_integer C)) := by
  refine fnD F sc_is_integer (fun ds QD XD h => by first | (obtain ⟨rfl, _⟩ := h; rfl) | (obtain ⟨_, rfl, _⟩ := h; rfl) | (obtain ⟨_, _, rfl, _⟩ := h; rfl) | (obtain ⟨_, _, _, rfl, _⟩ := h; rfl) | (obtain ⟨_, _, _, _, rfl, _⟩ := h; rfl) | (obtain ⟨_, _, _, _, _, rfl, _⟩ := h; rfl) | (obtain ⟨_, _, _, _, _, _, rfl, _⟩ := h; rfl) | (obtain ⟨_, _, _, _, _, _, _, rfl, _⟩ := h; rfl) | (obtain ⟨rfl | rfl, _⟩ := h <;> rfl) | (obtain ⟨_, rfl | rfl, _⟩ := h <;> rfl) | (obtain ⟨_, _, rfl | rfl, _⟩ := h <;> rfl) | (obtain ⟨_, _, _, rfl | rfl, _⟩ := h <;> rfl) | (obtain ⟨_, _, _, _, rfl | rfl, _⟩ := h <;> rfl)) fun cdv A outer s H E c XD hgd hr eK hp lk => ?_
  subst eK
  have hK : c.K = c.K := rfl
  have nd := sc_is_integer.nd
  exact ⟨t_is_integer c.K C XD, (dss_one (ds_ret (de_and (de_callB (cd_isiC st.n_Standing) call_isi rfl gb.isinstance (by decide +kernel) (da_cons (dv 0) (da_cons (de_bty rfl gb.int (by decide +kernel)) da_nil))) (de_one (de_not (de_callB (cd_isiC st.n_Standing) call_isi rfl gb.isinstance (by decide +kernel) (da_cons (dv 0) (da_cons (de_bty rfl gb.bool (by decide +kernel)) da_nil)))))))), fun ds QD h => pure_is_integer h⟩
theorem ok_free_numbers_at {C : Nm} {f : Addr} {fd : FuncData} (gb : GB mg C) (st : CS K C) (G_most_between : Callee P w K mg base 5 "most_between" (sp_most_between C)) (G_widths : Callee P w K mg base 4 "widths" (sp_widths C)) (G_is_integer : Callee P w K mg base 1 "is_integer" (sp_is_integer C)) (F : Fun K "free_numbers_at" "free_numbers_at" s_free_numbers_at f fd) : FnG P w K mg base 6 f fd ["standing", "place"] (spD K (sp_free_numbers_at C)) := by
  refine fnD F sc_free_numbers_at (fun ds QD XD h => by first | (obtain ⟨rfl, _⟩ := h; rfl) | (obtain ⟨_, rfl, _⟩ := h; rfl) | (obtain ⟨_, _, rfl, _⟩ := h; rfl) | (obtain ⟨_, _, _, rfl, _⟩ := h; rfl) | (obtain ⟨_, _, _, _, rfl, _⟩ := h; rfl) | (obtain ⟨_, _, _, _, _, rfl, _⟩ := h; rfl) | (obtain ⟨_, _, _, _, _, _, rfl, _⟩ := h; rfl) | (obtain ⟨_, _, _, _, _, _, _, rfl, _⟩ := h; rfl) | (obtain ⟨rfl | rfl, _⟩ := h <;> rfl) | (obtain ⟨_, rfl | rfl, _⟩ := h <;> rfl) | (obtain ⟨_, _, rfl | rfl, _⟩ := h <;> rfl) | (obtain ⟨_, _, _, rfl | rfl, _⟩ := h <;> rfl) | (obtain ⟨_, _, _, _, rfl | rfl, _⟩ := h <;> rfl)) fun cdv A outer s H E c XD hgd hr eK hp lk => ?_
  subst eK
  have hK : c.K = c.K := rfl
  have nd := sc_free_numbers_at.nd
  exact ⟨t_free_numbers_at c.K C XD, (dss_cons (ds_if (PW.pt (dw_or (dt_not (dt_tru hK (de_call G_is_integer hK hgd (hr.mono (by decide)) rfl lk (da_cons (dv 1) da_nil)))) (dw_or1 (dt_cmp od_lt op_lt (de_call G_most_between hK hgd (hr.mono (by decide)) rfl lk (da_cons (dv 0) (da_cons (dv 1) da_nil))) de_int (nomark _))))) (dss_one (ds_ret de_non)) dss_nil)
      (dss_cons (ds_set (i := 2) nd rfl (.inl rfl) (de_callB cd_sum (cr_sum rfl) rfl gb.sum (by decide +kernel) (da_cons (de_call G_widths hK hgd (hr.mono (by decide)) rfl lk (da_cons (dv 0) da_nil)) da_nil)))
      (dss_one (ds_ret (de_tup (da_cons (de_op od_sub op_sub (dv 2) (de_call G_most_between hK hgd (hr.mono (by decide)) rfl lk (da_cons (dv 0) (da_cons (dv 1) da_nil)))) (da_cons (dv 2) da_nil))))))), fun ds QD h => pure_free_numbers_at h⟩
theorem ok_is_word {C : Nm} {f : Addr} {fd : FuncData} (gb : GB mg C) (st : CS K C)  (F : Fun K "is_word" "is_word" s_is_word f fd) : FnG P w K mg base 1 f fd ["value"] (spD K (sp_is_word C)) := by
  refine fnD F sc_is_word (fun ds QD XD h => by first | (obtain ⟨rfl, _⟩ := h; rfl) | (obtain ⟨_, rfl, _⟩ := h; rfl) | (obtain ⟨_, _, rfl, _⟩ := h; rfl) | (obtain ⟨_, _, _, rfl, _⟩ := h; rfl) | (obtain ⟨_, _, _, _, rfl, _⟩ := h; rfl) | (obtain ⟨_, _, _, _, _, rfl, _⟩ := h; rfl) | (obtain ⟨_, _, _, _, _, _, rfl, _⟩ := h; rfl) | (obtain ⟨_, _, _, _, _, _, _, rfl, _⟩ := h; rfl) | (obtain ⟨rfl | rfl, _⟩ := h <;> rfl) | (obtain ⟨_, rfl | rfl, _⟩ := h <;> rfl) | (obtain ⟨_, _, rfl | rfl, _⟩ := h <;> rfl) | (obtain ⟨_, _, _, rfl | rfl, _⟩ := h <;> rfl) | (obtain ⟨_, _, _, _, rfl | rfl, _⟩ := h <;> rfl)) fun cdv A outer s H E c XD hgd hr eK hp lk => ?_
  subst eK
  have hK : c.K = c.K := rfl
  have nd := sc_is_word.nd
  exact ⟨t_is_word c.K C XD, (dss_cons (ds_if (PW.pt (dw_or (dt_not (dt_tru hK (de_callB (cd_isiC st.n_Standing) call_isi rfl gb.isinstance (by decide +kernel) (da_cons (dv 0) (da_cons (de_bty rfl gb.str (by decide +kernel)) da_nil))))) (dw_or (dt_notInRng rfl gb.range (de_callB cd_len call_len rfl gb.len (by decide +kernel) (da_cons (dv 0) da_nil)) (da_cons de_int (da_cons de_int da_nil))) (dw_or1 (dt_cmp od_notInS op_notIn_sign (de_ix od_ix ix_seq (dv 0) de_int (fun _ _ => rfl)) (de_con rfl gb.c_LETTERS) (by rfl)))))) (dss_one (ds_ret de_bl)) dss_nil)
      (dss_one (ds_ret (de_callB cd_all (cr_all rfl) rfl gb.all (by decide +kernel) (da_cons (de_lc (own := [("sign", 1)]) rfl nd  (di_str (dv 0)) (blkOk_by (own := [("sign", 1)]) (N := N_is_word) (sc := defScope s_is_word) (by decide +kernel)) (by decide) (fun _ _ _ _ _ => (dg_name (i := 1) nd rfl (.inl rfl))) (fun _ _ _ _ _ => dts_nil) (fun _ _ _ _ _ => (de_or (de_cmp od_inS op_in_sign (dv 1) (de_con rfl gb.c_LETTERS) (by rfl)) (de_one (de_cmp od_inS op_in_sign (dv 1) (de_con rfl gb.c_FIGURES) (by rfl)))))) da_nil))))), fun ds QD h => pure_is_word h⟩
theorem ok_is_row {C : Nm} {f : Addr} {fd : FuncData} (gb : GB mg C) (st : CS K C)  (F : Fun K "is_row" "is_row" s_is_row f fd) : FnG P w K mg base 1 f fd ["value", "many"] (spD K (sp_is_row C)) := by
  refine fnD F sc_is_row (fun ds QD XD h => by first | (obtain ⟨rfl, _⟩ := h; rfl) | (obtain ⟨_, rfl, _⟩ := h; rfl) | (obtain ⟨_, _, rfl, _⟩ := h; rfl) | (obtain ⟨_, _, _, rfl, _⟩ := h; rfl) | (obtain ⟨_, _, _, _, rfl, _⟩ := h; rfl) | (obtain ⟨_, _, _, _, _, rfl, _⟩ := h; rfl) | (obtain ⟨_, _, _, _, _, _, rfl, _⟩ := h; rfl) | (obtain ⟨_, _, _, _, _, _, _, rfl, _⟩ := h; rfl) | (obtain ⟨rfl | rfl, _⟩ := h <;> rfl) | (obtain ⟨_, rfl | rfl, _⟩ := h <;> rfl) | (obtain ⟨_, _, rfl | rfl, _⟩ := h <;> rfl) | (obtain ⟨_, _, _, rfl | rfl, _⟩ := h <;> rfl) | (obtain ⟨_, _, _, _, rfl | rfl, _⟩ := h <;> rfl)) fun cdv A outer s H E c XD hgd hr eK hp lk => ?_
  subst eK
  have hK : c.K = c.K := rfl
  have nd := sc_is_row.nd
  exact ⟨t_is_row c.K C XD, (dss_one (ds_ret (de_and (de_callB (cd_isiC st.n_Standing) call_isi rfl gb.isinstance (by decide +kernel) (da_cons (dv 0) (da_cons (de_bty rfl gb.tuple (by decide +kernel)) da_nil))) (de_one (de_cmp od_eq2 (op_eq2 hr.units) (de_callB cd_len call_len rfl gb.len (by decide +kernel) (da_cons (dv 0) da_nil)) (dv 1) (nomark _)))))), fun ds QD h => pure_is_row h⟩
theorem ok_wrong_person {C : Nm} {f : Addr} {fd : FuncData} (gb : GB mg C) (st : CS K C) (G_is_integer : Callee P w K mg base 1 "is_integer" (sp_is_integer C)) (G_is_word : Callee P w K mg base 1 "is_word" (sp_is_word C)) (G_is_row : Callee P w K mg base 1 "is_row" (sp_is_row C)) (F : Fun K "wrong_person" "wrong_person" s_wrong_person f fd) : FnG P w K mg base 2 f fd ["value", "names"] (spD K (sp_wrong_person C)) := by
  refine fnD F sc_wrong_person (fun ds QD XD h => by first | (obtain ⟨rfl, _⟩ := h; rfl) | (obtain ⟨_, rfl, _⟩ := h; rfl) | (obtain ⟨_, _, rfl, _⟩ := h; rfl) | (obtain ⟨_, _, _, rfl, _⟩ := h; rfl) | (obtain ⟨_, _, _, _, rfl, _⟩ := h; rfl) | (obtain ⟨_, _, _, _, _, rfl, _⟩ := h; rfl) | (obtain ⟨_, _, _, _, _, _, rfl, _⟩ := h; rfl) | (obtain ⟨_, _, _, _, _, _, _, rfl, _⟩ := h; rfl) | (obtain ⟨rfl | rfl, _⟩ := h <;> rfl) | (obtain ⟨_, rfl | rfl, _⟩ := h <;> rfl) | (obtain ⟨_, _, rfl | rfl, _⟩ := h <;> rfl) | (obtain ⟨_, _, _, rfl | rfl, _⟩ := h <;> rfl) | (obtain ⟨_, _, _, _, rfl | rfl, _⟩ := h <;> rfl)) fun cdv A outer s H E c XD hgd hr eK hp lk => ?_
  subst eK
  have hK : c.K = c.K := rfl
  have nd := sc_wrong_person.nd
  exact ⟨t_wrong_person c.K C XD, (dss_cons (ds_if (dt_not (dt_tru hK (de_call G_is_row hK hgd (hr.mono (by decide)) rfl lk (da_cons (dv 0) (da_cons de_int da_nil))))) (dss_one (ds_ret (de_tup da_nil))) dss_nil)
      (dss_cons (ds_if (PW.pt (dw_or (dt_not (dt_tru hK (de_call G_is_word hK hgd (hr.mono (by decide)) rfl lk (da_cons (de_ix od_ix ix_seq (dv 0) de_int (fun _ _ => rfl)) da_nil)))) (dw_or1 (dt_cmp (od_inDct (neg := false)) (op_inDct (hu_of hr)) (de_ix od_ix ix_seq (dv 0) de_int (fun _ _ => rfl)) (dv 1) (by rfl))))) (dss_one (ds_ret (de_tup (da_cons de_int da_nil)))) dss_nil)
      (dss_cons (ds_if (dt_not (dt_tru hK (de_call G_is_integer hK hgd (hr.mono (by decide)) rfl lk (da_cons (de_ix od_ix ix_seq (dv 0) de_int (fun _ _ => rfl)) da_nil)))) (dss_one (ds_ret (de_tup (da_cons de_int da_nil)))) dss_nil)
      (dss_one (ds_ret (de_if (PW.pt (dw_or (dt_not (dt_tru hK (de_call G_is_integer hK hgd (hr.mono (by decide)) rfl lk (da_cons (de_ix od_ix ix_seq (dv 0) de_int (fun _ _ => rfl)) da_nil)))) (dw_or1 (dt_cmp (od_in (neg := true)) op_notIn_seq (de_ix od_ix ix_seq (dv 0) de_int (fun _ _ => rfl)) (de_tup (da_cons de_int (da_cons de_int da_nil))) (by rfl))))) (de_tup (da_cons de_int da_nil)) de_non)))))), fun ds QD h => pure_wrong_person h⟩
theorem ok_wrong_people {C : Nm} {f : Addr} {fd : FuncData} (gb : GB mg C) (st : CS K C) (G_wrong_person : Callee P w K mg base 2 "wrong_person" (sp_wrong_person C)) (F : Fun K "wrong_people" "wrong_people" s_wrong_people f fd) : FnG P w K mg base 3 f fd ["value"] (spD K (sp_wrong_people C)) := by
  refine fnD F sc_wrong_people (fun ds QD XD h => by first | (obtain ⟨rfl, _⟩ := h; rfl) | (obtain ⟨_, rfl, _⟩ := h; rfl) | (obtain ⟨_, _, rfl, _⟩ := h; rfl) | (obtain ⟨_, _, _, rfl, _⟩ := h; rfl) | (obtain ⟨_, _, _, _, rfl, _⟩ := h; rfl) | (obtain ⟨_, _, _, _, _, rfl, _⟩ := h; rfl) | (obtain ⟨_, _, _, _, _, _, rfl, _⟩ := h; rfl) | (obtain ⟨_, _, _, _, _, _, _, rfl, _⟩ := h; rfl) | (obtain ⟨rfl | rfl, _⟩ := h <;> rfl) | (obtain ⟨_, rfl | rfl, _⟩ := h <;> rfl) | (obtain ⟨_, _, rfl | rfl, _⟩ := h <;> rfl) | (obtain ⟨_, _, _, rfl | rfl, _⟩ := h <;> rfl) | (obtain ⟨_, _, _, _, rfl | rfl, _⟩ := h <;> rfl)) fun cdv A outer s H E c XD hgd hr eK hp lk => ?_
  subst eK
  have hK : c.K = c.K := rfl
  have nd := sc_wrong_people.nd
  exact ⟨t_wrong_people c.K C XD, (dss_cons (ds_if (dt_not (dt_tru hK (de_isiT2 hK (dv 0) rfl gb.isinstance rfl gb.list (by decide +kernel) rfl gb.tuple (by decide +kernel)))) (dss_one (ds_ret (de_tup da_nil))) dss_nil)
      (dss_cons (ds_set (i := 1) nd rfl (.inl rfl) de_dct0)
      (dss_cons (ds_for hp rfl (di_enum hK rfl gb.enumerate (da_cons (dv 0) da_nil)) (dg_tup rfl hK (dgs_cons (dg_name (i := 2) nd rfl (.inl rfl)) (dgs_cons (dg_name (i := 3) nd rfl (.inl rfl)) dgs_nil))) (dss_cons (ds_set (i := 4) nd rfl (.inl rfl) (de_callBor (l := false) G_wrong_person hK hgd (hr.mono (by decide)) rfl lk (dab_cons (dv 3) (dab_bor (hr := dab_nil)))))
      (dss_cons (ds_if (dt_cmp od_notN op_notN (dv 4) de_non (nomark _)) (dss_one (ds_ret (de_tup (da_cons (dv 2) (da_star hK (dv 4) da_nil))))) dss_nil)
      (dss_one (ds_put (i := 1) (hu_of hr) (pv 1) (de_ix od_ix ix_seq (dv 3) de_int (fun _ _ => rfl)) de_bl)))))
      (dss_one (ds_ret de_non))))), fun ds QD h => pure_wrong_people h⟩
theorem ok_Standing_init {C : Nm} {f : Addr} {fd : FuncData} (gb : GB mg C) (st : CS K C) (G_wrong_people : Callee P w K mg base 3 "wrong_people" (sp_wrong_people C)) (F : Fun K "__init__" "Standing.__init__" s_Standing_init f fd) : FnG P w K mg base 4 f fd ["self", "people"] (spI K (C "Standing") (sp_Standing C)) := by
  refine fnI F sc_Standing_init (fun ds QD XD h => by first | (obtain ⟨rfl, _⟩ := h; rfl) | (obtain ⟨_, rfl, _⟩ := h; rfl) | (obtain ⟨_, _, rfl, _⟩ := h; rfl) | (obtain ⟨_, _, _, rfl, _⟩ := h; rfl) | (obtain ⟨_, _, _, _, rfl, _⟩ := h; rfl) | (obtain ⟨_, _, _, _, _, rfl, _⟩ := h; rfl) | (obtain ⟨_, _, _, _, _, _, rfl, _⟩ := h; rfl) | (obtain ⟨_, _, _, _, _, _, _, rfl, _⟩ := h; rfl) | (obtain ⟨rfl | rfl, _⟩ := h <;> rfl) | (obtain ⟨_, rfl | rfl, _⟩ := h <;> rfl) | (obtain ⟨_, _, rfl | rfl, _⟩ := h <;> rfl) | (obtain ⟨_, _, _, rfl | rfl, _⟩ := h <;> rfl) | (obtain ⟨_, _, _, _, rfl | rfl, _⟩ := h <;> rfl)) fun cdv A outer s H E c XD hgd hr eK hp lk => ?_
  subst eK
  have hK : c.K = c.K := rfl
  have nd := sc_Standing_init.nd
  exact ⟨t_Standing_init c.K C XD, (dss_cons (ds_set (i := 2) nd rfl (.inl rfl) (de_call G_wrong_people hK hgd (hr.mono (by decide)) rfl lk (da_cons (dv 1) da_nil)))
      (dss_cons (ds_if (dt_cmp od_notN op_notN (dv 2) de_non (nomark _)) (dss_one ds_never) dss_nil)
      (dss_one (ds_fldM (i := 0) hK st.c_Standing st.f_own_people (pv 0) (de_dc (own := [("person", 3)]) rfl nd (di_list hK (dv 1)) (blkOk_by (own := [("person", 3)]) (N := N_Standing_init) (sc := defScope s_Standing_init) (by decide +kernel)) (by decide) (fun _ _ _ _ _ => (dg_name (i := 3) nd rfl (.inl rfl))) (fun _ _ _ _ _ => dts_nil) (fun _ _ _ _ _ => (de_ix od_ix ix_seq (dv 3) de_int (fun _ _ => rfl))) (fun _ _ _ _ _ => (dv 3))))))), fun ds QD y h => pure_Standing_init h⟩
theorem ok_free_numbers {C : Nm} {f : Addr} {fd : FuncData} (gb : GB mg C) (st : CS K C) (G_widths : Callee P w K mg base 4 "widths" (sp_widths C)) (F : Fun K "free_numbers" "free_numbers" s_free_numbers f fd) : FnG P w K mg base 5 f fd ["standing"] (spD K (sp_free_numbers C)) := by
  refine fnD F sc_free_numbers (fun ds QD XD h => by first | (obtain ⟨rfl, _⟩ := h; rfl) | (obtain ⟨_, rfl, _⟩ := h; rfl) | (obtain ⟨_, _, rfl, _⟩ := h; rfl) | (obtain ⟨_, _, _, rfl, _⟩ := h; rfl) | (obtain ⟨_, _, _, _, rfl, _⟩ := h; rfl) | (obtain ⟨_, _, _, _, _, rfl, _⟩ := h; rfl) | (obtain ⟨_, _, _, _, _, _, rfl, _⟩ := h; rfl) | (obtain ⟨_, _, _, _, _, _, _, rfl, _⟩ := h; rfl) | (obtain ⟨rfl | rfl, _⟩ := h <;> rfl) | (obtain ⟨_, rfl | rfl, _⟩ := h <;> rfl) | (obtain ⟨_, _, rfl | rfl, _⟩ := h <;> rfl) | (obtain ⟨_, _, _, rfl | rfl, _⟩ := h <;> rfl) | (obtain ⟨_, _, _, _, rfl | rfl, _⟩ := h <;> rfl)) fun cdv A outer s H E c XD hgd hr eK hp lk => ?_
  subst eK
  have hK : c.K = c.K := rfl
  have nd := sc_free_numbers.nd
  exact ⟨t_free_numbers c.K C XD, (dss_cons (ds_set (i := 1) nd rfl (.inl rfl) (de_call G_widths hK hgd (hr.mono (by decide)) rfl lk (da_cons (dv 0) da_nil)))
      (dss_one (ds_ret (de_tup (da_cons (de_callB cd_maxL (cr_max rfl) rfl gb.max (by decide +kernel) (da_cons (de_lst (da_cons (de_op od_fdv op_fdivW (de_op od_add op_addD (de_callB cd_sum (cr_sum rfl) rfl gb.sum (by decide +kernel) (da_cons (dv 1) da_nil)) de_int) de_int) (da_star hK (dv 1) da_nil))) da_nil)) (da_cons (de_callB cd_sum (cr_sum rfl) rfl gb.sum (by decide +kernel) (da_cons (dv 1) da_nil)) da_nil)))))), fun ds QD h => pure_free_numbers h⟩
theorem ok_l_pick {C : Nm} {f : Addr} {fd : FuncData} (gb : GB mg C) (st : CS K C)  (F : Fun K "_law_pick" "_law_pick" s_l_pick f fd) : FnG P w K mg base 1 f fd ["_law_source_here", "_law_many"] (spD K (sp_l_pick C)) := by
  refine fnD F sc_l_pick (fun ds QD XD h => by first | (obtain ⟨rfl, _⟩ := h; rfl) | (obtain ⟨_, rfl, _⟩ := h; rfl) | (obtain ⟨_, _, rfl, _⟩ := h; rfl) | (obtain ⟨_, _, _, rfl, _⟩ := h; rfl) | (obtain ⟨_, _, _, _, rfl, _⟩ := h; rfl) | (obtain ⟨_, _, _, _, _, rfl, _⟩ := h; rfl) | (obtain ⟨_, _, _, _, _, _, rfl, _⟩ := h; rfl) | (obtain ⟨_, _, _, _, _, _, _, rfl, _⟩ := h; rfl) | (obtain ⟨rfl | rfl, _⟩ := h <;> rfl) | (obtain ⟨_, rfl | rfl, _⟩ := h <;> rfl) | (obtain ⟨_, _, rfl | rfl, _⟩ := h <;> rfl) | (obtain ⟨_, _, _, rfl | rfl, _⟩ := h <;> rfl) | (obtain ⟨_, _, _, _, rfl | rfl, _⟩ := h <;> rfl)) fun cdv A outer s H E c XD hgd hr eK hp lk => ?_
  subst eK
  have hK : c.K = c.K := rfl
  have nd := sc_l_pick.nd
  exact ⟨t_l_pick c.K C XD, (dss_cons (ds_feed (s3 := ⟨0, 0, 0, 0⟩) (i := 0) (j := 1) hp (hu_of hr) rfl gb.len (pv 1) (pv 0) (pv 0) (pv 0) (pv 0) (fun _ _ => rfl) (fun _ _ => rfl) (fun _ _ => rfl) (by rfl) (by rfl) (by rfl) (by rfl) (by rfl) (by rfl) (by rfl) (by rfl))
      (dss_cons (ds_set (i := 2) nd rfl (.inl rfl) (de_srcL (i := 0) (hu_of hr) (pv 0) (fun _ _ => rfl)))
      (dss_cons (ds_if (PW.pt (dw_or (dt_cmp od_lt op_lt (dv 1) de_int (nomark _)) (dw_or1 (dt_cmp od_gt op_gt (dv 2) de_int (nomark _))))) (dss_cons (ds_srcL1 (i := 0) (hu_of hr) (de_op od_fdv op_fdivW (dv 2) (de_callB cd_max2 (call_max2 rfl) rfl gb.max (by decide +kernel) (da_cons de_int (da_cons (dv 1) da_nil)))) (pv 0) (by rfl))
      (dss_one (ds_ret (de_op od_mod op_mod (de_callTy cd_int1 call_int1 rfl gb.int (by decide +kernel) (da_cons (dv 2) da_nil)) (de_callB cd_max2 (call_max2 rfl) rfl gb.max (by decide +kernel) (da_cons de_int (da_cons (dv 1) da_nil))))))) dss_nil)
      (dss_cons (ds_srcT1 (i := 0) (hu_of hr) (de_op od_add op_addD (de_srcT (i := 0) (hu_of hr) (pv 0) (fun _ _ => rfl)) de_int) (pv 0) (by rfl))
      (dss_cons (ds_set (i := 3) nd rfl (.inl rfl) (de_op od_mod op_mod (de_callTy cd_int1 call_int1 rfl gb.int (by decide +kernel) (da_cons (de_op od_add op_addD (de_srcM (i := 0) (hu_of hr) (pv 0) (fun _ _ => rfl)) (de_op od_mul op_mulD (de_srcT (i := 0) (hu_of hr) (pv 0) (fun _ _ => rfl)) de_int)) da_nil)) de_int))
      (dss_cons (ds_set (i := 3) nd rfl (.inl rfl) (de_op od_mod op_mod (de_callTy cd_int1 call_int1 rfl gb.int (by decide +kernel) (da_cons (de_op od_add op_addD (de_op od_mul op_mulD (dv 3) (dv 3)) (de_op od_mul op_mulD (de_srcT (i := 0) (hu_of hr) (pv 0) (fun _ _ => rfl)) de_int)) da_nil)) de_int))
      (dss_cons (ds_srcM1 (i := 0) (hu_of hr) (dv 3) (pv 0) (by rfl))
      (dss_one (ds_ret (de_op od_mod op_mod (de_callTy cd_int1 call_int1 rfl gb.int (by decide +kernel) (da_cons (de_op od_fdv op_fdivW (dv 3) de_int) da_nil)) (dv 1))))))))))), fun ds QD h => pure_l_pick h⟩
theorem ok_l_of {C : Nm} {f : Addr} {fd : FuncData} (gb : GB mg C) (st : CS K C) (G_l_pick : Callee P w K mg base 1 "_law_pick" (sp_l_pick C)) (F : Fun K "_law_of" "_law_of" s_l_of f fd) : FnG P w K mg base 2 f fd ["_law_source_here", "_law_some"] (spD K (sp_l_of C)) := by
  refine fnD F sc_l_of (fun ds QD XD h => by first | (obtain ⟨rfl, _⟩ := h; rfl) | (obtain ⟨_, rfl, _⟩ := h; rfl) | (obtain ⟨_, _, rfl, _⟩ := h; rfl) | (obtain ⟨_, _, _, rfl, _⟩ := h; rfl) | (obtain ⟨_, _, _, _, rfl, _⟩ := h; rfl) | (obtain ⟨_, _, _, _, _, rfl, _⟩ := h; rfl) | (obtain ⟨_, _, _, _, _, _, rfl, _⟩ := h; rfl) | (obtain ⟨_, _, _, _, _, _, _, rfl, _⟩ := h; rfl) | (obtain ⟨rfl | rfl, _⟩ := h <;> rfl) | (obtain ⟨_, rfl | rfl, _⟩ := h <;> rfl) | (obtain ⟨_, _, rfl | rfl, _⟩ := h <;> rfl) | (obtain ⟨_, _, _, rfl | rfl, _⟩ := h <;> rfl) | (obtain ⟨_, _, _, _, rfl | rfl, _⟩ := h <;> rfl)) fun cdv A outer s H E c XD hgd hr eK hp lk => ?_
  subst eK
  have hK : c.K = c.K := rfl
  have nd := sc_l_of.nd
  exact ⟨t_l_of c.K C XD, (dss_one (ds_ret (de_ix od_ix ix_seq (dv 1) (de_call G_l_pick hK hgd (hr.mono (by decide)) rfl lk (da_cons (dv 0) (da_cons (de_callB cd_len call_len rfl gb.len (by decide +kernel) (da_cons (dv 1) da_nil)) da_nil))) (fun _ _ => rfl)))), fun ds QD h => pure_l_of h⟩
theorem ok_w_odd {C : Nm} {f : Addr} {fd : FuncData} (gb : GB mg C) (st : CS K C) (G_l_of : Callee P w K mg base 2 "_law_of" (sp_l_of C)) (F : Fun K "_law_odd" "_law_odd" s_w_odd f fd) : FnG P w K mg base 3 f fd ["_law_source_here"] (spD K (sp_w_odd C)) := by
  refine fnD F sc_w_odd (fun ds QD XD h => by first | (obtain ⟨rfl, _⟩ := h; rfl) | (obtain ⟨_, rfl, _⟩ := h; rfl) | (obtain ⟨_, _, rfl, _⟩ := h; rfl) | (obtain ⟨_, _, _, rfl, _⟩ := h; rfl) | (obtain ⟨_, _, _, _, rfl, _⟩ := h; rfl) | (obtain ⟨_, _, _, _, _, rfl, _⟩ := h; rfl) | (obtain ⟨_, _, _, _, _, _, rfl, _⟩ := h; rfl) | (obtain ⟨_, _, _, _, _, _, _, rfl, _⟩ := h; rfl) | (obtain ⟨rfl | rfl, _⟩ := h <;> rfl) | (obtain ⟨_, rfl | rfl, _⟩ := h <;> rfl) | (obtain ⟨_, _, rfl | rfl, _⟩ := h <;> rfl) | (obtain ⟨_, _, _, rfl | rfl, _⟩ := h <;> rfl) | (obtain ⟨_, _, _, _, rfl | rfl, _⟩ := h <;> rfl)) fun cdv A outer s H E c XD hgd hr eK hp lk => ?_
  subst eK
  have hK : c.K = c.K := rfl
  have nd := sc_w_odd.nd
  exact ⟨t_w_odd c.K C XD, (dss_cons (ds_set (i := 1) nd rfl (.inl rfl) (de_lst (da_cons de_non (da_cons de_bl (da_cons de_bl (da_cons (de_un ud_neg un_neg de_int) (da_cons de_int (da_cons (de_op od_pow op_pow de_int de_int) (da_cons de_str (da_cons de_str (da_cons de_str (da_cons (de_tup da_nil) (da_cons (de_lst da_nil) (da_cons de_dct0 (da_cons (de_tup (da_cons de_non da_nil)) (da_cons (de_lst (da_cons (de_tup (da_cons de_str (da_cons de_int (da_cons de_int da_nil)))) da_nil)) (da_cons (de_tup (da_cons de_str (da_cons de_int (da_cons de_int da_nil)))) da_nil)))))))))))))))))
      (dss_one (ds_ret (de_call G_l_of hK hgd (hr.mono (by decide)) rfl lk (da_cons (dv 0) (da_cons (de_op od_add op_addD (dv 1) (de_lst (da_cons (de_tup (da_cons de_str (da_cons de_int da_nil))) (da_cons (de_tup (da_cons de_str (da_cons de_int (da_cons de_bl da_nil)))) (da_cons (de_tup (da_cons de_int (da_cons de_int da_nil))) (da_cons (de_disp (dpp_cons (k := .inl 0) pe_int de_int dpp_nil) rfl rfl (by decide) (by decide)) da_nil)))))) da_nil)))))), fun ds QD h => pure_w_odd h⟩
theorem ok_free_paper {C : Nm} {f : Addr} {fd : FuncData} (gb : GB mg C) (st : CS K C) (M_places : CalleeM P w K mg base 2 (C "Standing") "places" (sp_Standing_places C)) (G_widths : Callee P w K mg base 4 "widths" (sp_widths C)) (G_is_integer : Callee P w K mg base 1 "is_integer" (sp_is_integer C)) (F : Fun K "free_paper" "free_paper" s_free_paper f fd) : FnG P w K mg base 5 f fd ["standing", "place", "calls"] (spD K (sp_free_paper C)) := by
  refine fnD F sc_free_paper (fun ds QD XD h => by first | (obtain ⟨rfl, _⟩ := h; rfl) | (obtain ⟨_, rfl, _⟩ := h; rfl) | (obtain ⟨_, _, rfl, _⟩ := h; rfl) | (obtain ⟨_, _, _, rfl, _⟩ := h; rfl) | (obtain ⟨_, _, _, _, rfl, _⟩ := h; rfl) | (obtain ⟨_, _, _, _, _, rfl, _⟩ := h; rfl) | (obtain ⟨_, _, _, _, _, _, rfl, _⟩ := h; rfl) | (obtain ⟨_, _, _, _, _, _, _, rfl, _⟩ := h; rfl) | (obtain ⟨rfl | rfl, _⟩ := h <;> rfl) | (obtain ⟨_, rfl | rfl, _⟩ := h <;> rfl) | (obtain ⟨_, _, rfl | rfl, _⟩ := h <;> rfl) | (obtain ⟨_, _, _, rfl | rfl, _⟩ := h <;> rfl) | (obtain ⟨_, _, _, _, rfl | rfl, _⟩ := h <;> rfl)) fun cdv A outer s H E c XD hgd hr eK hp lk => ?_
  subst eK
  have hK : c.K = c.K := rfl
  have nd := sc_free_paper.nd
  exact ⟨t_free_paper c.K C XD, (dss_cons (ds_if (PW.pt (dw_or (dt_not (dt_tru hK (de_call G_is_integer hK hgd (hr.mono (by decide)) rfl lk (da_cons (dv 1) da_nil)))) (dw_or1 (dt_not (dt_tru hK (de_call G_is_integer hK hgd (hr.mono (by decide)) rfl lk (da_cons (dv 2) da_nil))))))) (dss_one (ds_ret (de_tup (da_cons de_str da_nil)))) dss_nil)
      (dss_cons (ds_set (i := 3) nd rfl (.inl rfl) (de_call G_widths hK hgd (hr.mono (by decide)) rfl lk (da_cons (dv 0) da_nil)))
      (dss_cons (ds_set (i := 4) nd rfl (.inl rfl) (de_op od_sub op_sub (de_callB cd_sum (cr_sum rfl) rfl gb.sum (by decide +kernel) (da_cons (dv 3) da_nil)) (dv 2)))
      (dss_cons (ds_if (dt_cmp od_lt op_lt (dv 4) de_int (nomark _)) (dss_one (ds_ret (de_tup (da_cons de_str da_nil)))) dss_nil)
      (dss_cons (ds_if (dt_cmp od_gt op_gt (dv 4) (de_op od_sub op_sub (dv 1) (de_ix od_ix ix_seq (de_meth0 (dv 0) M_places hK hgd (hr.mono (by decide)) lk) de_int (fun _ _ => rfl))) (nomark _)) (dss_one (ds_ret (de_tup (da_cons de_str da_nil)))) dss_nil)
      (dss_cons (ds_if (dt_cmp od_gt op_gt (dv 4) (de_op od_sub op_sub (de_ix od_ix ix_seq (de_meth0 (dv 0) M_places hK hgd (hr.mono (by decide)) lk) (de_un ud_neg un_neg de_int) (fun _ _ => rfl)) (dv 1)) (nomark _)) (dss_one (ds_ret (de_tup (da_cons de_str da_nil)))) dss_nil)
      (dss_one (ds_ret (de_if (dt_cmp od_gt op_gt (dv 4) (de_op od_sub op_sub (de_callB cd_sum (cr_sum rfl) rfl gb.sum (by decide +kernel) (da_cons (dv 3) da_nil)) (de_callB cd_maxL (cr_max rfl) rfl gb.max (by decide +kernel) (da_cons (de_lst (da_cons de_int (da_star hK (dv 3) da_nil))) da_nil))) (nomark _)) (de_tup (da_cons de_str da_nil)) (de_tup (da_cons de_str da_nil))))))))))), fun ds QD h => pure_free_paper h⟩
theorem ok_can_meet_free {C : Nm} {f : Addr} {fd : FuncData} (gb : GB mg C) (st : CS K C) (G_free_paper : Callee P w K mg base 5 "free_paper" (sp_free_paper C)) (F : Fun K "can_meet_free" "can_meet_free" s_can_meet_free f fd) : FnG P w K mg base 6 f fd ["standing", "place", "calls"] (spD K (sp_can_meet_free C)) := by
  refine fnD F sc_can_meet_free (fun ds QD XD h => by first | (obtain ⟨rfl, _⟩ := h; rfl) | (obtain ⟨_, rfl, _⟩ := h; rfl) | (obtain ⟨_, _, rfl, _⟩ := h; rfl) | (obtain ⟨_, _, _, rfl, _⟩ := h; rfl) | (obtain ⟨_, _, _, _, rfl, _⟩ := h; rfl) | (obtain ⟨_, _, _, _, _, rfl, _⟩ := h; rfl) | (obtain ⟨_, _, _, _, _, _, rfl, _⟩ := h; rfl) | (obtain ⟨_, _, _, _, _, _, _, rfl, _⟩ := h; rfl) | (obtain ⟨rfl | rfl, _⟩ := h <;> rfl) | (obtain ⟨_, rfl | rfl, _⟩ := h <;> rfl) | (obtain ⟨_, _, rfl | rfl, _⟩ := h <;> rfl) | (obtain ⟨_, _, _, rfl | rfl, _⟩ := h <;> rfl) | (obtain ⟨_, _, _, _, rfl | rfl, _⟩ := h <;> rfl)) fun cdv A outer s H E c XD hgd hr eK hp lk => ?_
  subst eK
  have hK : c.K = c.K := rfl
  have nd := sc_can_meet_free.nd
  exact ⟨t_can_meet_free c.K C XD, (dss_one (ds_ret (de_cmp od_eq2 (op_eq2 hr.units) (de_call G_free_paper hK hgd (hr.mono (by decide)) rfl lk (da_cons (dv 0) (da_cons (dv 1) (da_cons (dv 2) da_nil)))) (de_tup (da_cons de_str da_nil)) (nomark _)))), fun ds QD h => pure_can_meet_free h⟩
theorem ok_w_spots {C : Nm} {f : Addr} {fd : FuncData} (gb : GB mg C) (st : CS K C)  (F : Fun K "_law_spots" "_law_spots" s_w_spots f fd) : FnG P w K mg base 1 f fd ["_law_world_here"] (spD K (sp_w_spots C)) := by
  refine fnD F sc_w_spots (fun ds QD XD h => by first | (obtain ⟨rfl, _⟩ := h; rfl) | (obtain ⟨_, rfl, _⟩ := h; rfl) | (obtain ⟨_, _, rfl, _⟩ := h; rfl) | (obtain ⟨_, _, _, rfl, _⟩ := h; rfl) | (obtain ⟨_, _, _, _, rfl, _⟩ := h; rfl) | (obtain ⟨_, _, _, _, _, rfl, _⟩ := h; rfl) | (obtain ⟨_, _, _, _, _, _, rfl, _⟩ := h; rfl) | (obtain ⟨_, _, _, _, _, _, _, rfl, _⟩ := h; rfl) | (obtain ⟨rfl | rfl, _⟩ := h <;> rfl) | (obtain ⟨_, rfl | rfl, _⟩ := h <;> rfl) | (obtain ⟨_, _, rfl | rfl, _⟩ := h <;> rfl) | (obtain ⟨_, _, _, rfl | rfl, _⟩ := h <;> rfl) | (obtain ⟨_, _, _, _, rfl | rfl, _⟩ := h <;> rfl)) fun cdv A outer s H E c XD hgd hr eK hp lk => ?_
  subst eK
  have hK : c.K = c.K := rfl
  have nd := sc_w_spots.nd
  exact ⟨t_w_spots c.K C XD, (dss_one (ds_ret (de_callTy cd_tupOf call_tuple_of rfl gb.tuple (by decide +kernel) (da_cons (de_lc (own := [("_law_one", 1)]) rfl nd  (di_list hK (de_dctIx (hu_of hr) (dv 0) de_str (fun _ _ => rfl))) (blkOk_by (own := [("_law_one", 1)]) (N := N_w_spots) (sc := defScope s_w_spots) (by decide +kernel)) (by decide) (fun _ _ _ _ _ => (dg_name (i := 1) nd rfl (.inl rfl))) (fun _ _ _ _ _ => dts_nil) (fun _ _ _ _ _ => (de_ix od_ix ix_seq (dv 1) de_int (fun _ _ => rfl)))) da_nil)))), fun ds QD h => pure_w_spots h⟩
theorem ok_l_called {C : Nm} {f : Addr} {fd : FuncData} (gb : GB mg C) (st : CS K C)  (F : Fun K "_law_called" "_law_called" s_l_called f fd) : FnG P w K mg base 1 f fd ["_law_spots_here", "_law_place"] (spD K (sp_l_called C)) := by
  refine fnD F sc_l_called (fun ds QD XD h => by first | (obtain ⟨rfl, _⟩ := h; rfl) | (obtain ⟨_, rfl, _⟩ := h; rfl) | (obtain ⟨_, _, rfl, _⟩ := h; rfl) | (obtain ⟨_, _, _, rfl, _⟩ := h; rfl) | (obtain ⟨_, _, _, _, rfl, _⟩ := h; rfl) | (obtain ⟨_, _, _, _, _, rfl, _⟩ := h; rfl) | (obtain ⟨_, _, _, _, _, _, rfl, _⟩ := h; rfl) | (obtain ⟨_, _, _, _, _, _, _, rfl, _⟩ := h; rfl) | (obtain ⟨rfl | rfl, _⟩ := h <;> rfl) | (obtain ⟨_, rfl | rfl, _⟩ := h <;> rfl) | (obtain ⟨_, _, rfl | rfl, _⟩ := h <;> rfl) | (obtain ⟨_, _, _, rfl | rfl, _⟩ := h <;> rfl) | (obtain ⟨_, _, _, _, rfl | rfl, _⟩ := h <;> rfl)) fun cdv A outer s H E c XD hgd hr eK hp lk => ?_
  subst eK
  have hK : c.K = c.K := rfl
  have nd := sc_l_called.nd
  exact ⟨t_l_called c.K C XD, (dss_one (ds_ret (de_callTy cd_tupOf call_tuple_of rfl gb.tuple (by decide +kernel) (da_cons (de_lc (own := [("_law_spot", 2)]) rfl nd  (di_tup hK (dv 0)) (blkOk_by (own := [("_law_spot", 2)]) (N := N_l_called) (sc := defScope s_l_called) (by decide +kernel)) (by decide) (fun _ _ _ _ _ => (dg_name (i := 2) nd rfl (.inl rfl))) (fun _ _ _ _ _ => dts_nil) (fun _ _ _ _ _ => (de_op od_sub op_sub (de_op od_add op_addD (dv 2) (de_callTy cd_int1 call_int1 rfl gb.int (by decide +kernel) (da_cons (de_cmp od_lt op_lt (dv 2) (dv 1) (nomark _)) da_nil))) (de_callTy cd_int1 call_int1 rfl gb.int (by decide +kernel) (da_cons (de_cmp od_gt op_gt (dv 2) (dv 1) (nomark _)) da_nil))))) da_nil)))), fun ds QD h => pure_l_called h⟩
theorem ok_l_free_lot {C : Nm} {f : Addr} {fd : FuncData} (gb : GB mg C) (st : CS K C) (G_l_called : Callee P w K mg base 1 "_law_called" (sp_l_called C)) (G_w_spots : Callee P w K mg base 1 "_law_spots" (sp_w_spots C)) (F : Fun K "_law_free_lot" "_law_free_lot" s_l_free_lot f fd) : FnG P w K mg base 2 f fd ["_law_world_here"] (spD K (sp_l_free_lot C)) := by
  refine fnD F sc_l_free_lot (fun ds QD XD h => by first | (obtain ⟨rfl, _⟩ := h; rfl) | (obtain ⟨_, rfl, _⟩ := h; rfl) | (obtain ⟨_, _, rfl, _⟩ := h; rfl) | (obtain ⟨_, _, _, rfl, _⟩ := h; rfl) | (obtain ⟨_, _, _, _, rfl, _⟩ := h; rfl) | (obtain ⟨_, _, _, _, _, rfl, _⟩ := h; rfl) | (obtain ⟨_, _, _, _, _, _, rfl, _⟩ := h; rfl) | (obtain ⟨_, _, _, _, _, _, _, rfl, _⟩ := h; rfl) | (obtain ⟨rfl | rfl, _⟩ := h <;> rfl) | (obtain ⟨_, rfl | rfl, _⟩ := h <;> rfl) | (obtain ⟨_, _, rfl | rfl, _⟩ := h <;> rfl) | (obtain ⟨_, _, _, rfl | rfl, _⟩ := h <;> rfl) | (obtain ⟨_, _, _, _, rfl | rfl, _⟩ := h <;> rfl)) fun cdv A outer s H E c XD hgd hr eK hp lk => ?_
  subst eK
  have hK : c.K = c.K := rfl
  have nd := sc_l_free_lot.nd
  exact ⟨t_l_free_lot c.K C XD, (dss_cons (ds_par3 (i := 1) (j := 2) (l := 3) rfl nd rfl rfl rfl (by decide) (by decide) (by decide) rfl rfl rfl de_dct0 (de_lk (de_dispT1 (hu_of hr) (de_call G_w_spots hK hgd (hr.mono (by decide)) rfl lk (da_cons (dv 0) da_nil)) de_bl)) de_int (by rfl))
      (dss_cons (ds_while hp (dt_neE (hu_of hr) (dv 2)) (dss_cons (ds_set (i := 4) nd rfl (.inl rfl) de_dcT0)
      (dss_cons (ds_for hp rfl (di_keysT (dv 2)) (dg_name (i := 5) nd rfl (.inl rfl)) (dss_cons (ds_if (dt_cmp od_eq2 (op_eq2 hr.units) (de_lenSet hK rfl rfl gb.len rfl gb.set (dv 5)) de_int (nomark _)) (dss_one (ds_put (i := 1) (hu_of hr) (pv 1) (de_ix od_ix ix_seq (dv 5) de_int (fun _ _ => rfl)) (de_op od_add op_addD (de_getS (i := 1) (hu_of hr) (pv 1) (de_ix od_ix ix_seq (dv 5) de_int (fun _ _ => rfl)) (de_lst da_nil)) (de_lst (da_cons (dv 3) da_nil))))) dss_nil)
      (dss_one (ds_for hp rfl (di_list hK (de_if (dt_cmp od_gt op_gt (de_lenSet hK rfl rfl gb.len rfl gb.set (dv 5)) de_int (nomark _)) (de_sortSet hK rfl rfl gb.sorted rfl gb.set (dv 5)) (de_lst da_nil))) (dg_name (i := 6) nd rfl (.inl rfl)) (dss_one (ds_putT (i := 4) (hu_of hr) (pv 4) (de_call G_l_called hK hgd (hr.mono (by decide)) rfl lk (da_cons (dv 5) (da_cons (dv 6) da_nil))) de_bl))))))
      (dss_one (ds_par (i := 2) (j := 3) rfl nd rfl rfl (by decide) rfl rfl (dvk 4) (de_op od_add op_addD (dv 3) de_int) (by rfl))))))
      (dss_one (dretv 1)))), fun ds QD h => pure_l_free_lot h⟩
theorem ok_l_made {C : Nm} {f : Addr} {fd : FuncData} (gb : GB mg C) (st : CS K C) (G_Standing : CalleeC P w K mg base 4 "Standing" (sp_Standing C)) (F : Fun K "_law_made" "_law_made" s_l_made f fd) : FnG P w K mg base 6 f fd ["_law_people"] (spD K (sp_l_made C)) := by
  refine fnD F sc_l_made (fun ds QD XD h => by first | (obtain ⟨rfl, _⟩ := h; rfl) | (obtain ⟨_, rfl, _⟩ := h; rfl) | (obtain ⟨_, _, rfl, _⟩ := h; rfl) | (obtain ⟨_, _, _, rfl, _⟩ := h; rfl) | (obtain ⟨_, _, _, _, rfl, _⟩ := h; rfl) | (obtain ⟨_, _, _, _, _, rfl, _⟩ := h; rfl) | (obtain ⟨_, _, _, _, _, _, rfl, _⟩ := h; rfl) | (obtain ⟨_, _, _, _, _, _, _, rfl, _⟩ := h; rfl) | (obtain ⟨rfl | rfl, _⟩ := h <;> rfl) | (obtain ⟨_, rfl | rfl, _⟩ := h <;> rfl) | (obtain ⟨_, _, rfl | rfl, _⟩ := h <;> rfl) | (obtain ⟨_, _, _, rfl | rfl, _⟩ := h <;> rfl) | (obtain ⟨_, _, _, _, rfl | rfl, _⟩ := h <;> rfl)) fun cdv A outer s H E c XD hgd hr eK hp lk => ?_
  subst eK
  have hK : c.K = c.K := rfl
  have nd := sc_l_made.nd
  exact ⟨t_l_made c.K C XD, (dss_one (ds_ret (de_disp (dpp_cons (k := .inr ("people" : Str)) pe_str (de_lc (own := [("_law_one", 1)]) rfl nd  (di_list hK (dv 0)) (blkOk_by (own := [("_law_one", 1)]) (N := N_l_made) (sc := defScope s_l_made) (by decide +kernel)) (by decide) (fun _ _ _ _ _ => (dg_name (i := 1) nd rfl (.inl rfl))) (fun _ _ _ _ _ => dts_nil) (fun _ _ _ _ _ => (de_callTy cd_tupOf call_tuple_of rfl gb.tuple (by decide +kernel) (da_cons (dv 1) da_nil)))) (dpp_cons (k := .inr ("standing" : Str)) pe_str (de_make G_Standing hK hgd (hr.mono (by decide)) rfl lk (da_cons (dv 0) da_nil)) dpp_nil)) rfl rfl (by decide) (by decide)))), fun ds QD h => pure_l_made h⟩
theorem ok_l_at {C : Nm} {f : Addr} {fd : FuncData} (gb : GB mg C) (st : CS K C) (G_l_made : Callee P w K mg base 6 "_law_made" (sp_l_made C)) (F : Fun K "_law_at" "_law_at" s_l_at f fd) : FnG P w K mg base 7 f fd ["_law_world_here", "_law_spots_here"] (spD K (sp_l_at C)) := by
  refine fnD F sc_l_at (fun ds QD XD h => by first | (obtain ⟨rfl, _⟩ := h; rfl) | (obtain ⟨_, rfl, _⟩ := h; rfl) | (obtain ⟨_, _, rfl, _⟩ := h; rfl) | (obtain ⟨_, _, _, rfl, _⟩ := h; rfl) | (obtain ⟨_, _, _, _, rfl, _⟩ := h; rfl) | (obtain ⟨_, _, _, _, _, rfl, _⟩ := h; rfl) | (obtain ⟨_, _, _, _, _, _, rfl, _⟩ := h; rfl) | (obtain ⟨_, _, _, _, _, _, _, rfl, _⟩ := h; rfl) | (obtain ⟨rfl | rfl, _⟩ := h <;> rfl) | (obtain ⟨_, rfl | rfl, _⟩ := h <;> rfl) | (obtain ⟨_, _, rfl | rfl, _⟩ := h <;> rfl) | (obtain ⟨_, _, _, rfl | rfl, _⟩ := h <;> rfl) | (obtain ⟨_, _, _, _, rfl | rfl, _⟩ := h <;> rfl)) fun cdv A outer s H E c XD hgd hr eK hp lk => ?_
  subst eK
  have hK : c.K = c.K := rfl
  have nd := sc_l_at.nd
  exact ⟨t_l_at c.K C XD, (dss_one (ds_ret (de_call G_l_made hK hgd (hr.mono (by decide)) rfl lk (da_cons (de_lc (own := [("_law_one", 2), ("_law_spot", 3)]) rfl nd  (di_or (di_zipLT hK rfl gb.zip (da_cons (de_dctIx (hu_of hr) (dv 0) de_str (fun _ _ => rfl)) (da_cons (dv 1) da_nil))) (di_zip hK rfl gb.zip (da_cons (de_dctIx (hu_of hr) (dv 0) de_str (fun _ _ => rfl)) (da_cons (dv 1) da_nil)))) (blkOk_by (own := [("_law_one", 2), ("_law_spot", 3)]) (N := N_l_at) (sc := defScope s_l_at) (by decide +kernel)) (by decide) (fun _ _ _ _ _ => (dg_tup rfl hK (dgs_cons (dg_name (i := 2) nd rfl (.inl rfl)) (dgs_cons (dg_name (i := 3) nd rfl (.inl rfl)) dgs_nil)))) (fun _ _ _ _ _ => dts_nil) (fun _ _ _ _ _ => (de_tup (da_cons (de_ix od_ix ix_seq (dv 2) de_int (fun _ _ => rfl)) (da_cons (dv 3) (da_cons (de_ix od_ix ix_seq (dv 2) de_int (fun _ _ => rfl)) da_nil)))))) da_nil)))), fun ds QD h => pure_l_at h⟩
theorem ok_l_mixed {C : Nm} {f : Addr} {fd : FuncData} (gb : GB mg C) (st : CS K C) (G_l_pick : Callee P w K mg base 1 "_law_pick" (sp_l_pick C)) (F : Fun K "_law_mixed" "_law_mixed" s_l_mixed f fd) : FnG P w K mg base 2 f fd ["_law_source_here", "_law_things"] (spD K (sp_l_mixed C)) := by
  refine fnD F sc_l_mixed (fun ds QD XD h => by first | (obtain ⟨rfl, _⟩ := h; rfl) | (obtain ⟨_, rfl, _⟩ := h; rfl) | (obtain ⟨_, _, rfl, _⟩ := h; rfl) | (obtain ⟨_, _, _, rfl, _⟩ := h; rfl) | (obtain ⟨_, _, _, _, rfl, _⟩ := h; rfl) | (obtain ⟨_, _, _, _, _, rfl, _⟩ := h; rfl) | (obtain ⟨_, _, _, _, _, _, rfl, _⟩ := h; rfl) | (obtain ⟨_, _, _, _, _, _, _, rfl, _⟩ := h; rfl) | (obtain ⟨rfl | rfl, _⟩ := h <;> rfl) | (obtain ⟨_, rfl | rfl, _⟩ := h <;> rfl) | (obtain ⟨_, _, rfl | rfl, _⟩ := h <;> rfl) | (obtain ⟨_, _, _, rfl | rfl, _⟩ := h <;> rfl) | (obtain ⟨_, _, _, _, rfl | rfl, _⟩ := h <;> rfl)) fun cdv A outer s H E c XD hgd hr eK hp lk => ?_
  subst eK
  have hK : c.K = c.K := rfl
  have nd := sc_l_mixed.nd
  exact ⟨t_l_mixed c.K C XD, (dss_cons (ds_set (i := 2) nd rfl (.inr rfl) (de_callTy cd_listOf call_list_of rfl gb.list (by decide +kernel) (da_cons (dv 1) da_nil)))
      (dss_one (ds_ret (de_lc (own := [("_law_lap", 3)]) rfl nd  (di_range1 rfl gb.range (da_cons (de_lenV (x := ("_" : Str)) hK rfl gb.len (pa_cons (pv 2) pa_nil)) da_nil)) (blkOk_by (own := [("_law_lap", 3)]) (N := N_l_mixed) (sc := defScope s_l_mixed) (by decide +kernel)) (by decide) (fun _ _ _ _ _ => (dg_name (i := 3) nd rfl (.inl rfl))) (fun _ _ _ _ _ => dts_nil) (fun _ _ _ _ _ => (de_popV (pe_bm PySem.F.plainAttrs_list PySem.F.slot_list_pop PySem.F.type_list_pop mt_popAt (pv 2) (pa_cons (froze (de_call G_l_pick hK hgd (hr.mono (by decide)) rfl lnk_blk (da_cons (dv 0) (da_cons (de_lenV (x := ("_" : Str)) hK rfl gb.len (pa_cons (pv 2) pa_nil)) da_nil)))) pa_nil)))))))), fun ds QD h => pure_l_mixed h⟩
theorem ok_l_names {C : Nm} {f : Addr} {fd : FuncData} (gb : GB mg C) (st : CS K C) (G_l_pick : Callee P w K mg base 1 "_law_pick" (sp_l_pick C)) (F : Fun K "_law_names" "_law_names" s_l_names f fd) : FnG P w K mg base 2 f fd ["_law_source_here", "_law_many"] (spD K (sp_l_names C)) := by
  refine fnD F sc_l_names (fun ds QD XD h => by first | (obtain ⟨rfl, _⟩ := h; rfl) | (obtain ⟨_, rfl, _⟩ := h; rfl) | (obtain ⟨_, _, rfl, _⟩ := h; rfl) | (obtain ⟨_, _, _, rfl, _⟩ := h; rfl) | (obtain ⟨_, _, _, _, rfl, _⟩ := h; rfl) | (obtain ⟨_, _, _, _, _, rfl, _⟩ := h; rfl) | (obtain ⟨_, _, _, _, _, _, rfl, _⟩ := h; rfl) | (obtain ⟨_, _, _, _, _, _, _, rfl, _⟩ := h; rfl) | (obtain ⟨rfl | rfl, _⟩ := h <;> rfl) | (obtain ⟨_, rfl | rfl, _⟩ := h <;> rfl) | (obtain ⟨_, _, rfl | rfl, _⟩ := h <;> rfl) | (obtain ⟨_, _, _, rfl | rfl, _⟩ := h <;> rfl) | (obtain ⟨_, _, _, _, rfl | rfl, _⟩ := h <;> rfl)) fun cdv A outer s H E c XD hgd hr eK hp lk => ?_
  subst eK
  have hK : c.K = c.K := rfl
  have nd := sc_l_names.nd
  exact ⟨t_l_names c.K C XD, (dss_cons (ds_par3 (i := 2) (j := 3) (l := 4) rfl nd rfl rfl rfl (by decide) (by decide) (by decide) rfl rfl rfl (de_call G_l_pick hK hgd (hr.mono (by decide)) rfl lk (da_cons (dv 0) (da_cons de_int da_nil))) (de_lst da_nil) (de_lst (da_cons de_str (da_cons de_str (da_cons de_str (da_cons de_str (da_cons de_str da_nil)))))) (by rfl))
      (dss_cons (ds_for hp rfl (di_range1 rfl gb.range (da_cons (dv 1) da_nil)) (dg_name (i := 5) nd rfl (.inl rfl)) (dss_cons (ds_set (i := 6) nd rfl (.inl rfl) (de_ix od_ix ix_seq de_str (de_call G_l_pick hK hgd (hr.mono (by decide)) rfl lk (da_cons (dv 0) (da_cons de_int da_nil))) (fun _ _ => rfl)))
      (dss_one (ds_append (i := 3) rfl (by first | exact Or.inl rfl | exact Or.inr (Or.inl rfl)) (de_op od_add op_addD (de_op od_add op_addD (dv 6) (de_slice hK (de_callTy cd_strI call_str_int rfl gb.str (by decide +kernel) (da_cons (de_op od_add op_addD de_int (de_op od_mod op_mod (de_callTy cd_int1 call_int1 rfl gb.int (by decide +kernel) (da_cons (de_op od_add op_addD (dv 2) (de_op od_mul op_mulD de_int (dv 5))) da_nil)) de_int)) da_nil)) (do_some de_int) do_none)) (de_ix od_ix ix_seq (dv 4) (de_call G_l_pick hK hgd (hr.mono (by decide)) rfl lk (da_cons (dv 0) (da_cons de_int da_nil))) (fun _ _ => rfl))) (h1 := pe_bm PySem.F.plainAttrs_list PySem.F.slot_list_append PySem.F.type_list_append mt_append (pe_var (i := 3) rfl (by first | exact Or.inl rfl | exact Or.inr (Or.inl rfl))) (pa_cons (froze (de_op od_add op_addD (de_op od_add op_addD (dv 6) (de_slice hK (de_callTy cd_strI call_str_int rfl gb.str (by decide +kernel) (da_cons (de_op od_add op_addD de_int (de_op od_mod op_mod (de_callTy cd_int1 call_int1 rfl gb.int (by decide +kernel) (da_cons (de_op od_add op_addD (dv 2) (de_op od_mul op_mulD de_int (dv 5))) da_nil)) de_int)) da_nil)) (do_some de_int) do_none)) (de_ix od_ix ix_seq (dv 4) (de_call G_l_pick hK hgd (hr.mono (by decide)) rfl lk (da_cons (dv 0) (da_cons de_int da_nil))) (fun _ _ => rfl)))) pa_nil))))))
      (dss_one (dretv 3)))), fun ds QD h => pure_l_names h⟩
theorem ok_l_world {C : Nm} {f : Addr} {fd : FuncData} (gb : GB mg C) (st : CS K C) (G_l_made : Callee P w K mg base 6 "_law_made" (sp_l_made C)) (G_l_mixed : Callee P w K mg base 2 "_law_mixed" (sp_l_mixed C)) (G_l_names : Callee P w K mg base 2 "_law_names" (sp_l_names C)) (G_l_pick : Callee P w K mg base 1 "_law_pick" (sp_l_pick C)) (G_l_of : Callee P w K mg base 2 "_law_of" (sp_l_of C)) (F : Fun K "_law_world" "_law_world" s_l_world f fd) : FnG P w K mg base 7 f fd ["_law_source_here", "_law_most", "_law_far", "_law_parity"] (spD K (sp_l_world C)) := by
  refine fnD F sc_l_world (fun ds QD XD h => by first | (obtain ⟨rfl, _⟩ := h; rfl) | (obtain ⟨_, rfl, _⟩ := h; rfl) | (obtain ⟨_, _, rfl, _⟩ := h; rfl) | (obtain ⟨_, _, _, rfl, _⟩ := h; rfl) | (obtain ⟨_, _, _, _, rfl, _⟩ := h; rfl) | (obtain ⟨_, _, _, _, _, rfl, _⟩ := h; rfl) | (obtain ⟨_, _, _, _, _, _, rfl, _⟩ := h; rfl) | (obtain ⟨_, _, _, _, _, _, _, rfl, _⟩ := h; rfl) | (obtain ⟨rfl | rfl, _⟩ := h <;> rfl) | (obtain ⟨_, rfl | rfl, _⟩ := h <;> rfl) | (obtain ⟨_, _, rfl | rfl, _⟩ := h <;> rfl) | (obtain ⟨_, _, _, rfl | rfl, _⟩ := h <;> rfl) | (obtain ⟨_, _, _, _, rfl | rfl, _⟩ := h <;> rfl)) fun cdv A outer s H E c XD hgd hr eK hp lk => ?_
  subst eK
  have hK : c.K = c.K := rfl
  have nd := sc_l_world.nd
  exact ⟨t_l_world c.K C XD, (dss_cons (ds_par (i := 4) (j := 5) rfl nd rfl rfl (by decide) rfl rfl (de_op od_sub op_sub (de_call G_l_pick hK hgd (hr.mono (by decide)) rfl lk (da_cons (dv 0) (da_cons de_int da_nil))) de_int) (de_lst da_nil) (by rfl))
      (dss_cons (ds_for hp rfl (di_list hK (de_call G_l_names hK hgd (hr.mono (by decide)) rfl lk (da_cons (dv 0) (da_cons (de_op od_add op_addD de_int (de_call G_l_pick hK hgd (hr.mono (by decide)) rfl lk (da_cons (dv 0) (da_cons (dv 1) da_nil)))) da_nil)))) (dg_name (i := 6) nd rfl (.inl rfl)) (dss_cons (ds_append (i := 5) rfl (by first | exact Or.inl rfl | exact Or.inr (Or.inl rfl)) (de_tup (da_cons (dv 6) (da_cons (dv 4) (da_cons (de_callTy cd_int1 call_int1 rfl gb.int (by decide +kernel) (da_cons (de_cmp od_gt op_gt (de_call G_l_pick hK hgd (hr.mono (by decide)) rfl lk (da_cons (dv 0) (da_cons de_int da_nil))) de_int (nomark _)) da_nil)) da_nil)))) (h1 := pe_bm PySem.F.plainAttrs_list PySem.F.slot_list_append PySem.F.type_list_append mt_append (pe_var (i := 5) rfl (by first | exact Or.inl rfl | exact Or.inr (Or.inl rfl))) (pa_cons (froze (de_tup (da_cons (dv 6) (da_cons (dv 4) (da_cons (de_callTy cd_int1 call_int1 rfl gb.int (by decide +kernel) (da_cons (de_cmp od_gt op_gt (de_call G_l_pick hK hgd (hr.mono (by decide)) rfl lk (da_cons (dv 0) (da_cons de_int da_nil))) de_int (nomark _)) da_nil)) da_nil))))) pa_nil)))
      (dss_one (ds_set (i := 4) nd rfl (.inl rfl) (de_op od_add op_addD (dv 4) (de_call G_l_of hK hgd (hr.mono (by decide)) rfl lk (da_cons (dv 0) (da_cons (de_lst (da_cons de_int (da_cons de_int (da_cons de_int (da_cons de_int (da_cons (de_op od_add op_addD de_int (de_call G_l_pick hK hgd (hr.mono (by decide)) rfl lk (da_cons (dv 0) (da_cons (dv 2) da_nil)))) da_nil)))))) da_nil))))))))
      (dss_cons (ds_if (PW.pt (dw_and (dt_cmp od_lt op_lt (dv 3) de_int (nomark _)) (dw_and1 (dt_cmp od_ne2 (op_ne2 hr.units) (de_op od_mod op_mod (de_callTy cd_int1 call_int1 rfl gb.int (by decide +kernel) (da_cons (de_callB cd_sum (cr_sum rfl) rfl gb.sum (by decide +kernel) (da_cons (de_lcV (own := [("_law_one", 7)]) hK rfl nd  (pv 5) (blkOk_by (own := [("_law_one", 7)]) (N := N_l_world) (sc := defScope s_l_world) (by decide +kernel)) (by decide) (fun _ _ _ _ _ => (dg_name (i := 7) nd rfl (.inl rfl))) (fun _ _ _ _ _ => dts_nil) (fun _ _ _ _ _ => (de_ix od_ix ix_seq (dv 7) de_int (fun _ _ => rfl)))) da_nil)) da_nil)) de_int) (dv 3) (nomark _))))) (dss_one (ds_setV (i := 5) (pg_sub (pv 5) (froze (de_un ud_neg un_neg de_int)) set_list) (de_tup (da_cons (de_ix od_ix ix_seq (de_ixV hK (pv 5) (de_un ud_neg un_neg de_int) (fun _ _ => rfl)) de_int (fun _ _ => rfl)) (da_cons (de_ix od_ix ix_seq (de_ixV hK (pv 5) (de_un ud_neg un_neg de_int) (fun _ _ => rfl)) de_int (fun _ _ => rfl)) (da_cons (de_op od_sub op_sub de_int (de_ix od_ix ix_seq (de_ixV hK (pv 5) (de_un ud_neg un_neg de_int) (fun _ _ => rfl)) de_int (fun _ _ => rfl))) da_nil)))))) dss_nil)
      (dss_one (ds_ret (de_call G_l_made hK hgd (hr.mono (by decide)) rfl lk (da_cons (de_call G_l_mixed hK hgd (hr.mono (by decide)) rfl lk (da_cons (dv 0) (da_cons (dv 5) da_nil))) da_nil))))))), fun ds QD h => pure_l_world h⟩
theorem ok_l_narrow_world {C : Nm} {f : Addr} {fd : FuncData} (gb : GB mg C) (st : CS K C) (G_l_at : Callee P w K mg base 7 "_law_at" (sp_l_at C)) (G_w_spots : Callee P w K mg base 1 "_law_spots" (sp_w_spots C)) (G_l_world : Callee P w K mg base 7 "_law_world" (sp_l_world C)) (F : Fun K "_law_narrow_world" "_law_narrow_world" s_l_narrow_world f fd) : FnG P w K mg base 8 f fd ["_law_source_here", "_law_most", "_law_total"] (spD K (sp_l_narrow_world C)) := by
  refine fnD F sc_l_narrow_world (fun ds QD XD h => by first | (obtain ⟨rfl, _⟩ := h; rfl) | (obtain ⟨_, rfl, _⟩ := h; rfl) | (obtain ⟨_, _, rfl, _⟩ := h; rfl) | (obtain ⟨_, _, _, rfl, _⟩ := h; rfl) | (obtain ⟨_, _, _, _, rfl, _⟩ := h; rfl) | (obtain ⟨_, _, _, _, _, rfl, _⟩ := h; rfl) | (obtain ⟨_, _, _, _, _, _, rfl, _⟩ := h; rfl) | (obtain ⟨_, _, _, _, _, _, _, rfl, _⟩ := h; rfl) | (obtain ⟨rfl | rfl, _⟩ := h <;> rfl) | (obtain ⟨_, rfl | rfl, _⟩ := h <;> rfl) | (obtain ⟨_, _, rfl | rfl, _⟩ := h <;> rfl) | (obtain ⟨_, _, _, rfl | rfl, _⟩ := h <;> rfl) | (obtain ⟨_, _, _, _, rfl | rfl, _⟩ := h <;> rfl)) fun cdv A outer s H E c XD hgd hr eK hp lk => ?_
  subst eK
  have hK : c.K = c.K := rfl
  have nd := sc_l_narrow_world.nd
  exact ⟨t_l_narrow_world c.K C XD, (dss_cons (ds_set (i := 3) nd rfl (.inl rfl) (de_call G_l_world hK hgd (hr.mono (by decide)) rfl lk (da_cons (dv 0) (da_cons (dv 1) (da_cons de_int (da_cons de_int da_nil))))))
      (dss_cons (ds_set (i := 4) nd rfl (.inl rfl) (de_call G_w_spots hK hgd (hr.mono (by decide)) rfl lk (da_cons (dv 3) da_nil)))
      (dss_cons (ds_set (i := 5) nd rfl (.inr rfl) (de_callB cd_minT (cr_minT rfl) rfl gb.min (by decide +kernel) (da_cons (dv 4) da_nil)))
      (dss_one (ds_ret (de_call G_l_at hK hgd (hr.mono (by decide)) rfl lk (da_cons (dv 3) (da_cons (de_lc (own := [("_law_spot", 6)]) rfl nd  (di_tup hK (dv 4)) (blkOk_by (own := [("_law_spot", 6)]) (N := N_l_narrow_world) (sc := defScope s_l_narrow_world) (by decide +kernel)) (by decide) (fun _ _ _ _ _ => (dg_name (i := 6) nd rfl (.inl rfl))) (fun _ _ _ _ _ => dts_nil) (fun _ _ _ _ _ => (de_callB cd_min2 (call_min2 rfl) rfl gb.min (by decide +kernel) (da_cons (dv 6) (da_cons (de_op od_add op_addD (dv 5) (dv 2)) da_nil))))) da_nil)))))))), fun ds QD h => pure_l_narrow_world h⟩
theorem ok_law {C : Nm} {f fs : Addr} {fd fds : FuncData} (gb : GB mg C) (st : CS K C) (G_free_numbers_at : Callee P w K mg base 6 "free_numbers_at" (sp_free_numbers_at C)) (G_Standing : CalleeC P w K mg base 4 "Standing" (sp_Standing C)) (G_free_numbers : Callee P w K mg base 5 "free_numbers" (sp_free_numbers C)) (G_w_odd : Callee P w K mg base 3 "_law_odd" (sp_w_odd C)) (G_can_meet_free : Callee P w K mg base 6 "can_meet_free" (sp_can_meet_free C)) (G_w_spots : Callee P w K mg base 1 "_law_spots" (sp_w_spots C)) (G_l_free_lot : Callee P w K mg base 2 "_law_free_lot" (sp_l_free_lot C)) (G_l_narrow_world : Callee P w K mg base 8 "_law_narrow_world" (sp_l_narrow_world C)) (Gs : FnG P w K mg base 1 fs fds ["_law_script"] (spSrc K)) (ms : mg "_law_source" = some (.ref fs)) (ks : PySem.W.keepIn K (.ref fs) = true) (bs : Binds K fds ["_law_script"] []) (F : Fun K "law" "law" s_law f fd) : FnG P w K mg base 9 f fd ["_law_script"] (spLaw K) := by
  refine fnLaw (k := 8) F sc_law rfl (t_law_k65 K C XNo) rfl ?_ ?_ pure_law_k65
  · intro cdv A outer s H E hgd hr hp
    exact ps_set (i := 1) sc_law.nd rfl (by first | exact .inl rfl | exact .inr rfl) (pe_callG Gs hgd (hr.mono (by decide)) rfl ms ks bs (pa_cons (pv 0) pa_nil))
  · intro cdv A outer s H E c hgd hr eK hp lk
    subst eK
    have hK : c.K = c.K := rfl
    have nd := sc_law.nd
    exact (dss_cons (ds_for hp rfl (di_range1 rfl gb.range (da_cons de_int da_nil)) (dg_name (i := 2) nd rfl (.inl rfl)) (dss_cons (ds_set (i := 3) nd rfl (.inl rfl) (de_call G_l_narrow_world hK hgd (hr.mono (by decide)) rfl lk (da_cons (dv 1) (da_cons de_int (da_cons de_int da_nil)))))
      (dss_cons (ds_par3 (i := 4) (j := 5) (l := 6) rfl nd rfl rfl rfl (by decide) (by decide) (by decide) rfl rfl rfl (de_dctIx (hu_of hr) (dv 3) de_str (fun _ _ => rfl)) (de_call G_w_spots hK hgd (hr.mono (by decide)) rfl lk (da_cons (dv 3) da_nil)) (de_lkI (de_call G_l_free_lot hK hgd (hr.mono (by decide)) rfl lk (da_cons (dv 3) da_nil))) (by rfl))
      (dss_cons (ds_set (i := 7) nd rfl (.inl rfl) (de_lst da_nil))
      (dss_cons (ds_for hp rfl (di_keysI (dv 6)) (dg_name (i := 8) nd rfl (.inl rfl)) (dss_one (ds_set (i := 7) nd rfl (.inl rfl) (de_callB cd_sortL cr_sorted rfl gb.sorted (by decide +kernel) (da_cons (de_op od_add op_addD (dv 7) (de_ixI (hu_of hr) (dv 6) (dv 8) (fun _ _ => rfl))) da_nil)))))
      (dss_cons (ds_if (dt_cmp od_ne2 (op_ne2 hr.units) (de_callB cd_reprA (cr_reprA hgd hr.units) rfl gb.repr (by decide +kernel) (da_cons (de_call G_free_numbers hK hgd (hr.mono (by decide)) rfl lk (da_cons (dv 4) da_nil)) da_nil)) (de_callB cd_reprA (cr_reprA hgd hr.units) rfl gb.repr (by decide +kernel) (da_cons (de_tup (da_cons (de_ix od_ix ix_seq (dv 7) de_int (fun _ _ => rfl)) (da_cons (de_ix od_ix ix_seq (dv 7) (de_un ud_neg un_neg de_int) (fun _ _ => rfl)) da_nil))) da_nil)) (nomark _)) (dss_one (ds_ret de_bl)) dss_nil)
      (dss_cons (ds_for hp rfl (di_range2 rfl gb.range (da_cons (de_op od_sub op_sub (de_callB cd_minT (cr_minT rfl) rfl gb.min (by decide +kernel) (da_cons (dv 5) da_nil)) de_int) (da_cons (de_op od_add op_addD (de_callB cd_maxT (cr_maxT rfl) rfl gb.max (by decide +kernel) (da_cons (dv 5) da_nil)) de_int) da_nil))) (dg_name (i := 8) nd rfl (.inl rfl)) (dss_cons (ds_set (i := 9) nd rfl (.inl rfl) (de_getI (hu_of hr) (dv 6) (dv 8) (de_lst da_nil)))
      (dss_cons (ds_set (i := 10) nd rfl (.inl rfl) (de_if (dt_cmp od_ne2 (op_ne2 hr.units) (dv 9) (de_lst da_nil) (nomark _)) (de_tup (da_cons (de_ix od_ix ix_seq (dv 9) de_int (fun _ _ => rfl)) (da_cons (de_ix od_ix ix_seq (dv 9) (de_un ud_neg un_neg de_int) (fun _ _ => rfl)) da_nil))) de_non))
      (dss_cons (ds_if (dt_cmp od_ne2 (op_ne2 hr.units) (de_callB cd_reprA (cr_reprA hgd hr.units) rfl gb.repr (by decide +kernel) (da_cons (de_call G_free_numbers_at hK hgd (hr.mono (by decide)) rfl lk (da_cons (dv 4) (da_cons (dv 8) da_nil))) da_nil)) (de_callB cd_reprA (cr_reprA hgd hr.units) rfl gb.repr (by decide +kernel) (da_cons (dv 10) da_nil)) (nomark _)) (dss_one (ds_ret de_bl)) dss_nil)
      (dss_cons (ds_if (PW.pt (dw_and (dt_cmp od_ne2 (op_ne2 hr.units) (dv 9) (de_lst da_nil) (nomark _)) (dw_and1 (dt_cmp od_ne2 (op_ne2 hr.units) (dv 9) (de_listRng2 rfl rfl gb.list rfl gb.range (de_ix od_ix ix_seq (dv 9) de_int (fun _ _ => rfl)) (de_op od_add op_addD (de_ix od_ix ix_seq (dv 9) (de_un ud_neg un_neg de_int) (fun _ _ => rfl)) de_int)) (nomark _))))) (dss_one (ds_ret de_bl)) dss_nil)
      (dss_one (ds_for hp rfl (di_range2 rfl gb.range (da_cons (de_un ud_neg un_neg de_int) (da_cons (de_op od_add op_addD (de_op od_sub op_sub (de_callB cd_maxT (cr_maxT rfl) rfl gb.max (by decide +kernel) (da_cons (dv 5) da_nil)) (de_callB cd_minT (cr_minT rfl) rfl gb.min (by decide +kernel) (da_cons (dv 5) da_nil))) de_int) da_nil))) (dg_name (i := 11) nd rfl (.inl rfl)) (dss_one (ds_if (dt_cmp od_ne2 (op_ne2 hr.units) (de_callB cd_reprA (cr_reprA hgd hr.units) rfl gb.repr (by decide +kernel) (da_cons (de_call G_can_meet_free hK hgd (hr.mono (by decide)) rfl lk (da_cons (dv 4) (da_cons (dv 8) (da_cons (dv 11) da_nil)))) da_nil)) (de_callB cd_reprA (cr_reprA hgd hr.units) rfl gb.repr (by decide +kernel) (da_cons (de_cmp (od_in (neg := false)) op_in_seq (dv 11) (dv 9) (by rfl)) da_nil)) (nomark _)) (dss_one (ds_ret de_bl)) dss_nil)))))))))
      (dss_one (ds_for hp rfl (di_list hK (de_lst (da_cons de_non (da_cons de_bl (da_cons de_bl (da_cons de_str (da_cons (de_tup da_nil) (da_cons (de_lst da_nil) (da_cons de_dct0 (da_cons (de_call G_w_odd hK hgd (hr.mono (by decide)) rfl lk (da_cons (dv 1) da_nil)) da_nil)))))))))) (dg_name (i := 12) nd rfl (.inl rfl)) (dss_cons (ds_set (i := 10) nd rfl (.inl rfl) (de_and (de_callB (cd_isiC st.n_Standing) call_isi rfl gb.isinstance (by decide +kernel) (da_cons (dv 12) (da_cons (de_bty rfl gb.int (by decide +kernel)) da_nil))) (de_one (de_not (de_callB (cd_isiC st.n_Standing) call_isi rfl gb.isinstance (by decide +kernel) (da_cons (dv 12) (da_cons (de_bty rfl gb.bool (by decide +kernel)) da_nil)))))))
      (dss_cons (ds_set (i := 13) nd rfl (.inl rfl) (de_lst (da_cons (de_call G_can_meet_free hK hgd (hr.mono (by decide)) rfl lk (da_cons (dv 4) (da_cons (dv 12) (da_cons (de_ix od_ix ix_seq (dv 7) de_int (fun _ _ => rfl)) da_nil)))) (da_cons (de_call G_can_meet_free hK hgd (hr.mono (by decide)) rfl lk (da_cons (dv 4) (da_cons (de_callB cd_minT (cr_minT rfl) rfl gb.min (by decide +kernel) (da_cons (dv 5) da_nil)) (da_cons (dv 12) da_nil)))) da_nil))))
      (dss_cons (ds_if (dt_cmp od_ne2 (op_ne2 hr.units) (de_callB cd_repr (cr_repr hgd hr.units) rfl gb.repr (by decide +kernel) (da_cons (dv 13) da_nil)) (de_callB cd_repr (cr_repr hgd hr.units) rfl gb.repr (by decide +kernel) (da_cons (de_lst (da_cons (de_and (dv 10) (de_one (de_cmp (od_in (neg := false)) op_in_seq (de_ix od_ix ix_seq (dv 7) de_int (fun _ _ => rfl)) (de_getI (hu_of hr) (dv 6) (dv 12) (de_lst da_nil)) (by rfl)))) (da_cons (de_and (dv 10) (de_one (de_cmp (od_in (neg := false)) op_in_seq (dv 12) (de_getI (hu_of hr) (dv 6) (de_callB cd_minT (cr_minT rfl) rfl gb.min (by decide +kernel) (da_cons (dv 5) da_nil)) (de_lst da_nil)) (by rfl)))) da_nil))) da_nil)) (nomark _)) (dss_one (ds_ret de_bl)) dss_nil)
      (dss_one (ds_if (PW.pt (dw_and (dt_cmp od_notN op_notN (de_call G_free_numbers_at hK hgd (hr.mono (by decide)) rfl lk (da_cons (dv 4) (da_cons (dv 12) da_nil))) de_non (nomark _)) (dw_and1 (PW.pt (dw_or (dt_not (dt_tru hK (dv 10))) (dw_or1 (dt_cmp (od_inI (neg := true)) (op_notInI (hu_of hr)) (dv 12) (dv 6) (by rfl)))))))) (dss_one (ds_ret de_bl)) dss_nil))))))))))))))
      (dss_one (ds_ret (de_and (de_cmp od_eq2 (op_eq2 hr.units) (de_call G_free_numbers hK hgd (hr.mono (by decide)) rfl lk (da_cons (de_make G_Standing hK hgd (hr.mono (by decide)) rfl lk (da_cons (de_lst (da_cons (de_tup (da_cons de_str (da_cons de_int (da_cons de_int da_nil)))) da_nil)) da_nil)) da_nil)) (de_tup (da_cons de_int (da_cons de_int da_nil))) (nomark _)) (de_one (de_cmp od_eq2 (op_eq2 hr.units) (de_call G_free_numbers_at hK hgd (hr.mono (by decide)) rfl lk (da_cons (de_make G_Standing hK hgd (hr.mono (by decide)) rfl lk (da_cons (de_lst (da_cons (de_tup (da_cons de_str (da_cons de_int (da_cons de_int da_nil)))) da_nil)) da_nil)) (da_cons de_int da_nil))) (de_tup (da_cons de_int (da_cons de_int da_nil))) (nomark _)))))))
end
theorem facts {P : Program} {w : World} {K : PySem.W.Frag} {h : Heap} {mg : Str → Option Value} {f : Addr} (X : K.In h) (G : h.Ns mainGlobals mg) (hfa : mg ("law" : Str) = some (.ref f)) (cy : SaysY fa fn gs xs K) (hP : P = PySem.Challenge.pw_oddcrowds_k65_whole_free_meetings) :
    ∃ fd : FuncData, (∀ (s : Shared) (v : Value), BindsTo s fd ⟨[v], []⟩ [("_law_script", v)]) ∧ ∀ base : Heap, K.In base → base.Ns mainGlobals mg → FnG P w K mg base 9 f fd ["_law_script"] (spLaw K) := by
  have cc := cy.x
  have c : He.SaysD fa fn K := cc.d
  obtain ⟨fd_l_source, D_l_source⟩ := c.def_ 0 rfl
  have F_l_source : Fun K "_law_source" "_law_source" s_l_source (He.fAd K ("_law_source", none)) fd_l_source := fun_ofD (st := s_l_source) D_l_source
  obtain ⟨fd_Standing_people, D_Standing_people⟩ := c.def_ 1 rfl
  have F_Standing_people : Fun K "people" "Standing.people" s_Standing_people (He.fAd K ("Standing", some "people")) fd_Standing_people := fun_ofD (st := s_Standing_people) D_Standing_people
  obtain ⟨fd_Standing_places, D_Standing_places⟩ := c.def_ 2 rfl
  have F_Standing_places : Fun K "places" "Standing.places" s_Standing_places (He.fAd K ("Standing", some "places")) fd_Standing_places := fun_ofD (st := s_Standing_places) D_Standing_places
  obtain ⟨fd_voices_at, D_voices_at⟩ := c.def_ 3 rfl
  have F_voices_at : Fun K "voices_at" "voices_at" s_voices_at (He.fAd K ("voices_at", none)) fd_voices_at := fun_ofD (st := s_voices_at) D_voices_at
  obtain ⟨fd_gaps, D_gaps⟩ := c.def_ 4 rfl
  have F_gaps : Fun K "gaps" "gaps" s_gaps (He.fAd K ("gaps", none)) fd_gaps := fun_ofD (st := s_gaps) D_gaps
  obtain ⟨fd_widths, D_widths⟩ := c.def_ 5 rfl
  have F_widths : Fun K "widths" "widths" s_widths (He.fAd K ("widths", none)) fd_widths := fun_ofD (st := s_widths) D_widths
  obtain ⟨fd_most_between, D_most_between⟩ := c.def_ 6 rfl
  have F_most_between : Fun K "most_between" "most_between" s_most_between (He.fAd K ("most_between", none)) fd_most_between := fun_ofD (st := s_most_between) D_most_between
  obtain ⟨fd_is_integer, D_is_integer⟩ := c.def_ 7 rfl
  have F_is_integer : Fun K "is_integer" "is_integer" s_is_integer (He.fAd K ("is_integer", none)) fd_is_integer := fun_ofD (st := s_is_integer) D_is_integer
  obtain ⟨fd_free_numbers_at, D_free_numbers_at⟩ := c.def_ 8 rfl
  have F_free_numbers_at : Fun K "free_numbers_at" "free_numbers_at" s_free_numbers_at (He.fAd K ("free_numbers_at", none)) fd_free_numbers_at := fun_ofD (st := s_free_numbers_at) D_free_numbers_at
  obtain ⟨fd_is_word, D_is_word⟩ := c.def_ 9 rfl
  have F_is_word : Fun K "is_word" "is_word" s_is_word (He.fAd K ("is_word", none)) fd_is_word := fun_ofD (st := s_is_word) D_is_word
  obtain ⟨fd_is_row, D_is_row⟩ := c.def_ 10 rfl
  have F_is_row : Fun K "is_row" "is_row" s_is_row (He.fAd K ("is_row", none)) fd_is_row := fun_ofD (st := s_is_row) D_is_row
  obtain ⟨fd_wrong_person, D_wrong_person⟩ := c.def_ 11 rfl
  have F_wrong_person : Fun K "wrong_person" "wrong_person" s_wrong_person (He.fAd K ("wrong_person", none)) fd_wrong_person := fun_ofD (st := s_wrong_person) D_wrong_person
  obtain ⟨fd_wrong_people, D_wrong_people⟩ := c.def_ 12 rfl
  have F_wrong_people : Fun K "wrong_people" "wrong_people" s_wrong_people (He.fAd K ("wrong_people", none)) fd_wrong_people := fun_ofD (st := s_wrong_people) D_wrong_people
  obtain ⟨fd_Standing_init, D_Standing_init⟩ := c.def_ 13 rfl
  have F_Standing_init : Fun K "__init__" "Standing.__init__" s_Standing_init (He.fAd K ("Standing", some "__init__")) fd_Standing_init := fun_ofD (st := s_Standing_init) D_Standing_init
  obtain ⟨fd_free_numbers, D_free_numbers⟩ := c.def_ 14 rfl
  have F_free_numbers : Fun K "free_numbers" "free_numbers" s_free_numbers (He.fAd K ("free_numbers", none)) fd_free_numbers := fun_ofD (st := s_free_numbers) D_free_numbers
  obtain ⟨fd_l_pick, D_l_pick⟩ := c.def_ 15 rfl
  have F_l_pick : Fun K "_law_pick" "_law_pick" s_l_pick (He.fAd K ("_law_pick", none)) fd_l_pick := fun_ofD (st := s_l_pick) D_l_pick
  obtain ⟨fd_l_of, D_l_of⟩ := c.def_ 16 rfl
  have F_l_of : Fun K "_law_of" "_law_of" s_l_of (He.fAd K ("_law_of", none)) fd_l_of := fun_ofD (st := s_l_of) D_l_of
  obtain ⟨fd_w_odd, D_w_odd⟩ := c.def_ 17 rfl
  have F_w_odd : Fun K "_law_odd" "_law_odd" s_w_odd (He.fAd K ("_law_odd", none)) fd_w_odd := fun_ofD (st := s_w_odd) D_w_odd
  obtain ⟨fd_free_paper, D_free_paper⟩ := c.def_ 18 rfl
  have F_free_paper : Fun K "free_paper" "free_paper" s_free_paper (He.fAd K ("free_paper", none)) fd_free_paper := fun_ofD (st := s_free_paper) D_free_paper
  obtain ⟨fd_can_meet_free, D_can_meet_free⟩ := c.def_ 19 rfl
  have F_can_meet_free : Fun K "can_meet_free" "can_meet_free" s_can_meet_free (He.fAd K ("can_meet_free", none)) fd_can_meet_free := fun_ofD (st := s_can_meet_free) D_can_meet_free
  obtain ⟨fd_w_spots, D_w_spots⟩ := c.def_ 20 rfl
  have F_w_spots : Fun K "_law_spots" "_law_spots" s_w_spots (He.fAd K ("_law_spots", none)) fd_w_spots := fun_ofD (st := s_w_spots) D_w_spots
  obtain ⟨fd_l_called, D_l_called⟩ := c.def_ 21 rfl
  have F_l_called : Fun K "_law_called" "_law_called" s_l_called (He.fAd K ("_law_called", none)) fd_l_called := fun_ofD (st := s_l_called) D_l_called
  obtain ⟨fd_l_free_lot, D_l_free_lot⟩ := c.def_ 22 rfl
  have F_l_free_lot : Fun K "_law_free_lot" "_law_free_lot" s_l_free_lot (He.fAd K ("_law_free_lot", none)) fd_l_free_lot := fun_ofD (st := s_l_free_lot) D_l_free_lot
  obtain ⟨fd_l_made, D_l_made⟩ := c.def_ 23 rfl
  have F_l_made : Fun K "_law_made" "_law_made" s_l_made (He.fAd K ("_law_made", none)) fd_l_made := fun_ofD (st := s_l_made) D_l_made
  obtain ⟨fd_l_at, D_l_at⟩ := c.def_ 24 rfl
  have F_l_at : Fun K "_law_at" "_law_at" s_l_at (He.fAd K ("_law_at", none)) fd_l_at := fun_ofD (st := s_l_at) D_l_at
  obtain ⟨fd_l_mixed, D_l_mixed⟩ := c.def_ 25 rfl
  have F_l_mixed : Fun K "_law_mixed" "_law_mixed" s_l_mixed (He.fAd K ("_law_mixed", none)) fd_l_mixed := fun_ofD (st := s_l_mixed) D_l_mixed
  obtain ⟨fd_l_names, D_l_names⟩ := c.def_ 26 rfl
  have F_l_names : Fun K "_law_names" "_law_names" s_l_names (He.fAd K ("_law_names", none)) fd_l_names := fun_ofD (st := s_l_names) D_l_names
  obtain ⟨fd_l_world, D_l_world⟩ := c.def_ 27 rfl
  have F_l_world : Fun K "_law_world" "_law_world" s_l_world (He.fAd K ("_law_world", none)) fd_l_world := fun_ofD (st := s_l_world) D_l_world
  obtain ⟨fd_l_narrow_world, D_l_narrow_world⟩ := c.def_ 28 rfl
  have F_l_narrow_world : Fun K "_law_narrow_world" "_law_narrow_world" s_l_narrow_world (He.fAd K ("_law_narrow_world", none)) fd_l_narrow_world := fun_ofD (st := s_l_narrow_world) D_l_narrow_world
  obtain ⟨fd_law, D_law⟩ := c.def_ 29 rfl
  have F_law : Fun K "law" "law" s_law (He.fAd K ("law", none)) fd_law := fun_ofD (st := s_law) D_law
  have e := hfa.symm.trans (He.glo_ok X G (c.fact 26 rfl))
  cases e
  have gb : GB mg (He.ga K) := ⟨He.free_ok X G (c.fact 33 rfl), He.free_ok X G (c.fact 34 rfl), He.free_ok X G (c.fact 35 rfl), He.free_ok X G (c.fact 36 rfl), He.free_ok X G (c.fact 37 rfl), He.free_ok X G (c.fact 38 rfl), He.free_ok X G (c.fact 39 rfl), He.free_ok X G (c.fact 40 rfl), He.free_ok X G (c.fact 41 rfl), He.free_ok X G (c.fact 42 rfl), He.free_ok X G (c.fact 43 rfl), He.free_ok X G (c.fact 44 rfl), He.free_ok X G (c.fact 45 rfl), He.free_ok X G (c.fact 46 rfl), He.free_ok X G (c.fact 47 rfl), He.free_ok X G (c.fact 48 rfl), He.free_ok X G (c.fact 49 rfl), He.free_ok X G (c.fact 50 rfl), He.str_ok X G (c.fact 51 rfl), He.str_ok X G (c.fact 52 rfl), He.glo_ok X G (c.fact 27 rfl)⟩
  have c_Standing := He.cls_ok (c.fact 28 rfl)
  have st : CS K (He.ga K) := ⟨c_Standing, He.noat_ok (c.fact 30 rfl), insB_ok c_Standing (cc.more 0 rfl)⟩
  have b_l_source : Binds K fd_l_source ["_law_script"] [] := F_l_source.binds fun _ _ _ _ _ _ us hl => match us, hl with | [_], _ => rfl
  have b_Standing_people : Binds K fd_Standing_people ["self"] [] := F_Standing_people.binds fun _ _ _ _ _ _ us hl => match us, hl with | [_], _ => rfl
  have b_Standing_places : Binds K fd_Standing_places ["self"] [] := F_Standing_places.binds fun _ _ _ _ _ _ us hl => match us, hl with | [_], _ => rfl
  have b_voices_at : Binds K fd_voices_at ["standing", "place"] [] := F_voices_at.binds fun _ _ _ _ _ _ us hl => match us, hl with | [_, _], _ => rfl
  have b_gaps : Binds K fd_gaps ["standing"] [] := F_gaps.binds fun _ _ _ _ _ _ us hl => match us, hl with | [_], _ => rfl
  have b_widths : Binds K fd_widths ["standing"] [] := F_widths.binds fun _ _ _ _ _ _ us hl => match us, hl with | [_], _ => rfl
  have b_most_between : Binds K fd_most_between ["standing", "place"] [] := F_most_between.binds fun _ _ _ _ _ _ us hl => match us, hl with | [_, _], _ => rfl
  have b_is_integer : Binds K fd_is_integer ["value"] [] := F_is_integer.binds fun _ _ _ _ _ _ us hl => match us, hl with | [_], _ => rfl
  have b_free_numbers_at : Binds K fd_free_numbers_at ["standing", "place"] [] := F_free_numbers_at.binds fun _ _ _ _ _ _ us hl => match us, hl with | [_, _], _ => rfl
  have b_is_word : Binds K fd_is_word ["value"] [] := F_is_word.binds fun _ _ _ _ _ _ us hl => match us, hl with | [_], _ => rfl
  have b_is_row : Binds K fd_is_row ["value", "many"] [] := F_is_row.binds fun _ _ _ _ _ _ us hl => match us, hl with | [_, _], _ => rfl
  have b_wrong_person : Binds K fd_wrong_person ["value", "names"] [] := F_wrong_person.binds fun _ _ _ _ _ _ us hl => match us, hl with | [_, _], _ => rfl
  have b_wrong_people : Binds K fd_wrong_people ["value"] [] := F_wrong_people.binds fun _ _ _ _ _ _ us hl => match us, hl with | [_], _ => rfl
  have b_Standing_init : Binds K fd_Standing_init ["self", "people"] [] := F_Standing_init.binds fun _ _ _ _ _ _ us hl => match us, hl with | [_, _], _ => rfl
  have b_free_numbers : Binds K fd_free_numbers ["standing"] [] := F_free_numbers.binds fun _ _ _ _ _ _ us hl => match us, hl with | [_], _ => rfl
  have b_l_pick : Binds K fd_l_pick ["_law_source_here", "_law_many"] [] := F_l_pick.binds fun _ _ _ _ _ _ us hl => match us, hl with | [_, _], _ => rfl
  have b_l_of : Binds K fd_l_of ["_law_source_here", "_law_some"] [] := F_l_of.binds fun _ _ _ _ _ _ us hl => match us, hl with | [_, _], _ => rfl
  have b_w_odd : Binds K fd_w_odd ["_law_source_here"] [] := F_w_odd.binds fun _ _ _ _ _ _ us hl => match us, hl with | [_], _ => rfl
  have b_free_paper : Binds K fd_free_paper ["standing", "place", "calls"] [] := F_free_paper.binds fun _ _ _ _ _ _ us hl => match us, hl with | [_, _, _], _ => rfl
  have b_can_meet_free : Binds K fd_can_meet_free ["standing", "place", "calls"] [] := F_can_meet_free.binds fun _ _ _ _ _ _ us hl => match us, hl with | [_, _, _], _ => rfl
  have b_w_spots : Binds K fd_w_spots ["_law_world_here"] [] := F_w_spots.binds fun _ _ _ _ _ _ us hl => match us, hl with | [_], _ => rfl
  have b_l_called : Binds K fd_l_called ["_law_spots_here", "_law_place"] [] := F_l_called.binds fun _ _ _ _ _ _ us hl => match us, hl with | [_, _], _ => rfl
  have b_l_free_lot : Binds K fd_l_free_lot ["_law_world_here"] [] := F_l_free_lot.binds fun _ _ _ _ _ _ us hl => match us, hl with | [_], _ => rfl
  have b_l_made : Binds K fd_l_made ["_law_people"] [] := F_l_made.binds fun _ _ _ _ _ _ us hl => match us, hl with | [_], _ => rfl
  have b_l_at : Binds K fd_l_at ["_law_world_here", "_law_spots_here"] [] := F_l_at.binds fun _ _ _ _ _ _ us hl => match us, hl with | [_, _], _ => rfl
  have b_l_mixed : Binds K fd_l_mixed ["_law_source_here", "_law_things"] [] := F_l_mixed.binds fun _ _ _ _ _ _ us hl => match us, hl with | [_, _], _ => rfl
  have b_l_names : Binds K fd_l_names ["_law_source_here", "_law_many"] [] := F_l_names.binds fun _ _ _ _ _ _ us hl => match us, hl with | [_, _], _ => rfl
  have b_l_world : Binds K fd_l_world ["_law_source_here", "_law_most", "_law_far", "_law_parity"] [] := F_l_world.binds fun _ _ _ _ _ _ us hl => match us, hl with | [_, _, _, _], _ => rfl
  have b_l_narrow_world : Binds K fd_l_narrow_world ["_law_source_here", "_law_most", "_law_total"] [] := F_l_narrow_world.binds fun _ _ _ _ _ _ us hl => match us, hl with | [_, _, _], _ => rfl
  have b_law : Binds K fd_law ["_law_script"] [] := F_law.binds fun _ _ _ _ _ _ us hl => match us, hl with | [_], _ => rfl
  have bl := FunD.bindsA (ps := ["_law_script"]) D_law fun _ _ _ _ _ _ us hl => match us, hl with | [_], _ => rfl
  refine ⟨fd_law, fun s v => bl s [v] rfl, fun base hb nb => ?_⟩
  have Gs := ok_l_source (P := P) (w := w) (base := base) gb F_l_source
  have M_people : CalleeM P w K mg base 1 (He.ga K "Standing") "people" (sp_Standing_people (He.ga K)) := ⟨c_Standing, _, _, _, He.meth_ok (c.fact 31 rfl), ok_Standing_people gb st  F_Standing_people, b_Standing_people⟩
  have M_places : CalleeM P w K mg base 2 (He.ga K "Standing") "places" (sp_Standing_places (He.ga K)) := ⟨c_Standing, _, _, _, He.meth_ok (c.fact 32 rfl), ok_Standing_places gb st M_people F_Standing_places, b_Standing_places⟩
  have G_voices_at : Callee P w K mg base 2 "voices_at" (sp_voices_at (He.ga K)) := ⟨_, _, _, ok_voices_at gb st M_people F_voices_at, He.glo_ok X G (c.fact 1 rfl), D_voices_at.kp, b_voices_at⟩
  have G_gaps : Callee P w K mg base 3 "gaps" (sp_gaps (He.ga K)) := ⟨_, _, _, ok_gaps gb st G_voices_at M_places F_gaps, He.glo_ok X G (c.fact 2 rfl), D_gaps.kp, b_gaps⟩
  have G_widths : Callee P w K mg base 4 "widths" (sp_widths (He.ga K)) := ⟨_, _, _, ok_widths gb st G_gaps F_widths, He.glo_ok X G (c.fact 3 rfl), D_widths.kp, b_widths⟩
  have G_most_between : Callee P w K mg base 5 "most_between" (sp_most_between (He.ga K)) := ⟨_, _, _, ok_most_between gb st M_places G_widths F_most_between, He.glo_ok X G (c.fact 4 rfl), D_most_between.kp, b_most_between⟩
  have G_is_integer : Callee P w K mg base 1 "is_integer" (sp_is_integer (He.ga K)) := ⟨_, _, _, ok_is_integer gb st  F_is_integer, He.glo_ok X G (c.fact 5 rfl), D_is_integer.kp, b_is_integer⟩
  have G_free_numbers_at : Callee P w K mg base 6 "free_numbers_at" (sp_free_numbers_at (He.ga K)) := ⟨_, _, _, ok_free_numbers_at gb st G_most_between G_widths G_is_integer F_free_numbers_at, He.glo_ok X G (c.fact 6 rfl), D_free_numbers_at.kp, b_free_numbers_at⟩
  have G_is_word : Callee P w K mg base 1 "is_word" (sp_is_word (He.ga K)) := ⟨_, _, _, ok_is_word gb st  F_is_word, He.glo_ok X G (c.fact 7 rfl), D_is_word.kp, b_is_word⟩
  have G_is_row : Callee P w K mg base 1 "is_row" (sp_is_row (He.ga K)) := ⟨_, _, _, ok_is_row gb st  F_is_row, He.glo_ok X G (c.fact 8 rfl), D_is_row.kp, b_is_row⟩
  have G_wrong_person : Callee P w K mg base 2 "wrong_person" (sp_wrong_person (He.ga K)) := ⟨_, _, _, ok_wrong_person gb st G_is_integer G_is_word G_is_row F_wrong_person, He.glo_ok X G (c.fact 9 rfl), D_wrong_person.kp, b_wrong_person⟩
  have G_wrong_people : Callee P w K mg base 3 "wrong_people" (sp_wrong_people (He.ga K)) := ⟨_, _, _, ok_wrong_people gb st G_wrong_person F_wrong_people, He.glo_ok X G (c.fact 10 rfl), D_wrong_people.kp, b_wrong_people⟩
  have G_Standing : CalleeC P w K mg base 4 "Standing" (sp_Standing (He.ga K)) := calleeC (He.mkr_ok (c.fact 29 rfl)) (ok_Standing_init gb st G_wrong_people F_Standing_init) (He.glo_ok X G (c.fact 27 rfl)) b_Standing_init
  have G_free_numbers : Callee P w K mg base 5 "free_numbers" (sp_free_numbers (He.ga K)) := ⟨_, _, _, ok_free_numbers gb st G_widths F_free_numbers, He.glo_ok X G (c.fact 11 rfl), D_free_numbers.kp, b_free_numbers⟩
  have G_l_pick : Callee P w K mg base 1 "_law_pick" (sp_l_pick (He.ga K)) := ⟨_, _, _, ok_l_pick gb st  F_l_pick, He.glo_ok X G (c.fact 12 rfl), D_l_pick.kp, b_l_pick⟩
  have G_l_of : Callee P w K mg base 2 "_law_of" (sp_l_of (He.ga K)) := ⟨_, _, _, ok_l_of gb st G_l_pick F_l_of, He.glo_ok X G (c.fact 13 rfl), D_l_of.kp, b_l_of⟩
  have G_w_odd : Callee P w K mg base 3 "_law_odd" (sp_w_odd (He.ga K)) := ⟨_, _, _, ok_w_odd gb st G_l_of F_w_odd, He.glo_ok X G (c.fact 14 rfl), D_w_odd.kp, b_w_odd⟩
  have G_free_paper : Callee P w K mg base 5 "free_paper" (sp_free_paper (He.ga K)) := ⟨_, _, _, ok_free_paper gb st M_places G_widths G_is_integer F_free_paper, He.glo_ok X G (c.fact 15 rfl), D_free_paper.kp, b_free_paper⟩
  have G_can_meet_free : Callee P w K mg base 6 "can_meet_free" (sp_can_meet_free (He.ga K)) := ⟨_, _, _, ok_can_meet_free gb st G_free_paper F_can_meet_free, He.glo_ok X G (c.fact 16 rfl), D_can_meet_free.kp, b_can_meet_free⟩
  have G_w_spots : Callee P w K mg base 1 "_law_spots" (sp_w_spots (He.ga K)) := ⟨_, _, _, ok_w_spots gb st  F_w_spots, He.glo_ok X G (c.fact 17 rfl), D_w_spots.kp, b_w_spots⟩
  have G_l_called : Callee P w K mg base 1 "_law_called" (sp_l_called (He.ga K)) := ⟨_, _, _, ok_l_called gb st  F_l_called, He.glo_ok X G (c.fact 18 rfl), D_l_called.kp, b_l_called⟩
  have G_l_free_lot : Callee P w K mg base 2 "_law_free_lot" (sp_l_free_lot (He.ga K)) := ⟨_, _, _, ok_l_free_lot gb st G_l_called G_w_spots F_l_free_lot, He.glo_ok X G (c.fact 19 rfl), D_l_free_lot.kp, b_l_free_lot⟩
  have G_l_made : Callee P w K mg base 6 "_law_made" (sp_l_made (He.ga K)) := ⟨_, _, _, ok_l_made gb st G_Standing F_l_made, He.glo_ok X G (c.fact 20 rfl), D_l_made.kp, b_l_made⟩
  have G_l_at : Callee P w K mg base 7 "_law_at" (sp_l_at (He.ga K)) := ⟨_, _, _, ok_l_at gb st G_l_made F_l_at, He.glo_ok X G (c.fact 21 rfl), D_l_at.kp, b_l_at⟩
  have G_l_mixed : Callee P w K mg base 2 "_law_mixed" (sp_l_mixed (He.ga K)) := ⟨_, _, _, ok_l_mixed gb st G_l_pick F_l_mixed, He.glo_ok X G (c.fact 22 rfl), D_l_mixed.kp, b_l_mixed⟩
  have G_l_names : Callee P w K mg base 2 "_law_names" (sp_l_names (He.ga K)) := ⟨_, _, _, ok_l_names gb st G_l_pick F_l_names, He.glo_ok X G (c.fact 23 rfl), D_l_names.kp, b_l_names⟩
  have G_l_world : Callee P w K mg base 7 "_law_world" (sp_l_world (He.ga K)) := ⟨_, _, _, ok_l_world gb st G_l_made G_l_mixed G_l_names G_l_pick G_l_of F_l_world, He.glo_ok X G (c.fact 24 rfl), D_l_world.kp, b_l_world⟩
  have G_l_narrow_world : Callee P w K mg base 8 "_law_narrow_world" (sp_l_narrow_world (He.ga K)) := ⟨_, _, _, ok_l_narrow_world gb st G_l_at G_w_spots G_l_world F_l_narrow_world, He.glo_ok X G (c.fact 25 rfl), D_l_narrow_world.kp, b_l_narrow_world⟩
  exact ok_law gb st G_free_numbers_at G_Standing G_free_numbers G_w_odd G_can_meet_free G_w_spots G_l_free_lot G_l_narrow_world Gs (He.glo_ok X G (c.fact 0 rfl)) D_l_source.kp b_l_source F_law
end K65
open PySem PySem.W PySem.Calls PyProof.Rows
set_option maxRecDepth 100000 in
set_option maxHeartbeats 0 in
theorem PySem.Challenge.cw_oddcrowds_k65_whole_free_meetings_holds : PySem.Challenge.rw_oddcrowds_k65_whole_free_meetings.Holds := by
  w_on; o_law
  refine HandSHeadRun.head_any (r := OpenLaw.row PySem.Challenge.rw_oddcrowds_k65_whole_free_meetings) (q := view (OpenLaw.row PySem.Challenge.rw_oddcrowds_k65_whole_free_meetings).prog [40]) (H := K65.hk) (ob := K65.ob) (M := 4000) (loose := K65.loose) (d := HandSHeadRun.topDef (OpenLaw.row PySem.Challenge.rw_oddcrowds_k65_whole_free_meetings).prog 40) (kwd := []) K65.ob_eq
    (by kernel_rfl) (fun s => by kernel_rfl) K65.run (by kernel_rfl) (by kernel_rfl) (by kernel_rfl) (by rfl) (by first | assumption | decide +kernel) (by decide +kernel) ⟨rfl, rfl, rfl, rfl, rfl, by decide +kernel⟩ ?hw ?hc
  case hw => w_witness2
  case hc =>
    refine L2.DL.walk_ofG (l := PySem.Challenge.rw_oddcrowds_k65_whole_free_meetings) (n := 63) (k := 9) (x := "_law_script") rfl (by decide) (by kernel_rfl) ⟨rfl, by decide, by decide⟩ ?F
    intro w mg fa h Y G hmg0
    obtain ⟨K, KX, c⟩ := Y
    have hmg : mg ("law" : PySem.Str) = some (.ref fa) := by
      have e : (HandSHeadRun.topDef (OpenLaw.row PySem.Challenge.rw_oddcrowds_k65_whole_free_meetings).prog 40).name = ("law" : PySem.Str) := by kernel_rfl
      rw [← e]
      exact hmg0
    obtain ⟨fd, hb, hF⟩ := K65.facts (P := (PySem.Challenge.rw_oddcrowds_k65_whole_free_meetings).prog) (w := w) KX G hmg c rfl
    exact ⟨K, fd, L2.DL.spLaw K, KX, hb, fun H a ns hl _ hS => ⟨a, ns, rfl, hS, hl, fun _ => rfl⟩, hF⟩

import PyProof.Rows.All
import Wide.All
import OpenK.AllK
import Wide.FinOn
import PyProof.SumWalkG
import HandS.HotCalls
import HandS.Lambda
import HandS.ExcIs
import HandS.ForMost
import HandS.Walk
import HandS.Zip
import HandS.TupAny
import HandS.Wide
import HandS.IsInst
import HandS.SortInts
import HandS.Flow
import HandS.HeadHook4
import HandS.HeadWalk
import HandS.Defaults
import PyProof.StrBlock2
import KE.KIntText
import HandS.Iter
import HandS.Head0
import HandS.Head1
import HandS.Head2
import HandS.HeadEnd
import HandS.More
import HandS.Small
import HandS.DictComp
import KE.KStateDown
import PySem.Challenge.RW_tryroad_k24_callers_refused
set_option Elab.async false
set_option linter.all false
set_option maxRecDepth 100000
set_option maxHeartbeats 0
section
/-! Lists walked while an exception is handled: the end of a list's iterator, sum of a list, a comprehension of int(x) over a list. -/
namespace TrH
open PySem PySem.Spec PyProof.Rows HotX
section
variable {prog : Program} {w : World} {A : Around} {E : Value → Shared → Prop} {s : Shared}
/-- the end of a list's iterator; the StopIteration is chained to what is handled -/
theorem listEndHot {it l x1 : Addr} {i : Nat} {items : Array Value} {Q : Option Value → Shared → Prop} (hot : HotAt A x1 s.heap) (hit : s.heap.IsListIter it l i)
    (hl : s.heap.IsList l items) (hx : items[i]? = none) (hQ : ∀ h', Heap.ExtBut it s.heap h' → Q none { s with heap := h' }) : wpAny (model prog w) A (pyNext (.ref it)) Q E s := by
  obtain ⟨o, ho, hc, hd⟩ := id hit
  obtain ⟨ol, hol, _, nl, hdl⟩ := hl
  obtain ⟨hh, o1, vs1, h1, d1, c1⟩ := hot
  have nx : x1 ≠ it := fun z => by
    rw [z, ho] at h1
    cases h1
    rw [hd] at d1
    cases d1
    cases c1
  unfold pyNext
  refine wpAny_bind (wpAny_attempt (wpAny_callSpecial?_slot (name := Str.ofString "__next__") hit.typeIs slot_listiter_next
    (wpAny_call_entry slot_listiter_next hit.typeIs entry_listiter_next ?_ (args_listiter_next _))))
  show wpAny _ _ (field (.ref it) 0 >>= _) _ _ s
  refine wpAny_bind (wpAny_field ho hd (x := .ref l) rfl ?_)
  show wpAny _ _ (if (Value.ref l == Value.none) = true then _ else _) _ _ s
  rw [if_neg (show ¬ ((Value.ref l == Value.none) = true) from Bool.false_ne_true)]
  show wpAny _ _ (field (.ref it) 1 >>= _) _ _ s
  refine wpAny_bind (wpAny_field ho hd (x := .int i 0) rfl ?_)
  show wpAny _ _ (seqItems? (.ref l) >>= _) _ _ s
  refine wpAny_bind (wpAny_seqItems hol hdl ?_)
  simp only [Int.toNat_natCast, hx]
  refine wpAny_bind (wpAny_rule (wpAny_bind (wpAny_setField ho hd (by simp) ?_)))
  show wpAny _ _ (newExc (.type "StopIteration") [] >>= _) _ _ _
  refine wpAny_bind ?_
  simp only [newExc, newTuple]
  refine wpAny_bind (wpAny_newObj_type ?_ (by size_fits))
  refine wpAny_bind (m := firstArgMember _ _) (wpAny_of_eq (a := Value.none) (by first | rfl | (simp only [firstArgMember]; rfl)) ?_)
  refine wpAny_newObj_type ?_ (by size_fits)
  have u1 : ∀ g, (s.heap.update it g).get? x1 = some o1 := fun g => by
    rw [Heap.get?_update_other _ _ (Ne.symm nx)]
    exact h1
  refine raiseNew_hot ⟨hh, o1, vs1, Heap.get?_push_of_some _ (Heap.get?_push_of_some _ (u1 _)), d1, c1⟩ (Nat.ne_of_lt (Heap.lt_size (Heap.get?_push_of_some _ (u1 _)))) (Heap.get?_push_size _ rfl) rfl (by first | (simp; done) | (simp; omega) | (simp only [Array.size_append]; simp; omega)) ?_
  refine wpAny_bind (wpAny_isInstance (T := "StopIteration") (b := true) ⟨_, Heap.get?_update_self _ (Heap.get?_push_size _ rfl) rfl, rfl⟩ isSubtype_stop ?_)
  refine wpAny_pure (hQ _ fun b o hb e => ?_)
  have e1 : (s.heap.update it (Obj.mapFields fun x => x.setIfInBounds 0 .none)).get? b = some o := by
    rw [Heap.get?_update_other _ _ (Ne.symm hb)]
    exact e
  rw [Heap.get?_update_other _ _ (Nat.ne_of_gt (Heap.lt_size (Heap.get?_push_of_some _ e1)))]
  exact Heap.get?_push_of_some _ (Heap.get?_push_of_some _ e1)
/-- the walk of a list there -/
theorem walksHot (I ax x1 : Addr) (hne : ax ≠ I) (nx : x1 ≠ I) (items : Array Value) (hh : A.handled = some (.ref x1)) :
    Walks prog w A I [I, ax, x1] [I] items.size (fun i v => items[i]? = some v) (fun i h => h.IsListIter I ax i ∧ h.IsList ax items ∧ HotAt A x1 h) where
  sub := fun b hb => by simp at hb; simp [hb]
  frame := fun i h h' st hk => ⟨st.1.at fun o e => hk I (by simp) o e, st.2.1.at fun o e => hk ax (by simp) o e, st.2.2.1, by
    obtain ⟨_, o, vs, e1, e2, e3⟩ := st.2.2
    exact ⟨o, vs, hk x1 (by simp) o e1, e2, e3⟩⟩
  item := fun i s Q E hi st hQ => by
    obtain ⟨st1, st2, hx, o, vs, e1, e2, e3⟩ := st
    refine wpAny_pyNext_list_item st1 st2 (x := items[i]) (by simp [hi]) fun h' hit' hs' => ?_
    exact hQ _ h' s.toks (by simp [hi]) ⟨hit', st2.extBut hs'.extBut hne, hx, o, vs, hs'.extBut x1 o nx e1, e2, e3⟩ fun b o hb e => hs'.extBut b o (fun h => hb (by simp [h])) e
  done := fun s Q E st hQ => listEndHot st.2.2 st.1 st.2.1 (by simp) fun h' he' => hQ h' s.toks fun b o hb e => he' b o (fun h => hb (by simp [h])) e
  self := fun _ _ _ _ st hQ => wpAny_pyIter_listiter st.1 hQ
end

theorem preSum_get (ns : List Int) : ∀ j, PySem.preSum (fun i => ns.getD i 0) j = (ns.take j).sum
  | 0 => by simp [PySem.preSum]
  | j + 1 => by
    rw [PySem.preSum, preSum_get ns j]
    by_cases h : j < ns.length
    · rw [List.take_succ_eq_append_getElem h, List.sum_append]
      simp [List.getD_eq_getElem?_getD, List.getElem?_eq_getElem h]
    · rw [List.take_of_length_le (by omega : ns.length ≤ j), List.take_of_length_le (by omega : ns.length ≤ j + 1)]
      simp [List.getD_eq_getElem?_getD, List.getElem?_eq_none (by omega : ns.length ≤ j)]
section
open L2 L2H
variable {X : Cx}
theorem hotNe {A : Around} {x1 : Addr} {h : Heap} (hot : HotAt A x1 h) : x1 < h.objs.size := by
  obtain ⟨_, o, _, e, _⟩ := hot
  exact Heap.lt_size e
theorem crSumH (hc : HotC X) : CallR X (.builtin "sum") (rSum X.K) := by
  intro pins s σ H vs us Q I r h
  obtain ⟨a, ns, rfl, hs, q⟩ := h
  obtain ⟨its, rv, hl, _⟩ := I.list hs
  rw [Vals.ref1 r]
  obtain ⟨x1, hot⟩ := hc.at I
  obtain ⟨hh, o1, vs1, e1, e2, e3⟩ := id hot
  have hl' := hl.isList
  have la : a < s.heap.objs.size := by
    obtain ⟨o, ho, _⟩ := hl'
    exact Heap.lt_size ho
  have lx := hotNe hot
  have len : ns.length = its.length := by have := rv.length; rwa [List.length_map] at this
  refine call_sum_walkG (wpAny_pyIter_list hl' ?_)
  refine ⟨s.heap.objs.size, _, _, its.toArray.size, _, _, fun i => ns.getD i 0, rfl, walksHot (A := X.A.in1) s.heap.objs.size a x1 (Nat.ne_of_lt la) (Nat.ne_of_lt lx) its.toArray hh,
    ⟨⟨_, Heap.get?_push_size _ rfl, rfl, rfl⟩, hl'.at fun o e => Heap.get?_push_of_some _ e, hh, o1, vs1, Heap.get?_push_of_some _ e1, e2, e3⟩, fun b hb => ?_, fun i v hv => ?_, fun h' tk t' hk => ?_⟩
  · have hb' : b = s.heap.objs.size ∨ b = a ∨ b = x1 := by simpa using hb
    show b < (s.heap.push _).objs.size
    rw [Heap.size_push]
    rcases hb' with z | z | z <;> rw [z] <;> first | exact Nat.lt_succ_self _ | exact Nat.lt_succ_of_lt la | exact Nat.lt_succ_of_lt lx
  · have hv' : its[i]? = some v := by simpa using hv
    have hi : i < ns.length := by
      have := (List.getElem?_eq_some_iff.mp hv').1
      omega
    obtain ⟨u, hu, ru⟩ := rv.get (i := i) (x := .int ns[i]) (by rw [List.getElem?_map, List.getElem?_eq_getElem hi]; rfl)
    rw [hv'] at hu
    cases hu
    obtain ⟨t, e⟩ := ru
    refine ⟨t, ?_⟩
    rw [e]
    simp [List.getD_eq_getElem?_getD, List.getElem?_eq_getElem hi]
  · rw [preSum_get, List.take_of_length_le (by simp; omega)]
    refine ⟨.int ns.sum, H, ?_, ⟨_, rfl⟩, q⟩
    refine I.kept (h' := h') (t' := tk) fun b o e => ?_
    refine hk b o (fun z => ?_) (Heap.get?_push_of_some _ e)
    have z' : b = s.heap.objs.size := by simpa using z
    exact Nat.lt_irrefl _ (z' ▸ Heap.lt_size e)
/-- a new object where nothing stood -/
theorem laidAt {pins : List (Addr × Obj)} {σ : L2.St} {H : Hp} {s : Shared} {h' : Heap} {a : Addr} {o : HO} {t' : Nat} (I : Inv X pins σ H s) (k : ∀ b u, s.heap.get? b = some u → h'.get? b = some u) (hp : s.heap.get? a = none) (new : ObjOk X.prog X.w (upd H a o) h' a o) :
    Inv X pins σ (upd H a o) { s with heap := h', toks := t' } := by
  have hn := I.hok.gone hp
  have ne : ∀ b u, s.heap.get? b = some u → b ≠ a := fun b u e z => by rw [z, hp] at e; cases e
  refine I.un ⟨fun b u q _ _ _ => k b u q, fun b u q _ _ _ => ⟨u.slots, k b u q⟩, fun b u q n _ => by rw [upd_ne (ne b u q)]; exact n, fun b u q _ => ⟨u, k b u q⟩, fun b xs q => by rw [upd_ne (ne_of_none q hn)]; exact q,
    fun b u xs q => by rw [upd_ne (ne_of_none q hn)]; exact q, fun b ps q => ⟨#[], by rw [upd_ne (ne_of_none q hn), q]; simp⟩⟩ fun b u e => ?_
  by_cases hb : b = a
  · subst hb
    rw [upd_same] at e
    cases e
    exact new
  · rw [upd_ne hb] at e
    exact (I.hok b u e).stay (fun c v _ q => k c v q) (fun c q => by rw [upd_ne (ne_of_none q hn)]; exact q) fun c xs q => by rw [upd_ne (ne_of_none q hn)]; exact q
/-- [int(x) for x in l], l a list of truth values -/
def tInts (K : PySem.W.Frag) (tl : TE) : TE := fun σ H Q => tl σ H fun v H1 => ∃ (a : Addr) (bs : List Bool), v = .ref a ∧ SqL K H1 a (bs.map V.bl) ∧ ∀ D, H1 D = none → Q (.ref D) (upd H1 D (.lst (bs.map fun b => V.int (if b then 1 else 0))))
structure IntsScope (scope : Scope) (x : Str) : Prop where
  kind : scope.kind = .function
  cell : ∀ y ∈ scope.names, y.2 ≠ .cell ∧ y.2 ≠ .free
  names : ∀ y ∈ scope.names, y.2 = .local → scope.names.lookup y.1 = some .local
  hx : scope.names.lookup x = some .local
  hi : scope.names.lookup ("int" : Str) = some .globalImplicit
theorem peIntsH (hc : HotC X) {x : Str} {px p1 p2 pc pos : Pos} {scope : Scope} {l : Expr} {tl : TE} (hl : PE X l tl) (S : IntsScope scope x) (hm : X.mg "int" = none) (hs : ∀ y, foldedSetIterable l X.env y = pure y := by intro _; rfl)
    (hd : (x == ("__debug__" : Str)) = false := by decide) : PE X (.ListComp (.Call (.Name "int" p1) [.Name x p2] [] pc) [⟨.Name x px, l, [], 0⟩] scope pos) (tInts X.K tl) := by
  refine ⟨fun pins s σ H Q I h => ?_⟩
  refine wpAny_ListComp_free (cl := cloFrom X.env.cells scope.names []) (fun _ => true) (fun v y => ∃ b t, v = .bool b ∧ y = .int (if b then 1 else 0) t) (closure_ok fun y hy e => absurd e (S.cell y hy).2) (fun y hy => (S.cell y hy).1) S.kind S.names S.hx
    (thn (hl.run pins s σ H _ I h) fun v s1 ⟨vv, H1, I1, r1, a, bs, e, hS, q⟩ => ?_) hs
  subst e
  cases r1
  obtain ⟨its, rv, hl1, hz⟩ := I1.list hS
  obtain ⟨x1, hot⟩ := hc.at I1
  obtain ⟨hh, o1, vs1, e1, e2, e3⟩ := id hot
  have hl' := hl1.isList
  have la : a < s1.heap.objs.size := by
    obtain ⟨o, ho, _⟩ := hl'
    exact Heap.lt_size ho
  have lx := hotNe hot
  have len : bs.length = its.length := by have := rv.length; rwa [List.length_map] at this
  rw [List.length_map] at hz
  have boolAt : ∀ (i : Nat) (v : Value), its[i]? = some v → ∃ b, bs[i]? = some b ∧ v = .bool b := fun i v hv => by
    have hi : i < bs.length := by
      have := (List.getElem?_eq_some_iff.mp hv).1
      omega
    obtain ⟨u, hu, ru⟩ := rv.get (i := i) (x := .bl bs[i]) (by rw [List.getElem?_map, List.getElem?_eq_getElem hi]; rfl)
    rw [hv] at hu
    cases hu
    exact ⟨bs[i], List.getElem?_eq_getElem hi, ru⟩
  refine wpAny_pyIter_list hl' ?_
  refine ⟨s1.heap.objs.size, _, _, its.toArray.size, _, _, rfl, walksHot (A := X.A) s1.heap.objs.size a x1 (Nat.ne_of_lt la) (Nat.ne_of_lt lx) its.toArray hh, by rw [List.size_toArray]; omega,
    ⟨⟨_, Heap.get?_push_size _ rfl, rfl, rfl⟩, hl'.at fun o e => Heap.get?_push_of_some _ e, hh, o1, vs1, Heap.get?_push_of_some _ e1, e2, e3⟩, fun b hb => ?_, ⟨?_, ?_⟩, ?_⟩
  · have hb' : b = s1.heap.objs.size ∨ b = a ∨ b = x1 := by simpa using hb
    show b < (s1.heap.push _).objs.size
    rw [Heap.size_push]
    rcases hb' with z | z | z <;> rw [z] <;> first | exact Nat.lt_succ_self _ | exact Nat.lt_succ_of_lt la | exact Nat.lt_succ_of_lt lx
  · intro C i v s₃ m₃ E' _ _ _ _ _ _
    exact wpAny_tests_nil ⟨rfl, s₃.heap, s₃.toks, rfl, fun _ _ e => e⟩
  · intro C i v s₃ m₃ E' hC hP _ hns hmx hk _
    obtain ⟨b, _, rfl⟩ := boolAt i v (by simpa using hP)
    obtain ⟨mb, n1, n2⟩ := I1.mod.blt
    have kp : ∀ c o, X.base.get? c = some o → s₃.heap.get? c = some o := fun c o e => by
      have e' := I1.bk c o e
      refine hk c o (fun z => ?_) (Heap.get?_push_of_some _ e')
      have z' : c = s1.heap.objs.size := by simpa using z
      exact Nat.lt_irrefl _ (z' ▸ Heap.lt_size e')
    have kd : (compEnvC scope (cloFrom X.env.cells scope.names []) C X.env).kindOf "int" = some .globalImplicit := lookup_relS_keep (sc := X.env.scope) (by decide) S.hi
    have kx : (compEnvC scope (cloFrom X.env.cells scope.names []) C X.env).kindOf x = some .local := lookup_relS_keep (sc := X.env.scope) (by decide) S.hx
    refine Call_ (Calls.Name_function_global S.kind kd (Calls.loadGlobal_builtin (mg := X.mg) (mb := mb) (v := .type "int") ?_ hm ?_ ((n2 "int" (by decide)).trans (by decide +kernel)) ?_))
    · show s₃.heap.Ns X.env.globals X.mg
      rw [I1.ok.glob]
      exact I1.mod.glob.keeps kp
    · show s₃.heap.Ns X.env.builtins mb
      rw [I1.ok.blt]
      exact n1.keeps kp
    · refine PyProof.Rows.callWith_type1 (Calls.spliced_cons (wpAny_Name (wpAny_loadName_local S.kind kx hns hmx (Calls.spliced_nil ?_)) hd)) rfl rfl
      exact call_int_bool ⟨⟨b, _, rfl, rfl⟩, _, _, rfl, fun _ _ e => e⟩
  · intro D h' tk ys vs hD hl2 hpl hlen hP hF hk
    have kp : ∀ b o, s1.heap.get? b = some o → h'.get? b = some o := fun b o e => by
      refine hk b o (fun z => ?_) (Heap.get?_push_of_some _ e)
      have z' : b = s1.heap.objs.size := by simpa using z
      exact Nat.lt_irrefl _ (z' ▸ Heap.lt_size e)
    have hDn : s1.heap.get? D = none := by
      cases q2 : s1.heap.get? D with
      | none => rfl
      | some o =>
        have z : (s1.heap.push { cls := .type "list_iterator", data := .fields #[.ref a, .int 0 0] }).get? D = none := hD
        rw [Heap.get?_push_of_some _ q2] at z
        cases z
    obtain ⟨n, hDo⟩ := hpl
    have I2 := laidAt (h' := h') (o := .lst (bs.map fun b => V.int (if b then 1 else 0))) (t' := tk) I1 kp hDn
    refine ⟨.ref D, _, I2 ⟨by rw [List.length_map]; exact hz, ys.toList, n, ?_, by rw [hDo]⟩, rfl, q D (I1.hok.gone hDn)⟩
    have flt : vs.filter (fun _ => true) = vs := List.filter_eq_self.mpr fun _ _ => rfl
    rw [flt] at hF
    have sizes : vs.length = bs.length := by rw [hlen, List.size_toArray, len]
    clear hs q kp
    have go : ∀ (vs : List Value) (zs : List Value) (bs : List Bool), Paired (fun v y => ∃ b t, v = Value.bool b ∧ y = Value.int (if b then 1 else 0) t) vs zs → vs.length = bs.length → (∀ (j : Nat) (v : Value), vs[j]? = some v → ∃ b, bs[j]? = some b ∧ v = .bool b) → Vals (bs.map fun b => V.int (if b then 1 else 0)) zs := by
      intro vs zs bs hF
      induction hF generalizing bs with
      | nil =>
        intro hl _
        cases bs with
        | nil => exact .nil
        | cons _ _ => cases hl
      | cons r _ ih =>
        intro hl hp
        cases bs with
        | nil => cases hl
        | cons b bs =>
          obtain ⟨b1, t, e1, e2⟩ := r
          obtain ⟨b2, e3, e4⟩ := hp 0 _ rfl
          cases e3
          rw [e1] at e4
          cases e4
          exact .cons ⟨t, e2⟩ (ih bs (by simpa using hl) fun j v hv => hp (j + 1) v (by simpa using hv))
    refine go vs ys.toList bs hF sizes fun j v hv => boolAt j v ?_
    have := hP j v hv
    simpa using this
end
end TrH
end
section
/-! A lambda handed to a def that calls it in a try and answers an own error by another def. -/
namespace TrL
open PySem PySem.Spec PyProof.Rows L2 LamX HotX L2H
/-! ### the lambda's body, exceptions by L2N -/
def lamC (X : Cx) (A : Around) (outer : List Env) (s : Shared) (H : Hp) (E : XK) (scope : Scope) (f c' : Addr) : Cx :=
  { lamCx X A outer s H E scope f c' with
    xe := fun e t => wpAny (model X.prog X.w) (A.deeper (lamEnv X scope s.heap.objs.size f c')) (leaving (lamEnv X scope s.heap.objs.size f c') e)
      (fun _ t' => L2N.CX X.prog X.w outer H s E e t') (fun e' t' => L2N.CX X.prog X.w outer H s E e' t') t }
section
variable {X : Cx} {pins : List (Addr × Obj)} {σ : L2.St} {H HZ : Hp} {s s1 : Shared}
/-- what leaves the lambda's body is what its caller wishes -/
theorem lamC_takes {A : Around} {outer : List Env} {E : XK} {scope : Scope} {f c' : Addr} : L2N.Takes (lamC X A outer s H E scope f c') (fun cls d _ H => E cls d H) := L2N.takes_of rfl rfl rfl rfl
theorem lamC_pass {A : Around} {outer : List Env} {E : XK} {scope : Scope} {f c' : Addr} : Passes (L2N.CX (lamC X A outer s H E scope f c').prog (lamC X A outer s H E scope f c').w) (lamC X A outer s H E scope f c') E := L2N.passes_call lamC_takes fun _ _ _ _ h => h
theorem actN {CXg : CXT} {Eg : XK} {Ng : List Str} {qg : Str} {sg : Scope} {g f c' : Addr} {cdg pm ctv : Value} {params : Arguments} {body : Expr} {scope : Scope} {k i : Nat} {a : Str} {pn : List (Addr × Obj)} {xe : Value → Shared → Prop} {W : WX} {E : XK} {tb : TE} {p1 p2 : Pos}
    (I : Inv X pins σ H s) (L : LamS X.env.scope scope) (hf : s.heap.get? f = some (PySem.W.kla_obj "<lambda>" (X.env.qual ++ "<lambda>") params body scope (cloFrom X.env.cells scope.names []) pm c' ctv)) (hfn : H f = none) (hfr : f ∉ frs X.stack)
    (hbind : bindArgs (PySem.W.kla_fn "<lambda>" (X.env.qual ++ "<lambda>") params body scope (cloFrom X.env.cells scope.names []) pm (.ref c') ctv) ⟨[], []⟩ = pure [])
    (tk : L2N.Takes ((cxOf CXg X.prog X.w X.K X.mg X.base Ng qg sg g cdg X.A X.stack s H Eg).tr pn xe) W) (hW : ∀ cls d σ' H', E cls d H' → W cls d σ' H')
    (hr : Room (k + 1) (X.A.deeper (envOfC qg sg s.heap.objs.size g cdg)))
    (hbody : ∀ (A : Around) (outer : List Env) (s : Shared) (H : Hp), Room k (A.deeper (lamEnv X scope s.heap.objs.size f c')) → PE (lamC X A outer s H E scope f c') body tb)
    (hN : Ng[i]? = some a) (hv : Vis sg a) (hd : (a == ("__debug__" : Str)) = false := by decide) (hcd : (a == ("__classdict__" : Str)) = false := by decide) :
    PE ((cxOf CXg X.prog X.w X.K X.mg X.base Ng qg sg g cdg X.A X.stack s H Eg).tr pn xe) (.Call (.Name a p1) [] [] p2)
      (fun σZ HZ Q => σZ[i]? = some (some (.ref f)) ∧ HZ c' = some (CodeO c' (X.env.qual ++ "<lambda>")) ∧ tb σ HZ Q) := by
  refine ⟨fun pZ sZ σZ HZ Q IZ ⟨hs, hc, ht⟩ => ?_⟩
  refine wpAny_Call_Name_kw (thn ((pe_var (pos := p1) (i := i) hN hv hd hcd).run pZ sZ σZ HZ (fun v H1 => v = .ref f ∧ H1 = HZ) IZ ⟨.ref f, hs, rfl, rfl⟩) fun u s1 ⟨v, H1, I1, r1, ev, eH⟩ => ?_)
  subst ev eH
  obtain rfl : u = Value.ref f := r1
  have of1 := I1.base.keep f _ hf hfn hfr (fun z => nomatch (show f ∈ ([] : List Addr) from z))
  refine PySem.W.callWith_F0 ⟨_, _, _, _, of1⟩ ?_
  have un : Un (frs X.stack) [] H H1 s.heap s1.heap := I1.base
  obtain ⟨⟨oc, vs, t, hoc, hdc, hvc⟩, _, _⟩ := I1.hok c' _ hc
  have rc : codeAny (model X.prog X.w) (X.A.deeper (envOfC qg sg s.heap.objs.size g cdg)) (.call (.ref f) ⟨[], []⟩) (CR (L2N.CX X.prog X.w) (envOfC qg sg s.heap.objs.size g cdg :: X.stack) X.prog X.w H1 s1 Q E) s1 := by
    refine PySem.W.kla_callFunE hr.depth of1 rfl L.co L.gen rfl ⟨c', oc, vs, t, rfl, hoc, hdc, hvc⟩ ?_
    rw [hbind]
    refine wpAny_pure (wpAny_newFunctionEnv (fun y hy => (L.own y hy).2) (fun y hy => absurd hy (by simp)) (fun h₁ hns hsb => ⟨I1.nolimit.fresh _ hsb, ?_⟩) L.kind)
    show codeAny _ _ (.expr body (lamEnv X scope s1.heap.objs.size f c')) _ _
    have kp : ∀ b o, s1.heap.get? b = some o → h₁.get? b = some o := fun b o e => hsb.extBut b o (Nat.ne_of_lt (Heap.lt_size e)) (Heap.get?_push_of_some _ e)
    have J0 := lam_start2 (E := E) (f := f) (c' := c') (tk := s1.toks + ([] : List (Str × Value)).length) I L I1.env0 hr.hd un hns kp
    have J : Inv (lamC X (X.A.deeper (envOfC qg sg s.heap.objs.size g cdg)) (envOfC qg sg s.heap.objs.size g cdg :: X.stack) s1 H1 E scope f c') [] σ H1 { s1 with heap := h₁, toks := s1.toks + ([] : List (Str × Value)).length } := J0.toTry _
    refine PySem.W.kla_codeExpr (wpAny_mono ((hbody _ _ s1 H1 (hr.deeper _)).run [] _ _ H1 Q J ht) (fun v t' hq => ?_) fun e t' hq => hq)
    obtain ⟨w', H', J', rv, q⟩ := hq
    exact ⟨w', H', J'.os, J'.bare, J'.base, J'.hok, rv, q⟩
  refine wpAny_call (codeAny_mono rc fun r t' hq => ?_)
  cases r with
  | error e => exact L2N.passes_call tk hW pZ σZ H1 s1 e t' I1 hq
  | ok fl =>
    cases fl with
    | ret u => exact I1.after hq
    | next => exact False.elim hq
    | brk => exact False.elim hq
    | cont => exact False.elim hq
end
/-- what the def that gets the lambda makes of its reading -/
def Gives (X : Cx) (Ng : List Str) (x : Str) (sg : Scope) (g : Addr) (cdg : Value) (bg : List Stmt) (a q : Str) (k : Nat) (TT : (XK → Hp → VK → Prop) → Hp → VK → Prop) : Prop :=
  ∀ (f c' : Addr) (s : Shared) (H : Hp) (Q : VK) (tl : XK → Hp → VK → Prop), Room (k + 1) (X.A.deeper (envOfC x sg s.heap.objs.size g cdg)) →
    (∀ (W : WX) (pn : List (Addr × Obj)) (xe : Value → Shared → Prop) (E : XK) (p1 p2 : Pos), L2N.Takes ((cxOf C8.CX0 X.prog X.w X.K X.mg X.base Ng x sg g cdg X.A X.stack s H C8.E0).tr pn xe) W → (∀ cls d σ' H', E cls d H' → W cls d σ' H') →
      PE ((cxOf C8.CX0 X.prog X.w X.K X.mg X.base Ng x sg g cdg X.A X.stack s H C8.E0).tr pn xe) (.Call (.Name a p1) [] [] p2) (fun σZ HZ Q => σZ[0]? = some (some (.ref f)) ∧ HZ c' = some (CodeO c' q) ∧ tl E HZ Q)) →
    H c' = some (CodeO c' q) → TT tl H Q →
    ∃ t, PSs (cxOf C8.CX0 X.prog X.w X.K X.mg X.base Ng x sg g cdg X.A X.stack s H C8.E0).nox bg t ∧ t { nx := fun _ H' => Q .non H', rt := Q } (L2.start Ng [.ref f]) H
section
variable {X : Cx}
/-- x(lambda: body) -/
theorem lamcallN {T : List (Addr × Str)} {TT : (XK → Hp → VK → Prop) → Hp → VK → Prop} {x a : Str} {g c P : Addr} {k : Nat} {pg : Arguments} {bg : List Stmt} {sg : Scope} {dV kV doc pm cdv ct oc : Value} {an od : Option Addr} {osl : Array (Option Value)} {Ng : List Str}
    {params : Arguments} {body : Expr} {scope : Scope} {t : XK → TE} {p lpos pos : Pos} (hg : Gl X x) (hm : X.mg x = some (.ref g)) (hk : PySem.W.keepIn X.K (.ref g) = true)
    (lk : X.K.lookup g = some ⟨oc, od, .func (PySem.W.fnOf x x pg bg sg dV kV doc pm an cdv ct), osl⟩) (hcg : PySem.W.codeIn X.K cdv x = true) (hb : L2.Binds X.K (PySem.W.fnOf x x pg bg sg dV kV doc pm an cdv ct) [a] [])
    (Sg : FnScope Ng [a] sg) (hNg : Ng[0]? = some a) (hva : Vis sg a) (hG : Gives X Ng x sg g cdv bg a (X.env.qual ++ "<lambda>") k TT)
    (TB : TabB X.base X.mg c P) (hcode : X.env.code = .ref c) (hmT : (P, X.env.qual ++ "<lambda>") ∈ T) (hu : ∀ p ∈ T, p.1 = P → p.2 = X.env.qual ++ "<lambda>") (hr : Room (k + 2) X.A) (L : LamS X.env.scope scope) (hdef : defaultsOf params X.env = ([], []))
    (hbind : ∀ (q : Str) (cl : List (Str × Addr)) (pm cv ctv : Value), bindArgs (PySem.W.kla_fn "<lambda>" q params body scope cl pm cv ctv) ⟨[], []⟩ = pure [])
    (hbody : ∀ (A : Around) (outer : List Env) (s : Shared) (H : Hp) (E : XK) (f c' : Addr), Room k (A.deeper (lamEnv X scope s.heap.objs.size f c')) → PE (lamC X A outer s H E scope f c') body (t E))
    (hdb : (x == ("__debug__" : Str)) = false := by decide) (hd : (a == ("__debug__" : Str)) = false := by decide) (hcd : (a == ("__classdict__" : Str)) = false := by decide) :
    PE X (.Call (.Name x p) [.Lambda params body scope lpos] [] pos) (tLam T TT t) := by
  refine ⟨fun pins s σ H Q I ⟨hT, h⟩ => ?_⟩
  refine wpAny_Call_Name_kw (ld_glob I hg hm ?_ hdb)
  refine PySem.W.callWith_K (h₀ := X.base) I.ok.mod.kin hk ?_ (by rfl) (by rfl)
  show wpAny _ _ (spliced ((false, eval (.Lambda params body scope lpos) X.env) :: backTo pos (starEach [] X.env))) _ _ s
  refine Calls.spliced_cons (lam_make2 I TB hcode hmT hu hT hdef (L.has I.ok) fun f c' pm' ctv H1 t1 I1 eN T1 hf hfn hfr hco => ?_)
  refine Calls.spliced_nil ⟨I1.kIn, ?_⟩
  have rc : codeAny (model X.prog X.w) X.A (.call (.ref g) ⟨[.ref f], []⟩) (CR C8.CX0 X.stack X.prog X.w H1 t1 Q C8.E0) t1 := by
    refine run_ofS (N := Ng) (ps := [a]) (us := [.ref f]) (vs := [.ref f]) lk hcg Sg hr I1.env0 (hb t1 [.ref f] I1.kIn rfl) (.cons rfl .nil) rfl fun hr' => ?_
    obtain ⟨t', ht', hq'⟩ := hG f c' t1 H1 Q (fun E H' Q' => t E σ H' Q') hr' (fun W pn xe E p1 p2 tk hW => actN (i := 0) I1 L hf hfn hfr (hbind _ _ _ _ _) tk hW hr' (fun A outer s H hr2 => hbody A outer s H E f c' hr2) hNg hva hd hcd) hco (h H1 eN T1)
    exact ⟨t', ht'.nox, hq'⟩
  refine wpAny_call (codeAny_mono rc fun r t2 hq => ?_)
  cases r with
  | error e => exact (show False from hq).elim
  | ok fl =>
    cases fl with
    | ret u => exact I1.after hq
    | next => exact False.elim hq
    | brk => exact False.elim hq
    | cont => exact False.elim hq
end
/-! ### isinstance of a pinned exception -/
theorem callIsP {X : Cx} {a D : Addr} {oe : Obj} (hp : (a, oe) ∈ X.pn) (C : ExcC X.K D) (hz : Zc (.ref D) none oe) (hf : ∃ vs, oe.data = .fields vs) : CallR X (.builtin "isinstance") (rIsE X.K D a) := by
  rintro pins s σ H xs us Q I r ⟨c, cv, b, rfl, hcv, e, q⟩
  cases r with
  | cons rx rr =>
    cases rr with
    | cons rt rr =>
      cases rr
      cases rx
      obtain rfl := hcv _ rt
      obtain ⟨hget, _⟩ := I.pin (a, oe) (List.mem_append_left _ hp)
      obtain ⟨vs, hv⟩ := hf
      have J : PySem.W.InstAt s.heap a oe D none := by
        obtain ⟨oc, od, oda, osl⟩ := oe
        obtain ⟨h1, h2⟩ := hz
        dsimp only at h1 h2 hv
        subst h1 h2 hv
        exact ⟨hget, rfl, rfl, trivial⟩
      exact PySem.W.kia_one (PySem.W.handS_kitx_exc C.hg C.hk C.hs C.hd C.ha C.hn C.ht C.hm) I.kIn J e (fun z => nomatch z) fun tk => ⟨.bl b, H, I.kept (t' := tk) fun _ _ z => z, rfl, q⟩
/-! ### a def called with the exception that is handled -/
structure WordOk (P : Program) (w : World) (K : PySem.W.Frag) (mg : Str → Option Value) (base : Heap) (k : Nat) (f : Addr) (fd : FuncData) (ps : List Str) (sp : Addr × Obj → Hp → VK → Prop) : Prop where
  one : ps.length = 1
  run : ∀ (A : Around) (outer : List Env) (s : Shared) (H : Hp) (args : Args) (p : Addr × Obj) (Q : VK), RoomH k A → Hot1 A p → PinOk outer H s p → Env0 P w K mg base A outer s H → BindsTo s fd args (ps.zip [.ref p.1]) → sp p H Q →
    codeAny (model P w) A (.call (.ref f) args) (CR C8.CX0 outer P w H s Q C8.E0) s
theorem wordOk {P : Program} {w : World} {K : PySem.W.Frag} {mg : Str → Option Value} {base : Heap} {k : Nat} {f : Addr} {name qual : Str} {params : Arguments} {body : List Stmt} {scope : Scope} {dV kV doc pm cdv ct oc : Value} {an od : Option Addr} {osl : Array (Option Value)} {N : List Str} {x : Str}
    {sp : Addr × Obj → Hp → VK → Prop} (lk : K.lookup f = some ⟨oc, od, .func (PySem.W.fnOf name qual params body scope dV kV doc pm an cdv ct), osl⟩) (hcd : PySem.W.codeIn K cdv qual = true) (S : FnScope N [x] scope)
    (hbody : ∀ (A : Around) (outer : List Env) (s : Shared) (H : Hp) (Q : VK) (p : Addr × Obj), Hot1 A p → RoomH k (A.deeper (envOfC qual scope s.heap.objs.size f cdv)) → sp p H Q →
      ∃ t, PSs (cxH C8.CX0 P w K mg base N qual scope f cdv A outer s H C8.E0 p) body t ∧ t { nx := fun _ H' => Q .non H', rt := Q } (L2.start N [.ref p.1]) H) :
    WordOk P w K mg base (k + 1) f (PySem.W.fnOf name qual params body scope dV kV doc pm an cdv ct) [x] sp := by
  refine ⟨rfl, fun A outer s H args p Q hr hot hpin e0 hb hsp => ?_⟩
  have KX : K.In s.heap := e0.mod.kin.keeps fun b o e => (e0.bs b o e).1
  have lim : s.heap.NoLimit := e0.mod.nolimit.keeps fun b o e => (e0.bs b o e).1
  have hkind : ∀ y ∈ ([x] : List Str).zip [Value.ref p.1], scope.names.lookup y.1 = some .local ∨ (scope.names.lookup y.1 = some .cell ∧ ((cellsFrom (s.heap.objs.size + 1) scope.names []).lookup y.1).isSome = true) := fun ⟨n, v⟩ hy =>
    (S.par n (List.of_mem_zip hy).1).imp id fun q => ⟨q, PySem.W.cellsFrom_some _ _ _ (.inl q)⟩
  refine codeAny_call_function hr.depth (KX _ _ lk) rfl S.co S.gen rfl (PySem.W.codeRec_of KX hcd) (hb _ _ _ _ ?_)
  refine wpAny_newFunctionEnv_cells S.kind hkind fun env he s1 xx => ?_
  subst he
  refine ⟨lim.keeps xx.toInCall.keep, codeAny_func ?_⟩
  obtain ⟨t, ht, hq⟩ := hbody A outer s H Q p hot (hr.deeper _) hsp
  have I := inv_startH (CX := C8.CX0) (E := C8.E0) (vs := [.ref p.1]) S hpin e0 rfl (.cons rfl .nil) xx
  refine wpAny_mono (ht.run [] s1 _ H _ I hq) (fun fl t' hs => ?_) fun e t' hs => hs
  cases fl with
  | ret u =>
    obtain ⟨v, σ', H', J, rv, q⟩ := hs
    exact ⟨v, H', J.os, J.bare, J.base, J.hok, rv, q⟩
  | next =>
    obtain ⟨σ', H', J, q⟩ := hs
    exact ⟨.non, H', J.os, J.bare, J.base, J.hok, rfl, q⟩
  | brk =>
    obtain ⟨_, _, _, q⟩ := hs
    exact q.elim
  | cont =>
    obtain ⟨_, _, _, q⟩ := hs
    exact q.elim
section
variable {X : Cx}
/-- f(e), e a name that holds the exception of the suite -/
theorem peWord {k i : Nat} {f : Addr} {fd : FuncData} {ps : List Str} {sp : Addr × Obj → Hp → VK → Prop} {x n : Str} {p0 : Addr × Obj} {q1 q2 pos : Pos} (F : WordOk X.prog X.w X.K X.mg X.base k f fd ps sp) (hr : RoomH k X.A) (hot : Hot1 X.A p0) (hp : p0 ∈ X.pn) (hg : Gl X x) (hm : X.mg x = some (.ref f))
    (hk : PySem.W.keepIn X.K (.ref f) = true) (hb : L2.Binds X.K fd ps []) (hn : PE X (.Name n q2) (tVar i)) (hdb : (x == ("__debug__" : Str)) = false := by decide) :
    PE X (.Call (.Name x q1) [.Name n q2] [] pos) (fun σ H Q => σ[i]? = some (some (.ref p0.1)) ∧ sp p0 H Q) := by
  refine ⟨fun pins s σ H Q I ⟨h1, h2⟩ => ?_⟩
  refine wpAny_Call_Name_kw (ld_glob I hg hm ?_ hdb)
  have ha : PA X [.Name n q2] (tCons (tVar i) tNil) := pa_cons hn pa_nil
  refine PySem.W.callWith_K (h₀ := X.base) I.ok.mod.kin hk (thn (ha.run pos pins s σ H (fun vs H1 => vs = [V.ref p0.1] ∧ H = H1) I ⟨.ref p0.1, h1, rfl, rfl⟩) fun us s1 ⟨vs, H1, I1, r, ev, eH⟩ => ?_)
  subst ev eH
  refine ⟨I1.kIn, ?_⟩
  obtain rfl := Vals.ref1 r
  have b := hb s1 [.ref p0.1] I1.kIn (by rw [F.one]; rfl)
  rw [List.append_nil] at b
  have P1 := I1.pin p0 (List.mem_append_left _ hp)
  have hpin : PinOk X.stack H s1 p0 := ⟨P1.1, P1.2.1, fun hm => (List.mem_cons.mp (I1.stkSub p0.1 hm)).elim P1.2.2.1 P1.2.2.2.1, P1.2.2.2.2⟩
  refine wpAny_call (codeAny_mono (F.run X.A X.stack s1 H ⟨[.ref p0.1], []⟩ p0 Q hr hot hpin I1.env0 b h2) fun r t' hq => ?_)
  cases r with
  | error e => exact (show False from hq).elim
  | ok fl =>
    cases fl with
    | ret u => exact I1.after hq
    | next => exact False.elim hq
    | brk => exact False.elim hq
    | cont => exact False.elim hq
end
end TrL
end
section
/-! What every law of tryroad uses: defs by name, comprehensions that only add, things handed in. -/
namespace Tr
open PySem PySem.Spec PyProof.Rows L2
abbrev NX (P : Program) (w : World) : CXT := L2N.CX P w
/-! ### a def by its name -/
structure Kal (P : Program) (w : World) (K : PySem.W.Frag) (mg : Str → Option Value) (base : Heap) (CX : CXT) (k : Nat) (x : Str) (sp : Sp) : Prop where
  ex : ∃ (f : Addr) (fd : FuncData) (ps : List Str), FnOk P w K mg base CX k f fd ps sp ∧ mg x = some (.ref f) ∧ PySem.W.keepIn K (.ref f) = true ∧ Binds K fd ps []
structure Mal (P : Program) (w : World) (K : PySem.W.Frag) (mg : Str → Option Value) (base : Heap) (CX : CXT) (k : Nat) (C : Addr) (m : Str) (sp : Sp) : Prop where
  ex : ∃ (f : Addr) (fd : FuncData) (ps : List Str), FnOk P w K mg base CX k f fd ps sp ∧ Cls K C ∧ Meth K C m f ∧ Binds K fd ps []
structure Nal (P : Program) (w : World) (K : PySem.W.Frag) (mg : Str → Option Value) (base : Heap) (CX : CXT) (k : Nat) (x : Str) (C : Addr) (sp : Sp) : Prop where
  ex : ∃ (f : Addr) (fd : FuncData) (ps : List Str), FnOk P w K mg base CX k f fd ps sp ∧ Mk K C f ∧ mg x = some (.ref C) ∧ Binds K fd ps []
def tK (sp : Sp) (E : XK) (t : TA) : TE := fun σ H Q => t σ H fun vs H1 => sp vs H1 Q E
def tM (C : Addr) (m : Str) (sp : Sp) (E : XK) (ta : TE) (t : TA) : TE := fun σ H Q => ta σ H fun x H1 => ∃ a dx fs, x = .ref a ∧ H1 a = some (.ins C dx fs) ∧ fs.lookup m = none ∧ t σ H1 fun vs H2 => sp (x :: vs) H2 Q E
def tN (C : Addr) (sp : Sp) (E : XK) (t : TA) : TE := fun σ H Q => t σ H fun vs H1 => ∀ x dx, H1 x = none → H1 dx = none → dx ≠ x →
  sp (.ref x :: vs) (upd (upd H1 dx (.own x)) x (.ins C dx [])) (fun v H2 => v = .non ∧ Q (.ref x) H2) E
section
variable {X : Cx} {CX : CXT} {k j : Nat} {x m : Str} {C : Addr} {sp : Sp} {E : XK} {t : TA} {ta : TE} {e o : Expr} {es : List Expr} {p pos apos : Pos}
theorem pe_imp {t u : TE} (h : PE X e t) (i : ∀ σ H Q, u σ H Q → t σ H Q) : PE X e u := ⟨fun pins s σ H Q I q => h.run pins s σ H Q I (i σ H Q q)⟩
theorem pa_imp {t u : TA} (h : PA X es t) (i : ∀ σ H Q, u σ H Q → t σ H Q) : PA X es u := ⟨fun pos pins s σ H Q I q => h.run pos pins s σ H Q I (i σ H Q q)⟩
theorem pe_k (c : Kal X.prog X.w X.K X.mg X.base CX k x sp) (hr : Room j X.A) (hk : k ≤ j) (hx : Passes CX X E) (ha : PA X (e :: es) t) (hg : Gl X x := by rfl) (hdb : (x == ("__debug__" : Str)) = false := by decide)
    (he : starEach (e :: es) X.env = (false, eval e X.env) :: starEach es X.env := by rfl) (hpl : (backTo pos (starEach es X.env)).any (·.1) = false := by rfl) :
    PE X (.Call (.Name x p) (e :: es) [] pos) (tK sp E t) := by
  obtain ⟨f, fd, ps, F, hm, hkp, hb⟩ := c.ex
  refine pe_imp (pe_call F (hr.mono hk) hg hm hkp hb .nil hx ha hdb he hpl) fun σ H Q q => ?_
  show t σ H fun vs H1 => sp (vs ++ []) H1 Q E
  simp only [List.append_nil]
  exact q
theorem pe_k0 (c : Kal X.prog X.w X.K X.mg X.base CX k x sp) (hr : Room j X.A) (hk : k ≤ j) (hx : Passes CX X E) (hg : Gl X x := by rfl) (hdb : (x == ("__debug__" : Str)) = false := by decide) :
    PE X (.Call (.Name x p) [] [] pos) (tK sp E tNil) := by
  obtain ⟨f, fd, ps, F, hm, hkp, hb⟩ := c.ex
  exact pe_imp (pe_call0 F (hr.mono hk) hg hm hkp hb .nil hx hdb) fun σ H Q q => q
theorem pe_m (c : Mal X.prog X.w X.K X.mg X.base CX k C m sp) (hr : Room j X.A) (hk : k ≤ j) (hx : Passes CX X E) (ho : PE X o ta) (ha : PA X (e :: es) t) {pl : Sem Bool}
    (hst : starEach (e :: es) X.env = (false, eval e X.env) :: starEach es X.env := by rfl) (hpl : (backTo pos (starEach es X.env)).any (·.1) = false := by rfl)
    (ht : eval (.Call (.Attribute o m apos) (e :: es) [] pos) X.env = (do
      let ov ← eval o X.env
      standAt apos.atName
      let (f, first) ← holding [ov] (getMethod ov m pl)
      callWith pos f first (backTo pos (starEach (e :: es) X.env)) (backToKw pos (keywordEach [] X.env))) := by rfl) :
    PE X (.Call (.Attribute o m apos) (e :: es) [] pos) (tM C m sp E ta t) := by
  obtain ⟨f, fd, ps, F, cl, hm, hb⟩ := c.ex
  refine pe_imp (pe_meth (pl := pl) ho cl hm F (hr.mono hk) hb .nil hx ha hst hpl ht) fun σ H Q q => ?_
  show ta σ H fun x H1 => ∃ a dx fs, x = .ref a ∧ H1 a = some (.ins C dx fs) ∧ fs.lookup m = none ∧ t σ H1 fun vs H2 => sp (x :: (vs ++ [])) H2 Q E
  simp only [List.append_nil]
  exact q
theorem pe_m0 (c : Mal X.prog X.w X.K X.mg X.base CX k C m sp) (hr : Room j X.A) (hk : k ≤ j) (hx : Passes CX X E) (ho : PE X o ta) {pl : Sem Bool}
    (ht : eval (.Call (.Attribute o m apos) [] [] pos) X.env = (do
      let ov ← eval o X.env
      standAt apos.atName
      let (f, first) ← holding [ov] (getMethod ov m pl)
      callWith pos f first (backTo pos (starEach [] X.env)) (backToKw pos (keywordEach [] X.env))) := by rfl) :
    PE X (.Call (.Attribute o m apos) [] [] pos) (tM C m sp E ta tNil) := by
  obtain ⟨f, fd, ps, F, cl, hm, hb⟩ := c.ex
  exact pe_imp (pe_meth0 (pl := pl) ho cl hm F (hr.mono hk) hb .nil hx ht) fun σ H Q q => q
theorem pe_n (c : Nal X.prog X.w X.K X.mg X.base CX k x C sp) (hr : Room j X.A) (hk : k + 1 ≤ j) (hx : Passes CX X E) (ha : PA X (e :: es) t) (hg : Gl X x := by rfl) (hdb : (x == ("__debug__" : Str)) = false := by decide)
    (he : starEach (e :: es) X.env = (false, eval e X.env) :: starEach es X.env := by rfl) (hpl : (backTo pos (starEach es X.env)).any (·.1) = false := by rfl) :
    PE X (.Call (.Name x p) (e :: es) [] pos) (tN C sp E t) := by
  obtain ⟨f, fd, ps, F, M, hm, hb⟩ := c.ex
  refine pe_imp (pe_make M F (hr.mono hk) hg hm hb .nil hx ha hdb he hpl) fun σ H Q q => ?_
  show t σ H fun vs H1 => ∀ x dx, H1 x = none → H1 dx = none → dx ≠ x → sp (.ref x :: (vs ++ [])) (upd (upd H1 dx (.own x)) x (.ins C dx [])) (fun v H2 => v = .non ∧ Q (.ref x) H2) E
  simp only [List.append_nil]
  exact q
theorem pe_n0 (c : Nal X.prog X.w X.K X.mg X.base CX k x C sp) (hr : Room j X.A) (hk : k + 1 ≤ j) (hx : Passes CX X E) (hg : Gl X x := by rfl) (hdb : (x == ("__debug__" : Str)) = false := by decide) :
    PE X (.Call (.Name x p) [] [] pos) (tN C sp E tNil) := by
  obtain ⟨f, fd, ps, F, M, hm, hb⟩ := c.ex
  exact pe_imp (pe_make0 M F (hr.mono hk) hg hm hb .nil hx hdb) fun σ H Q q => q
end
theorem Kal.mono {P : Program} {w : World} {K : PySem.W.Frag} {mg : Str → Option Value} {base : Heap} {CX : CXT} {j k : Nat} {x : Str} {sp : Sp} (c : Kal P w K mg base CX j x sp) (h : j ≤ k) : Kal P w K mg base CX k x sp := by
  obtain ⟨f, fd, ps, F, r⟩ := c.ex
  exact ⟨f, fd, ps, F.mono h, r⟩
/-! ### heaps that only grow -/
theorem same_new {H : Hp} {p : Addr} {o : HO} (h : H p = none) : Same H (upd H p o) := fun a u e => by
  rw [upd_ne (ne_of_none e h)]
  exact e
theorem same_mut {H H' : Hp} {p : Addr} {o : HO} (e : Same H H') (h : H p = none) : Same H (upd H' p o) := fun a u ha => by
  rw [upd_ne (ne_of_none ha h)]
  exact e a u ha
theorem same_t {K : PySem.W.Frag} {H H' : Hp} {a : Addr} {xs : List V} (e : Same H H') (h : SqT K H a xs) : SqT K H' a xs := by
  rcases h with (h | ⟨o, h⟩) | h
  · exact .inl (.inl (e _ _ h))
  · exact .inl (.inr ⟨o, e _ _ h⟩)
  · exact .inr h
theorem sqL {K : PySem.W.Frag} {H : Hp} {a : Addr} {xs : List V} (h : H a = some (.lst xs)) : SqL K H a xs := .inl (.inl h)
theorem sqT {K : PySem.W.Frag} {H : Hp} {a : Addr} {xs : List V} (h : H a = some (.tup xs)) : SqT K H a xs := .inl (.inl h)
theorem sz {n : Nat} (h : n ≤ 100000) : n ≤ sizeLine := Nat.le_trans h (by decide)
theorem sz1 {n : Nat} (h : n < 100000) : n < sizeLine := Nat.lt_of_lt_of_le h (by decide)
mutual
theorem same_dp {K : PySem.W.Frag} {H H' : Hp} (e : Same H H') : ∀ {v : V} {d : PyData}, Dp K H v d → Dp K H' v d
  | _, _, .non => .non
  | _, _, .bl b => .bl b
  | _, _, .int i => .int i
  | _, _, .str x => .str x
  | _, _, .lst h a => .lst (e.seq h) (same_dps e a)
  | _, _, .tup h a => .tup (same_t e h) (same_dps e a)
theorem same_dps {K : PySem.W.Frag} {H H' : Hp} (e : Same H H') : ∀ {vs : List V} {ds : List PyData}, DpAll K H vs ds → DpAll K H' vs ds
  | _, _, .nil => .nil
  | _, _, .cons h a => .cons (same_dp e h) (same_dps e a)
end
/-! ### a comprehension that only adds: acc by a word P of the turn and the items so far -/
theorem lc_adds {J : It} {n : Nat} {G : Hp → Prop} {Y : Nat → Hp → V → Hp → Prop} (w : Walk J n G Y) {g : TG} {tt : TT} {te : TE} {vs : List Nat} {σ : L2.St} {H1 : Hp} {D : Addr} {Qd : Hp → Prop} (P : Nat → List V → Prop)
    (hD : H1 D = none) (hn : n ≤ 90000) (h0 : P 0 []) (hl : ∀ i acc, P i acc → acc.length ≤ i) (hG : ∀ H, Same H1 H → G H)
    (hs : ∀ (T : VK) (N : Hp → Prop) i acc x H H', (∀ y H4, Same H H4 → P (i + 1) (acc ++ [y]) → T y H4) → (∀ H3, Same H H3 → P (i + 1) acc → N H3) → i < n → Same H1 H → P i acc → Y i H x H' →
      g x (wipe σ vs) H' fun σ2 H2 => wipe σ2 vs = wipe σ vs ∧ tt σ2 H2 fun b H3 => if b = true then te σ2 H3 T else N H3)
    (hd : ∀ acc H, Same H1 H → H D = some (.lst acc) → P n acc → Qd H) :
    ∃ W : Nat → Nat → Hp → Prop, (∃ m, W 0 m (upd H1 D (.lst []))) ∧ ∀ i m H, W i m H →
      (J.stop i H ∧ Qd H) ∨ (J.go i H ∧ ∃ Nx : Hp → Prop, (∀ H', Nx H' → ∃ m', m' < m ∧ W (i + 1) m' H') ∧ ∀ x H', J.yld i H x H' → g x (wipe σ vs) H' fun σ2 H2 => wipe σ2 vs = wipe σ vs ∧ tt σ2 H2 fun b H3 =>
        if b = true then te σ2 H3 fun y H4 => ∃ acc, H4 D = some (.lst acc) ∧ acc.length < sizeLine ∧ Nx (upd H4 D (.lst (acc ++ [y]))) else Nx H3) := by
  refine lc_it w (fun i H => ∃ acc, Same H1 H ∧ H D = some (.lst acc) ∧ P i acc) ⟨[], same_new hD, upd_same, h0⟩ (fun i H _ ⟨_, s, _⟩ => hG H s) ?_ fun H ⟨acc, s, h, p⟩ => hd acc H s h p
  rintro i x H H' hi ⟨acc, s, hDa, p⟩ y
  exact hs _ _ i acc x H H' (fun v H4 s4 p4 => ⟨acc, s4 _ _ hDa, sz1 (by have := hl i acc p; omega), acc ++ [v], same_mut (s.trans s4) hD, upd_same, p4⟩) (fun H3 s3 p3 => ⟨acc, s.trans s3, s3 _ _ hDa, p3⟩) hi s p y
/-! ### things that are handed in -/
/-- flat things, tuples, lists -/
inductive Thing (K : PySem.W.Frag) (H : Hp) : V → Prop
  | non : Thing K H .non
  | bl (b : Bool) : Thing K H (.bl b)
  | int (i : Int) : Thing K H (.int i)
  | str (x : Str) : Thing K H (.str x)
  | lst {a : Addr} {xs : List V} (e : H a = some (.lst xs)) : Thing K H (.ref a)
  | tup {a : Addr} {xs : List V} (e : H a = some (.tup xs)) : Thing K H (.ref a)
theorem Thing.same {K : PySem.W.Frag} {H H' : Hp} {v : V} (h : Thing K H v) (e : Same H H') : Thing K H' v := by
  cases h with
  | non => exact .non
  | bl b => exact .bl b
  | int i => exact .int i
  | str x => exact .str x
  | lst q => exact .lst (e _ _ q)
  | tup q => exact .tup (e _ _ q)
/-- isinstance of a thing, by the class's name -/
inductive IsOf (K : PySem.W.Frag) (H : Hp) (v : V) : String → Bool → Prop
  | mk {n c : String} {b : Bool} (t : TyX K H v (.type n)) (e : PySem.W.kitOne K (.type n) (.type c) = some b) : IsOf K H v c b
/-! ### the classes of refusals, as the top has written them -/
def excCB (K : PySem.W.Frag) (D : Addr) : Bool := He.eqO (PySem.W.findIn K (.ref D) "__getattribute__") (some (some (.builtin "BaseException.__getattribute__"))) && (He.eqO (PySem.W.findIn K (.ref D) "__getattr__") (some none) &&
  (decide (PySem.W.subIn K (.ref D) (.type "BaseException") = some true) && (PySem.W.hasDictIn K D && (He.eqO (PySem.W.findIn K (.ref D) "__class__") (some (some (.builtin "object.__class__"))) &&
  (He.eqO (PySem.W.specialIn K (.builtin "object.__class__") "__get__") (some (some (.builtin "getset_descriptor.__get__"))) && (decide (PySem.W.takesIn K (.builtin "object.__class__") = some true) && decide (PySem.W.mroIn K D (.type "object") = some true)))))))
theorem excC_of {K : PySem.W.Frag} {D : Addr} (h : excCB K D = true) : ExcC K D := by
  obtain ⟨h1, h⟩ := He.ba h
  obtain ⟨h2, h⟩ := He.ba h
  obtain ⟨h3, h⟩ := He.ba h
  obtain ⟨h4, h⟩ := He.ba h
  obtain ⟨h5, h⟩ := He.ba h
  obtain ⟨h6, h⟩ := He.ba h
  obtain ⟨h7, h8⟩ := He.ba h
  exact ⟨He.eqO_ok h1, He.eqO_ok h2, of_decide_eq_true h3, h4, He.eqO_ok h5, He.eqO_ok h6, of_decide_eq_true h7, of_decide_eq_true h8⟩
def wordB (K : PySem.W.Frag) (cs : List Str) : Bool := cs.all fun d => excCB K (He.ga K d) && (decide (PySem.W.exmOne K (.ref (He.ga K d)) (.ref (He.ga K "TryError")) = some true) && (decide (PySem.W.kitOne K (.ref (He.ga K d)) (.type "ValueError") = some true) &&
  cs.all fun c => decide (PySem.W.kitOne K (.ref (He.ga K d)) (.ref (He.ga K c)) = some (decide (d = c)))))
structure Word (K : PySem.W.Frag) (cs : List Str) (d : Str) : Prop where
  exc : ExcC K (He.ga K d)
  exm : PySem.W.exmOne K (.ref (He.ga K d)) (.ref (He.ga K "TryError")) = some true
  val : PySem.W.kitOne K (.ref (He.ga K d)) (.type "ValueError") = some true
  kit : ∀ c ∈ cs, PySem.W.kitOne K (.ref (He.ga K d)) (.ref (He.ga K c)) = some (decide (d = c))
theorem word_of {K : PySem.W.Frag} {cs : List Str} (h : wordB K cs = true) {d : Str} (hd : d ∈ cs) : Word K cs d := by
  obtain ⟨h1, h⟩ := He.ba (List.all_eq_true.mp h d hd)
  obtain ⟨h2, h⟩ := He.ba h
  obtain ⟨h3, h4⟩ := He.ba h
  exact ⟨excC_of h1, of_decide_eq_true h2, of_decide_eq_true h3, fun c hc => of_decide_eq_true (List.all_eq_true.mp h4 c hc)⟩
/-! ### tuples that the top has written -/
def itemA (K : PySem.W.Frag) (x : Str) (i : Nat) : Addr := match K.lookup (He.ga K x) with
  | some ⟨_, _, .seq its _, _⟩ => (match its.toList[i]? with
    | some (.ref a) => a
    | _ => 0)
  | _ => 0
def tupAt (K : PySem.W.Frag) (a : Addr) (vs : List V) : Bool := match K.lookup a with
  | some ⟨.type c, _, .seq its _, _⟩ => decide (c = "tuple") && (decide (its.size ≤ sizeLine) && He.relAll vs its.toList)
  | _ => false
theorem tupAt_ok {K : PySem.W.Frag} {a : Addr} {vs : List V} (h : tupAt K a vs = true) (H : Hp) : SqT K H a vs := by
  unfold tupAt at h
  cases q : K.lookup a with
  | none =>
    rw [q] at h
    cases h
  | some o =>
    obtain ⟨oc, od, dt, osl⟩ := o
    rw [q] at h
    cases oc with
    | type c =>
      cases dt with
      | seq its n =>
        obtain ⟨h1, h2⟩ := He.ba (show (decide (c = "tuple") && (decide (its.size ≤ sizeLine) && He.relAll vs its.toList)) = true from h)
        obtain ⟨h3, h4⟩ := He.ba h2
        exact .inr ⟨_, its, n, q, congrArg Value.type (of_decide_eq_true h1), rfl, of_decide_eq_true h3, He.relAll_ok h4⟩
      | _ => cases h
    | _ => cases dt <;> cases h
/-! ### a def as the head tells it -/
theorem kal_of {P : Program} {w : World} {K : PySem.W.Frag} {mg : Str → Option Value} {base : Heap} {CX : CXT} {N ps : List Str} {k : Nat} {x : Str} {st : Stmt} {f : Addr} {sp : Sp} (F : ∃ fd, FunD K x x (defArgs st) (defBody st) (defScope st) [] [] f fd) (hm : mg x = some (.ref f)) (S : FnScope N ps (defScope st))
    (hb : ∀ (kV doc pm : Value) (an : Option Addr) (cdv ct : Value) (us : List Value), us.length = ps.length → bindArgs (PySem.W.fnOf x x (defArgs st) (defBody st) (defScope st) .none kV doc pm an cdv ct) ⟨us, []⟩ = pure (ps.zip us))
    (len : ∀ vs H Q E, sp vs H Q E → vs.length = ps.length)
    (hbody : ∀ (cdv : Value) (A : Around) (outer : List Env) (s : Shared) (H : Hp) (vs : List V) (Q : VK) (E : XK), Room k (A.deeper (envOfC x (defScope st) s.heap.objs.size f cdv)) → sp vs H Q E →
      ∃ t, PSs (cxOf CX P w K mg base N x (defScope st) f cdv A outer s H E) (defBody st) t ∧ t { nx := fun _ H' => Q .non H', rt := Q } (L2.start N vs) H) : Kal P w K mg base CX (k + 1) x sp := by
  obtain ⟨fd, F⟩ := F
  exact ⟨f, fd, ps, F.ok S len hbody, hm, F.kp, F.bindsN hb⟩
theorem mal_of {P : Program} {w : World} {K : PySem.W.Frag} {mg : Str → Option Value} {base : Heap} {CX : CXT} {N ps : List Str} {k : Nat} {m q : Str} {st : Stmt} {C f : Addr} {sp : Sp} (F : ∃ fd, FunD K m q (defArgs st) (defBody st) (defScope st) [] [] f fd) (c : Cls K C) (hm : Meth K C m f) (S : FnScope N ps (defScope st))
    (hb : ∀ (kV doc pm : Value) (an : Option Addr) (cdv ct : Value) (us : List Value), us.length = ps.length → bindArgs (PySem.W.fnOf m q (defArgs st) (defBody st) (defScope st) .none kV doc pm an cdv ct) ⟨us, []⟩ = pure (ps.zip us))
    (len : ∀ vs H Q E, sp vs H Q E → vs.length = ps.length)
    (hbody : ∀ (cdv : Value) (A : Around) (outer : List Env) (s : Shared) (H : Hp) (vs : List V) (Q : VK) (E : XK), Room k (A.deeper (envOfC q (defScope st) s.heap.objs.size f cdv)) → sp vs H Q E →
      ∃ t, PSs (cxOf CX P w K mg base N q (defScope st) f cdv A outer s H E) (defBody st) t ∧ t { nx := fun _ H' => Q .non H', rt := Q } (L2.start N vs) H) : Mal P w K mg base CX (k + 1) C m sp := by
  obtain ⟨fd, F⟩ := F
  exact ⟨f, fd, ps, F.ok S len hbody, c, hm, F.bindsN hb⟩
theorem nal_of {P : Program} {w : World} {K : PySem.W.Frag} {mg : Str → Option Value} {base : Heap} {CX : CXT} {N ps : List Str} {k : Nat} {x q : Str} {st : Stmt} {C f : Addr} {sp : Sp} (F : ∃ fd, FunD K "__init__" q (defArgs st) (defBody st) (defScope st) [] [] f fd) (M : Mk K C f) (hm : mg x = some (.ref C)) (S : FnScope N ps (defScope st))
    (hb : ∀ (kV doc pm : Value) (an : Option Addr) (cdv ct : Value) (us : List Value), us.length = ps.length → bindArgs (PySem.W.fnOf "__init__" q (defArgs st) (defBody st) (defScope st) .none kV doc pm an cdv ct) ⟨us, []⟩ = pure (ps.zip us))
    (len : ∀ vs H Q E, sp vs H Q E → vs.length = ps.length)
    (hbody : ∀ (cdv : Value) (A : Around) (outer : List Env) (s : Shared) (H : Hp) (vs : List V) (Q : VK) (E : XK), Room k (A.deeper (envOfC q (defScope st) s.heap.objs.size f cdv)) → sp vs H Q E →
      ∃ t, PSs (cxOf CX P w K mg base N q (defScope st) f cdv A outer s H E) (defBody st) t ∧ t { nx := fun _ H' => Q .non H', rt := Q } (L2.start N vs) H) : Nal P w K mg base CX (k + 1) x C sp := by
  obtain ⟨fd, F⟩ := F
  exact ⟨f, fd, ps, F.ok S len hbody, M, hm, F.bindsN hb⟩
/-! ### built-ins by their names -/
section
variable {X : Cx} {t : TA} {e : Expr} {es : List Expr} {p pos : Pos}
theorem b_isi (hm : X.mg "isinstance" = none) (ha : PA X (e :: es) t) (hg : Gl X "isinstance" := by rfl)
    (he : starEach (e :: es) X.env = (false, eval e X.env) :: starEach es X.env := by rfl) (hpl : (backTo pos (starEach es X.env)).any (·.1) = false := by rfl) : PE X (.Call (.Name "isinstance" p) (e :: es) [] pos) (tCB (rIsi X.K) t) :=
  pe_callB call_isi hg hm (by decide +kernel) ha (he := he) (hpl := hpl)
theorem b_len (hm : X.mg "len" = none) (ha : PA X (e :: es) t) (hg : Gl X "len" := by rfl)
    (he : starEach (e :: es) X.env = (false, eval e X.env) :: starEach es X.env := by rfl) (hpl : (backTo pos (starEach es X.env)).any (·.1) = false := by rfl) : PE X (.Call (.Name "len" p) (e :: es) [] pos) (tCB (fun xs H Q => ∃ x n, xs = [x] ∧ LenV X.K x H n ∧ Q (.int n) H) t) :=
  pe_callB call_len hg hm (by decide +kernel) ha (he := he) (hpl := hpl)
theorem b_all (hc : X.calm = true) (hm : X.mg "all" = none) (ha : PA X (e :: es) t) (hg : Gl X "all" := by rfl)
    (he : starEach (e :: es) X.env = (false, eval e X.env) :: starEach es X.env := by rfl) (hpl : (backTo pos (starEach es X.env)).any (·.1) = false := by rfl) : PE X (.Call (.Name "all" p) (e :: es) [] pos) (tCB (rAll X.K) t) :=
  pe_callB (cr_all hc) hg hm (by decide +kernel) ha (he := he) (hpl := hpl)
theorem b_sum (hc : X.calm = true) (hm : X.mg "sum" = none) (ha : PA X (e :: es) t) (hg : Gl X "sum" := by rfl)
    (he : starEach (e :: es) X.env = (false, eval e X.env) :: starEach es X.env := by rfl) (hpl : (backTo pos (starEach es X.env)).any (·.1) = false := by rfl) : PE X (.Call (.Name "sum" p) (e :: es) [] pos) (tCB (rSum X.K) t) :=
  pe_callB (cr_sum hc) hg hm (by decide +kernel) ha (he := he) (hpl := hpl)
theorem b_min2 (hc : X.calm = true) (hm : X.mg "min" = none) (ha : PA X (e :: es) t) (hg : Gl X "min" := by rfl)
    (he : starEach (e :: es) X.env = (false, eval e X.env) :: starEach es X.env := by rfl) (hpl : (backTo pos (starEach es X.env)).any (·.1) = false := by rfl) : PE X (.Call (.Name "min" p) (e :: es) [] pos) (tCB (fun xs H Q => ∃ i j, xs = [.int i, .int j] ∧ Q (.int (if j < i then j else i)) H) t) :=
  pe_callB (call_min2 hc) hg hm (by decide +kernel) ha (he := he) (hpl := hpl)
theorem b_max2 (hc : X.calm = true) (hm : X.mg "max" = none) (ha : PA X (e :: es) t) (hg : Gl X "max" := by rfl)
    (he : starEach (e :: es) X.env = (false, eval e X.env) :: starEach es X.env := by rfl) (hpl : (backTo pos (starEach es X.env)).any (·.1) = false := by rfl) : PE X (.Call (.Name "max" p) (e :: es) [] pos) (tCB (fun xs H Q => ∃ i j, xs = [.int i, .int j] ∧ Q (.int (if j > i then j else i)) H) t) :=
  pe_callB (call_max2 hc) hg hm (by decide +kernel) ha (he := he) (hpl := hpl)
theorem b_int (hm : X.mg "int" = none) (ha : PA X (e :: es) t) (hg : Gl X "int" := by rfl)
    (he : starEach (e :: es) X.env = (false, eval e X.env) :: starEach es X.env := by rfl) (hpl : (backTo pos (starEach es X.env)).any (·.1) = false := by rfl) : PE X (.Call (.Name "int" p) (e :: es) [] pos) (tCB (fun xs H Q => (∃ i, xs = [.int i] ∧ Q (.int i) H) ∨ ∃ k, xs = [.bl k] ∧ Q (.int (if k then 1 else 0)) H) t) :=
  pe_callTy call_int1 hg hm (by decide +kernel) ha (he := he) (hpl := hpl)
theorem b_str (hm : X.mg "str" = none) (ha : PA X (e :: es) t) (hg : Gl X "str" := by rfl)
    (he : starEach (e :: es) X.env = (false, eval e X.env) :: starEach es X.env := by rfl) (hpl : (backTo pos (starEach es X.env)).any (·.1) = false := by rfl) : PE X (.Call (.Name "str" p) (e :: es) [] pos) (tCB (fun xs H Q => ∃ i, xs = [.int i] ∧ i.natAbs.log2 < 1920 ∧ Q (.str (toString i)) H) t) :=
  pe_callTy call_str_int hg hm (by decide +kernel) ha (he := he) (hpl := hpl)
theorem b_list (hm : X.mg "list" = none) (ha : PA X (e :: es) t) (hg : Gl X "list" := by rfl)
    (he : starEach (e :: es) X.env = (false, eval e X.env) :: starEach es X.env := by rfl) (hpl : (backTo pos (starEach es X.env)).any (·.1) = false := by rfl) : PE X (.Call (.Name "list" p) (e :: es) [] pos) (tCB (fun xs H Q => ∃ p ys, xs = [.ref p] ∧ (SqL X.K H p ys ∨ SqT X.K H p ys) ∧ ∀ l, H l = none → Q (.ref l) (upd H l (.lst ys))) t) :=
  pe_callTy call_list_of hg hm (by decide +kernel) ha (he := he) (hpl := hpl)
theorem b_tuple (hm : X.mg "tuple" = none) (ha : PA X (e :: es) t) (hg : Gl X "tuple" := by rfl)
    (he : starEach (e :: es) X.env = (false, eval e X.env) :: starEach es X.env := by rfl) (hpl : (backTo pos (starEach es X.env)).any (·.1) = false := by rfl) : PE X (.Call (.Name "tuple" p) (e :: es) [] pos) (tCB (fun xs H Q => ∃ p ys, xs = [.ref p] ∧ ((SqL X.K H p ys ∧ ∀ l, H l = none → Q (.ref l) (upd H l (.tup ys))) ∨ (SqT X.K H p ys ∧ Q (.ref p) H))) t) :=
  pe_callTy call_tuple_of hg hm (by decide +kernel) ha (he := he) (hpl := hpl)
theorem b_sortedI (hm : X.mg "sorted" = none) (ha : PA X (e :: es) t) (hg : Gl X "sorted" := by rfl)
    (he : starEach (e :: es) X.env = (false, eval e X.env) :: starEach es X.env := by rfl) (hpl : (backTo pos (starEach es X.env)).any (·.1) = false := by rfl) : PE X (.Call (.Name "sorted" p) (e :: es) [] pos) (tCB (rSortedI X.K) t) :=
  pe_callB cr_sortedI hg hm (by decide +kernel) ha (he := he) (hpl := hpl)
end
/-! ### data: no dict, not deep -/
def Sh (n : Nat) (d : PyData) : Prop := d.canLay0 = true ∧ d.depth ≤ n
theorem sh_all {n : Nat} : ∀ {ds : List PyData}, (∀ d ∈ ds, Sh n d) → PyData.canLayAll0 ds = true ∧ PyData.depthAll ds ≤ n
  | [], _ => ⟨rfl, Nat.zero_le _⟩
  | d :: ds, h => by
    have h1 := h d List.mem_cons_self
    have h2 := sh_all (ds := ds) fun x hx => h x (List.mem_cons_of_mem _ hx)
    refine ⟨?_, ?_⟩
    · show (d.canLay0 && PyData.canLayAll0 ds) = true
      rw [h1.1, h2.1]
      rfl
    · show max d.depth (PyData.depthAll ds) ≤ n
      exact Nat.max_le.mpr ⟨h1.2, h2.2⟩
theorem sh_lst {n : Nat} {ds : List PyData} (h : ∀ d ∈ ds, Sh n d) : Sh (n + 1) (.list ds) := ⟨(sh_all h).1, Nat.succ_le_succ (sh_all h).2⟩
theorem sh_tup {n : Nat} {ds : List PyData} (h : ∀ d ∈ ds, Sh n d) : Sh (n + 1) (.tuple ds) := ⟨(sh_all h).1, Nat.succ_le_succ (sh_all h).2⟩
theorem sh_non : Sh 0 .none := ⟨rfl, Nat.le_refl _⟩
theorem sh_int (i : Int) : Sh 0 (.int i) := ⟨rfl, Nat.le_refl _⟩
theorem sh_bl (b : Bool) : Sh 0 (.bool b) := ⟨rfl, Nat.le_refl _⟩
theorem Sh.mono {n m : Nat} {d : PyData} (h : Sh n d) (l : n ≤ m) : Sh m d := ⟨h.1, Nat.le_trans h.2 l⟩
theorem Sh.shaped {n : Nat} {d : PyData} (h : Sh n d) (l : n ≤ 64 := by decide) : SeqAt.shaped d = true := by
  unfold SeqAt.shaped
  rw [h.1, decide_eq_true (Nat.le_trans h.2 l)]
  rfl
theorem Sh.self {n : Nat} {d : PyData} (h : Sh n d) : PyData.eqv d d = true := SeqAt.eqv_refl d h.1
theorem dp_ints {K : PySem.W.Frag} {H : Hp} : ∀ ns : List Int, DpAll K H (ns.map V.int) (ns.map PyData.int)
  | [] => .nil
  | n :: ns => .cons (.int n) (dp_ints ns)
theorem sh_ints (ns : List Int) : Sh 1 (.list (ns.map PyData.int)) := sh_lst fun d hd => by
  obtain ⟨i, _, rfl⟩ := List.mem_map.mp hd
  exact sh_int i
theorem eqv_nil (ns : List Int) : PyData.eqv (.list (ns.map PyData.int)) (.list []) = ns.isEmpty := by
  cases ns with
  | nil => rfl
  | cons _ _ => rfl
theorem eqv_ints : ∀ ns ms : List Int, PyData.eqv (.list (ns.map PyData.int)) (.list (ms.map PyData.int)) = decide (ns = ms)
  | [], [] => rfl
  | [], _ :: _ => rfl
  | _ :: _, [] => rfl
  | n :: ns, m :: ms => by
    have ih := eqv_ints ns ms
    have ih2 : PyData.eqvAll (ns.map PyData.int) (ms.map PyData.int) = decide (ns = ms) := by rw [← ih, PyData.eqv]
    show PyData.eqv (.list (PyData.int n :: ns.map PyData.int)) (.list (PyData.int m :: ms.map PyData.int)) = _
    rw [PyData.eqv, PyData.eqvAll, ih2, PyData.eqv]
    by_cases h1 : n = m <;> by_cases h2 : ns = ms <;> simp [h1, h2]
/-- a test that is decided: both ways -/
theorem itd {c A B : Prop} [Decidable c] (h1 : c → A) (h2 : ¬ c → B) : if decide c = true then A else B := by
  by_cases h : c
  · rw [decide_eq_true h]
    exact h1 h
  · rw [decide_eq_false h]
    exact h2 h
theorem itb {b : Bool} {A B : Prop} (h1 : b = true → A) (h2 : b = false → B) : if b = true then A else B := by
  cases b with
  | true => exact h1 rfl
  | false => exact h2 rfl
theorem itnd {c A B : Prop} [Decidable c] (h1 : ¬ c → A) (h2 : c → B) : if (!decide c) = true then A else B := by
  by_cases h : c
  · rw [decide_eq_true h]
    exact h2 h
  · rw [decide_eq_false h]
    exact h1 h
/-! ### readings opened one by one -/
theorem r_seq {t u : TS} {D : Ends} {σ : L2.St} {H : Hp} (h : t { D with nx := u D } σ H) : tSeq t u D σ H := h
theorem r_asg {te : TE} {g : TG} {D : Ends} {σ : L2.St} {H : Hp} (h : te σ H fun x H1 => g x σ H1 D.nx) : tAsg te g D σ H := h
theorem r_lst {t : TA} {σ : L2.St} {H : Hp} {Q : VK} (h : t σ H fun xs H1 => xs.length ≤ sizeLine ∧ ∀ p, H1 p = none → Q (.ref p) (upd H1 p (.lst xs))) : tLst t σ H Q := h
/-! ### tuples cut and joined, what stands there told -/
theorem rd_cat {K : PySem.W.Frag} {H : Hp} {a b : Addr} {xs ys : List V} {Q : VK} (ha : H a = some (.tup xs)) (hb : H b = some (.tup ys)) (hz : xs.length + ys.length ≤ 100000)
    (h : ∀ (t : Addr) (H' : Hp), Same H H' → H' t = some (.tup (xs ++ ys)) → Q (.ref t) H') : rCatA K (.ref a) (.ref b) H Q := by
  refine ⟨a, b, xs, ys, rfl, rfl, sqT ha, sqT hb, sz hz, fun e => ?_, fun _ e => ?_, fun _ _ p hp => h p _ (same_new hp) upd_same⟩
  · subst e
    exact h b H (Same.refl H) hb
  · subst e
    exact h a H (Same.refl H) (by rw [List.append_nil]; exact ha)
theorem rd_cut {K : PySem.W.Frag} {H : Hp} {a : Addr} {xs : List V} {lo hi : Option Int} {Q : VK} (ha : H a = some (.tup xs))
    (h : ∀ (t : Addr) (H' : Hp), Same H H' → H' t = some (.tup (cutV xs lo hi)) → Q (.ref t) H') : rSlA K (.ref a) lo hi H Q := by
  refine ⟨a, xs, rfl, sqT ha, fun ⟨e1, e2⟩ => ?_, fun _ p hp => h p _ (same_new hp) upd_same⟩
  refine h a H (Same.refl H) ?_
  have e : cutV xs lo hi = xs := by
    unfold cutV
    rw [e1, e2]
    simp
  rw [e]
  exact ha
theorem cut_to {xs : List V} {j : Nat} (h : j ≤ xs.length) : cutV xs none (some (j : Int)) = xs.take j := by
  unfold cutV
  rw [HT.sIx_none, HT.sIx_nat, Nat.min_eq_left h]
  simp
theorem cut_from {xs : List V} {j : Nat} (h : j ≤ xs.length) : cutV xs (some (j : Int)) none = xs.drop j := by
  unfold cutV
  rw [HT.sIx_none, HT.sIx_nat, Nat.min_eq_left h]
  rw [List.take_of_length_le (by rw [List.length_drop]; omega)]
/-! ### what grows but for the tables -/
theorem ext_of {H H' : Hp} (s : Same H H') : LamX.ExtN H H' := fun b o e _ => s b o e
theorem ext_l {K : PySem.W.Frag} {H H' : Hp} {a : Addr} {xs : List V} (e : LamX.ExtN H H') (h : SqL K H a xs) : SqL K H' a xs := by
  rcases h with (h | ⟨o, h⟩) | h
  · exact .inl (.inl (e _ _ h (fun _ z => by cases z)))
  · exact .inl (.inr ⟨o, e _ _ h (fun _ z => by cases z)⟩)
  · exact .inr h
theorem ext_t {K : PySem.W.Frag} {H H' : Hp} {a : Addr} {xs : List V} (e : LamX.ExtN H H') (h : SqT K H a xs) : SqT K H' a xs := by
  rcases h with (h | ⟨o, h⟩) | h
  · exact .inl (.inl (e _ _ h (fun _ z => by cases z)))
  · exact .inl (.inr ⟨o, e _ _ h (fun _ z => by cases z)⟩)
  · exact .inr h
theorem ext_tup {H H' : Hp} {a : Addr} {xs : List V} (e : LamX.ExtN H H') (h : H a = some (.tup xs)) : H' a = some (.tup xs) := e _ _ h (fun _ z => by cases z)
theorem ext_lst {H H' : Hp} {a : Addr} {xs : List V} (e : LamX.ExtN H H') (h : H a = some (.lst xs)) : H' a = some (.lst xs) := e _ _ h (fun _ z => by cases z)
theorem ext_mut {H H' : Hp} {p : Addr} {o : HO} (e : LamX.ExtN H H') (h : H p = none) : LamX.ExtN H (upd H' p o) := fun a u ha hn => by
  rw [upd_ne (ne_of_none ha h)]
  exact e a u ha hn
mutual
theorem ext_dp {K : PySem.W.Frag} {H H' : Hp} (e : LamX.ExtN H H') : ∀ {v : V} {d : PyData}, Dp K H v d → Dp K H' v d
  | _, _, .non => .non
  | _, _, .bl b => .bl b
  | _, _, .int i => .int i
  | _, _, .str x => .str x
  | _, _, .lst h a => .lst (ext_l e h) (ext_dps e a)
  | _, _, .tup h a => .tup (ext_t e h) (ext_dps e a)
theorem ext_dps {K : PySem.W.Frag} {H H' : Hp} (e : LamX.ExtN H H') : ∀ {vs : List V} {ds : List PyData}, DpAll K H vs ds → DpAll K H' vs ds
  | _, _, .nil => .nil
  | _, _, .cons h a => .cons (ext_dp e h) (ext_dps e a)
end
theorem Thing.ext {K : PySem.W.Frag} {H H' : Hp} {v : V} (h : Thing K H v) (e : LamX.ExtN H H') : Thing K H' v := by
  cases h with
  | non => exact .non
  | bl b => exact .bl b
  | int i => exact .int i
  | str x => exact .str x
  | lst q => exact .lst (ext_lst e q)
  | tup q => exact .tup (ext_tup e q)
/-- ("refused", n) as data -/
def rfD (n : Str) : PyData := .tuple [.str "refused", .str n]
theorem dp_rf {K : PySem.W.Frag} {H : Hp} {t : Addr} {n : Str} (h : H t = some (.tup [.str "refused", .str n])) : Dp K H (.ref t) (rfD n) := .tup (sqT h) (.cons (.str _) (.cons (.str _) .nil))
end Tr
end
section
namespace Tr
open PySem PySem.Spec PyProof.Rows L2 LamX
/-! ### what grows while lambdas are made: tables may be written, all else stays -/
structure Fw (Tb : List (Addr × Str)) (H H' : Hp) : Prop where
  e : ExtN H H'
  t : Tabs Tb H'
theorem Fw.ext {Tb : List (Addr × Str)} {H H1 H2 : Hp} (a : Fw Tb H H1) (e : ExtN H1 H2) (t : Tabs Tb H2) : Fw Tb H H2 := ⟨a.e.trans e, t⟩
theorem Fw.trans {Tb : List (Addr × Str)} {H H1 H2 : Hp} (a : Fw Tb H H1) (b : Fw Tb H1 H2) : Fw Tb H H2 := ⟨a.e.trans b.e, b.t⟩
theorem Fw.same {Tb : List (Addr × Str)} {H H1 H2 : Hp} (a : Fw Tb H H1) (s : Same H1 H2) : Fw Tb H H2 := ⟨a.e.trans (ext_of s), a.t.ext s⟩
theorem tabs_mut {Tb : List (Addr × Str)} {H : Hp} {D : Addr} {xs ys : List V} (h : Tabs Tb H) (hD : H D = some (.lst xs)) : Tabs Tb (upd H D (.lst ys)) := by
  have ne : ∀ b o, H b = some o → o ≠ .lst xs → b ≠ D := fun b o hb no z => by
    rw [z, hD] at hb
    exact no (Option.some.inj hb).symm
  rintro p hp
  obtain ⟨ps, h1, h2, h3⟩ := h p hp
  refine ⟨ps, by rw [upd_ne (ne _ _ h1 (fun z => by cases z))]; exact h1, h2, fun pos cv hc => ?_⟩
  obtain ⟨c, e1, e2⟩ := h3 pos cv hc
  exact ⟨c, e1, by rw [upd_ne (ne _ _ e2 (fun z => by cases z))]; exact e2⟩
/-- nothing stands at D but maybe a table -/
def NT (H : Hp) (D : Addr) : Prop := ∀ o, H D = some o → ∃ ps, o = .tbl ps
theorem nt_of {H : Hp} {D : Addr} (h : H D = none) : NT H D := fun o e => by
  rw [h] at e
  cases e
theorem Fw.nt {Tb : List (Addr × Str)} {H H1 : Hp} {D : Addr} (a : Fw Tb H H1) (h : H1 D = none) : NT H D := fun o e => by
  by_cases z : ∃ ps, o = .tbl ps
  · exact z
  · have q := a.e _ _ e fun ps w => z ⟨ps, w⟩
    rw [h] at q
    cases q
theorem Fw.mut {Tb : List (Addr × Str)} {H H1 : Hp} {D : Addr} {xs ys : List V} (a : Fw Tb H H1) (hn : NT H D) (hD : H1 D = some (.lst xs)) : Fw Tb H (upd H1 D (.lst ys)) := by
  refine ⟨fun b o hb no => ?_, tabs_mut a.t hD⟩
  rw [upd_ne fun z => ?_]
  · exact a.e _ _ hb no
  · rw [z] at hb
    obtain ⟨ps, e⟩ := hn o hb
    exact no ps e
/-- a thing stays one while a list is written -/
theorem Thing.mut {K : PySem.W.Frag} {H : Hp} {v : V} {D : Addr} {xs ys : List V} (h : Thing K H v) (hD : H D = some (.lst xs)) : Thing K (upd H D (.lst ys)) v := by
  cases h with
  | non => exact .non
  | bl b => exact .bl b
  | int i => exact .int i
  | str x => exact .str x
  | @lst a zs q =>
    by_cases z : a = D
    · rw [z]
      exact .lst upd_same
    · exact .lst (by rw [upd_ne z]; exact q)
  | @tup a zs q => exact .tup (by rw [upd_ne fun z => by rw [z, hD] at q; cases q]; exact q)
theorem Fw.new {Tb : List (Addr × Str)} {H H1 : Hp} {D : Addr} {o : HO} (a : Fw Tb H H1) (hn : H1 D = none) : Fw Tb H (upd H1 D o) := a.same (same_new hn)
theorem Fw.refl {Tb : List (Addr × Str)} {H : Hp} (t : Tabs Tb H) : Fw Tb H H := ⟨ExtN.refl H, t⟩
/-- a comprehension that only adds, lambdas made on the way: acc by a word P of the turn and the items so far -/
theorem lcn_adds {Tb : List (Addr × Str)} {J : It} {n : Nat} {G : Hp → Prop} {Y : Nat → Hp → V → Hp → Prop} (w : Walk J n G Y) {g : TG} {tt : TT} {te : TE} {vs : List Nat} {σ : L2.St} {H1 : Hp} {D : Addr} {Qd : Hp → Prop} (P : Nat → List V → Prop)
    (hD : H1 D = none) (ht : Tabs Tb H1) (hn : n ≤ 90000) (h0 : P 0 []) (hl : ∀ i acc, P i acc → acc.length ≤ i) (hG : ∀ H, Fw Tb H1 H → G H)
    (hs : ∀ (T : VK) (N : Hp → Prop) i acc x H H', (∀ y H4, Fw Tb H H4 → P (i + 1) (acc ++ [y]) → T y H4) → (∀ H3, Fw Tb H H3 → P (i + 1) acc → N H3) → i < n → Fw Tb H1 H → P i acc → Y i H x H' →
      g x (wipe σ vs) H' fun σ2 H2 => wipe σ2 vs = wipe σ vs ∧ tt σ2 H2 fun b H3 => if b = true then te σ2 H3 T else N H3)
    (hd : ∀ acc H, Fw Tb H1 H → H D = some (.lst acc) → P n acc → Qd H) :
    ∃ W : Nat → Nat → Hp → Prop, (∃ m, W 0 m (upd H1 D (.lst []))) ∧ ∀ i m H, W i m H →
      (J.stop i H ∧ Qd H) ∨ (J.go i H ∧ ∃ Nx : Hp → Prop, (∀ H', Nx H' → ∃ m', m' < m ∧ W (i + 1) m' H') ∧ ∀ x H', J.yld i H x H' → g x (wipe σ vs) H' fun σ2 H2 => wipe σ2 vs = wipe σ vs ∧ tt σ2 H2 fun b H3 =>
        if b = true then te σ2 H3 fun y H4 => ∃ acc, H4 D = some (.lst acc) ∧ acc.length < sizeLine ∧ Nx (upd H4 D (.lst (acc ++ [y]))) else Nx H3) := by
  refine lc_it w (fun i H => ∃ acc, Fw Tb H1 H ∧ H D = some (.lst acc) ∧ P i acc) ⟨[], (Fw.refl ht).new hD, upd_same, h0⟩ (fun i H _ ⟨_, s, _⟩ => hG H s) ?_ fun H ⟨acc, s, h, p⟩ => hd acc H s h p
  rintro i x H H' hi ⟨acc, s, hDa, p⟩ y
  exact hs _ _ i acc x H H' (fun v H4 s4 p4 => ⟨acc, ext_lst s4.e hDa, sz1 (by have := hl i acc p; omega), acc ++ [v], (s.trans s4).mut (nt_of hD) (ext_lst s4.e hDa), upd_same, p4⟩) (fun H3 s3 p3 => ⟨acc, s.trans s3, ext_lst s3.e hDa, p3⟩) hi s p y
/-- both ways of a test lead on to one place (revert the heap and what is known of it first) -/
theorem both {c : Bool} {A R Pre : Hp → Prop} (good : Hp → Prop) (h2 : ∀ H, Pre H → good H) (h1 : ∀ H, Pre H → c = true → (∀ H', good H' → R H') → A H) (h : ∀ H', good H' → R H') : ∀ H, Pre H → if c = true then A H else R H := by
  intro H p
  cases c with
  | true => exact h1 H p rfl h
  | false => exact h H (h2 H p)
/-- a callee that lets nothing out, by what it promises -/
theorem passN0 {X : Cx} {P : Program} {w : World} : Passes (NX P w) X E0 := fun _ _ _ _ _ _ _ ⟨_, _, _, _, _, _, _, _, _, _, _, _, z⟩ => z.elim
theorem at_eq {Q : VK} {v w : V} {H : Hp} (e : v = w) (h : Q w H) : Q v H := by
  rw [e]
  exact h
/-- a text, so many times -/
theorem op_mulS {X : Cx} : OpR X (binaryOp .Mult) (fun x y H Q => ∃ (a : Str) (n : Int), x = .str a ∧ y = .int n ∧ MulOk a n ∧ Q (.str (Txt.mul a n)) H) := by
  intro pins s σ H x y v u Q I rx ry h
  obtain ⟨a, n, rfl, rfl, hz, q⟩ := h
  obtain ⟨t, rfl⟩ := rx
  obtain ⟨t', rfl⟩ := ry
  exact SB.mul hz fun t' k => ⟨.str _, H, I.tok k, ⟨t', rfl⟩, q⟩
theorem r_nopart {σ : L2.St} {H : Hp} {Q : Option Int → Hp → Prop} (h : Q none H) : tNoPart σ H Q := h
/-- one and the same data: not unlike -/
theorem ne_self {K : PySem.W.Frag} {H : Hp} {x y : V} {d : PyData} {n : Nat} {Q : VK} (hx : Dp K H x d) (hy : Dp K H y d) (hs : Sh n d) (hq : Q (.bl false) H) (hn : n ≤ 64 := by decide) : rNeD K x y H Q :=
  ⟨d, d, hx, hy, hs.shaped hn, hs.shaped hn, by rw [hs.self]; exact hq⟩
theorem eq_self {K : PySem.W.Frag} {H : Hp} {x y : V} {d : PyData} {n : Nat} {Q : VK} (hx : Dp K H x d) (hy : Dp K H y d) (hs : Sh n d) (hq : Q (.bl true) H) (hn : n ≤ 64 := by decide) : rEqD K x y H Q :=
  ⟨d, d, hx, hy, hs.shaped hn, hs.shaped hn, by rw [hs.self]; exact hq⟩
theorem dp_lints {K : PySem.W.Frag} {H : Hp} {a : Addr} {ns : List Int} (h : H a = some (.lst (ns.map V.int))) : Dp K H (.ref a) (.list (ns.map PyData.int)) := .lst (sqL h) (dp_ints ns)
theorem sh_str {x : Str} (h : (PyData.str x).canLay0 = true) : Sh 0 (.str x) := ⟨h, Nat.le_refl _⟩
theorem sh_rf {n : Str} (h : (PyData.str n).canLay0 = true) : Sh 1 (rfD n) := sh_tup fun d hd => by
  simp only [List.mem_cons, List.not_mem_nil, or_false] at hd
  rcases hd with rfl | rfl
  · exact sh_str (by decide +kernel)
  · exact sh_str h
/-- as many refusals of one kind, as data -/
theorem dp_rfs {K : PySem.W.Frag} {H : Hp} {n : Str} : ∀ {ts : List Addr}, (∀ t ∈ ts, H t = some (.tup [.str "refused", .str n])) → DpAll K H (ts.map V.ref) (List.replicate ts.length (rfD n))
  | [], _ => .nil
  | t :: ts, h => .cons (dp_rf (h t List.mem_cons_self)) (dp_rfs fun u hu => h u (List.mem_cons_of_mem _ hu))
theorem sh_rfs {n : Str} (h : (PyData.str n).canLay0 = true) (k : Nat) : Sh 2 (.list (List.replicate k (rfD n))) := sh_lst fun d hd => by
  rw [List.eq_of_mem_replicate hd]
  exact sh_rf h
end Tr
end
section
namespace Tr
open PySem PySem.Spec PyProof.Rows L2 LamX
/-! ### sorted texts -/
def leS (a b : Str) : Prop := ltCps b.cps.toList a.cps.toList = false
theorem leS_iff {a b : Str} : leS a b ↔ a.cps.toList ≤ b.cps.toList := by
  unfold leS
  rw [ltCps_eq]
  exact ⟨fun h => List.not_lt.mp (of_decide_eq_false h), fun h => decide_eq_false (List.not_lt.mpr h)⟩
theorem leS_trans {a b c : Str} (h : leS a b) (g : leS b c) : leS a c := leS_iff.mpr (List.le_trans (leS_iff.mp h) (leS_iff.mp g))
theorem leS_anti {a b : Str} (h : leS a b) (g : leS b a) : a = b := by
  have e := List.le_antisymm (leS_iff.mp h) (leS_iff.mp g)
  cases a with
  | mk x =>
    cases b with
    | mk y =>
      exact congrArg Str.mk (Array.toList_inj.mp e)
theorem pw_rising : ∀ (p : Str) (l : List Str), risingS p l = true → (p :: l).Pairwise leS
  | p, [], _ => List.pairwise_singleton _ _
  | p, x :: r, h => by
    have h' : (!ltCps x.cps.toList p.cps.toList && risingS x r) = true := h
    obtain ⟨h1, h2⟩ := Bool.and_eq_true_iff.mp h'
    have ih := pw_rising x r h2
    have hx : leS p x := by
      unfold leS
      cases e : ltCps x.cps.toList p.cps.toList with
      | false => rfl
      | true =>
        rw [e] at h1
        cases h1
    refine List.pairwise_cons.mpr ⟨fun y hy => ?_, ih⟩
    rcases List.mem_cons.mp hy with rfl | hy
    · exact hx
    · exact leS_trans hx ((List.pairwise_cons.mp ih).1 y hy)
theorem pw_sortedS : ∀ l : List Str, sortedS l = true → l.Pairwise leS
  | [], _ => .nil
  | x :: r, h => pw_rising x r h
theorem same_sortedS {l m : List Str} (p : l.Perm m) (hl : sortedS l = true) (hm : sortedS m = true) : l = m :=
  List.Perm.eq_of_pairwise (fun _ _ _ _ a b => leS_anti a b) (pw_sortedS l hl) (pw_sortedS m hm) p
theorem same_sorted2 {l m n : List Str} (p : l.Perm n) (p' : m.Perm n) (hl : sortedS l = true) (hm : sortedS m = true) : l = m := same_sortedS (p.trans p'.symm) hl hm
/-! ### texts as data -/
def sOk (s : Str) : Prop := (PyData.str s).canLay0 = true
theorem dp_strs {K : PySem.W.Frag} {H : Hp} : ∀ ss : List Str, DpAll K H (ss.map V.str) (ss.map PyData.str)
  | [] => .nil
  | s :: ss => .cons (.str s) (dp_strs ss)
theorem dp_lstrs {K : PySem.W.Frag} {H : Hp} {a : Addr} {ss : List Str} (h : H a = some (.lst (ss.map V.str))) : Dp K H (.ref a) (.list (ss.map PyData.str)) := .lst (sqL h) (dp_strs ss)
theorem sh_strs {ss : List Str} (h : ∀ s ∈ ss, sOk s) : Sh 1 (.list (ss.map PyData.str)) := sh_lst fun d hd => by
  obtain ⟨s, hs, rfl⟩ := List.mem_map.mp hd
  exact sh_str (h s hs)
theorem inV_strs (s : Str) (l : List Str) : inV (.str s) (l.map V.str) = decide (s ∈ l) := by
  unfold inV
  rw [List.any_map, Bool.eq_iff_iff, List.any_eq_true, decide_eq_true_iff]
  constructor
  · rintro ⟨x, hx, e⟩
    have e' : eqV (V.str x) (V.str s) = true := e
    have e2 : x = s := by simpa [eqV] using e'
    rw [← e2]
    exact hx
  · intro h
    exact ⟨s, h, by simp [eqV]⟩
theorem flat_strs (l : List Str) : (l.map V.str).all flatV = true := by
  rw [List.all_map]
  exact List.all_eq_true.mpr fun _ _ => rfl
/-! ### a statement if, without else, that leads on to what comes behind -/
/-- a lock taken off: all that stood, stands -/
theorem same_unlock {H0 H1 : Hp} {d : Addr} {u o : HO} (hd : H0 d = some u) (s : Same (upd H0 d o) H1) : Same H0 (upd H1 d u) := fun b v h => by
  by_cases e : b = d
  · rw [e, upd_same]
    rw [e, hd] at h
    exact h
  · rw [upd_ne e]
    exact s b v (by rw [upd_ne e]; exact h)
theorem r_no {A B : Prop} (h : B) : if false = true then A else B := h
theorem r_next {D : Ends} {σ : L2.St} {H : Hp} (h : D.nx σ H) : tNext D σ H := h
theorem r_name {i : Nat} {x : V} {σ : L2.St} {H : Hp} {Q : L2.St → Hp → Prop} (h : Q (σ.set i (some x)) H) : gName i x σ H Q := h
theorem r_if {c : TT} {t : TS} {D : Ends} {σ : L2.St} {H : Hp} (good : L2.St → Hp → Prop) (h : ∀ σ' H', good σ' H' → D.nx σ' H') (hc : (∀ σ' H', good σ' H' → D.nx σ' H') → c σ H fun b H1 => if b = true then t D σ H1 else D.nx σ H1) : tIfS c t tNext D σ H := hc h
/-- two ways of an answer lead on to one place -/
theorem two {c : Prop} {Q : VK} {F G : Hp → Prop} (h : ∀ (b : Bool) (H' : Hp), ((b = false ∧ c ∧ F H') ∨ (b = true ∧ ¬ c ∧ G H')) → Q (.bl b) H') : (c → ∀ H', F H' → Q (.bl false) H') ∧ (¬ c → ∀ H', G H' → Q (.bl true) H') :=
  ⟨fun hc H' f => h false H' (.inl ⟨rfl, hc, f⟩), fun hc H' g => h true H' (.inr ⟨rfl, hc, g⟩)⟩
/-! ### what is written is no table and no code object -/
def Pl (H : Hp) (a : Addr) : Prop := ∀ o, H a = some o → (∀ ps, o ≠ .tbl ps) ∧ ∀ φ, o ≠ .ext φ
theorem pl_none {H : Hp} {a : Addr} (h : H a = none) : Pl H a := fun o e => by
  rw [h] at e
  cases e
theorem pl_of {H : Hp} {a : Addr} {o : HO} (h : H a = some o) (h1 : ∀ ps, o ≠ .tbl ps) (h2 : ∀ φ, o ≠ .ext φ) : Pl H a := fun u e => by
  rw [h] at e
  cases e
  exact ⟨h1, h2⟩
theorem pl_lst {H : Hp} {a : Addr} {xs : List V} (h : H a = some (.lst xs)) : Pl H a := pl_of h (fun _ z => by cases z) fun _ z => by cases z
theorem pl_dK {H : Hp} {a : Addr} {xs : List (Key × V)} (h : H a = some (.dK xs)) : Pl H a := pl_of h (fun _ z => by cases z) fun _ z => by cases z
theorem pl_ins {H : Hp} {a C dx : Addr} {fs : List (Str × V)} (h : H a = some (.ins C dx fs)) : Pl H a := pl_of h (fun _ z => by cases z) fun _ z => by cases z
/-- all but what S tells stays -/
def Fr (S : Addr → Prop) (H H' : Hp) : Prop := ∀ c o, H c = some o → ¬ S c → H' c = some o
theorem tabs_fr {Tb : List (Addr × Str)} {S : Addr → Prop} {H H' : Hp} (t : Tabs Tb H) (hs : ∀ c, S c → Pl H c) (f : Fr S H H') : Tabs Tb H' := by
  rintro p hp
  obtain ⟨ps, h1, h2, h3⟩ := t p hp
  refine ⟨ps, f _ _ h1 fun z => (hs _ z _ h1).1 ps rfl, h2, fun pos cv hc => ?_⟩
  obtain ⟨c, e1, e2⟩ := h3 pos cv hc
  exact ⟨c, e1, f _ _ e2 fun z => (hs _ z _ e2).2 _ rfl⟩
theorem Fw.fr {Tb : List (Addr × Str)} {S : Addr → Prop} {H H1 H2 : Hp} (a : Fw Tb H H1) (hn : ∀ c, S c → NT H c) (hs : ∀ c, S c → Pl H1 c) (f : Fr S H1 H2) : Fw Tb H H2 :=
  ⟨fun b o hb no => f _ _ (a.e b o hb no) fun z => by
    obtain ⟨ps, e⟩ := hn b z o hb
    exact no ps e, tabs_fr a.t hs f⟩
/-! ### numbers as texts -/
def chk (k : Nat) : List Nat → Bool
  | c :: r => decide (c ≠ 48) && ((c :: r).all (fun d => decide (48 ≤ d) && decide (d ≤ 57)) && decide (r.length ≤ k))
  | [] => false
theorem chk_one : (List.range 9).all (fun i => chk 0 ((Nat.toDigits 10 (i + 1)).map Char.toNat)) = true := by decide +kernel
theorem dig_one : (List.range 10).all (fun i => decide (48 ≤ (Nat.digitChar i).toNat) && decide ((Nat.digitChar i).toNat ≤ 57)) = true := by decide +kernel
theorem chk_mono {j k : Nat} (h : j ≤ k) {l : List Nat} (c : chk j l = true) : chk k l = true := by
  cases l with
  | nil => cases c
  | cons a r =>
    simp only [chk, Bool.and_eq_true, decide_eq_true_eq] at c ⊢
    exact ⟨c.1, c.2.1, Nat.le_trans c.2.2 h⟩
theorem chk_num : ∀ (k m : Nat), 1 ≤ m → m < 10 ^ (k + 1) → chk k ((Nat.toDigits 10 m).map Char.toNat) = true
  | k, m, h1, h2 => by
    by_cases hs : m < 10
    · have e := List.all_eq_true.mp chk_one (m - 1) (List.mem_range.mpr (by omega))
      rw [show m - 1 + 1 = m by omega] at e
      exact chk_mono (Nat.zero_le k) e
    · cases k with
      | zero => simp at h2; omega
      | succ k =>
        have ih := chk_num k (m / 10) (by omega) (by rw [Nat.pow_succ] at h2; omega)
        have hd : m % 10 < 10 := Nat.mod_lt _ (by decide)
        have t : Nat.toDigits 10 (m / 10) ++ Nat.toDigits 10 (m % 10) = Nat.toDigits 10 (10 * (m / 10) + m % 10) := Nat.toDigits_append_toDigits (by decide) (by omega) hd
        rw [Nat.div_add_mod] at t
        rw [← t, List.map_append, Nat.toDigits_of_lt_base hd]
        have ed := List.all_eq_true.mp dig_one (m % 10) (List.mem_range.mpr hd)
        generalize (Nat.toDigits 10 (m / 10)).map Char.toNat = l at ih
        cases l with
        | nil => cases ih
        | cons a r =>
          simp only [chk, Bool.and_eq_true, decide_eq_true_eq, List.map_cons, List.map_nil, List.cons_append, List.all_cons, List.all_append, List.all_nil, List.length_append, List.length_cons, List.length_nil] at ih ed ⊢
          refine ⟨ih.1, ⟨ih.2.1.1, ih.2.1.2, ed, trivial⟩, by omega⟩
theorem chk_int {k : Nat} {n : Int} (h1 : 1 ≤ n) (h2 : n < 10 ^ (k + 1)) : chk k (toString n : Str).cps.toList = true := by
  obtain ⟨m, rfl⟩ : ∃ m : Nat, n = (m : Int) := ⟨n.toNat, by omega⟩
  have e : (toString ((m : Nat) : Int) : Str).cps.toList = (Nat.toDigits 10 m).map Char.toNat := PySem.W.KIN.signs_num m
  rw [e]
  exact chk_num k m (by omega) (by exact_mod_cast h2)
end Tr
end
section
/-! A dict of the module, text keys: walked by its keys. -/
namespace TrK
open PySem PySem.Spec PyProof.Rows L2
/-- a dict of the module: its keys in their order -/
structure KD (K : PySem.W.Frag) (w : World) (d : Addr) (zs : List Str) (es : Array DictEntry) (n : Nat) : Prop where
  kd : KDict K w d es n
  len : es.size = zs.length
  key : ∀ (i : Nat) z, zs[i]? = some z → ∃ en t, es[i]? = some en ∧ en.key = .str z t
def Itkd (zs : List Str) : It := ⟨fun i _ => i < zs.length, fun i H x H' => H' = H ∧ ∃ z, zs[i]? = some z ∧ x = .str z, fun i _ => zs.length ≤ i⟩
theorem turn_kd {P : Program} {w : World} {K : PySem.W.Frag} {tg : Expr} {d : Addr} {zs : List Str} {es : Array DictEntry} {n : Nat} (it : Addr) (D : KD K w d zs es n) : Turn P w K tg (Itkd zs) [it] it (fun i h => h.IsKeyIter it d i zs.length n) where
  mem := by simp
  obj := fun i h st b hb => by
    have e : b = it := by simpa using hb
    subst e
    obtain ⟨oi, e, c, dd⟩ := st
    exact ⟨oi, e, fun v z => by rw [dd] at z; cases z⟩
  keep := fun i h h' st k => st.at fun oi e => k it (by simp) oi e
  item := by
    intro X hP hw hK hc i pins s σ H E I hf st hg
    subst hP hw hK
    obtain ⟨f0, f1, f2, f3, f4, f5⟩ := hf it (by simp)
    obtain ⟨en, t, hen, hkey⟩ := D.key i (zs[i]'hg) (List.getElem?_eq_getElem hg)
    refine next_key_item st (I.kIn _ _ D.kd.at_) rfl D.len hen fun h' st' sb => ?_
    have I1 : Inv X pins σ H { s with heap := h' } := I.turned (t' := s.toks) (fun b ob hb e => (sb.2 b hb).trans e) f0 f1 f3 f4 f5
    obtain ⟨oi, e, c, dd⟩ := id st'
    exact ⟨en.key, rfl, go_of (s := { s with heap := h' }) e c dd (by decide) ⟨.str (zs[i]'hg), H, I1, ⟨t, hkey⟩, ⟨rfl, _, List.getElem?_eq_getElem hg, rfl⟩, st', fun b hb => (hf b hb).1⟩⟩
  done := by
    intro X hP hw hK hc i pins s σ H E I hf st hg
    subst hP hw hK
    obtain ⟨f0, f1, f2, f3, f4, f5⟩ := hf it (by simp)
    exact next_key_end (I.ok.hd hc) st (I.kIn _ _ D.kd.at_) rfl D.len hg fun h' eb => ⟨rfl, I.turned (t' := s.toks) (fun b ob hb e => eb b ob hb e) f0 f1 f3 f4 f5⟩
  self := fun A i s Q E st h => wpAny_pyIter_keyiter st h
def iKd (K : PySem.W.Frag) (w : World) (td : TE) : TI := fun σ H R => td σ H fun x H1 => ∃ d zs es n, x = .ref d ∧ KD K w d zs es n ∧ R (Itkd zs) H1
theorem pi_kd {X : Cx} {tg e : Expr} {td : TE} (he : PE X e td) : PI X tg e (iKd X.K X.w td) := by
  refine ⟨fun pins s σ H R I h => ?_⟩
  refine thn (he.run pins s σ H _ I h) fun u s1 ⟨x, H1, I1, rx, d, zs, es, n, ex, D, q⟩ => ?_
  subst ex
  obtain rfl : u = Value.ref d := rx
  refine iter_keys D.kd.low (I1.kIn _ _ D.kd.at_) ⟨rfl, rfl, rfl⟩ rfl (pi_one (tk := s1.toks) I1 _ (turn_kd _ D) ⟨_, Heap.get?_push_size _ rfl, rfl, ?_⟩ q)
  rw [D.len] <;> rfl
theorem walk_kd {zs : List Str} : Walk (Itkd zs) zs.length (fun _ => True) (fun i H x H' => H' = H ∧ ∃ z, zs[i]? = some z ∧ x = .str z) :=
  ⟨fun _ _ hi _ => hi, fun _ _ => Nat.le_refl _, fun _ _ _ _ _ _ y => y⟩
/-- what the head's Hook tells of a table -/
theorem kd_of {K : PySem.W.Frag} {w : World} {a : Addr} {ks : List Str} (h : He.dicW K a = some (He.keysIn w.params ks)) : ∃ es n, KD K w a ks es n := by
  obtain ⟨es, n, D⟩ := He.dicW_ok h
  have e : es.toList.map He.keyOf = He.keysIn w.params ks := by
    unfold He.dicW at h
    rw [D.at_] at h
    have h1 : (match decide ("dict" = "dict") && ((#[] : Array (Option Value)).isEmpty && !(a == sysModules)) with
            | true => some (es.toList.map He.keyOf)
            | false => none) = some (He.keysIn w.params ks) := h
    rw [D.low] at h1
    exact Option.some.inj h1
  have l : es.size = ks.length := by
    have z := congrArg List.length e
    unfold He.keysIn at z
    rw [List.length_map, List.length_map, Array.length_toList] at z
    exact z
  refine ⟨es, n, D, l, fun i z hz => ?_⟩
  have hi : i < es.size := by rw [l]; exact (List.getElem?_eq_some_iff.mp hz).1
  have q : (es.toList.map He.keyOf)[i]? = (He.keysIn w.params ks)[i]? := by rw [e]
  unfold He.keysIn at q
  rw [List.getElem?_map, List.getElem?_map, hz, Array.getElem?_toList, Array.getElem?_eq_getElem hi] at q
  have q2 : He.keyOf es[i] = some (z, PyData.keyHash w.params z) := Option.some.inj q
  unfold He.keyOf at q2
  split at q2
  · rename_i x t hk
    have q3 := Option.some.inj q2
    refine ⟨es[i], t, Array.getElem?_eq_getElem hi, ?_⟩
    rw [hk, (Prod.mk.inj q3).1]
  · cases q2
end TrK
end
section
namespace T
open PySem PySem.Spec PyProof.Rows L2
def top (i : Nat) : Stmt := PySem.Challenge.pw_tryroad_k24_callers_refused.main.body.getD i (.Pass ⟨0, 0, 0, 0⟩)
abbrev s_is_name : Stmt := top 13
abbrev s_need_name : Stmt := top 14
abbrev s_is_text : Stmt := top 15
abbrev s_need_text : Stmt := top 16
abbrev s_is_count : Stmt := top 19
abbrev s_need_rule : Stmt := top 20
abbrev s_wait_of : Stmt := top 21
abbrev s_CallX_initX : Stmt := inClass (top 27) 0
abbrev s_CallerX_initX : Stmt := inClass (top 28) 0
abbrev s_Caller_now : Stmt := inClass (top 28) 1
abbrev s_Caller_say : Stmt := inClass (top 28) 2
abbrev s_Caller_log : Stmt := inClass (top 28) 3
abbrev s_Caller_need_address : Stmt := inClass (top 28) 4
abbrev s_Caller_add_address : Stmt := inClass (top 28) 5
abbrev s_Caller_road : Stmt := inClass (top 28) 6
abbrev s_Caller_end_of : Stmt := inClass (top 28) 7
abbrev s_Caller_lead : Stmt := inClass (top 28) 8
abbrev s_Caller_call : Stmt := inClass (top 28) 9
abbrev s_Caller_numbers : Stmt := inClass (top 28) 10
abbrev s_Caller_send : Stmt := inClass (top 28) 11
abbrev s_Caller_state : Stmt := inClass (top 28) 12
abbrev s_Caller_tries : Stmt := inClass (top 28) 13
abbrev s_Caller_time_of : Stmt := inClass (top 28) 14
abbrev s_Caller_is_first : Stmt := inClass (top 28) 15
abbrev s_Caller_busy : Stmt := inClass (top 28) 16
abbrev s_Caller_due : Stmt := inClass (top 28) 17
abbrev s_Caller_begin : Stmt := inClass (top 28) 18
abbrev s_Caller_attempt : Stmt := inClass (top 28) 19
abbrev s_Caller_fail : Stmt := inClass (top 28) 20
abbrev s_Caller_answer : Stmt := inClass (top 28) 21
abbrev s_Caller_tick : Stmt := inClass (top 28) 22
abbrev s_Caller_go_on : Stmt := inClass (top 28) 23
abbrev s_Caller_drop : Stmt := inClass (top 28) 24
abbrev s_Caller_change : Stmt := inClass (top 28) 25
abbrev s_sign_of : Stmt := top 31
abbrev s_written : Stmt := top 32
abbrev s_l_cell : Stmt := top 34
abbrev s_l_drawn : Stmt := top 35
abbrev s_l_word : Stmt := top 36
abbrev s_l_told : Stmt := top 37
abbrev s_l_rule : Stmt := top 38
abbrev s_l_wait : Stmt := top 39
abbrev s_l_any_name : Stmt := top 40
abbrev s_l_any_text : Stmt := top 41
abbrev s_l_own : Stmt := top 42
abbrev s_l_real : Stmt := top 43
abbrev s_l_may : Stmt := top 44
abbrev s_l_due : Stmt := top 45
abbrev s_l_fail : Stmt := top 46
abbrev s_l_send : Stmt := top 47
abbrev s_l_try : Stmt := top 48
abbrev s_l_tick : Stmt := top 49
abbrev s_l_hand : Stmt := top 50
abbrev s_l_lead : Stmt := top 51
abbrev s_l_deed : Stmt := top 52
abbrev s_l_own_does : Stmt := top 53
abbrev s_l_does : Stmt := top 54
abbrev s_l_numbers_right : Stmt := top 55
abbrev s_l_sent_right : Stmt := top 56
abbrev s_law : Stmt := top 57
def d_is_name : He.DefD := ⟨("is_name", none), "is_name", "is_name", defArgs s_is_name, defBody s_is_name, defScope s_is_name, [], []⟩
def d_need_name : He.DefD := ⟨("need_name", none), "need_name", "need_name", defArgs s_need_name, defBody s_need_name, defScope s_need_name, [], []⟩
def d_is_text : He.DefD := ⟨("is_text", none), "is_text", "is_text", defArgs s_is_text, defBody s_is_text, defScope s_is_text, [], []⟩
def d_need_text : He.DefD := ⟨("need_text", none), "need_text", "need_text", defArgs s_need_text, defBody s_need_text, defScope s_need_text, [], []⟩
def d_is_count : He.DefD := ⟨("is_count", none), "is_count", "is_count", defArgs s_is_count, defBody s_is_count, defScope s_is_count, [], []⟩
def d_need_rule : He.DefD := ⟨("need_rule", none), "need_rule", "need_rule", defArgs s_need_rule, defBody s_need_rule, defScope s_need_rule, [], []⟩
def d_wait_of : He.DefD := ⟨("wait_of", none), "wait_of", "wait_of", defArgs s_wait_of, defBody s_wait_of, defScope s_wait_of, [], []⟩
def d_CallX_initX : He.DefD := ⟨("Call", some "__init__"), "__init__", "Call.__init__", defArgs s_CallX_initX, defBody s_CallX_initX, defScope s_CallX_initX, [], []⟩
def d_CallerX_initX : He.DefD := ⟨("Caller", some "__init__"), "__init__", "Caller.__init__", defArgs s_CallerX_initX, defBody s_CallerX_initX, defScope s_CallerX_initX, [], []⟩
def d_Caller_now : He.DefD := ⟨("Caller", some "now"), "now", "Caller.now", defArgs s_Caller_now, defBody s_Caller_now, defScope s_Caller_now, [], []⟩
def d_Caller_say : He.DefD := ⟨("Caller", some "say"), "say", "Caller.say", defArgs s_Caller_say, defBody s_Caller_say, defScope s_Caller_say, [], []⟩
def d_Caller_log : He.DefD := ⟨("Caller", some "log"), "log", "Caller.log", defArgs s_Caller_log, defBody s_Caller_log, defScope s_Caller_log, [], []⟩
def d_Caller_need_address : He.DefD := ⟨("Caller", some "need_address"), "need_address", "Caller.need_address", defArgs s_Caller_need_address, defBody s_Caller_need_address, defScope s_Caller_need_address, [], []⟩
def d_Caller_add_address : He.DefD := ⟨("Caller", some "add_address"), "add_address", "Caller.add_address", defArgs s_Caller_add_address, defBody s_Caller_add_address, defScope s_Caller_add_address, [], []⟩
def d_Caller_road : He.DefD := ⟨("Caller", some "road"), "road", "Caller.road", defArgs s_Caller_road, defBody s_Caller_road, defScope s_Caller_road, [], []⟩
def d_Caller_end_of : He.DefD := ⟨("Caller", some "end_of"), "end_of", "Caller.end_of", defArgs s_Caller_end_of, defBody s_Caller_end_of, defScope s_Caller_end_of, [], []⟩
def d_Caller_lead : He.DefD := ⟨("Caller", some "lead"), "lead", "Caller.lead", defArgs s_Caller_lead, defBody s_Caller_lead, defScope s_Caller_lead, [], []⟩
def d_Caller_call : He.DefD := ⟨("Caller", some "call"), "call", "Caller.call", defArgs s_Caller_call, defBody s_Caller_call, defScope s_Caller_call, [], []⟩
def d_Caller_numbers : He.DefD := ⟨("Caller", some "numbers"), "numbers", "Caller.numbers", defArgs s_Caller_numbers, defBody s_Caller_numbers, defScope s_Caller_numbers, [], []⟩
def d_Caller_send : He.DefD := ⟨("Caller", some "send"), "send", "Caller.send", defArgs s_Caller_send, defBody s_Caller_send, defScope s_Caller_send, [], []⟩
def d_Caller_state : He.DefD := ⟨("Caller", some "state"), "state", "Caller.state", defArgs s_Caller_state, defBody s_Caller_state, defScope s_Caller_state, [], []⟩
def d_Caller_tries : He.DefD := ⟨("Caller", some "tries"), "tries", "Caller.tries", defArgs s_Caller_tries, defBody s_Caller_tries, defScope s_Caller_tries, [], []⟩
def d_Caller_time_of : He.DefD := ⟨("Caller", some "time_of"), "time_of", "Caller.time_of", defArgs s_Caller_time_of, defBody s_Caller_time_of, defScope s_Caller_time_of, [], []⟩
def d_Caller_is_first : He.DefD := ⟨("Caller", some "is_first"), "is_first", "Caller.is_first", defArgs s_Caller_is_first, defBody s_Caller_is_first, defScope s_Caller_is_first, [], []⟩
def d_Caller_busy : He.DefD := ⟨("Caller", some "busy"), "busy", "Caller.busy", defArgs s_Caller_busy, defBody s_Caller_busy, defScope s_Caller_busy, [], []⟩
def d_Caller_due : He.DefD := ⟨("Caller", some "due"), "due", "Caller.due", defArgs s_Caller_due, defBody s_Caller_due, defScope s_Caller_due, [], []⟩
def d_Caller_begin : He.DefD := ⟨("Caller", some "begin"), "begin", "Caller.begin", defArgs s_Caller_begin, defBody s_Caller_begin, defScope s_Caller_begin, [], []⟩
def d_Caller_attempt : He.DefD := ⟨("Caller", some "attempt"), "attempt", "Caller.attempt", defArgs s_Caller_attempt, defBody s_Caller_attempt, defScope s_Caller_attempt, [], []⟩
def d_Caller_fail : He.DefD := ⟨("Caller", some "fail"), "fail", "Caller.fail", defArgs s_Caller_fail, defBody s_Caller_fail, defScope s_Caller_fail, [], []⟩
def d_Caller_answer : He.DefD := ⟨("Caller", some "answer"), "answer", "Caller.answer", defArgs s_Caller_answer, defBody s_Caller_answer, defScope s_Caller_answer, [], []⟩
def d_Caller_tick : He.DefD := ⟨("Caller", some "tick"), "tick", "Caller.tick", defArgs s_Caller_tick, defBody s_Caller_tick, defScope s_Caller_tick, [], []⟩
def d_Caller_go_on : He.DefD := ⟨("Caller", some "go_on"), "go_on", "Caller.go_on", defArgs s_Caller_go_on, defBody s_Caller_go_on, defScope s_Caller_go_on, [], []⟩
def d_Caller_drop : He.DefD := ⟨("Caller", some "drop"), "drop", "Caller.drop", defArgs s_Caller_drop, defBody s_Caller_drop, defScope s_Caller_drop, [], []⟩
def d_Caller_change : He.DefD := ⟨("Caller", some "change"), "change", "Caller.change", defArgs s_Caller_change, defBody s_Caller_change, defScope s_Caller_change, [], []⟩
def d_sign_of : He.DefD := ⟨("sign_of", none), "sign_of", "sign_of", defArgs s_sign_of, defBody s_sign_of, defScope s_sign_of, [], []⟩
def d_written : He.DefD := ⟨("written", none), "written", "written", defArgs s_written, defBody s_written, defScope s_written, [], []⟩
def d_l_cell : He.DefD := ⟨("_law_cell", none), "_law_cell", "_law_cell", defArgs s_l_cell, defBody s_l_cell, defScope s_l_cell, [], []⟩
def d_l_drawn : He.DefD := ⟨("_law_drawn", none), "_law_drawn", "_law_drawn", defArgs s_l_drawn, defBody s_l_drawn, defScope s_l_drawn, [], []⟩
def d_l_word : He.DefD := ⟨("_law_word", none), "_law_word", "_law_word", defArgs s_l_word, defBody s_l_word, defScope s_l_word, [], []⟩
def d_l_told : He.DefD := ⟨("_law_told", none), "_law_told", "_law_told", defArgs s_l_told, defBody s_l_told, defScope s_l_told, [], []⟩
def d_l_rule : He.DefD := ⟨("_law_rule", none), "_law_rule", "_law_rule", defArgs s_l_rule, defBody s_l_rule, defScope s_l_rule, [], []⟩
def d_l_wait : He.DefD := ⟨("_law_wait", none), "_law_wait", "_law_wait", defArgs s_l_wait, defBody s_l_wait, defScope s_l_wait, [], []⟩
def d_l_any_name : He.DefD := ⟨("_law_any_name", none), "_law_any_name", "_law_any_name", defArgs s_l_any_name, defBody s_l_any_name, defScope s_l_any_name, [], []⟩
def d_l_any_text : He.DefD := ⟨("_law_any_text", none), "_law_any_text", "_law_any_text", defArgs s_l_any_text, defBody s_l_any_text, defScope s_l_any_text, [], []⟩
def d_l_own : He.DefD := ⟨("_law_own", none), "_law_own", "_law_own", defArgs s_l_own, defBody s_l_own, defScope s_l_own, [], []⟩
def d_l_real : He.DefD := ⟨("_law_real", none), "_law_real", "_law_real", defArgs s_l_real, defBody s_l_real, defScope s_l_real, [], []⟩
def d_l_may : He.DefD := ⟨("_law_may", none), "_law_may", "_law_may", defArgs s_l_may, defBody s_l_may, defScope s_l_may, [], []⟩
def d_l_due : He.DefD := ⟨("_law_due", none), "_law_due", "_law_due", defArgs s_l_due, defBody s_l_due, defScope s_l_due, [], []⟩
def d_l_fail : He.DefD := ⟨("_law_fail", none), "_law_fail", "_law_fail", defArgs s_l_fail, defBody s_l_fail, defScope s_l_fail, [], []⟩
def d_l_send : He.DefD := ⟨("_law_send", none), "_law_send", "_law_send", defArgs s_l_send, defBody s_l_send, defScope s_l_send, [], []⟩
def d_l_try : He.DefD := ⟨("_law_try", none), "_law_try", "_law_try", defArgs s_l_try, defBody s_l_try, defScope s_l_try, [], []⟩
def d_l_tick : He.DefD := ⟨("_law_tick", none), "_law_tick", "_law_tick", defArgs s_l_tick, defBody s_l_tick, defScope s_l_tick, [], []⟩
def d_l_hand : He.DefD := ⟨("_law_hand", none), "_law_hand", "_law_hand", defArgs s_l_hand, defBody s_l_hand, defScope s_l_hand, [], []⟩
def d_l_lead : He.DefD := ⟨("_law_lead", none), "_law_lead", "_law_lead", defArgs s_l_lead, defBody s_l_lead, defScope s_l_lead, [], []⟩
def d_l_deed : He.DefD := ⟨("_law_deed", none), "_law_deed", "_law_deed", defArgs s_l_deed, defBody s_l_deed, defScope s_l_deed, [], []⟩
def d_l_own_does : He.DefD := ⟨("_law_own_does", none), "_law_own_does", "_law_own_does", defArgs s_l_own_does, defBody s_l_own_does, defScope s_l_own_does, [], []⟩
def d_l_does : He.DefD := ⟨("_law_does", none), "_law_does", "_law_does", defArgs s_l_does, defBody s_l_does, defScope s_l_does, [], []⟩
def d_l_numbers_right : He.DefD := ⟨("_law_numbers_right", none), "_law_numbers_right", "_law_numbers_right", defArgs s_l_numbers_right, defBody s_l_numbers_right, defScope s_l_numbers_right, [], []⟩
def d_l_sent_right : He.DefD := ⟨("_law_sent_right", none), "_law_sent_right", "_law_sent_right", defArgs s_l_sent_right, defBody s_l_sent_right, defScope s_l_sent_right, [], []⟩
def d_law : He.DefD := ⟨("law", none), "law", "law", defArgs s_law, defBody s_law, defScope s_law, [], []⟩
def fn : List He.DefD := [d_is_name, d_need_name, d_is_text, d_need_text, d_is_count, d_need_rule, d_wait_of, d_CallX_initX, d_CallerX_initX, d_Caller_now, d_Caller_say, d_Caller_log, d_Caller_need_address, d_Caller_add_address, d_Caller_road, d_Caller_end_of, d_Caller_lead, d_Caller_call, d_Caller_numbers, d_Caller_send, d_Caller_state, d_Caller_tries, d_Caller_time_of, d_Caller_is_first, d_Caller_busy, d_Caller_due, d_Caller_begin, d_Caller_attempt, d_Caller_fail, d_Caller_answer, d_Caller_tick, d_Caller_go_on, d_Caller_drop, d_Caller_change, d_sign_of, d_written, d_l_cell, d_l_drawn, d_l_word, d_l_told, d_l_rule, d_l_wait, d_l_any_name, d_l_any_text, d_l_own, d_l_real, d_l_may, d_l_due, d_l_fail, d_l_send, d_l_try, d_l_tick, d_l_hand, d_l_lead, d_l_deed, d_l_own_does, d_l_does, d_l_numbers_right, d_l_sent_right, d_law]
def fa : List He.Fa := [.glo "is_name", .glo "need_name", .glo "is_text", .glo "need_text", .glo "is_count", .glo "need_rule", .glo "wait_of", .glo "sign_of", .glo "written", .glo "_law_cell", .glo "_law_drawn", .glo "_law_word", .glo "_law_told", .glo "_law_rule", .glo "_law_wait", .glo "_law_any_name", .glo "_law_any_text", .glo "_law_own", .glo "_law_real", .glo "_law_may", .glo "_law_due", .glo "_law_fail", .glo "_law_send", .glo "_law_try", .glo "_law_tick", .glo "_law_hand", .glo "_law_lead", .glo "_law_deed", .glo "_law_own_does", .glo "_law_does", .glo "_law_numbers_right", .glo "_law_sent_right", .glo "law", .glo "Call", .glo "Caller", .glo "TryError", .glo "BadRule", .glo "BadName", .glo "BadText", .glo "BadTime", .glo "BadCall", .glo "Full", .free "ValueError", .free "all", .free "bool", .free "enumerate", .free "int", .free "isinstance", .free "len", .free "list", .free "max", .free "min", .free "ord", .free "range", .free "sorted", .free "str", .free "sum", .free "tuple", .free "zip", .str "SMALL" "abcdefghijklmnopqrstuvwxyz", .int "MOST_NAME" 4, .int "MOST_TEXT" 20, .int "BARRED" 37, .glo "BOUNDS", .int "MOST_CALLS" 30, .int "MOST_ADDRESSES" 5, .int "MOST_TICKS" 100, .glo "WORDS_callers", .glo "WORDS_papers", .cls "Call", .mkr "Call", .noat "Call" "key", .noat "Call" "goal", .noat "Call" "text", .noat "Call" "word", .noat "Call" "fails", .noat "Call" "time", .noat "Call" "many", .noat "Call" "place", .cls "Caller", .mkr "Caller", .noat "Caller" "rule", .noat "Caller" "clock", .noat "Caller" "roads", .noat "Caller" "calls", .noat "Caller" "rows", .meth "Caller" "now", .meth "Caller" "say", .meth "Caller" "log", .meth "Caller" "need_address", .meth "Caller" "add_address", .meth "Caller" "road", .meth "Caller" "end_of", .meth "Caller" "lead", .meth "Caller" "call", .meth "Caller" "numbers", .meth "Caller" "send", .meth "Caller" "state", .meth "Caller" "tries", .meth "Caller" "time_of", .meth "Caller" "is_first", .meth "Caller" "busy", .meth "Caller" "due", .meth "Caller" "begin", .meth "Caller" "attempt", .meth "Caller" "fail", .meth "Caller" "answer", .meth "Caller" "tick", .meth "Caller" "go_on", .meth "Caller" "drop", .meth "Caller" "change", .exc "TryError", .exc "BadRule", .exc "BadName", .exc "BadText", .exc "BadTime", .exc "BadCall", .exc "Full"]
def cls : List Str := ["BadCall", "BadName", "BadRule", "BadText", "BadTime", "Full"]
def bnds : List (Int × Int) := [(1, 9), (1, 3), (1, 60), (1, 5), (1, 20), (1, 3)]
def boundsB (K : PySem.W.Frag) : Bool := Tr.tupAt K (He.ga K "BOUNDS") ((List.range 6).map fun i => V.ref (Tr.itemA K "BOUNDS" i)) && (List.range 6).all fun i => Tr.tupAt K (Tr.itemA K "BOUNDS" i) [.int (bnds.getD i (0, 0)).1, .int (bnds.getD i (0, 0)).2]
def wordsB (K : PySem.W.Frag) : Bool := Tr.tupAt K (He.ga K "WORDS_callers") [.str "good", .str "later", .str "never"]
def difB (K : PySem.W.Frag) : Bool := decide ((He.cT K ("_law_numbers_right", none)).2 ≠ (He.cT K ("_law_does", none)).2) && decide ((He.cT K ("_law_sent_right", none)).2 ≠ (He.cT K ("_law_does", none)).2) && decide ((He.cT K ("_law_sent_right", none)).2 ≠ (He.cT K ("_law_numbers_right", none)).2) && decide ((He.cT K ("law", none)).2 ≠ (He.cT K ("_law_does", none)).2) && decide ((He.cT K ("law", none)).2 ≠ (He.cT K ("_law_numbers_right", none)).2) && decide ((He.cT K ("law", none)).2 ≠ (He.cT K ("_law_sent_right", none)).2)
abbrev signs : List (Str × He.Dv) := [("w", .str "waits"), ("t", .str "tried"), ("d", .str "done"), ("p", .str "put by"), ("g", .str "gone")]
def tabB (K : PySem.W.Frag) : Bool := He.valsB K (He.ga K "WORDS_papers") signs
def ts : List He.Tab := [(fun K => He.ga K "WORDS_papers", ["w", "t", "d", "p", "g"])]
def ex (K : PySem.W.Frag) : Bool := Tr.wordB K cls && (boundsB K && (wordsB K && (difB K && tabB K)))
theorem ex1 {K : PySem.W.Frag} (h : ex K = true) : Tr.wordB K cls = true := (He.ba h).1
theorem ex2 {K : PySem.W.Frag} (h : ex K = true) : boundsB K = true := (He.ba (He.ba h).2).1
theorem ex3 {K : PySem.W.Frag} (h : ex K = true) : wordsB K = true := (He.ba (He.ba (He.ba h).2).2).1
theorem ex4 {K : PySem.W.Frag} (h : ex K = true) : difB K = true := (He.ba (He.ba (He.ba (He.ba h).2).2).2).1
theorem ex5 {K : PySem.W.Frag} (h : ex K = true) : tabB K = true := (He.ba (He.ba (He.ba (He.ba h).2).2).2).2

def tf : List He.Defn := [("_law_does", none), ("_law_numbers_right", none), ("_law_sent_right", none), ("law", none)]
def loose0 : List PySem.Str := ["TryError", "BadRule", "BadName", "BadText", "BadTime", "BadCall", "Full", "SMALL", "MOST_NAME", "MOST_TEXT", "BARRED", "is_name", "need_name", "is_text", "need_text"]
def loose1 : List PySem.Str := ["BOUNDS", "is_count", "need_rule", "wait_of", "MOST_CALLS", "MOST_ADDRESSES", "MOST_TICKS", "WORDS_callers", "Call", "Caller", "WORDS_papers", "sign_of", "written", "_law_cell", "_law_drawn"]
def loose2 : List PySem.Str := ["_law_word", "_law_told", "_law_rule", "_law_wait", "_law_any_name", "_law_any_text", "_law_own", "_law_real", "_law_may", "_law_due", "_law_fail", "_law_send", "_law_try", "_law_tick", "_law_hand"]
def loose3 : List PySem.Str := ["_law_lead", "_law_deed", "_law_own_does", "_law_does", "_law_numbers_right", "_law_sent_right"]
def loose : List PySem.Str := loose0 ++ loose1 ++ loose2 ++ loose3
def topS (i : Nat) : Stmt := top i
abbrev lawAt : Nat := 57
abbrev R : PySem.W.OpenRow := PySem.W.OpenLaw.row PySem.Challenge.rw_tryroad_k24_callers_refused
/-- what the top has written -/
structure Txt (K : PySem.W.Frag) (mg : Str → Option Value) : Prop where
  c : He.SaysD fa fn K
  m : ex K = true
  x : ∃ h : Heap, K.In h ∧ h.Ns mainGlobals mg
section
variable {K : PySem.W.Frag} {mg : Str → Option Value}
theorem Txt.g_is_name (T : Txt K mg) : mg "is_name" = some (.ref (He.ga K "is_name")) := let ⟨_, X, G⟩ := T.x; He.glo_ok X G (T.c.fact 0 (f := .glo "is_name") rfl)
theorem Txt.g_need_name (T : Txt K mg) : mg "need_name" = some (.ref (He.ga K "need_name")) := let ⟨_, X, G⟩ := T.x; He.glo_ok X G (T.c.fact 1 (f := .glo "need_name") rfl)
theorem Txt.g_is_text (T : Txt K mg) : mg "is_text" = some (.ref (He.ga K "is_text")) := let ⟨_, X, G⟩ := T.x; He.glo_ok X G (T.c.fact 2 (f := .glo "is_text") rfl)
theorem Txt.g_need_text (T : Txt K mg) : mg "need_text" = some (.ref (He.ga K "need_text")) := let ⟨_, X, G⟩ := T.x; He.glo_ok X G (T.c.fact 3 (f := .glo "need_text") rfl)
theorem Txt.g_is_count (T : Txt K mg) : mg "is_count" = some (.ref (He.ga K "is_count")) := let ⟨_, X, G⟩ := T.x; He.glo_ok X G (T.c.fact 4 (f := .glo "is_count") rfl)
theorem Txt.g_need_rule (T : Txt K mg) : mg "need_rule" = some (.ref (He.ga K "need_rule")) := let ⟨_, X, G⟩ := T.x; He.glo_ok X G (T.c.fact 5 (f := .glo "need_rule") rfl)
theorem Txt.g_wait_of (T : Txt K mg) : mg "wait_of" = some (.ref (He.ga K "wait_of")) := let ⟨_, X, G⟩ := T.x; He.glo_ok X G (T.c.fact 6 (f := .glo "wait_of") rfl)
theorem Txt.g_sign_of (T : Txt K mg) : mg "sign_of" = some (.ref (He.ga K "sign_of")) := let ⟨_, X, G⟩ := T.x; He.glo_ok X G (T.c.fact 7 (f := .glo "sign_of") rfl)
theorem Txt.g_written (T : Txt K mg) : mg "written" = some (.ref (He.ga K "written")) := let ⟨_, X, G⟩ := T.x; He.glo_ok X G (T.c.fact 8 (f := .glo "written") rfl)
theorem Txt.g_l_cell (T : Txt K mg) : mg "_law_cell" = some (.ref (He.ga K "_law_cell")) := let ⟨_, X, G⟩ := T.x; He.glo_ok X G (T.c.fact 9 (f := .glo "_law_cell") rfl)
theorem Txt.g_l_drawn (T : Txt K mg) : mg "_law_drawn" = some (.ref (He.ga K "_law_drawn")) := let ⟨_, X, G⟩ := T.x; He.glo_ok X G (T.c.fact 10 (f := .glo "_law_drawn") rfl)
theorem Txt.g_l_word (T : Txt K mg) : mg "_law_word" = some (.ref (He.ga K "_law_word")) := let ⟨_, X, G⟩ := T.x; He.glo_ok X G (T.c.fact 11 (f := .glo "_law_word") rfl)
theorem Txt.g_l_told (T : Txt K mg) : mg "_law_told" = some (.ref (He.ga K "_law_told")) := let ⟨_, X, G⟩ := T.x; He.glo_ok X G (T.c.fact 12 (f := .glo "_law_told") rfl)
theorem Txt.g_l_rule (T : Txt K mg) : mg "_law_rule" = some (.ref (He.ga K "_law_rule")) := let ⟨_, X, G⟩ := T.x; He.glo_ok X G (T.c.fact 13 (f := .glo "_law_rule") rfl)
theorem Txt.g_l_wait (T : Txt K mg) : mg "_law_wait" = some (.ref (He.ga K "_law_wait")) := let ⟨_, X, G⟩ := T.x; He.glo_ok X G (T.c.fact 14 (f := .glo "_law_wait") rfl)
theorem Txt.g_l_any_name (T : Txt K mg) : mg "_law_any_name" = some (.ref (He.ga K "_law_any_name")) := let ⟨_, X, G⟩ := T.x; He.glo_ok X G (T.c.fact 15 (f := .glo "_law_any_name") rfl)
theorem Txt.g_l_any_text (T : Txt K mg) : mg "_law_any_text" = some (.ref (He.ga K "_law_any_text")) := let ⟨_, X, G⟩ := T.x; He.glo_ok X G (T.c.fact 16 (f := .glo "_law_any_text") rfl)
theorem Txt.g_l_own (T : Txt K mg) : mg "_law_own" = some (.ref (He.ga K "_law_own")) := let ⟨_, X, G⟩ := T.x; He.glo_ok X G (T.c.fact 17 (f := .glo "_law_own") rfl)
theorem Txt.g_l_real (T : Txt K mg) : mg "_law_real" = some (.ref (He.ga K "_law_real")) := let ⟨_, X, G⟩ := T.x; He.glo_ok X G (T.c.fact 18 (f := .glo "_law_real") rfl)
theorem Txt.g_l_may (T : Txt K mg) : mg "_law_may" = some (.ref (He.ga K "_law_may")) := let ⟨_, X, G⟩ := T.x; He.glo_ok X G (T.c.fact 19 (f := .glo "_law_may") rfl)
theorem Txt.g_l_due (T : Txt K mg) : mg "_law_due" = some (.ref (He.ga K "_law_due")) := let ⟨_, X, G⟩ := T.x; He.glo_ok X G (T.c.fact 20 (f := .glo "_law_due") rfl)
theorem Txt.g_l_fail (T : Txt K mg) : mg "_law_fail" = some (.ref (He.ga K "_law_fail")) := let ⟨_, X, G⟩ := T.x; He.glo_ok X G (T.c.fact 21 (f := .glo "_law_fail") rfl)
theorem Txt.g_l_send (T : Txt K mg) : mg "_law_send" = some (.ref (He.ga K "_law_send")) := let ⟨_, X, G⟩ := T.x; He.glo_ok X G (T.c.fact 22 (f := .glo "_law_send") rfl)
theorem Txt.g_l_try (T : Txt K mg) : mg "_law_try" = some (.ref (He.ga K "_law_try")) := let ⟨_, X, G⟩ := T.x; He.glo_ok X G (T.c.fact 23 (f := .glo "_law_try") rfl)
theorem Txt.g_l_tick (T : Txt K mg) : mg "_law_tick" = some (.ref (He.ga K "_law_tick")) := let ⟨_, X, G⟩ := T.x; He.glo_ok X G (T.c.fact 24 (f := .glo "_law_tick") rfl)
theorem Txt.g_l_hand (T : Txt K mg) : mg "_law_hand" = some (.ref (He.ga K "_law_hand")) := let ⟨_, X, G⟩ := T.x; He.glo_ok X G (T.c.fact 25 (f := .glo "_law_hand") rfl)
theorem Txt.g_l_lead (T : Txt K mg) : mg "_law_lead" = some (.ref (He.ga K "_law_lead")) := let ⟨_, X, G⟩ := T.x; He.glo_ok X G (T.c.fact 26 (f := .glo "_law_lead") rfl)
theorem Txt.g_l_deed (T : Txt K mg) : mg "_law_deed" = some (.ref (He.ga K "_law_deed")) := let ⟨_, X, G⟩ := T.x; He.glo_ok X G (T.c.fact 27 (f := .glo "_law_deed") rfl)
theorem Txt.g_l_own_does (T : Txt K mg) : mg "_law_own_does" = some (.ref (He.ga K "_law_own_does")) := let ⟨_, X, G⟩ := T.x; He.glo_ok X G (T.c.fact 28 (f := .glo "_law_own_does") rfl)
theorem Txt.g_l_does (T : Txt K mg) : mg "_law_does" = some (.ref (He.ga K "_law_does")) := let ⟨_, X, G⟩ := T.x; He.glo_ok X G (T.c.fact 29 (f := .glo "_law_does") rfl)
theorem Txt.g_l_numbers_right (T : Txt K mg) : mg "_law_numbers_right" = some (.ref (He.ga K "_law_numbers_right")) := let ⟨_, X, G⟩ := T.x; He.glo_ok X G (T.c.fact 30 (f := .glo "_law_numbers_right") rfl)
theorem Txt.g_l_sent_right (T : Txt K mg) : mg "_law_sent_right" = some (.ref (He.ga K "_law_sent_right")) := let ⟨_, X, G⟩ := T.x; He.glo_ok X G (T.c.fact 31 (f := .glo "_law_sent_right") rfl)
theorem Txt.g_law (T : Txt K mg) : mg "law" = some (.ref (He.ga K "law")) := let ⟨_, X, G⟩ := T.x; He.glo_ok X G (T.c.fact 32 (f := .glo "law") rfl)
theorem Txt.g_Call (T : Txt K mg) : mg "Call" = some (.ref (He.ga K "Call")) := let ⟨_, X, G⟩ := T.x; He.glo_ok X G (T.c.fact 33 (f := .glo "Call") rfl)
theorem Txt.g_Caller (T : Txt K mg) : mg "Caller" = some (.ref (He.ga K "Caller")) := let ⟨_, X, G⟩ := T.x; He.glo_ok X G (T.c.fact 34 (f := .glo "Caller") rfl)
theorem Txt.g_TryError (T : Txt K mg) : mg "TryError" = some (.ref (He.ga K "TryError")) := let ⟨_, X, G⟩ := T.x; He.glo_ok X G (T.c.fact 35 (f := .glo "TryError") rfl)
theorem Txt.g_BadRule (T : Txt K mg) : mg "BadRule" = some (.ref (He.ga K "BadRule")) := let ⟨_, X, G⟩ := T.x; He.glo_ok X G (T.c.fact 36 (f := .glo "BadRule") rfl)
theorem Txt.g_BadName (T : Txt K mg) : mg "BadName" = some (.ref (He.ga K "BadName")) := let ⟨_, X, G⟩ := T.x; He.glo_ok X G (T.c.fact 37 (f := .glo "BadName") rfl)
theorem Txt.g_BadText (T : Txt K mg) : mg "BadText" = some (.ref (He.ga K "BadText")) := let ⟨_, X, G⟩ := T.x; He.glo_ok X G (T.c.fact 38 (f := .glo "BadText") rfl)
theorem Txt.g_BadTime (T : Txt K mg) : mg "BadTime" = some (.ref (He.ga K "BadTime")) := let ⟨_, X, G⟩ := T.x; He.glo_ok X G (T.c.fact 39 (f := .glo "BadTime") rfl)
theorem Txt.g_BadCall (T : Txt K mg) : mg "BadCall" = some (.ref (He.ga K "BadCall")) := let ⟨_, X, G⟩ := T.x; He.glo_ok X G (T.c.fact 40 (f := .glo "BadCall") rfl)
theorem Txt.g_Full (T : Txt K mg) : mg "Full" = some (.ref (He.ga K "Full")) := let ⟨_, X, G⟩ := T.x; He.glo_ok X G (T.c.fact 41 (f := .glo "Full") rfl)
theorem Txt.n_ValueError (T : Txt K mg) : mg "ValueError" = none := let ⟨_, X, G⟩ := T.x; He.free_ok X G (T.c.fact 42 (f := .free "ValueError") rfl)
theorem Txt.n_all (T : Txt K mg) : mg "all" = none := let ⟨_, X, G⟩ := T.x; He.free_ok X G (T.c.fact 43 (f := .free "all") rfl)
theorem Txt.n_bool (T : Txt K mg) : mg "bool" = none := let ⟨_, X, G⟩ := T.x; He.free_ok X G (T.c.fact 44 (f := .free "bool") rfl)
theorem Txt.n_enumerate (T : Txt K mg) : mg "enumerate" = none := let ⟨_, X, G⟩ := T.x; He.free_ok X G (T.c.fact 45 (f := .free "enumerate") rfl)
theorem Txt.n_int (T : Txt K mg) : mg "int" = none := let ⟨_, X, G⟩ := T.x; He.free_ok X G (T.c.fact 46 (f := .free "int") rfl)
theorem Txt.n_isinstance (T : Txt K mg) : mg "isinstance" = none := let ⟨_, X, G⟩ := T.x; He.free_ok X G (T.c.fact 47 (f := .free "isinstance") rfl)
theorem Txt.n_len (T : Txt K mg) : mg "len" = none := let ⟨_, X, G⟩ := T.x; He.free_ok X G (T.c.fact 48 (f := .free "len") rfl)
theorem Txt.n_list (T : Txt K mg) : mg "list" = none := let ⟨_, X, G⟩ := T.x; He.free_ok X G (T.c.fact 49 (f := .free "list") rfl)
theorem Txt.n_max (T : Txt K mg) : mg "max" = none := let ⟨_, X, G⟩ := T.x; He.free_ok X G (T.c.fact 50 (f := .free "max") rfl)
theorem Txt.n_min (T : Txt K mg) : mg "min" = none := let ⟨_, X, G⟩ := T.x; He.free_ok X G (T.c.fact 51 (f := .free "min") rfl)
theorem Txt.n_ord (T : Txt K mg) : mg "ord" = none := let ⟨_, X, G⟩ := T.x; He.free_ok X G (T.c.fact 52 (f := .free "ord") rfl)
theorem Txt.n_range (T : Txt K mg) : mg "range" = none := let ⟨_, X, G⟩ := T.x; He.free_ok X G (T.c.fact 53 (f := .free "range") rfl)
theorem Txt.n_sorted (T : Txt K mg) : mg "sorted" = none := let ⟨_, X, G⟩ := T.x; He.free_ok X G (T.c.fact 54 (f := .free "sorted") rfl)
theorem Txt.n_str (T : Txt K mg) : mg "str" = none := let ⟨_, X, G⟩ := T.x; He.free_ok X G (T.c.fact 55 (f := .free "str") rfl)
theorem Txt.n_sum (T : Txt K mg) : mg "sum" = none := let ⟨_, X, G⟩ := T.x; He.free_ok X G (T.c.fact 56 (f := .free "sum") rfl)
theorem Txt.n_tuple (T : Txt K mg) : mg "tuple" = none := let ⟨_, X, G⟩ := T.x; He.free_ok X G (T.c.fact 57 (f := .free "tuple") rfl)
theorem Txt.n_zip (T : Txt K mg) : mg "zip" = none := let ⟨_, X, G⟩ := T.x; He.free_ok X G (T.c.fact 58 (f := .free "zip") rfl)
theorem Txt.i_SMALL (T : Txt K mg) : ∃ u, mg "SMALL" = some u ∧ RelV (.str "abcdefghijklmnopqrstuvwxyz") u := let ⟨_, X, G⟩ := T.x; let ⟨t, e⟩ := He.str_ok X G (T.c.fact 59 (f := .str "SMALL" "abcdefghijklmnopqrstuvwxyz") rfl); ⟨_, e, t, rfl⟩
theorem Txt.i_MOST_NAME (T : Txt K mg) : ∃ u, mg "MOST_NAME" = some u ∧ RelV (.int 4) u := let ⟨_, X, G⟩ := T.x; let ⟨t, e⟩ := He.int_ok X G (T.c.fact 60 (f := .int "MOST_NAME" 4) rfl); ⟨_, e, t, rfl⟩
theorem Txt.i_MOST_TEXT (T : Txt K mg) : ∃ u, mg "MOST_TEXT" = some u ∧ RelV (.int 20) u := let ⟨_, X, G⟩ := T.x; let ⟨t, e⟩ := He.int_ok X G (T.c.fact 61 (f := .int "MOST_TEXT" 20) rfl); ⟨_, e, t, rfl⟩
theorem Txt.i_BARRED (T : Txt K mg) : ∃ u, mg "BARRED" = some u ∧ RelV (.int 37) u := let ⟨_, X, G⟩ := T.x; let ⟨t, e⟩ := He.int_ok X G (T.c.fact 62 (f := .int "BARRED" 37) rfl); ⟨_, e, t, rfl⟩
theorem Txt.g_BOUNDS (T : Txt K mg) : mg "BOUNDS" = some (.ref (He.ga K "BOUNDS")) := let ⟨_, X, G⟩ := T.x; He.glo_ok X G (T.c.fact 63 (f := .glo "BOUNDS") rfl)
theorem Txt.i_MOST_CALLS (T : Txt K mg) : ∃ u, mg "MOST_CALLS" = some u ∧ RelV (.int 30) u := let ⟨_, X, G⟩ := T.x; let ⟨t, e⟩ := He.int_ok X G (T.c.fact 64 (f := .int "MOST_CALLS" 30) rfl); ⟨_, e, t, rfl⟩
theorem Txt.i_MOST_ADDRESSES (T : Txt K mg) : ∃ u, mg "MOST_ADDRESSES" = some u ∧ RelV (.int 5) u := let ⟨_, X, G⟩ := T.x; let ⟨t, e⟩ := He.int_ok X G (T.c.fact 65 (f := .int "MOST_ADDRESSES" 5) rfl); ⟨_, e, t, rfl⟩
theorem Txt.i_MOST_TICKS (T : Txt K mg) : ∃ u, mg "MOST_TICKS" = some u ∧ RelV (.int 100) u := let ⟨_, X, G⟩ := T.x; let ⟨t, e⟩ := He.int_ok X G (T.c.fact 66 (f := .int "MOST_TICKS" 100) rfl); ⟨_, e, t, rfl⟩
theorem Txt.g_WORDS_callers (T : Txt K mg) : mg "WORDS_callers" = some (.ref (He.ga K "WORDS_callers")) := let ⟨_, X, G⟩ := T.x; He.glo_ok X G (T.c.fact 67 (f := .glo "WORDS_callers") rfl)
theorem Txt.g_WORDS_papers (T : Txt K mg) : mg "WORDS_papers" = some (.ref (He.ga K "WORDS_papers")) := let ⟨_, X, G⟩ := T.x; He.glo_ok X G (T.c.fact 68 (f := .glo "WORDS_papers") rfl)
theorem Txt.c_Call (T : Txt K mg) : Cls K (He.ga K "Call") := He.cls_ok (T.c.fact 69 (f := .cls "Call") rfl)
theorem Txt.k_Call (T : Txt K mg) : Mk K (He.ga K "Call") (He.ma K (He.ga K "Call") "__init__") := He.mkr_ok (T.c.fact 70 (f := .mkr "Call") rfl)
theorem Txt.a_Call_key (T : Txt K mg) : NoAttr K (He.ga K "Call") "key" := He.noat_ok (T.c.fact 71 (f := .noat "Call" "key") rfl)
theorem Txt.a_Call_goal (T : Txt K mg) : NoAttr K (He.ga K "Call") "goal" := He.noat_ok (T.c.fact 72 (f := .noat "Call" "goal") rfl)
theorem Txt.a_Call_text (T : Txt K mg) : NoAttr K (He.ga K "Call") "text" := He.noat_ok (T.c.fact 73 (f := .noat "Call" "text") rfl)
theorem Txt.a_Call_word (T : Txt K mg) : NoAttr K (He.ga K "Call") "word" := He.noat_ok (T.c.fact 74 (f := .noat "Call" "word") rfl)
theorem Txt.a_Call_fails (T : Txt K mg) : NoAttr K (He.ga K "Call") "fails" := He.noat_ok (T.c.fact 75 (f := .noat "Call" "fails") rfl)
theorem Txt.a_Call_time (T : Txt K mg) : NoAttr K (He.ga K "Call") "time" := He.noat_ok (T.c.fact 76 (f := .noat "Call" "time") rfl)
theorem Txt.a_Call_many (T : Txt K mg) : NoAttr K (He.ga K "Call") "many" := He.noat_ok (T.c.fact 77 (f := .noat "Call" "many") rfl)
theorem Txt.a_Call_place (T : Txt K mg) : NoAttr K (He.ga K "Call") "place" := He.noat_ok (T.c.fact 78 (f := .noat "Call" "place") rfl)
theorem Txt.c_Caller (T : Txt K mg) : Cls K (He.ga K "Caller") := He.cls_ok (T.c.fact 79 (f := .cls "Caller") rfl)
theorem Txt.k_Caller (T : Txt K mg) : Mk K (He.ga K "Caller") (He.ma K (He.ga K "Caller") "__init__") := He.mkr_ok (T.c.fact 80 (f := .mkr "Caller") rfl)
theorem Txt.a_Caller_rule (T : Txt K mg) : NoAttr K (He.ga K "Caller") "rule" := He.noat_ok (T.c.fact 81 (f := .noat "Caller" "rule") rfl)
theorem Txt.a_Caller_clock (T : Txt K mg) : NoAttr K (He.ga K "Caller") "clock" := He.noat_ok (T.c.fact 82 (f := .noat "Caller" "clock") rfl)
theorem Txt.a_Caller_roads (T : Txt K mg) : NoAttr K (He.ga K "Caller") "roads" := He.noat_ok (T.c.fact 83 (f := .noat "Caller" "roads") rfl)
theorem Txt.a_Caller_calls (T : Txt K mg) : NoAttr K (He.ga K "Caller") "calls" := He.noat_ok (T.c.fact 84 (f := .noat "Caller" "calls") rfl)
theorem Txt.a_Caller_rows (T : Txt K mg) : NoAttr K (He.ga K "Caller") "rows" := He.noat_ok (T.c.fact 85 (f := .noat "Caller" "rows") rfl)
theorem Txt.m_Caller_now (T : Txt K mg) : Meth K (He.ga K "Caller") "now" (He.ma K (He.ga K "Caller") "now") := He.meth_ok (T.c.fact 86 (f := .meth "Caller" "now") rfl)
theorem Txt.m_Caller_say (T : Txt K mg) : Meth K (He.ga K "Caller") "say" (He.ma K (He.ga K "Caller") "say") := He.meth_ok (T.c.fact 87 (f := .meth "Caller" "say") rfl)
theorem Txt.m_Caller_log (T : Txt K mg) : Meth K (He.ga K "Caller") "log" (He.ma K (He.ga K "Caller") "log") := He.meth_ok (T.c.fact 88 (f := .meth "Caller" "log") rfl)
theorem Txt.m_Caller_need_address (T : Txt K mg) : Meth K (He.ga K "Caller") "need_address" (He.ma K (He.ga K "Caller") "need_address") := He.meth_ok (T.c.fact 89 (f := .meth "Caller" "need_address") rfl)
theorem Txt.m_Caller_add_address (T : Txt K mg) : Meth K (He.ga K "Caller") "add_address" (He.ma K (He.ga K "Caller") "add_address") := He.meth_ok (T.c.fact 90 (f := .meth "Caller" "add_address") rfl)
theorem Txt.m_Caller_road (T : Txt K mg) : Meth K (He.ga K "Caller") "road" (He.ma K (He.ga K "Caller") "road") := He.meth_ok (T.c.fact 91 (f := .meth "Caller" "road") rfl)
theorem Txt.m_Caller_end_of (T : Txt K mg) : Meth K (He.ga K "Caller") "end_of" (He.ma K (He.ga K "Caller") "end_of") := He.meth_ok (T.c.fact 92 (f := .meth "Caller" "end_of") rfl)
theorem Txt.m_Caller_lead (T : Txt K mg) : Meth K (He.ga K "Caller") "lead" (He.ma K (He.ga K "Caller") "lead") := He.meth_ok (T.c.fact 93 (f := .meth "Caller" "lead") rfl)
theorem Txt.m_Caller_call (T : Txt K mg) : Meth K (He.ga K "Caller") "call" (He.ma K (He.ga K "Caller") "call") := He.meth_ok (T.c.fact 94 (f := .meth "Caller" "call") rfl)
theorem Txt.m_Caller_numbers (T : Txt K mg) : Meth K (He.ga K "Caller") "numbers" (He.ma K (He.ga K "Caller") "numbers") := He.meth_ok (T.c.fact 95 (f := .meth "Caller" "numbers") rfl)
theorem Txt.m_Caller_send (T : Txt K mg) : Meth K (He.ga K "Caller") "send" (He.ma K (He.ga K "Caller") "send") := He.meth_ok (T.c.fact 96 (f := .meth "Caller" "send") rfl)
theorem Txt.m_Caller_state (T : Txt K mg) : Meth K (He.ga K "Caller") "state" (He.ma K (He.ga K "Caller") "state") := He.meth_ok (T.c.fact 97 (f := .meth "Caller" "state") rfl)
theorem Txt.m_Caller_tries (T : Txt K mg) : Meth K (He.ga K "Caller") "tries" (He.ma K (He.ga K "Caller") "tries") := He.meth_ok (T.c.fact 98 (f := .meth "Caller" "tries") rfl)
theorem Txt.m_Caller_time_of (T : Txt K mg) : Meth K (He.ga K "Caller") "time_of" (He.ma K (He.ga K "Caller") "time_of") := He.meth_ok (T.c.fact 99 (f := .meth "Caller" "time_of") rfl)
theorem Txt.m_Caller_is_first (T : Txt K mg) : Meth K (He.ga K "Caller") "is_first" (He.ma K (He.ga K "Caller") "is_first") := He.meth_ok (T.c.fact 100 (f := .meth "Caller" "is_first") rfl)
theorem Txt.m_Caller_busy (T : Txt K mg) : Meth K (He.ga K "Caller") "busy" (He.ma K (He.ga K "Caller") "busy") := He.meth_ok (T.c.fact 101 (f := .meth "Caller" "busy") rfl)
theorem Txt.m_Caller_due (T : Txt K mg) : Meth K (He.ga K "Caller") "due" (He.ma K (He.ga K "Caller") "due") := He.meth_ok (T.c.fact 102 (f := .meth "Caller" "due") rfl)
theorem Txt.m_Caller_begin (T : Txt K mg) : Meth K (He.ga K "Caller") "begin" (He.ma K (He.ga K "Caller") "begin") := He.meth_ok (T.c.fact 103 (f := .meth "Caller" "begin") rfl)
theorem Txt.m_Caller_attempt (T : Txt K mg) : Meth K (He.ga K "Caller") "attempt" (He.ma K (He.ga K "Caller") "attempt") := He.meth_ok (T.c.fact 104 (f := .meth "Caller" "attempt") rfl)
theorem Txt.m_Caller_fail (T : Txt K mg) : Meth K (He.ga K "Caller") "fail" (He.ma K (He.ga K "Caller") "fail") := He.meth_ok (T.c.fact 105 (f := .meth "Caller" "fail") rfl)
theorem Txt.m_Caller_answer (T : Txt K mg) : Meth K (He.ga K "Caller") "answer" (He.ma K (He.ga K "Caller") "answer") := He.meth_ok (T.c.fact 106 (f := .meth "Caller" "answer") rfl)
theorem Txt.m_Caller_tick (T : Txt K mg) : Meth K (He.ga K "Caller") "tick" (He.ma K (He.ga K "Caller") "tick") := He.meth_ok (T.c.fact 107 (f := .meth "Caller" "tick") rfl)
theorem Txt.m_Caller_go_on (T : Txt K mg) : Meth K (He.ga K "Caller") "go_on" (He.ma K (He.ga K "Caller") "go_on") := He.meth_ok (T.c.fact 108 (f := .meth "Caller" "go_on") rfl)
theorem Txt.m_Caller_drop (T : Txt K mg) : Meth K (He.ga K "Caller") "drop" (He.ma K (He.ga K "Caller") "drop") := He.meth_ok (T.c.fact 109 (f := .meth "Caller" "drop") rfl)
theorem Txt.m_Caller_change (T : Txt K mg) : Meth K (He.ga K "Caller") "change" (He.ma K (He.ga K "Caller") "change") := He.meth_ok (T.c.fact 110 (f := .meth "Caller" "change") rfl)
theorem Txt.e_TryError (T : Txt K mg) : (He.Fa.exc "TryError").ok K = true := T.c.fact 111 (f := .exc "TryError") rfl
theorem Txt.e_BadRule (T : Txt K mg) : (He.Fa.exc "BadRule").ok K = true := T.c.fact 112 (f := .exc "BadRule") rfl
theorem Txt.e_BadName (T : Txt K mg) : (He.Fa.exc "BadName").ok K = true := T.c.fact 113 (f := .exc "BadName") rfl
theorem Txt.e_BadText (T : Txt K mg) : (He.Fa.exc "BadText").ok K = true := T.c.fact 114 (f := .exc "BadText") rfl
theorem Txt.e_BadTime (T : Txt K mg) : (He.Fa.exc "BadTime").ok K = true := T.c.fact 115 (f := .exc "BadTime") rfl
theorem Txt.e_BadCall (T : Txt K mg) : (He.Fa.exc "BadCall").ok K = true := T.c.fact 116 (f := .exc "BadCall") rfl
theorem Txt.e_Full (T : Txt K mg) : (He.Fa.exc "Full").ok K = true := T.c.fact 117 (f := .exc "Full") rfl
theorem Txt.f_is_name (T : Txt K mg) : ∃ fd, FunD K "is_name" "is_name" (defArgs s_is_name) (defBody s_is_name) (defScope s_is_name) [] [] (He.ga K "is_name") fd := T.c.def_ 0 (d := d_is_name) rfl
theorem Txt.f_need_name (T : Txt K mg) : ∃ fd, FunD K "need_name" "need_name" (defArgs s_need_name) (defBody s_need_name) (defScope s_need_name) [] [] (He.ga K "need_name") fd := T.c.def_ 1 (d := d_need_name) rfl
theorem Txt.f_is_text (T : Txt K mg) : ∃ fd, FunD K "is_text" "is_text" (defArgs s_is_text) (defBody s_is_text) (defScope s_is_text) [] [] (He.ga K "is_text") fd := T.c.def_ 2 (d := d_is_text) rfl
theorem Txt.f_need_text (T : Txt K mg) : ∃ fd, FunD K "need_text" "need_text" (defArgs s_need_text) (defBody s_need_text) (defScope s_need_text) [] [] (He.ga K "need_text") fd := T.c.def_ 3 (d := d_need_text) rfl
theorem Txt.f_is_count (T : Txt K mg) : ∃ fd, FunD K "is_count" "is_count" (defArgs s_is_count) (defBody s_is_count) (defScope s_is_count) [] [] (He.ga K "is_count") fd := T.c.def_ 4 (d := d_is_count) rfl
theorem Txt.f_need_rule (T : Txt K mg) : ∃ fd, FunD K "need_rule" "need_rule" (defArgs s_need_rule) (defBody s_need_rule) (defScope s_need_rule) [] [] (He.ga K "need_rule") fd := T.c.def_ 5 (d := d_need_rule) rfl
theorem Txt.f_wait_of (T : Txt K mg) : ∃ fd, FunD K "wait_of" "wait_of" (defArgs s_wait_of) (defBody s_wait_of) (defScope s_wait_of) [] [] (He.ga K "wait_of") fd := T.c.def_ 6 (d := d_wait_of) rfl
theorem Txt.f_CallX_initX (T : Txt K mg) : ∃ fd, FunD K "__init__" "Call.__init__" (defArgs s_CallX_initX) (defBody s_CallX_initX) (defScope s_CallX_initX) [] [] (He.ma K (He.ga K "Call") "__init__") fd := T.c.def_ 7 (d := d_CallX_initX) rfl
theorem Txt.f_CallerX_initX (T : Txt K mg) : ∃ fd, FunD K "__init__" "Caller.__init__" (defArgs s_CallerX_initX) (defBody s_CallerX_initX) (defScope s_CallerX_initX) [] [] (He.ma K (He.ga K "Caller") "__init__") fd := T.c.def_ 8 (d := d_CallerX_initX) rfl
theorem Txt.f_Caller_now (T : Txt K mg) : ∃ fd, FunD K "now" "Caller.now" (defArgs s_Caller_now) (defBody s_Caller_now) (defScope s_Caller_now) [] [] (He.ma K (He.ga K "Caller") "now") fd := T.c.def_ 9 (d := d_Caller_now) rfl
theorem Txt.f_Caller_say (T : Txt K mg) : ∃ fd, FunD K "say" "Caller.say" (defArgs s_Caller_say) (defBody s_Caller_say) (defScope s_Caller_say) [] [] (He.ma K (He.ga K "Caller") "say") fd := T.c.def_ 10 (d := d_Caller_say) rfl
theorem Txt.f_Caller_log (T : Txt K mg) : ∃ fd, FunD K "log" "Caller.log" (defArgs s_Caller_log) (defBody s_Caller_log) (defScope s_Caller_log) [] [] (He.ma K (He.ga K "Caller") "log") fd := T.c.def_ 11 (d := d_Caller_log) rfl
theorem Txt.f_Caller_need_address (T : Txt K mg) : ∃ fd, FunD K "need_address" "Caller.need_address" (defArgs s_Caller_need_address) (defBody s_Caller_need_address) (defScope s_Caller_need_address) [] [] (He.ma K (He.ga K "Caller") "need_address") fd := T.c.def_ 12 (d := d_Caller_need_address) rfl
theorem Txt.f_Caller_add_address (T : Txt K mg) : ∃ fd, FunD K "add_address" "Caller.add_address" (defArgs s_Caller_add_address) (defBody s_Caller_add_address) (defScope s_Caller_add_address) [] [] (He.ma K (He.ga K "Caller") "add_address") fd := T.c.def_ 13 (d := d_Caller_add_address) rfl
theorem Txt.f_Caller_road (T : Txt K mg) : ∃ fd, FunD K "road" "Caller.road" (defArgs s_Caller_road) (defBody s_Caller_road) (defScope s_Caller_road) [] [] (He.ma K (He.ga K "Caller") "road") fd := T.c.def_ 14 (d := d_Caller_road) rfl
theorem Txt.f_Caller_end_of (T : Txt K mg) : ∃ fd, FunD K "end_of" "Caller.end_of" (defArgs s_Caller_end_of) (defBody s_Caller_end_of) (defScope s_Caller_end_of) [] [] (He.ma K (He.ga K "Caller") "end_of") fd := T.c.def_ 15 (d := d_Caller_end_of) rfl
theorem Txt.f_Caller_lead (T : Txt K mg) : ∃ fd, FunD K "lead" "Caller.lead" (defArgs s_Caller_lead) (defBody s_Caller_lead) (defScope s_Caller_lead) [] [] (He.ma K (He.ga K "Caller") "lead") fd := T.c.def_ 16 (d := d_Caller_lead) rfl
theorem Txt.f_Caller_call (T : Txt K mg) : ∃ fd, FunD K "call" "Caller.call" (defArgs s_Caller_call) (defBody s_Caller_call) (defScope s_Caller_call) [] [] (He.ma K (He.ga K "Caller") "call") fd := T.c.def_ 17 (d := d_Caller_call) rfl
theorem Txt.f_Caller_numbers (T : Txt K mg) : ∃ fd, FunD K "numbers" "Caller.numbers" (defArgs s_Caller_numbers) (defBody s_Caller_numbers) (defScope s_Caller_numbers) [] [] (He.ma K (He.ga K "Caller") "numbers") fd := T.c.def_ 18 (d := d_Caller_numbers) rfl
theorem Txt.f_Caller_send (T : Txt K mg) : ∃ fd, FunD K "send" "Caller.send" (defArgs s_Caller_send) (defBody s_Caller_send) (defScope s_Caller_send) [] [] (He.ma K (He.ga K "Caller") "send") fd := T.c.def_ 19 (d := d_Caller_send) rfl
theorem Txt.f_Caller_state (T : Txt K mg) : ∃ fd, FunD K "state" "Caller.state" (defArgs s_Caller_state) (defBody s_Caller_state) (defScope s_Caller_state) [] [] (He.ma K (He.ga K "Caller") "state") fd := T.c.def_ 20 (d := d_Caller_state) rfl
theorem Txt.f_Caller_tries (T : Txt K mg) : ∃ fd, FunD K "tries" "Caller.tries" (defArgs s_Caller_tries) (defBody s_Caller_tries) (defScope s_Caller_tries) [] [] (He.ma K (He.ga K "Caller") "tries") fd := T.c.def_ 21 (d := d_Caller_tries) rfl
theorem Txt.f_Caller_time_of (T : Txt K mg) : ∃ fd, FunD K "time_of" "Caller.time_of" (defArgs s_Caller_time_of) (defBody s_Caller_time_of) (defScope s_Caller_time_of) [] [] (He.ma K (He.ga K "Caller") "time_of") fd := T.c.def_ 22 (d := d_Caller_time_of) rfl
theorem Txt.f_Caller_is_first (T : Txt K mg) : ∃ fd, FunD K "is_first" "Caller.is_first" (defArgs s_Caller_is_first) (defBody s_Caller_is_first) (defScope s_Caller_is_first) [] [] (He.ma K (He.ga K "Caller") "is_first") fd := T.c.def_ 23 (d := d_Caller_is_first) rfl
theorem Txt.f_Caller_busy (T : Txt K mg) : ∃ fd, FunD K "busy" "Caller.busy" (defArgs s_Caller_busy) (defBody s_Caller_busy) (defScope s_Caller_busy) [] [] (He.ma K (He.ga K "Caller") "busy") fd := T.c.def_ 24 (d := d_Caller_busy) rfl
theorem Txt.f_Caller_due (T : Txt K mg) : ∃ fd, FunD K "due" "Caller.due" (defArgs s_Caller_due) (defBody s_Caller_due) (defScope s_Caller_due) [] [] (He.ma K (He.ga K "Caller") "due") fd := T.c.def_ 25 (d := d_Caller_due) rfl
theorem Txt.f_Caller_begin (T : Txt K mg) : ∃ fd, FunD K "begin" "Caller.begin" (defArgs s_Caller_begin) (defBody s_Caller_begin) (defScope s_Caller_begin) [] [] (He.ma K (He.ga K "Caller") "begin") fd := T.c.def_ 26 (d := d_Caller_begin) rfl
theorem Txt.f_Caller_attempt (T : Txt K mg) : ∃ fd, FunD K "attempt" "Caller.attempt" (defArgs s_Caller_attempt) (defBody s_Caller_attempt) (defScope s_Caller_attempt) [] [] (He.ma K (He.ga K "Caller") "attempt") fd := T.c.def_ 27 (d := d_Caller_attempt) rfl
theorem Txt.f_Caller_fail (T : Txt K mg) : ∃ fd, FunD K "fail" "Caller.fail" (defArgs s_Caller_fail) (defBody s_Caller_fail) (defScope s_Caller_fail) [] [] (He.ma K (He.ga K "Caller") "fail") fd := T.c.def_ 28 (d := d_Caller_fail) rfl
theorem Txt.f_Caller_answer (T : Txt K mg) : ∃ fd, FunD K "answer" "Caller.answer" (defArgs s_Caller_answer) (defBody s_Caller_answer) (defScope s_Caller_answer) [] [] (He.ma K (He.ga K "Caller") "answer") fd := T.c.def_ 29 (d := d_Caller_answer) rfl
theorem Txt.f_Caller_tick (T : Txt K mg) : ∃ fd, FunD K "tick" "Caller.tick" (defArgs s_Caller_tick) (defBody s_Caller_tick) (defScope s_Caller_tick) [] [] (He.ma K (He.ga K "Caller") "tick") fd := T.c.def_ 30 (d := d_Caller_tick) rfl
theorem Txt.f_Caller_go_on (T : Txt K mg) : ∃ fd, FunD K "go_on" "Caller.go_on" (defArgs s_Caller_go_on) (defBody s_Caller_go_on) (defScope s_Caller_go_on) [] [] (He.ma K (He.ga K "Caller") "go_on") fd := T.c.def_ 31 (d := d_Caller_go_on) rfl
theorem Txt.f_Caller_drop (T : Txt K mg) : ∃ fd, FunD K "drop" "Caller.drop" (defArgs s_Caller_drop) (defBody s_Caller_drop) (defScope s_Caller_drop) [] [] (He.ma K (He.ga K "Caller") "drop") fd := T.c.def_ 32 (d := d_Caller_drop) rfl
theorem Txt.f_Caller_change (T : Txt K mg) : ∃ fd, FunD K "change" "Caller.change" (defArgs s_Caller_change) (defBody s_Caller_change) (defScope s_Caller_change) [] [] (He.ma K (He.ga K "Caller") "change") fd := T.c.def_ 33 (d := d_Caller_change) rfl
theorem Txt.f_sign_of (T : Txt K mg) : ∃ fd, FunD K "sign_of" "sign_of" (defArgs s_sign_of) (defBody s_sign_of) (defScope s_sign_of) [] [] (He.ga K "sign_of") fd := T.c.def_ 34 (d := d_sign_of) rfl
theorem Txt.f_written (T : Txt K mg) : ∃ fd, FunD K "written" "written" (defArgs s_written) (defBody s_written) (defScope s_written) [] [] (He.ga K "written") fd := T.c.def_ 35 (d := d_written) rfl
theorem Txt.f_l_cell (T : Txt K mg) : ∃ fd, FunD K "_law_cell" "_law_cell" (defArgs s_l_cell) (defBody s_l_cell) (defScope s_l_cell) [] [] (He.ga K "_law_cell") fd := T.c.def_ 36 (d := d_l_cell) rfl
theorem Txt.f_l_drawn (T : Txt K mg) : ∃ fd, FunD K "_law_drawn" "_law_drawn" (defArgs s_l_drawn) (defBody s_l_drawn) (defScope s_l_drawn) [] [] (He.ga K "_law_drawn") fd := T.c.def_ 37 (d := d_l_drawn) rfl
theorem Txt.f_l_word (T : Txt K mg) : ∃ fd, FunD K "_law_word" "_law_word" (defArgs s_l_word) (defBody s_l_word) (defScope s_l_word) [] [] (He.ga K "_law_word") fd := T.c.def_ 38 (d := d_l_word) rfl
theorem Txt.f_l_told (T : Txt K mg) : ∃ fd, FunD K "_law_told" "_law_told" (defArgs s_l_told) (defBody s_l_told) (defScope s_l_told) [] [] (He.ga K "_law_told") fd := T.c.def_ 39 (d := d_l_told) rfl
theorem Txt.f_l_rule (T : Txt K mg) : ∃ fd, FunD K "_law_rule" "_law_rule" (defArgs s_l_rule) (defBody s_l_rule) (defScope s_l_rule) [] [] (He.ga K "_law_rule") fd := T.c.def_ 40 (d := d_l_rule) rfl
theorem Txt.f_l_wait (T : Txt K mg) : ∃ fd, FunD K "_law_wait" "_law_wait" (defArgs s_l_wait) (defBody s_l_wait) (defScope s_l_wait) [] [] (He.ga K "_law_wait") fd := T.c.def_ 41 (d := d_l_wait) rfl
theorem Txt.f_l_any_name (T : Txt K mg) : ∃ fd, FunD K "_law_any_name" "_law_any_name" (defArgs s_l_any_name) (defBody s_l_any_name) (defScope s_l_any_name) [] [] (He.ga K "_law_any_name") fd := T.c.def_ 42 (d := d_l_any_name) rfl
theorem Txt.f_l_any_text (T : Txt K mg) : ∃ fd, FunD K "_law_any_text" "_law_any_text" (defArgs s_l_any_text) (defBody s_l_any_text) (defScope s_l_any_text) [] [] (He.ga K "_law_any_text") fd := T.c.def_ 43 (d := d_l_any_text) rfl
theorem Txt.f_l_own (T : Txt K mg) : ∃ fd, FunD K "_law_own" "_law_own" (defArgs s_l_own) (defBody s_l_own) (defScope s_l_own) [] [] (He.ga K "_law_own") fd := T.c.def_ 44 (d := d_l_own) rfl
theorem Txt.f_l_real (T : Txt K mg) : ∃ fd, FunD K "_law_real" "_law_real" (defArgs s_l_real) (defBody s_l_real) (defScope s_l_real) [] [] (He.ga K "_law_real") fd := T.c.def_ 45 (d := d_l_real) rfl
theorem Txt.f_l_may (T : Txt K mg) : ∃ fd, FunD K "_law_may" "_law_may" (defArgs s_l_may) (defBody s_l_may) (defScope s_l_may) [] [] (He.ga K "_law_may") fd := T.c.def_ 46 (d := d_l_may) rfl
theorem Txt.f_l_due (T : Txt K mg) : ∃ fd, FunD K "_law_due" "_law_due" (defArgs s_l_due) (defBody s_l_due) (defScope s_l_due) [] [] (He.ga K "_law_due") fd := T.c.def_ 47 (d := d_l_due) rfl
theorem Txt.f_l_fail (T : Txt K mg) : ∃ fd, FunD K "_law_fail" "_law_fail" (defArgs s_l_fail) (defBody s_l_fail) (defScope s_l_fail) [] [] (He.ga K "_law_fail") fd := T.c.def_ 48 (d := d_l_fail) rfl
theorem Txt.f_l_send (T : Txt K mg) : ∃ fd, FunD K "_law_send" "_law_send" (defArgs s_l_send) (defBody s_l_send) (defScope s_l_send) [] [] (He.ga K "_law_send") fd := T.c.def_ 49 (d := d_l_send) rfl
theorem Txt.f_l_try (T : Txt K mg) : ∃ fd, FunD K "_law_try" "_law_try" (defArgs s_l_try) (defBody s_l_try) (defScope s_l_try) [] [] (He.ga K "_law_try") fd := T.c.def_ 50 (d := d_l_try) rfl
theorem Txt.f_l_tick (T : Txt K mg) : ∃ fd, FunD K "_law_tick" "_law_tick" (defArgs s_l_tick) (defBody s_l_tick) (defScope s_l_tick) [] [] (He.ga K "_law_tick") fd := T.c.def_ 51 (d := d_l_tick) rfl
theorem Txt.f_l_hand (T : Txt K mg) : ∃ fd, FunD K "_law_hand" "_law_hand" (defArgs s_l_hand) (defBody s_l_hand) (defScope s_l_hand) [] [] (He.ga K "_law_hand") fd := T.c.def_ 52 (d := d_l_hand) rfl
theorem Txt.f_l_lead (T : Txt K mg) : ∃ fd, FunD K "_law_lead" "_law_lead" (defArgs s_l_lead) (defBody s_l_lead) (defScope s_l_lead) [] [] (He.ga K "_law_lead") fd := T.c.def_ 53 (d := d_l_lead) rfl
theorem Txt.f_l_deed (T : Txt K mg) : ∃ fd, FunD K "_law_deed" "_law_deed" (defArgs s_l_deed) (defBody s_l_deed) (defScope s_l_deed) [] [] (He.ga K "_law_deed") fd := T.c.def_ 54 (d := d_l_deed) rfl
theorem Txt.f_l_own_does (T : Txt K mg) : ∃ fd, FunD K "_law_own_does" "_law_own_does" (defArgs s_l_own_does) (defBody s_l_own_does) (defScope s_l_own_does) [] [] (He.ga K "_law_own_does") fd := T.c.def_ 55 (d := d_l_own_does) rfl
theorem Txt.f_l_does (T : Txt K mg) : ∃ fd, FunD K "_law_does" "_law_does" (defArgs s_l_does) (defBody s_l_does) (defScope s_l_does) [] [] (He.ga K "_law_does") fd := T.c.def_ 56 (d := d_l_does) rfl
theorem Txt.f_l_numbers_right (T : Txt K mg) : ∃ fd, FunD K "_law_numbers_right" "_law_numbers_right" (defArgs s_l_numbers_right) (defBody s_l_numbers_right) (defScope s_l_numbers_right) [] [] (He.ga K "_law_numbers_right") fd := T.c.def_ 57 (d := d_l_numbers_right) rfl
theorem Txt.f_l_sent_right (T : Txt K mg) : ∃ fd, FunD K "_law_sent_right" "_law_sent_right" (defArgs s_l_sent_right) (defBody s_l_sent_right) (defScope s_l_sent_right) [] [] (He.ga K "_law_sent_right") fd := T.c.def_ 58 (d := d_l_sent_right) rfl
theorem Txt.f_law (T : Txt K mg) : ∃ fd, FunD K "law" "law" (defArgs s_law) (defBody s_law) (defScope s_law) [] [] (He.ga K "law") fd := T.c.def_ 59 (d := d_law) rfl
end
theorem sc_is_name : FnScope ["thing", "sign"] ["thing"] (defScope s_is_name) := ⟨rfl, rfl, rfl, by decide +kernel, rfl, by decide +kernel, by decide +kernel⟩
theorem sc_need_name : FnScope ["thing"] ["thing"] (defScope s_need_name) := ⟨rfl, rfl, rfl, by decide +kernel, rfl, by decide +kernel, by decide +kernel⟩
theorem sc_is_text : FnScope ["thing", "good", "sign"] ["thing"] (defScope s_is_text) := ⟨rfl, rfl, rfl, by decide +kernel, rfl, by decide +kernel, by decide +kernel⟩
theorem sc_need_text : FnScope ["thing"] ["thing"] (defScope s_need_text) := ⟨rfl, rfl, rfl, by decide +kernel, rfl, by decide +kernel, by decide +kernel⟩
theorem sc_is_count : FnScope ["thing", "low", "high"] ["thing", "low", "high"] (defScope s_is_count) := ⟨rfl, rfl, rfl, by decide +kernel, rfl, by decide +kernel, by decide +kernel⟩
theorem sc_need_rule : FnScope ["rule", "good", "one", "low", "high"] ["rule"] (defScope s_need_rule) := ⟨rfl, rfl, rfl, by decide +kernel, rfl, by decide +kernel, by decide +kernel⟩
theorem sc_wait_of : FnScope ["rule", "fails", "found", "turn"] ["rule", "fails"] (defScope s_wait_of) := ⟨rfl, rfl, rfl, by decide +kernel, rfl, by decide +kernel, by decide +kernel⟩
theorem sc_CallX_initX : FnScope ["self", "key", "goal", "text", "time"] ["self", "key", "goal", "text", "time"] (defScope s_CallX_initX) := ⟨rfl, rfl, rfl, by decide +kernel, rfl, by decide +kernel, by decide +kernel⟩
theorem sc_CallerX_initX : FnScope ["self", "rule"] ["self", "rule"] (defScope s_CallerX_initX) := ⟨rfl, rfl, rfl, by decide +kernel, rfl, by decide +kernel, by decide +kernel⟩
theorem sc_Caller_now : FnScope ["self"] ["self"] (defScope s_Caller_now) := ⟨rfl, rfl, rfl, by decide +kernel, rfl, by decide +kernel, by decide +kernel⟩
theorem sc_Caller_say : FnScope ["self", "number", "word"] ["self", "number", "word"] (defScope s_Caller_say) := ⟨rfl, rfl, rfl, by decide +kernel, rfl, by decide +kernel, by decide +kernel⟩
theorem sc_Caller_log : FnScope ["self"] ["self"] (defScope s_Caller_log) := ⟨rfl, rfl, rfl, by decide +kernel, rfl, by decide +kernel, by decide +kernel⟩
theorem sc_Caller_need_address : FnScope ["self", "name"] ["self", "name"] (defScope s_Caller_need_address) := ⟨rfl, rfl, rfl, by decide +kernel, rfl, by decide +kernel, by decide +kernel⟩
theorem sc_Caller_add_address : FnScope ["self", "name"] ["self", "name"] (defScope s_Caller_add_address) := ⟨rfl, rfl, rfl, by decide +kernel, rfl, by decide +kernel, by decide +kernel⟩
theorem sc_Caller_road : FnScope ["self", "name", "found"] ["self", "name"] (defScope s_Caller_road) := ⟨rfl, rfl, rfl, by decide +kernel, rfl, by decide +kernel, by decide +kernel⟩
theorem sc_Caller_end_of : FnScope ["self", "name"] ["self", "name"] (defScope s_Caller_end_of) := ⟨rfl, rfl, rfl, by decide +kernel, rfl, by decide +kernel, by decide +kernel⟩
theorem sc_Caller_lead : FnScope ["self", "name", "other"] ["self", "name", "other"] (defScope s_Caller_lead) := ⟨rfl, rfl, rfl, by decide +kernel, rfl, by decide +kernel, by decide +kernel⟩
theorem sc_Caller_call : FnScope ["self", "number"] ["self", "number"] (defScope s_Caller_call) := ⟨rfl, rfl, rfl, by decide +kernel, rfl, by decide +kernel, by decide +kernel⟩
theorem sc_Caller_numbers : FnScope ["self"] ["self"] (defScope s_Caller_numbers) := ⟨rfl, rfl, rfl, by decide +kernel, rfl, by decide +kernel, by decide +kernel⟩
theorem sc_Caller_send : FnScope ["self", "key", "goal", "text", "number"] ["self", "key", "goal", "text"] (defScope s_Caller_send) := ⟨rfl, rfl, rfl, by decide +kernel, rfl, by decide +kernel, by decide +kernel⟩
theorem sc_Caller_state : FnScope ["self", "number"] ["self", "number"] (defScope s_Caller_state) := ⟨rfl, rfl, rfl, by decide +kernel, rfl, by decide +kernel, by decide +kernel⟩
theorem sc_Caller_tries : FnScope ["self", "number"] ["self", "number"] (defScope s_Caller_tries) := ⟨rfl, rfl, rfl, by decide +kernel, rfl, by decide +kernel, by decide +kernel⟩
theorem sc_Caller_time_of : FnScope ["self", "number", "one"] ["self", "number"] (defScope s_Caller_time_of) := ⟨rfl, rfl, rfl, by decide +kernel, rfl, by decide +kernel, by decide +kernel⟩
theorem sc_Caller_is_first : FnScope ["self", "number", "key", "ahead", "one"] ["self", "number"] (defScope s_Caller_is_first) := ⟨rfl, rfl, rfl, by decide +kernel, rfl, by decide +kernel, by decide +kernel⟩
theorem sc_Caller_busy : FnScope ["self", "goal", "some", "number", "one"] ["self", "goal"] (defScope s_Caller_busy) := ⟨rfl, rfl, rfl, by decide +kernel, rfl, by decide +kernel, by decide +kernel⟩
theorem sc_Caller_due : FnScope ["self", "found", "number", "one"] ["self"] (defScope s_Caller_due) := ⟨rfl, rfl, rfl, by decide +kernel, rfl, by decide +kernel, by decide +kernel⟩
theorem sc_Caller_begin : FnScope ["self", "number", "one"] ["self", "number"] (defScope s_Caller_begin) := ⟨rfl, rfl, rfl, by decide +kernel, rfl, by decide +kernel, by decide +kernel⟩
theorem sc_Caller_attempt : FnScope ["self", "some"] ["self"] (defScope s_Caller_attempt) := ⟨rfl, rfl, rfl, by decide +kernel, rfl, by decide +kernel, by decide +kernel⟩
theorem sc_Caller_fail : FnScope ["self", "number", "one"] ["self", "number"] (defScope s_Caller_fail) := ⟨rfl, rfl, rfl, by decide +kernel, rfl, by decide +kernel, by decide +kernel⟩
theorem sc_Caller_answer : FnScope ["self", "number", "word", "one"] ["self", "number", "word"] (defScope s_Caller_answer) := ⟨rfl, rfl, rfl, by decide +kernel, rfl, by decide +kernel, by decide +kernel⟩
theorem sc_Caller_tick : FnScope ["self", "many", "turn", "number", "one"] ["self", "many"] (defScope s_Caller_tick) := ⟨rfl, rfl, rfl, by decide +kernel, rfl, by decide +kernel, by decide +kernel⟩
theorem sc_Caller_go_on : FnScope ["self", "number", "one"] ["self", "number"] (defScope s_Caller_go_on) := ⟨rfl, rfl, rfl, by decide +kernel, rfl, by decide +kernel, by decide +kernel⟩
theorem sc_Caller_drop : FnScope ["self", "number", "one"] ["self", "number"] (defScope s_Caller_drop) := ⟨rfl, rfl, rfl, by decide +kernel, rfl, by decide +kernel, by decide +kernel⟩
theorem sc_Caller_change : FnScope ["self", "number", "goal", "one"] ["self", "number", "goal"] (defScope s_Caller_change) := ⟨rfl, rfl, rfl, by decide +kernel, rfl, by decide +kernel, by decide +kernel⟩
theorem sc_sign_of : FnScope ["word", "sign"] ["word"] (defScope s_sign_of) := ⟨rfl, rfl, rfl, by decide +kernel, rfl, by decide +kernel, by decide +kernel⟩
theorem sc_written : FnScope ["caller", "rows", "one", "name", "number", "words"] ["caller"] (defScope s_written) := ⟨rfl, rfl, rfl, by decide +kernel, rfl, by decide +kernel, by decide +kernel⟩
theorem sc_l_cell : FnScope ["_law_script", "_law_k"] ["_law_script", "_law_k"] (defScope s_l_cell) := ⟨rfl, rfl, rfl, by decide +kernel, rfl, by decide +kernel, by decide +kernel⟩
theorem sc_l_drawn : FnScope ["_law_cell_here", "_law_k", "_law_more"] ["_law_cell_here", "_law_k"] (defScope s_l_drawn) := ⟨rfl, rfl, rfl, by decide +kernel, rfl, by decide +kernel, by decide +kernel⟩
theorem sc_l_word : FnScope ["_law_e", "_law_flags", "_law_flag"] ["_law_e"] (defScope s_l_word) := ⟨rfl, rfl, rfl, by decide +kernel, rfl, by decide +kernel, by decide +kernel⟩
theorem sc_l_told : FnScope ["_law_deed_here", "_law_e"] ["_law_deed_here"] (defScope s_l_told) := ⟨rfl, rfl, rfl, by decide +kernel, rfl, by decide +kernel, by decide +kernel⟩
theorem sc_l_rule : FnScope ["_law_more", "_law_bounds", "_law_found", "_law_j", "_law_low", "_law_high", "_law_here", "_law_one"] ["_law_more"] (defScope s_l_rule) := ⟨rfl, rfl, rfl, by decide +kernel, rfl, by decide +kernel, by decide +kernel⟩
theorem sc_l_wait : FnScope ["_law_rule_here", "_law_fails", "_law_found", "_law_turn"] ["_law_rule_here", "_law_fails"] (defScope s_l_wait) := ⟨rfl, rfl, rfl, by decide +kernel, rfl, by decide +kernel, by decide +kernel⟩
theorem sc_l_any_name : FnScope ["_law_more", "_law_most", "_law_j"] ["_law_more", "_law_most"] (defScope s_l_any_name) := ⟨rfl, rfl, rfl, by decide +kernel, rfl, by decide +kernel, by decide +kernel⟩
theorem sc_l_any_text : FnScope ["_law_more", "_law_most", "_law_signs", "_law_j"] ["_law_more", "_law_most"] (defScope s_l_any_text) := ⟨rfl, rfl, rfl, by decide +kernel, rfl, by decide +kernel, by decide +kernel⟩
theorem sc_l_own : FnScope ["_law_rule_here"] ["_law_rule_here"] (defScope s_l_own) := ⟨rfl, rfl, rfl, by decide +kernel, rfl, by decide +kernel, by decide +kernel⟩
theorem sc_l_real : FnScope ["_law_own_here", "_law_name"] ["_law_own_here", "_law_name"] (defScope s_l_real) := ⟨rfl, rfl, rfl, by decide +kernel, rfl, by decide +kernel, by decide +kernel⟩
theorem sc_l_may : FnScope ["_law_own_here", "_law_number", "_law_one", "_law_ahead", "_law_far", "_law_word_here", "_law_place"] ["_law_own_here", "_law_number"] (defScope s_l_may) := ⟨rfl, rfl, rfl, by decide +kernel, rfl, by decide +kernel, by decide +kernel⟩
theorem sc_l_due : FnScope ["_law_own_here", "_law_number"] ["_law_own_here"] (defScope s_l_due) := ⟨rfl, rfl, rfl, by decide +kernel, rfl, by decide +kernel, by decide +kernel⟩
theorem sc_l_fail : FnScope ["_law_own_here", "_law_number", "_law_one"] ["_law_own_here", "_law_number"] (defScope s_l_fail) := ⟨rfl, rfl, rfl, by decide +kernel, rfl, by decide +kernel, by decide +kernel⟩
theorem sc_l_send : FnScope ["_law_own_here", "_law_key", "_law_goal", "_law_text", "_law_one"] ["_law_own_here", "_law_key", "_law_goal", "_law_text"] (defScope s_l_send) := ⟨rfl, rfl, rfl, by decide +kernel, rfl, by decide +kernel, by decide +kernel⟩
theorem sc_l_try : FnScope ["_law_own_here", "_law_some", "_law_one"] ["_law_own_here"] (defScope s_l_try) := ⟨rfl, rfl, rfl, by decide +kernel, rfl, by decide +kernel, by decide +kernel⟩
theorem sc_l_tick : FnScope ["_law_own_here", "_law_many", "_law_turn", "_law_number", "_law_one"] ["_law_own_here", "_law_many"] (defScope s_l_tick) := ⟨rfl, rfl, rfl, by decide +kernel, rfl, by decide +kernel, by decide +kernel⟩
theorem sc_l_hand : FnScope ["_law_own_here", "_law_word_here", "_law_number", "_law_goal", "_law_bad", "_law_one", "_law_needed"] ["_law_own_here", "_law_word_here", "_law_number", "_law_goal"] (defScope s_l_hand) := ⟨rfl, rfl, rfl, by decide +kernel, rfl, by decide +kernel, by decide +kernel⟩
theorem sc_l_lead : FnScope ["_law_own_here", "_law_name", "_law_other", "_law_walk"] ["_law_own_here", "_law_name", "_law_other"] (defScope s_l_lead) := ⟨rfl, rfl, rfl, by decide +kernel, rfl, by decide +kernel, by decide +kernel⟩
theorem sc_l_deed : FnScope ["_law_more", "_law_own_here", "_law_here", "_law_names", "_law_number", "_law_under", "_law_at", "_law_one", "_law_goal", "_law_text", "_law_way", "_law_key"] ["_law_more", "_law_own_here"] (defScope s_l_deed) := ⟨rfl, rfl, rfl, by decide +kernel, rfl, by decide +kernel, by decide +kernel⟩
theorem sc_l_own_does : FnScope ["_law_own_here", "_law_deed_here", "_law_word_here"] ["_law_own_here", "_law_deed_here"] (defScope s_l_own_does) := ⟨rfl, rfl, rfl, by decide +kernel, rfl, by decide +kernel, by decide +kernel⟩
theorem sc_l_does : FnScope ["_law_caller", "_law_deed_here", "_law_word_here"] ["_law_caller", "_law_deed_here"] (defScope s_l_does) := ⟨rfl, rfl, rfl, by decide +kernel, rfl, by decide +kernel, by decide +kernel⟩
theorem sc_l_numbers_right : FnScope ["_law_caller", "_law_bad", "_law_some"] ["_law_caller", "_law_bad"] (defScope s_l_numbers_right) := ⟨rfl, rfl, rfl, by decide +kernel, rfl, by decide +kernel, by decide +kernel⟩
theorem sc_l_sent_right : FnScope ["_law_caller", "_law_some", "_law_bad"] ["_law_caller"] (defScope s_l_sent_right) := ⟨rfl, rfl, rfl, by decide +kernel, rfl, by decide +kernel, by decide +kernel⟩
theorem sc_law : FnScope ["_law_script", "_law_k", "_law_more", "_law_rule_here", "_law_caller", "_law_own_here", "_law_j", "_law_deed_here", "_law_text", "_law_log", "_law_many", "_law_bad", "_law_at", "_law_one", "_law_some"] ["_law_script"] (defScope s_law) := ⟨rfl, rfl, rfl, by decide +kernel, rfl, by decide +kernel, by decide +kernel⟩
end T
end
section
namespace T
open PySem PySem.Spec PyProof.Rows L2 Tr
section
variable {P : Program} {w : World} {K : PySem.W.Frag} {mg : Str → Option Value} {base : Heap}
/-- is_count's answer -/
def isC : V → Int → Int → Bool
  | .int i, lo, hi => decide (lo ≤ i) && decide (i ≤ hi)
  | _, _, _ => false
def spCount (K : PySem.W.Frag) : Sp := fun vs H Q _ => ∃ (x : V) (lo hi : Int), vs = [x, .int lo, .int hi] ∧ Thing K H x ∧ Q (.bl (isC x lo hi)) H
theorem k_is_count (T : Txt K mg) : Kal P w K mg base CX0 1 "is_count" (spCount K) := by
  refine kal_of T.f_is_count T.g_is_count sc_is_count (fun _ _ _ _ _ _ us hl => match us, hl with | [_, _, _], _ => rfl) (fun vs H Q E ⟨_, _, _, h, _⟩ => by rw [h] <;> rfl) fun cdv A outer s H vs Q E hr ⟨x, lo, hi, e, hx, q⟩ => ?_
  subst e
  refine ⟨_, pss_one (ps_ret (pe_and (b_isi T.n_isinstance (pa_cons (pv 0) (pa_cons (pe_bltn (v := .ty "int") (by rfl) T.n_int (by decide +kernel) rfl) pa_nil)))
    (pe_and (pe_not (b_isi T.n_isinstance (pa_cons (pv 0) (pa_cons (pe_bltn (v := .ty "bool") (by rfl) T.n_bool (by decide +kernel) rfl) pa_nil))))
      (pe_one (pe_chain op_le op_le (pv 1) (pv 0) (pv 2)))))), ?_⟩
  refine ⟨_, rfl, ?_⟩
  cases hx with
  | non => exact ⟨_, _, _, _, false, rfl, .ty "int", .base .non, kit_ty (by decide +kernel), _, rfl, q⟩
  | str y => exact ⟨_, _, _, _, false, rfl, .ty "int", .base (.str y), kit_ty (by decide +kernel), _, rfl, q⟩
  | lst e => exact ⟨_, _, _, _, false, rfl, .ty "int", .base (.lst e), kit_ty (by decide +kernel), _, rfl, q⟩
  | tup e => exact ⟨_, _, _, _, false, rfl, .ty "int", .base (.tup e), kit_ty (by decide +kernel), _, rfl, q⟩
  | bl y => exact ⟨_, _, _, _, true, rfl, .ty "int", .base (.bl y), kit_ty (by decide +kernel), _, rfl, _, rfl, _, _, _, _, true, rfl, .ty "bool", .base (.bl y), kit_ty (by decide +kernel), _, rfl, _, rfl, q⟩
  | int i =>
    refine ⟨_, _, _, _, true, rfl, .ty "int", .base (.int i), kit_ty (by decide +kernel), _, rfl, _, rfl, _, _, _, _, false, rfl, .ty "bool", .base (.int i), kit_ty (by decide +kernel), _, rfl, _, rfl, ?_⟩
    refine ⟨_, rfl, _, rfl, _, _, rfl, rfl, _, rfl, ?_⟩
    by_cases h : lo ≤ i
    · rw [decide_eq_true h]
      refine ⟨_, rfl, _, _, rfl, rfl, ?_⟩
      have e : isC (.int i) lo hi = decide (i ≤ hi) := by simp [isC, h]
      rw [e] at q
      exact q
    · rw [decide_eq_false h]
      have e : isC (.int i) lo hi = false := by simp [isC, h]
      rw [e] at q
      exact q
/-! ### rules -/
theorem walk_zipT {a b : Addr} {xs ys : List V} (hn : xs.length = ys.length) : Walk (RZ.ItzT K a b) ys.length (fun H => SqT K H a xs ∧ SqT K H b ys) (YPair (fun i => xs[i]?) (fun i => ys[i]?)) :=
  ⟨fun i _ hi q => ⟨xs, ys, xs[i]'(by omega), ys[i], q.1, q.2, by simp [hn, hi], by simp [hi]⟩, fun _ q => ⟨xs, ys, q.1, q.2, .inr (Nat.le_refl _)⟩,
    fun _ _ _ _ _ q ⟨T, x, y, e1, e2, e3, e4, e5⟩ => ⟨T, x, y, e1, e2, e3, e4 _ q.1, e5 _ q.2⟩⟩
theorem T_word (T : Txt K mg) {d : Str} (hd : d ∈ cls) : Word K cls d := word_of (ex1 T.m) hd
theorem T_bounds (T : Txt K mg) (H : Hp) : SqT K H (He.ga K "BOUNDS") ((List.range 6).map fun i => V.ref (itemA K "BOUNDS" i)) ∧ ∀ i, i < 6 → SqT K H (itemA K "BOUNDS" i) [.int (bnds.getD i (0, 0)).1, .int (bnds.getD i (0, 0)).2] := by
  obtain ⟨h1, h2⟩ := He.ba (ex2 T.m)
  exact ⟨tupAt_ok h1 H, fun i hi => tupAt_ok (List.all_eq_true.mp h2 i (List.mem_range.mpr hi)) H⟩
/-- the i-th of xs is within the i-th bounds -/
def itC (xs : List V) (i : Nat) : Bool := isC (xs.getD i .non) (bnds.getD i (0, 0)).1 (bnds.getD i (0, 0)).2
def okItems (xs : List V) : Bool := decide (xs.length = 6) && (List.range 6).all (itC xs)
/-- whether x is a rule -/
inductive RuleIs (K : PySem.W.Frag) (H : Hp) : V → Bool → Prop
  | tup {a : Addr} {xs : List V} (e : H a = some (.tup xs)) (hx : ∀ y ∈ xs, Thing K H y) : RuleIs K H (.ref a) (okItems xs)
  | non : RuleIs K H .non false
  | bl (b : Bool) : RuleIs K H (.bl b) false
  | int (i : Int) : RuleIs K H (.int i) false
  | str (x : Str) : RuleIs K H (.str x) false
  | lst {a : Addr} {xs : List V} (e : H a = some (.lst xs)) : RuleIs K H (.ref a) false
def spNeed (K : PySem.W.Frag) : Sp := fun vs H Q E => ∃ (x : V) (ok : Bool), vs = [x] ∧ RuleIs K H x ok ∧ (ok = true → ∀ H', Same H H' → Q .non H') ∧ (ok = false → ∀ H', Same H H' → E (.ref (He.ga K "BadRule")) none H')
theorem all_range (f : Nat → Bool) : ∀ n, ((List.range n).map f).all id = (List.range n).all f := fun n => by
  rw [List.all_map]
  rfl
theorem k_need_rule (T : Txt K mg) : Kal P w K mg base (NX P w) 2 "need_rule" (spNeed K) := by
  refine kal_of T.f_need_rule T.g_need_rule sc_need_rule (fun _ _ _ _ _ _ us hl => match us, hl with | [_], _ => rfl) (fun vs H Q E ⟨_, _, h, _⟩ => by rw [h] <;> rfl) fun cdv A outer s H vs Q E hr ⟨x, ok, e, hx, q1, q2⟩ => ?_
  subst e
  obtain ⟨x1, x2, x3, x4⟩ := He.exc_ok T.e_BadRule
  refine ⟨_, pss_cons (ps_set (i := 1) sc_need_rule.nd rfl (Or.inl rfl) (pe_and (b_isi T.n_isinstance (pa_cons (pv 0) (pa_cons (pe_bltn (v := .ty "tuple") (by rfl) T.n_tuple (by decide +kernel) rfl) pa_nil)))
      (pe_one (pe_cmpR op_eq (b_len T.n_len (pa_cons (pv 0) pa_nil)) (b_len T.n_len (pa_cons (pe_glob (v := .ref (He.ga K "BOUNDS")) (by rfl) T.g_BOUNDS rfl) pa_nil)) (nomark _)))))
    (pss_one (ps_if (PW.pt (pw_or (pt_not (pt_val (pv 1))) (pw_or1 (pt_not (pt_val (b_all rfl T.n_all (pa_cons
        (pe_lc (own := [("one", 2), ("low", 3), ("high", 4)]) (g := gTup K 2 (gCons (gName 2) (gCons (gTup K 2 (gCons (gName 3) (gCons (gName 4) gNil))) gNil))) (tt := tYes) rfl sc_need_rule.nd
          (RZ.pi_zipA (by rfl) T.n_zip (pa_cons (pv 0) (pa_cons (pe_glob (v := .ref (He.ga K "BOUNDS")) (by rfl) T.g_BOUNDS rfl) pa_nil))) (blkOk_by (N := ["rule", "good", "one", "low", "high"]) (sc := defScope s_need_rule) (by decide +kernel))
          (fun _ _ _ _ _ => pg_tup rfl (pgs_cons (pg_name (i := 2) sc_need_rule.nd rfl (Or.inl rfl)) (pgs_cons (pg_tup rfl (pgs_cons (pg_name (i := 3) sc_need_rule.nd rfl (Or.inl rfl)) (pgs_cons (pg_name (i := 4) sc_need_rule.nd rfl (Or.inl rfl)) pgs_nil))) pgs_nil)))
          (fun _ _ _ _ _ => pts_nil) (fun _ _ _ _ _ => pe_k (E := E0) (k_is_count T) hr (by decide) pass0 (pa_cons (pv 2) (pa_cons (pv 3) (pa_cons (pv 4) pa_nil)))))
        pa_nil)))))))
      (pss_one (L2N.ps_raise rfl (L2N.takes_of rfl rfl rfl rfl) (L2N.pmk_own PySem.F.excBase_ValueError x1 T.g_BadRule x2 (raises_own x3 x4) (by rfl)))) pss_nil)), ?_⟩
  refine ⟨_, rfl, ?_⟩
  cases hx with
  | non => exact ⟨_, _, _, _, false, rfl, .ty "tuple", .base .non, kit_ty (by decide +kernel), _, rfl, _, rfl, _, rfl, q2 rfl H (Same.refl H)⟩
  | bl b => exact ⟨_, _, _, _, false, rfl, .ty "tuple", .base (.bl b), kit_ty (by decide +kernel), _, rfl, _, rfl, _, rfl, q2 rfl H (Same.refl H)⟩
  | int b => exact ⟨_, _, _, _, false, rfl, .ty "tuple", .base (.int b), kit_ty (by decide +kernel), _, rfl, _, rfl, _, rfl, q2 rfl H (Same.refl H)⟩
  | str b => exact ⟨_, _, _, _, false, rfl, .ty "tuple", .base (.str b), kit_ty (by decide +kernel), _, rfl, _, rfl, _, rfl, q2 rfl H (Same.refl H)⟩
  | lst e => exact ⟨_, _, _, _, false, rfl, .ty "tuple", .base (.lst e), kit_ty (by decide +kernel), _, rfl, _, rfl, _, rfl, q2 rfl H (Same.refl H)⟩
  | @tup a xs e ht =>
    obtain ⟨B1, B2⟩ := T_bounds T H
    refine ⟨_, _, _, _, true, rfl, .ty "tuple", .base (.tup e), kit_ty (by decide +kernel), _, rfl, _, rfl, _, xs.length, rfl, .inr ⟨_, sqT e, rfl⟩, _, 6, rfl, .inr ⟨_, B1, rfl⟩, rfl, ?_⟩
    by_cases hl : xs.length = 6
    · refine ⟨_, rfl, true, congrArg V.bl (decide_eq_true (by rw [hl] <;> rfl)), ?_⟩
      refine ⟨_, rfl, a, _, xs, _, rfl, .inr ⟨sqT e, B1, fun D hD => ?_⟩⟩
      refine lc_adds (walk_zipT hl) (fun i acc => acc = (List.range i).map fun j => V.bl (itC xs j)) hD (by show 6 ≤ 90000; decide) rfl (fun i acc h => by rw [h]; simp) (fun H' s' => ⟨sqT (s' _ _ e), (T_bounds T H').1⟩) ?_ ?_
      · rintro Tq N i acc y H1 H2 yes no hi s1 p ⟨T1, u, v, rfl, hT, rfl, hu, hv⟩
        have hi : i < 6 := hi
        have hv : ((List.range 6).map fun i => V.ref (itemA K "BOUNDS" i))[i]? = some v := hv
        have hu : xs[i]? = some u := hu
        have ev : v = .ref (itemA K "BOUNDS" i) := by
          rw [List.getElem?_map, List.getElem?_range hi] at hv
          exact (Option.some.inj hv).symm
        subst ev
        have hu' : xs.getD i .non = u := by rw [List.getD_eq_getElem?_getD, hu] <;> rfl
        refine ⟨_, _, rfl, sqT upd_same, rfl, _, _, rfl, _, _, rfl, ⟨_, _, rfl, (T_bounds T _).2 i hi, rfl, _, _, rfl, _, _, rfl, ?_⟩⟩
        refine ⟨rfl, rfl, rfl, _, rfl, _, rfl, _, rfl, u, _, _, rfl, (ht u (List.mem_of_getElem? hu)).same (s1.trans (same_new hT)), yes _ _ (same_new hT) ?_⟩
        rw [p, List.range_succ, List.map_append]
        show _ = _ ++ [V.bl (itC xs i)]
        unfold itC
        rw [hu']
      · rintro acc H1 s1 hDa rfl
        refine ⟨D, (List.range 6).map (itC xs), rfl, sqL (by rw [hDa, List.map_map] <;> rfl), _, rfl, ?_⟩
        have eo : okItems xs = ((List.range 6).map (itC xs)).all id := by
          unfold okItems
          rw [decide_eq_true hl, all_range, Bool.true_and]
        cases ea : ((List.range 6).map (itC xs)).all id with
        | true => exact q1 (by rw [eo, ea]) H1 s1
        | false => exact q2 (by rw [eo, ea]) H1 s1
    · refine ⟨_, rfl, false, congrArg V.bl (decide_eq_false (fun z => hl (by have := V.int.inj z; omega))), ?_⟩
      exact q2 (by unfold okItems; rw [decide_eq_false hl] <;> rfl) H (Same.refl H)
end
end T

namespace T
open PySem PySem.Spec PyProof.Rows L2 Tr
/-- min(i, j) as Python's two-place min tells it -/
def mn (i j : Int) : Int := if j < i then j else i
theorem mn_eq (i j : Int) : mn i j = min i j := by
  unfold mn
  split <;> omega
structure Rule where
  b : Int
  f : Int
  t : Int
  m : Int
  p : Int
  o : Int
def Rule.vs (r : Rule) : List V := [.int r.b, .int r.f, .int r.t, .int r.m, .int r.p, .int r.o]
structure Rule.Ok (r : Rule) : Prop where
  b : 1 ≤ r.b ∧ r.b ≤ 9
  f : 1 ≤ r.f ∧ r.f ≤ 3
  t : 1 ≤ r.t ∧ r.t ≤ 60
  m : 1 ≤ r.m ∧ r.m ≤ 5
  p : 1 ≤ r.p ∧ r.p ≤ 20
  o : 1 ≤ r.o ∧ r.o ≤ 3
theorem Rule.items {r : Rule} (h : r.Ok) : okItems r.vs = true := by
  obtain ⟨⟨a1, a2⟩, ⟨b1, b2⟩, ⟨c1, c2⟩, ⟨d1, d2⟩, ⟨e1, e2⟩, f1, f2⟩ := h
  simp [okItems, Rule.vs, itC, isC, bnds, List.range, List.range.loop, a1, a2, b1, b2, c1, c2, d1, d2, e1, e2, f1, f2]
def wfold (r : Rule) : Nat → Int
  | 0 => r.b
  | n + 1 => mn r.t (wfold r n * r.f)
def waitOf (r : Rule) (n : Int) : Int := mn r.t (wfold r (n - 1).toNat)
theorem wfold_bd {r : Rule} (h : r.Ok) : ∀ n, 1 ≤ wfold r n ∧ wfold r n ≤ 60
  | 0 => ⟨h.b.1, by have := h.b.2; show r.b ≤ 60; omega⟩
  | n + 1 => by
    have ih := wfold_bd h n
    have h1 := h.f.1
    have h2 := h.t
    show 1 ≤ mn r.t (wfold r n * r.f) ∧ mn r.t (wfold r n * r.f) ≤ 60
    have h3 : 1 * 1 ≤ wfold r n * r.f := Int.mul_le_mul ih.1 h1 (by decide) (by omega)
    rw [mn_eq]
    omega
section
variable {P : Program} {w : World} {K : PySem.W.Frag} {mg : Str → Option Value} {base : Heap}
def spWaitOf : Sp := fun vs H Q _ => ∃ (a : Addr) (r : Rule) (n : Int), vs = [.ref a, .int n] ∧ H a = some (.tup r.vs) ∧ r.Ok ∧ 1 ≤ n ∧ n ≤ 5 ∧ Q (.int (waitOf r n)) H
theorem k_wait_of (T : Txt K mg) : Kal P w K mg base CX0 1 "wait_of" spWaitOf := by
  refine kal_of T.f_wait_of T.g_wait_of sc_wait_of (fun _ _ _ _ _ _ us hl => match us, hl with | [_, _], _ => rfl) (fun vs H Q E ⟨_, _, _, h, _⟩ => by rw [h] <;> rfl) fun cdv A outer s H vs Q E hr ⟨a, r, n, e, ha, ok, n1, n5, q⟩ => ?_
  subst e
  refine ⟨_, PSs.nox (pss_cons (ps_set (i := 2) sc_wait_of.nd rfl (Or.inl rfl) (pe_ix ix_tup (pv 0) pe_int (fun _ _ => rfl)))
    (pss_cons (ps_for PassesOwn.never rfl (pi_range1 (by rfl) T.n_range (pa_cons (pe_op op_sub (pv 1) pe_int) pa_nil)) (pg_name (i := 3) sc_wait_of.nd rfl (Or.inl rfl))
      (pss_one (ps_set (i := 2) sc_wait_of.nd rfl (Or.inl rfl) (b_min2 rfl T.n_min (pa_cons (pe_ix ix_tup (pv 0) pe_int (fun _ _ => rfl)) (pa_cons (pe_op op_mul (pv 2) (pe_ix ix_tup (pv 0) pe_int (fun _ _ => rfl))) pa_nil))))))
    (pss_one (ps_ret (b_min2 rfl T.n_min (pa_cons (pe_ix ix_tup (pv 0) pe_int (fun _ _ => rfl)) (pa_cons (pv 2) pa_nil))))))), ?_⟩
  refine ⟨_, rfl, _, _, _, _, rfl, rfl, sqT ha, rfl, ?_⟩
  refine ⟨_, rfl, _, _, rfl, rfl, _, rfl, by omega, by omega, ?_⟩
  refine for_it walk_range (fun i σ H' => H' = H ∧ ∃ v, σ = [some (.ref a), some (.int n), some (.int (wfold r i)), v]) ⟨rfl, _, rfl⟩ (fun _ _ _ _ _ => trivial) ?_ ?_
  · rintro i x σ H1 H' hi ⟨rfl, v, rfl⟩ ⟨rfl, rfl⟩
    have b := wfold_bd ok i
    refine ⟨_, rfl, _, _, _, _, rfl, rfl, sqT ha, rfl, _, rfl, _, rfl, _, _, _, _, rfl, rfl, sqT ha, rfl, _, _, rfl, rfl, .inl ⟨by omega, by omega⟩, _, _, rfl, ?_⟩
    exact ⟨rfl, _, rfl⟩
  · rintro σ H1 ⟨rfl, v, rfl⟩
    refine ⟨_, rfl, _, _, _, _, rfl, rfl, sqT ha, rfl, _, rfl, _, _, rfl, ?_⟩
    exact q
end
end T
end
section
local macro_rules | `(tactic| walk_at "ev") => `(tactic| repeat (first | refine ⟨_, rfl, ?_⟩ | refine ⟨_, _, rfl, rfl, ?_⟩ | refine ⟨rfl, ?_⟩))
namespace T
open PySem PySem.Spec PyProof.Rows L2 Tr
section
variable {P : Program} {w : World} {K : PySem.W.Frag} {mg : Str → Option Value} {base : Heap}
/-- a cell of the script: some whole number -/
def spCell (K : PySem.W.Frag) : Sp := fun vs H Q _ => ∃ (a : Addr) (ns : List Int) (k : Int), vs = [.ref a, .int k] ∧ SqL K H a (ns.map V.int) ∧ ns.length ≤ 63 ∧ 0 ≤ k ∧ k ≤ 1000 ∧ ∀ (c : Int) (H' : Hp), Same H H' → Q (.int c) H'
theorem k_l_cell (T : Txt K mg) : Kal P w K mg base CX0 1 "_law_cell" (spCell K) := by
  refine kal_of T.f_l_cell T.g_l_cell sc_l_cell (fun _ _ _ _ _ _ us hl => match us, hl with | [_, _], _ => rfl) (fun vs H Q E ⟨_, _, _, h, _⟩ => by rw [h] <;> rfl) fun cdv A outer s H vs Q E hr ⟨a, ns, k, e, hS, hl, k0, k1, q⟩ => ?_
  subst e
  refine ⟨_, pss_cons (ps_if (pt_cmpR (op_eqD hr.units) (pv 0) (pe_lst pa_nil) (nomark _)) (pss_one (ps_ret (pe_op op_mul (pv 1) pe_int))) pss_nil)
    (pss_one (ps_ret (pe_op op_add (pe_ix ix_list (pv 0) (pe_op op_mod (pv 1) (b_len T.n_len (pa_cons (pv 0) pa_nil))) (fun _ _ => rfl))
      (pe_op op_mul (pe_op op_fdiv (pv 1) (b_len T.n_len (pa_cons (pv 0) pa_nil))) pe_int)))), ?_⟩
  refine ⟨_, rfl, by show 0 ≤ sizeLine; decide, fun p hp => ?_⟩
  have s1 := same_new (o := HO.lst []) hp
  have hS1 := s1.seq hS
  refine ⟨_, _, .lst hS1 (dp_ints ns), .lst (sqL upd_same) .nil, (sh_ints ns).shaped, (sh_ints []).shaped, _, rfl, ?_⟩
  have hL : LenV K (.ref a) (upd H p (.lst [])) (ns.map V.int).length := .inl ⟨_, hS1, rfl⟩
  rw [eqv_nil]
  cases ns with
  | nil =>
    refine ⟨_, rfl, _, _, rfl, rfl, .inr ⟨by decide, by decide⟩, ?_⟩
    exact q _ _ s1
  | cons n ns =>
    have hn : (n :: ns).length = ns.length + 1 := rfl
    have hm : (((n :: ns).map V.int).length : Int) = ns.length + 1 := by simp
    have hl' : ns.length + 1 ≤ 63 := hl
    have p1 := Int.emod_nonneg k (show (((n :: ns).map V.int).length : Int) ≠ 0 by rw [hm]; omega)
    have p2 := Int.emod_lt_of_pos k (show 0 < (((n :: ns).map V.int).length : Int) by rw [hm]; omega)
    have hj : (k % (((n :: ns).map V.int).length : Int)).toNat < (n :: ns).length := by rw [hn]; rw [hm] at p2 p1 ⊢; omega
    refine ⟨_, rfl, _, rfl, _, rfl, _, _, rfl, hL, _, _, rfl, rfl, by rw [hm]; omega, _, _, _, V.int ((n :: ns)[(k % (((n :: ns).map V.int).length : Int)).toNat]), rfl, rfl, hS1, ?_, ?_⟩
    · have e := atI_nat (xs := (n :: ns).map V.int) (j := (k % (((n :: ns).map V.int).length : Int)).toNat) (v := V.int ((n :: ns)[(k % (((n :: ns).map V.int).length : Int)).toNat])) (by rw [List.getElem?_map, List.getElem?_eq_getElem hj] <;> rfl)
      rw [Int.toNat_of_nonneg p1] at e
      exact e
    · refine ⟨_, rfl, _, rfl, _, _, rfl, hL, _, _, rfl, rfl, ⟨by rw [hm]; omega, by rw [hm]; omega⟩, _, _, rfl, rfl, .inr ⟨by decide, by decide⟩, _, _, rfl, rfl, ?_⟩
      exact q _ _ s1
theorem md1 (x : Int) : (x % 340282366920938463463374607431768211507).natAbs < 2 ^ 129 := by
  have h1 := Int.emod_nonneg x (show (340282366920938463463374607431768211507 : Int) ≠ 0 by decide)
  have h2 := Int.emod_lt_of_pos x (show (0 : Int) < 340282366920938463463374607431768211507 by decide)
  have h3 : (2 : Nat) ^ 129 = 680564733841876926926749214863536422912 := by decide
  omega
theorem md2 (x : Int) : (x % 340282366920938463463374607431768211297).natAbs < 2 ^ 129 := by
  have h1 := Int.emod_nonneg x (show (340282366920938463463374607431768211297 : Int) ≠ 0 by decide)
  have h2 := Int.emod_lt_of_pos x (show (0 : Int) < 340282366920938463463374607431768211297 by decide)
  have h3 : (2 : Nat) ^ 129 = 680564733841876926926749214863536422912 := by decide
  omega
theorem md3 (x : Int) : (x % 18446744073709551557 + 1).natAbs < 2 ^ 65 := by
  have h3 : (2 : Nat) ^ 65 = 36893488147419103232 := by decide
  omega
theorem md4 (x : Int) : (x % 340282366920938463463374607431768211297 / 18446744073709551557 + 1).natAbs < 2 ^ 66 := by
  have h1 := Int.emod_nonneg x (show (340282366920938463463374607431768211297 : Int) ≠ 0 by decide)
  have h2 := Int.emod_lt_of_pos x (show (0 : Int) < 340282366920938463463374607431768211297 by decide)
  have h3 : (2 : Nat) ^ 66 = 73786976294838206464 := by decide
  omega
/-- a great number -/
def spDrawn : Sp := fun vs H Q _ => ∃ (c k : Int), vs = [.int c, .int k] ∧ 0 ≤ k ∧ k ≤ 1000 ∧ ∀ d : Int, 0 ≤ d → d < 340282366920938463463374607431768211507 → Q (.int d) H
theorem k_l_drawn (T : Txt K mg) : Kal P w K mg base CX0 1 "_law_drawn" spDrawn := by
  refine kal_of T.f_l_drawn T.g_l_drawn sc_l_drawn (fun _ _ _ _ _ _ us hl => match us, hl with | [_, _], _ => rfl) (fun vs H Q E ⟨_, _, h, _⟩ => by rw [h] <;> rfl) fun cdv A outer s H vs Q E hr ⟨c, k, e, k0, k1, q⟩ => ?_
  subst e
  refine ⟨_, pss_cons (ps_set (i := 2) sc_l_drawn.nd rfl (Or.inl rfl) (pe_op op_mod (pe_op op_add (pe_op op_mul (pv 0) pe_int) (pe_op op_mul (pe_op op_add (pv 1) pe_int) pe_int)) pe_int))
    (pss_cons (ps_set (i := 2) sc_l_drawn.nd rfl (Or.inl rfl) (pe_op op_mod (pe_op op_mulW (pv 2) (pv 2)) pe_int))
    (pss_cons (ps_set (i := 2) sc_l_drawn.nd rfl (Or.inl rfl) (pe_op op_mulW (pe_op op_mulW (pe_op op_add (pe_op op_mod (pv 2) pe_int) pe_int) (pe_op op_add (pe_op op_fdivW (pv 2) pe_int) pe_int)) (pv 2)))
    (pss_one (ps_ret (pe_op op_mod (pv 2) pe_int))))), ?_⟩
  refine ⟨_, rfl, _, _, rfl, rfl, .inr ⟨by decide, by decide⟩, _, rfl, _, _, rfl, rfl, _, _, rfl, rfl, .inl ⟨by omega, by omega⟩, _, _, rfl, rfl, _, _, rfl, rfl, (by show (0 : Int) < 340282366920938463463374607431768211507; decide), ?_⟩
  refine ⟨_, rfl, _, rfl, _, _, rfl, rfl, wide_mul (md1 _) (md1 _) (by decide) (by decide) (by decide), _, _, rfl, rfl, (by show (0 : Int) < 340282366920938463463374607431768211297; decide), ?_⟩
  refine ⟨_, rfl, _, _, rfl, rfl, (by show (0 : Int) < 18446744073709551557; decide), _, _, rfl, rfl, _, rfl, _, _, rfl, rfl, wide_div (b := 65) (by decide) (by decide) (by decide) (by decide), _, _, rfl, rfl, _, _, rfl, rfl, wide_mul (md3 _) (md4 _) (by decide) (by decide) (by decide), ?_⟩
  refine ⟨_, rfl, _, _, rfl, rfl, wide_mul (wide_lt (md3 _) (md4 _)) (md2 _) (by decide) (by decide) (by decide), ?_⟩
  refine ⟨_, rfl, _, _, rfl, rfl, (by show (0 : Int) < 340282366920938463463374607431768211507; decide), ?_⟩
  exact q _ (Int.emod_nonneg _ (by decide)) (Int.emod_lt_of_pos _ (by decide))
end
end T
end
section
namespace T
open PySem PySem.Spec PyProof.Rows L2 Tr
/-! ### the law's own rule -/
def tPairs : List (Int × Int) → TA
  | [] => tNil
  | p :: r => tCons (tTup (tCons (tC (.int p.1)) (tCons (tC (.int p.2)) tNil))) (tPairs r)
theorem rd_pairs : ∀ (l : List (Int × Int)) (σ : L2.St) (H : Hp) (Q : List V → Hp → Prop),
    (∀ (ts : List Addr) (H' : Hp), Same H H' → ts.length = l.length → (∀ (i : Nat) (p : Int × Int), l[i]? = some p → ∃ t, ts[i]? = some t ∧ H' t = some (.tup [.int p.1, .int p.2])) → Q (ts.map V.ref) H') → tPairs l σ H Q
  | [], _, H, Q, h => h [] H (Same.refl H) rfl fun i p e => by simp at e
  | p :: r, σ, H, Q, h => by
    refine ⟨by show 2 ≤ sizeLine; decide, fun t ht => ?_⟩
    refine rd_pairs r σ _ _ fun ts H' s e f => ?_
    refine h (t :: ts) H' ((same_new ht).trans s) (by simp [e]) fun i q eq => ?_
    cases i with
    | zero =>
      cases eq
      exact ⟨t, rfl, s _ _ upd_same⟩
    | succ i => exact f i q (by simpa using eq)
theorem bd_at {i : Nat} (h : i < 6) : ∃ p, bnds[i]? = some p ∧ 1 ≤ p.1 ∧ p.1 ≤ p.2 ∧ p.2 ≤ 60 := by
  match i, h with
  | 0, _ => exact ⟨_, rfl, by decide, by decide, by decide⟩
  | 1, _ => exact ⟨_, rfl, by decide, by decide, by decide⟩
  | 2, _ => exact ⟨_, rfl, by decide, by decide, by decide⟩
  | 3, _ => exact ⟨_, rfl, by decide, by decide, by decide⟩
  | 4, _ => exact ⟨_, rfl, by decide, by decide, by decide⟩
  | 5, _ => exact ⟨_, rfl, by decide, by decide, by decide⟩
theorem drawn_ge (lo hi h : Int) (hl : lo ≤ hi) (h0 : 0 ≤ h) : ∃ x, ([V.int lo, V.int hi, V.int (lo + h / 4 % (hi - lo + 1)), V.int (lo + h / 4 % 3)] : List V)[(h % 4).toNat]? = some (.int x) ∧ lo ≤ x := by
  have a := Int.emod_nonneg (h / 4) (show hi - lo + 1 ≠ 0 by omega)
  have b := Int.emod_nonneg (h / 4) (show (3 : Int) ≠ 0 by decide)
  have c : h % 4 = 0 ∨ h % 4 = 1 ∨ h % 4 = 2 ∨ h % 4 = 3 := by omega
  rcases c with c | c | c | c <;> rw [c]
  · exact ⟨_, rfl, Int.le_refl _⟩
  · exact ⟨_, rfl, hl⟩
  · exact ⟨_, rfl, by omega⟩
  · exact ⟨_, rfl, by omega⟩
/-- six numbers above their lower bounds, cut by the upper ones -/
theorem rule_of (l : List Int) (hl : l.length = 6) (h : ∀ (i : Nat) (x : Int) (p : Int × Int), l[i]? = some x → bnds[i]? = some p → p.1 ≤ x) : ∃ r : Rule, r.Ok ∧ r.vs = (List.range 6).map fun i => V.int (mn (l.getD i 0) (bnds.getD i (0, 0)).2) := by
  match l, hl with
  | [a, b, c, d, e, f], _ =>
    have ha := h 0 a (1, 9) rfl rfl
    have hb := h 1 b (1, 3) rfl rfl
    have hc := h 2 c (1, 60) rfl rfl
    have hd := h 3 d (1, 5) rfl rfl
    have he := h 4 e (1, 20) rfl rfl
    have hf := h 5 f (1, 3) rfl rfl
    refine ⟨⟨mn a 9, mn b 3, mn c 60, mn d 5, mn e 20, mn f 3⟩, ⟨?_, ?_, ?_, ?_, ?_, ?_⟩, rfl⟩ <;> simp only [mn_eq] <;> simp only [] at ha hb hc hd he hf <;> omega
section
variable {P : Program} {w : World} {K : PySem.W.Frag} {mg : Str → Option Value} {base : Heap}
/-- some rule, new -/
def spRule : Sp := fun vs H Q _ => ∃ m : Int, vs = [.int m] ∧ ∀ (r : Rule) (p : Addr) (H' : Hp), r.Ok → Same H H' → H p = none → H' p = some (.tup r.vs) → Q (.ref p) H'
theorem k_l_rule (T : Txt K mg) : Kal P w K mg base CX0 2 "_law_rule" spRule := by
  refine kal_of T.f_l_rule T.g_l_rule sc_l_rule (fun _ _ _ _ _ _ us hl => match us, hl with | [_], _ => rfl) (fun vs H Q E ⟨_, h, _⟩ => by rw [h] <;> rfl) fun cdv A outer s H vs Q E hr ⟨m, e, q⟩ => ?_
  subst e
  have nd := sc_l_rule.nd
  have two : ∀ {X : Cx}, PA X [.Constant (.int 0) 0 ⟨0, 0, 0, 0⟩] (tCons (tC (.int 0)) tNil) := pa_cons pe_int pa_nil
  refine ⟨_, PSs.nox (pss_cons (ps_set (i := 1) nd rfl (Or.inl rfl) (pe_lst (pa_cons (pe_tup (pa_cons pe_int (pa_cons pe_int pa_nil))) (pa_cons (pe_tup (pa_cons pe_int (pa_cons pe_int pa_nil))) (pa_cons (pe_tup (pa_cons pe_int (pa_cons pe_int pa_nil)))
      (pa_cons (pe_tup (pa_cons pe_int (pa_cons pe_int pa_nil))) (pa_cons (pe_tup (pa_cons pe_int (pa_cons pe_int pa_nil))) (pa_cons (pe_tup (pa_cons pe_int (pa_cons pe_int pa_nil))) pa_nil))))))))
    (pss_cons (ps_set (i := 2) nd rfl (Or.inl rfl) (pe_lst pa_nil))
    (pss_cons (ps_for PassesOwn.never rfl (pi_enum (by rfl) T.n_enumerate (pa_cons (pv 1) pa_nil))
        (pg_tup rfl (pgs_cons (pg_name (i := 3) nd rfl (Or.inl rfl)) (pgs_cons (pg_tup rfl (pgs_cons (pg_name (i := 4) nd rfl (Or.inl rfl)) (pgs_cons (pg_name (i := 5) nd rfl (Or.inl rfl)) pgs_nil))) pgs_nil)))
        (pss_cons (ps_set (i := 6) nd rfl (Or.inl rfl) (pe_k (E := E0) (k_l_drawn T) hr (by decide) pass0 (pa_cons (pv 0) (pa_cons (pv 3) pa_nil))))
        (pss_one (ps_expr (pe_bm PySem.F.plainAttrs_list PySem.F.slot_list_append PySem.F.type_list_append mt_append (pv 2) (pa_cons
          (pe_ix ix_list (pe_lst (pa_cons (pv 4) (pa_cons (pv 5) (pa_cons (pe_op op_add (pv 4) (pe_op op_mod (pe_op op_fdiv (pv 6) pe_int) (pe_op op_add (pe_op op_sub (pv 5) (pv 4)) pe_int)))
            (pa_cons (pe_op op_add (pv 4) (pe_op op_mod (pe_op op_fdiv (pv 6) pe_int) pe_int)) pa_nil))))) (pe_op op_mod (pv 6) pe_int) (fun _ _ => rfl)) pa_nil))))))
    (pss_one (ps_ret (b_tuple T.n_tuple (pa_cons
        (pe_lc (own := [("_law_one", 7), ("_law_low", 4), ("_law_high", 5)]) (g := gTup K 2 (gCons (gName 7) (gCons (gTup K 2 (gCons (gName 4) (gCons (gName 5) gNil))) gNil))) (tt := tYes) rfl nd
          (pi_zip (by rfl) T.n_zip (pa_cons (pv 2) (pa_cons (pv 1) pa_nil))) (blkOk_by (N := ["_law_more", "_law_bounds", "_law_found", "_law_j", "_law_low", "_law_high", "_law_here", "_law_one"]) (sc := defScope s_l_rule) (by decide +kernel))
          (fun _ _ _ _ _ => pg_tup rfl (pgs_cons (pg_name (i := 7) nd rfl (Or.inl rfl)) (pgs_cons (pg_tup rfl (pgs_cons (pg_name (i := 4) nd rfl (Or.inl rfl)) (pgs_cons (pg_name (i := 5) nd rfl (Or.inl rfl)) pgs_nil))) pgs_nil)))
          (fun _ _ _ _ _ => pts_nil) (fun _ _ _ _ _ => b_min2 rfl T.n_min (pa_cons (pv 7) (pa_cons (pv 5) pa_nil)))) pa_nil))))))), ?_⟩
  refine r_seq (r_asg (r_lst ?_))
  refine rd_pairs bnds _ _ _ fun ts H1 s1 hl f => ?_
  refine ⟨by show (ts.map V.ref).length ≤ sizeLine; rw [List.length_map, hl]; decide, fun B hB => ?_⟩
  have s2 := same_new (o := HO.lst (ts.map V.ref)) hB
  generalize hH2 : upd H1 B (HO.lst (ts.map V.ref)) = H2 at s2
  have eB : H2 B = some (.lst (ts.map V.ref)) := by rw [← hH2]; exact upd_same
  refine ⟨by show 0 ≤ sizeLine; decide, fun F hF => ?_⟩
  have hl6 : ts.length = 6 := hl
  refine ⟨_, rfl, B, _, rfl, sqL ((same_new hF) _ _ eB), ?_⟩
  refine for_it walk_enum (fun i σ H3 => ∃ (l : List Int) (a b c d e : Option V), σ = [some (.int m), some (.ref B), some (.ref F), a, b, c, d, e] ∧ Same H2 H3 ∧ H3 F = some (.lst (l.map V.int)) ∧ l.length = i ∧ ∀ (j : Nat) (x : Int) (p : Int × Int), l[j]? = some x → bnds[j]? = some p → p.1 ≤ x)
    ⟨[], none, none, none, none, none, rfl, same_new hF, upd_same, rfl, fun j x p e => by simp at e⟩ (fun i σ H3 _ ⟨_, _, _, _, _, _, _, s3, _⟩ => sqL (s3 _ _ eB)) ?_ ?_
  · rintro i x σ H3 H4 hi ⟨l, a, b, c, d, e, rfl, s3, eF, ll, hb⟩ ⟨T1, u, v, rfl, hT, rfl, hu, hv⟩
    rw [List.length_map, hl6] at hi
    obtain ⟨pr, hpr, g1, g2, g3⟩ := bd_at hi
    obtain ⟨t, ht, et⟩ := f i pr hpr
    have hv : (ts.map V.ref)[i]? = some v := hv
    rw [List.getElem?_map, ht] at hv
    obtain rfl := (Option.some.inj hv).symm
    obtain rfl : V.int (i : Nat) = u := Option.some.inj hu
    have s4 : Same H3 (upd H3 T1 (.tup [.int (i : Nat), .ref t])) := same_new hT
    refine ⟨_, _, rfl, sqT upd_same, rfl, _, _, rfl, _, _, rfl, ⟨_, _, rfl, sqT (s4 _ _ (s3 _ _ (s2 _ _ et))), rfl, _, _, rfl, _, _, rfl, rfl, rfl, ?_⟩⟩
    refine ⟨_, rfl, _, rfl, m, i, rfl, by omega, by omega, fun dr d0 d1 => ?_⟩
    have eF4 := s4 _ _ eF
    generalize upd H3 T1 (HO.tup [.int (i : Nat), .ref t]) = H4 at s4 eF4
    refine ⟨_, rfl, .inl ⟨rfl, _, sqL eF4⟩, ?_⟩
    refine ⟨_, rfl, _, rfl, _, rfl, _, rfl, _, _, rfl, rfl, ⟨by decide, by decide⟩, _, rfl, _, rfl, _, _, rfl, rfl, _, _, rfl, rfl, _, _, rfl, rfl, (by show 0 < pr.2 - pr.1 + 1; omega), _, _, rfl, rfl, ?_⟩
    refine ⟨_, rfl, _, rfl, _, _, rfl, rfl, ⟨by decide, by decide⟩, _, _, rfl, rfl, (by show (0 : Int) < 3; decide), _, _, rfl, rfl, ?_⟩
    refine ⟨by show 4 ≤ sizeLine; decide, fun p hp => ?_⟩
    obtain ⟨y, hy, gy⟩ := drawn_ge pr.1 pr.2 dr g2 d0
    have em : (((dr % 4).toNat : Nat) : Int) = dr % 4 := Int.toNat_of_nonneg (by omega)
    have at4 := atI_nat hy
    rw [em] at at4
    refine ⟨_, rfl, _, _, rfl, rfl, (by show (0 : Int) < 4; decide), _, _, _, _, rfl, rfl, sqL upd_same, at4, ?_⟩
    have s5 : Same H4 (upd H4 p (.lst [V.int pr.1, V.int pr.2, V.int (pr.1 + dr / 4 % (pr.2 - pr.1 + 1)), V.int (pr.1 + dr / 4 % 3)])) := same_new hp
    refine ⟨F, l.map V.int, .int y, rfl, rfl, s5 _ _ eF4, sz1 (by rw [List.length_map]; omega), ?_⟩
    refine ⟨l ++ [y], _, _, _, _, e, rfl, same_mut ((s3.trans s4).trans s5) hF, ?_, by rw [List.length_append, ll] <;> rfl, fun j x q ej eq => ?_⟩
    · rw [List.map_append]
      exact upd_same
    · by_cases hj : j < l.length
      · rw [List.getElem?_append_left hj] at ej
        exact hb j x q ej eq
      · have hj2 := (List.getElem?_eq_some_iff.mp ej).1
        rw [List.length_append] at hj2
        have ej3 : j = l.length := by simp at hj2; omega
        rw [ej3] at ej eq
        rw [ll] at eq
        rw [hpr] at eq
        cases eq
        simp at ej
        omega
  · rintro σ H3 ⟨l, a, b, c, d, e, rfl, s3, eF, ll, hb⟩
    rw [List.length_map, hl6] at ll
    refine ⟨_, rfl, _, rfl, F, B, _, _, rfl, sqL eF, sqL (s3 _ _ eB), fun D hD => ?_⟩
    refine lc_adds (walk_zip (n := 6) (by rw [List.length_map, List.length_map, ll, hl6]; rfl)) (fun i acc => acc = (List.range i).map fun j => V.int (mn (l.getD j 0) (bnds.getD j (0, 0)).2)) hD (by omega) rfl (fun i acc h => by rw [h]; simp) (fun H' s' => ⟨sqL (s' _ _ eF), sqL (s' _ _ (s3 _ _ eB))⟩) ?_ ?_
    · rintro Tq N i acc y H4 H5 yes no hi s4 p ⟨T1, u, v, rfl, hT, rfl, hu, hv⟩
      obtain ⟨pr, hpr, g1, g2, g3⟩ := bd_at hi
      obtain ⟨t, ht, et⟩ := f i pr hpr
      have hv : (ts.map V.ref)[i]? = some v := hv
      rw [List.getElem?_map, ht] at hv
      obtain rfl := (Option.some.inj hv).symm
      have hu : (l.map V.int)[i]? = some u := hu
      have hil : i < l.length := by omega
      rw [List.getElem?_map, List.getElem?_eq_getElem hil] at hu
      obtain rfl := (Option.some.inj hu).symm
      have s5 : Same H4 (upd H4 T1 (.tup [.int l[i], .ref t])) := same_new hT
      refine ⟨_, _, rfl, sqT upd_same, rfl, _, _, rfl, _, _, rfl, ⟨_, _, rfl, sqT (s5 _ _ (s4 _ _ (s3 _ _ (s2 _ _ et)))), rfl, _, _, rfl, _, _, rfl, rfl, rfl, rfl, ?_⟩⟩
      refine ⟨_, rfl, _, rfl, _, _, rfl, yes _ _ s5 ?_⟩
      rw [p, List.range_succ, List.map_append]
      show _ = _ ++ [V.int (mn (l.getD i 0) (bnds.getD i (0, 0)).2)]
      have e1 : l.getD i 0 = l[i] := by rw [List.getD_eq_getElem?_getD, List.getElem?_eq_getElem hil] <;> rfl
      have e2 : (bnds.getD i (0, 0)) = pr := by rw [List.getD_eq_getElem?_getD, hpr] <;> rfl
      rw [e1, e2]
      rfl
    · rintro acc H4 s4 hDa rfl
      obtain ⟨r, ok, er⟩ := rule_of l ll hb
      refine ⟨D, _, rfl, .inl ⟨sqL hDa, fun p hp => ?_⟩⟩
      refine q r p _ ok (((s1.trans s2).trans (s3.trans s4)).trans (same_new hp)) (((s1.trans s2).trans (s3.trans s4)).free hp) ?_
      rw [er]
      exact upd_same
end
end T
end
section
namespace T
open PySem PySem.Spec PyProof.Rows L2 Tr
section
variable {P : Program} {w : World} {K : PySem.W.Frag} {mg : Str → Option Value} {base : Heap}
/-! ### the word of a refusal -/
/-- ("refused", d), new -/
def spWord (K : PySem.W.Frag) (cs : List Str) : Addr × Obj → Hp → VK → Prop := fun p H Q => ∃ d, d ∈ cs ∧ Zc (.ref (He.ga K d)) none p.2 ∧ (∃ vs, p.2.data = .fields vs) ∧ Word K cs d ∧
  ∀ (H' : Hp) (t : Addr), Same H H' → H t = none → H' t = some (.tup [.str "refused", .str d]) → Q (.ref t) H'
/-- which of the classes it is, counted -/
theorem word_bits (d : Str) (hd : d ∈ cls) : (cls.map fun c => if decide (d = c) then (1 : Int) else 0).sum = 1 ∧
    ∃ j, cls[j]? = some d ∧ (cls.map fun c => decide (d = c))[j]? = some true ∧ ∀ (m : Nat) (b : Bool), m < j → (cls.map fun c => decide (d = c))[m]? = some b → b = false := by
  have hd' : d = "BadCall" ∨ d = "BadName" ∨ d = "BadRule" ∨ d = "BadText" ∨ d = "BadTime" ∨ d = "Full" := by simpa [cls] using hd
  have nd : ∀ (j m : Nat) (b : Bool), cls[j]? = some d → m < j → (cls.map fun c => decide (d = c))[m]? = some b → b = false := by
    intro j m b h1 h2 h3
    rw [List.getElem?_map] at h3
    have hN : cls.Nodup := by decide +kernel
    have hj := (List.getElem?_eq_some_iff.mp h1).1
    have hm : m < cls.length := by omega
    rw [List.getElem?_eq_getElem hm] at h3
    have e : decide (d = cls[m]) = b := Option.some.inj h3
    rw [← e]
    refine decide_eq_false fun z => ?_
    have e1 : cls[j] = d := Option.some.inj ((List.getElem?_eq_getElem hj).symm.trans h1)
    exact (List.pairwise_iff_getElem.mp hN) m j hm hj h2 (z.symm.trans e1.symm)
  rcases hd' with rfl | rfl | rfl | rfl | rfl | rfl
  · exact ⟨by decide +kernel, 0, rfl, by decide +kernel, fun m b h e => nd 0 m b rfl h e⟩
  · exact ⟨by decide +kernel, 1, rfl, by decide +kernel, fun m b h e => nd 1 m b rfl h e⟩
  · exact ⟨by decide +kernel, 2, rfl, by decide +kernel, fun m b h e => nd 2 m b rfl h e⟩
  · exact ⟨by decide +kernel, 3, rfl, by decide +kernel, fun m b h e => nd 3 m b rfl h e⟩
  · exact ⟨by decide +kernel, 4, rfl, by decide +kernel, fun m b h e => nd 4 m b rfl h e⟩
  · exact ⟨by decide +kernel, 5, rfl, by decide +kernel, fun m b h e => nd 5 m b rfl h e⟩
theorem k_l_word (T : Txt K mg) : ∃ (f : Addr) (fd : FuncData), TrL.WordOk P w K mg base 1 f fd ["_law_e"] (spWord K cls) ∧ mg "_law_word" = some (.ref f) ∧ PySem.W.keepIn K (.ref f) = true ∧ Binds K fd ["_law_e"] [] := by
  obtain ⟨fd, F⟩ := T.f_l_word
  obtain ⟨oc, od, dV, kV, doc, pm, an, cdv, ct, osl, rfl, lk, hcd, _, _⟩ := id F.ex
  refine ⟨_, _, TrL.wordOk lk hcd sc_l_word fun A outer s H Q p hot hr ⟨d, hd, hz, hf, W, q⟩ => ?_, T.g_l_word, F.kp, F.bindsN fun _ _ _ _ _ _ us hl => match us, hl with | [_], _ => rfl⟩
  have nd := sc_l_word.nd
  have mem : (p.1, p.2) ∈ [p] := List.mem_singleton.mpr rfl
  have hc : L2H.HotC (L2H.cxH C8.CX0 P w K mg base ["_law_e", "_law_flags", "_law_flag"] "_law_word" (defScope s_l_word) (He.ga K "_law_word") cdv A outer s H C8.E0 p) := ⟨p, ⟨hot.1, hot.2⟩, List.mem_singleton.mpr rfl⟩
  refine ⟨_, pss_cons (ps_set (i := 1) nd rfl (Or.inl rfl) (pe_lst
      (pa_cons (pe_callB (TrL.callIsP mem W.exc hz hf) (by rfl) T.n_isinstance boot_isinstance (pa_cons (pv 0) (pa_cons (pe_glob (v := .ref (He.ga K "BadCall")) (by rfl) T.g_BadCall rfl) pa_nil)))
      (pa_cons (pe_callB (TrL.callIsP mem W.exc hz hf) (by rfl) T.n_isinstance boot_isinstance (pa_cons (pv 0) (pa_cons (pe_glob (v := .ref (He.ga K "BadName")) (by rfl) T.g_BadName rfl) pa_nil)))
      (pa_cons (pe_callB (TrL.callIsP mem W.exc hz hf) (by rfl) T.n_isinstance boot_isinstance (pa_cons (pv 0) (pa_cons (pe_glob (v := .ref (He.ga K "BadRule")) (by rfl) T.g_BadRule rfl) pa_nil)))
      (pa_cons (pe_callB (TrL.callIsP mem W.exc hz hf) (by rfl) T.n_isinstance boot_isinstance (pa_cons (pv 0) (pa_cons (pe_glob (v := .ref (He.ga K "BadText")) (by rfl) T.g_BadText rfl) pa_nil))) pa_nil))))))
    (pss_cons (ps_set (i := 1) nd rfl (Or.inl rfl) (pe_op op_cat (pv 1) (pe_lst
      (pa_cons (pe_callB (TrL.callIsP mem W.exc hz hf) (by rfl) T.n_isinstance boot_isinstance (pa_cons (pv 0) (pa_cons (pe_glob (v := .ref (He.ga K "BadTime")) (by rfl) T.g_BadTime rfl) pa_nil)))
      (pa_cons (pe_callB (TrL.callIsP mem W.exc hz hf) (by rfl) T.n_isinstance boot_isinstance (pa_cons (pv 0) (pa_cons (pe_glob (v := .ref (He.ga K "Full")) (by rfl) T.g_Full rfl) pa_nil))) pa_nil)))))
    (pss_cons (ps_if (PW.pt (pw_or (pt_cmpR op_ne (pe_callB (TrH.crSumH hc) (by rfl) T.n_sum boot_sum (pa_cons (TrH.peIntsH hc (pv 1) (by exact ⟨rfl, by decide +kernel, by decide +kernel, rfl, rfl⟩) T.n_int) pa_nil)) pe_int (nomark _))
        (pw_or1 (pt_not (pt_val (pe_callB (TrL.callIsP mem W.exc hz hf) (by rfl) T.n_isinstance boot_isinstance (pa_cons (pv 0) (pa_cons (pe_bltn (v := .ty "ValueError") (by rfl) T.n_ValueError (by decide +kernel) rfl) pa_nil))))))))
      (pss_one (ps_ret (pe_tup (pa_cons pe_str (pa_cons pe_str pa_nil))))) pss_nil)
    (pss_one (ps_ret (pe_tup (pa_cons pe_str (pa_cons (pe_ix ix_list (pe_lst (pa_cons pe_str (pa_cons pe_str (pa_cons pe_str (pa_cons pe_str (pa_cons pe_str (pa_cons pe_str pa_nil)))))))
      (pe_bm PySem.F.plainAttrs_list PySem.F.slot_list_index PySem.F.type_list_index mt_index (pv 1) (pa_cons pe_bl pa_nil)) (fun _ _ => rfl)) pa_nil))))))), ?_⟩
  obtain ⟨hs, j, hj, hj2, hj3⟩ := word_bits d hd
  have kit : ∀ c, c ∈ cls → PySem.W.kitOne K (.ref (He.ga K d)) (.ref (He.ga K c)) = some (decide (d = c)) := W.kit
  refine ⟨_, rfl, _, _, _, rfl, (fun _ r => r), kit "BadCall" (by decide +kernel), _, rfl, _, _, _, rfl, (fun _ r => r), kit "BadName" (by decide +kernel), _, rfl, _, _, _, rfl, (fun _ r => r), kit "BadRule" (by decide +kernel), _, rfl, _, _, _, rfl, (fun _ r => r), kit "BadText" (by decide +kernel), by show 4 ≤ sizeLine; decide, fun l1 h1 => ?_⟩
  refine ⟨_, rfl, _, rfl, _, _, _, rfl, (fun _ r => r), kit "BadTime" (by decide +kernel), _, rfl, _, _, _, rfl, (fun _ r => r), kit "Full" (by decide +kernel), by show 2 ≤ sizeLine; decide, fun l2 h2 => ?_⟩
  have n12 : l1 ≠ l2 := ne_of_none upd_same h2
  refine ⟨l1, l2, _, _, rfl, rfl, by rw [upd_ne n12]; exact upd_same, upd_same, by show 4 + 2 ≤ sizeLine; decide, fun l3 h3 => ?_⟩
  generalize hH3 : upd _ l3 _ = H3
  have s3 : Same H H3 := by
    rw [← hH3]
    exact ((same_new h1).trans (same_new h2)).trans (same_new h3)
  have f3 : H3 l3 = some (.lst ((cls.map fun c => decide (d = c)).map V.bl)) := by
    rw [← hH3, upd_same]
    rfl
  refine ⟨_, rfl, l3, cls.map fun c => decide (d = c), rfl, sqL f3, fun l4 h4 => ?_⟩
  generalize hH4 : upd _ l4 _ = H4
  have s4 : Same H3 H4 := by
    rw [← hH4]
    exact same_new h4
  have f4 : H4 l4 = some (.lst ((cls.map fun c => if decide (d = c) then (1 : Int) else 0).map V.int)) := by
    rw [← hH4, upd_same, List.map_map, List.map_map]
    rfl
  refine ⟨l4, cls.map fun c => if decide (d = c) then (1 : Int) else 0, rfl, sqL f4, rfl, ?_⟩
  rw [hs]
  refine ⟨_, rfl, ?_⟩
  refine ⟨_, rfl, _, _, _, rfl, (fun _ r => r), W.val, _, rfl, ?_⟩
  refine ⟨by show 6 ≤ sizeLine; decide, fun l5 h5 => ?_⟩
  generalize hH5 : upd _ l5 _ = H5
  have s5 : Same H4 H5 := by
    rw [← hH5]
    exact same_new h5
  have e3 : SqL K H5 l3 ((cls.map fun c => decide (d = c)).map V.bl) := sqL (s5 _ _ (s4 _ _ f3))
  have e5 : SqL K H5 l5 (cls.map V.str) := by
    rw [← hH5]
    exact sqL upd_same
  refine ⟨_, rfl, .inl ⟨rfl, _, e3⟩, l3, _, .bl true, j, .bl true, rfl, rfl, e3, rfl, by rw [List.all_map]; exact List.all_eq_true.mpr fun _ _ => rfl, by rw [List.getElem?_map, hj2] <;> rfl, rfl, fun m z hm hz => ?_, ?_⟩
  · rw [List.getElem?_map] at hz
    cases e : (cls.map fun c => decide (d = c))[m]? with
    | none =>
      rw [e] at hz
      cases hz
    | some b =>
      rw [e] at hz
      cases hz
      rw [hj3 m b hm e]
      rfl
  · refine ⟨l5, _, _, _, rfl, rfl, e5, atI_nat (v := .str d) (by rw [List.getElem?_map, hj] <;> rfl), by show 2 ≤ sizeLine; decide, fun t ht => ?_⟩
    exact q _ t (((s3.trans s4).trans s5).trans (same_new ht)) (((s3.trans s4).trans s5).free ht) upd_same
end
end T
end
section
namespace T
open PySem PySem.Spec PyProof.Rows L2 Tr
/-! ### names and texts -/
abbrev smallS : Str := "abcdefghijklmnopqrstuvwxyz"
def nmC (c : Nat) : Bool := decide (c ∈ smallS.cps.toList)
def nameOk (s : Str) : Bool := decide (1 ≤ s.length) && (decide (s.length ≤ 4) && s.cps.toList.all nmC)
def isNm : V → Bool
  | .str s => nameOk s
  | _ => false
abbrev blankS : Str := " "
abbrev tildeS : Str := "~"
def txC (c : Nat) : Bool := !decide (([c] : List Nat) < blankS.cps.toList) && (!decide (tildeS.cps.toList < ([c] : List Nat)) && decide (c ≠ 37))
def textOk (s : Str) : Bool := decide (s.length ≤ 20) && s.cps.toList.all txC
def isTx : V → Bool
  | .str s => textOk s
  | _ => false
def Short : V → Prop
  | .str s => s.length ≤ 100000
  | _ => True
theorem range_take {f : Nat → Bool} (l : List Nat) : ∀ i, i ≤ l.length → ((List.range i).map fun j => f (l.getD j 0)) = (l.take i).map f
  | 0, _ => by simp
  | i + 1, h => by
    have hi : i < l.length := by omega
    rw [List.range_succ, List.map_append, range_take l i (by omega), List.take_succ, List.getElem?_eq_getElem hi, List.map_append]
    simp [List.getD_eq_getElem?_getD, List.getElem?_eq_getElem hi]
theorem range_all {f : Nat → Bool} (l : List Nat) (n : Nat) (h : n = l.length) : ((List.range n).map fun j => f (l.getD j 0)) = l.map f := by
  rw [h, range_take l _ (Nat.le_refl _), List.take_length]
section
variable {P : Program} {w : World} {K : PySem.W.Frag} {mg : Str → Option Value} {base : Heap}
/-- a comprehension's sign at turn i -/
theorem sign_at {z : Str} {i : Nat} {c : Nat} (h : z.cps[i]? = some c) : z.cps.toList.getD i 0 = c := by
  rw [List.getD_eq_getElem?_getD, Array.getElem?_toList, h]
  rfl
def spBl (f : V → Bool) (K : PySem.W.Frag) : Sp := fun vs H Q _ => ∃ x : V, vs = [x] ∧ Thing K H x ∧ Short x ∧ ∀ H', Same H H' → Q (.bl (f x)) H'
theorem k_is_name (T : Txt K mg) : Kal P w K mg base CX0 1 "is_name" (spBl isNm K) := by
  refine kal_of T.f_is_name T.g_is_name sc_is_name (fun _ _ _ _ _ _ us hl => match us, hl with | [_], _ => rfl) (fun vs H Q E ⟨_, h, _⟩ => by rw [h] <;> rfl) fun cdv A outer s H vs Q E hr ⟨x, e, hx, hz, q⟩ => ?_
  subst e
  obtain ⟨u4, g4, r4⟩ := T.i_MOST_NAME
  obtain ⟨uS, gS, rS⟩ := T.i_SMALL
  refine ⟨_, pss_one (ps_ret (pe_and (b_isi T.n_isinstance (pa_cons (pv 0) (pa_cons (pe_bltn (v := .ty "str") (by rfl) T.n_str (by decide +kernel) rfl) pa_nil)))
    (pe_and (pe_chain op_le op_le pe_int (b_len T.n_len (pa_cons (pv 0) pa_nil)) (pe_glob (by rfl) g4 r4))
      (pe_one (b_all rfl T.n_all (pa_cons
        (pe_lc (own := [("sign", 1)]) (g := gName 1) (tt := tYes) rfl sc_is_name.nd (pi_str (pv 0)) (blkOk_by (N := ["thing", "sign"]) (sc := defScope s_is_name) (by decide +kernel))
          (fun _ _ _ _ _ => pg_name (i := 1) sc_is_name.nd rfl (Or.inl rfl)) (fun _ _ _ _ _ => pts_nil) (fun _ _ _ _ _ => pe_cmpR op_in_sign (pv 1) (pe_glob (by rfl) gS rS) rfl)) pa_nil)))))), ?_⟩
  refine ⟨_, rfl, ?_⟩
  cases hx with
  | non => exact ⟨_, _, _, _, false, rfl, .ty "str", .base .non, kit_ty (by decide +kernel), _, rfl, q _ (Same.refl H)⟩
  | bl b => exact ⟨_, _, _, _, false, rfl, .ty "str", .base (.bl b), kit_ty (by decide +kernel), _, rfl, q _ (Same.refl H)⟩
  | int b => exact ⟨_, _, _, _, false, rfl, .ty "str", .base (.int b), kit_ty (by decide +kernel), _, rfl, q _ (Same.refl H)⟩
  | lst e => exact ⟨_, _, _, _, false, rfl, .ty "str", .base (.lst e), kit_ty (by decide +kernel), _, rfl, q _ (Same.refl H)⟩
  | tup e => exact ⟨_, _, _, _, false, rfl, .ty "str", .base (.tup e), kit_ty (by decide +kernel), _, rfl, q _ (Same.refl H)⟩
  | str z =>
    have hz : z.length ≤ 100000 := hz
    refine ⟨_, _, _, _, true, rfl, .ty "str", .base (.str z), kit_ty (by decide +kernel), _, rfl, _, rfl, _, z.length, rfl, ⟨sz hz, rfl⟩, ?_⟩
    refine ⟨_, _, rfl, rfl, ?_⟩
    by_cases h1 : 1 ≤ z.length
    · refine ⟨true, congrArg V.bl (decide_eq_true (by omega)), _, _, rfl, rfl, ?_⟩
      by_cases h4 : z.length ≤ 4
      · refine ⟨true, congrArg V.bl (decide_eq_true (by omega)), _, rfl, z, rfl, fun D hD => ?_⟩
        have hl : z.cps.size = z.length := rfl
        refine lc_adds (walk_str (z := z)) (fun i acc => acc = (List.range i).map fun j => V.bl (nmC (z.cps.toList.getD j 0))) hD (by omega) rfl (fun i acc h => by rw [h]; simp) (fun _ _ => trivial) ?_ ?_
        · rintro Tq N i acc y H1 H2 yes no hi s1 p ⟨rfl, c, hc, rfl⟩
          refine ⟨rfl, _, rfl, c, _, rfl, rfl, yes _ _ (Same.refl _) ?_⟩
          rw [p, List.range_succ, List.map_append]
          show _ = _ ++ [V.bl (nmC (z.cps.toList.getD i 0))]
          rw [sign_at hc]
          rfl
        · rintro acc H1 s1 hDa rfl
          refine ⟨D, z.cps.toList.map nmC, rfl, sqL (by rw [hDa, ← range_all (f := nmC) z.cps.toList z.cps.size (by simp), List.map_map]; rfl), ?_⟩
          have e : isNm (.str z) = (z.cps.toList.map nmC).all id := by
            show nameOk z = _
            unfold nameOk
            rw [decide_eq_true h1, decide_eq_true h4, List.all_map]
            rfl
          rw [← e]
          exact q _ s1
      · refine ⟨false, congrArg V.bl (decide_eq_false (by omega)), ?_⟩
        have e : isNm (.str z) = false := by
          show nameOk z = _
          unfold nameOk
          rw [decide_eq_false h4]
          simp
        rw [e] at q
        exact q _ (Same.refl H)
    · refine ⟨false, congrArg V.bl (decide_eq_false (by omega)), ?_⟩
      have e : isNm (.str z) = false := by
        show nameOk z = _
        unfold nameOk
        rw [decide_eq_false h1]
        rfl
      rw [e] at q
      exact ⟨_, rfl, q _ (Same.refl H)⟩
def spNeedBl (f : V → Bool) (cls : Str) (K : PySem.W.Frag) : Sp := fun vs H Q E => ∃ x : V, vs = [x] ∧ Thing K H x ∧ Short x ∧ (f x = true → ∀ H', Same H H' → Q .non H') ∧ (f x = false → ∀ H', Same H H' → E (.ref (He.ga K cls)) none H')
theorem k_need_name (T : Txt K mg) : Kal P w K mg base (NX P w) 2 "need_name" (spNeedBl isNm "BadName" K) := by
  refine kal_of T.f_need_name T.g_need_name sc_need_name (fun _ _ _ _ _ _ us hl => match us, hl with | [_], _ => rfl) (fun vs H Q E ⟨_, h, _⟩ => by rw [h] <;> rfl) fun cdv A outer s H vs Q E hr ⟨x, e, hx, hz, q1, q2⟩ => ?_
  subst e
  obtain ⟨x1, x2, x3, x4⟩ := He.exc_ok T.e_BadName
  refine ⟨_, pss_one (ps_if (pt_not (pt_val (pe_k (E := E0) (k_is_name T) hr (by decide) pass0 (pa_cons (pv 0) pa_nil))))
      (pss_one (L2N.ps_raise rfl (L2N.takes_of rfl rfl rfl rfl) (L2N.pmk_own PySem.F.excBase_ValueError x1 T.g_BadName x2 (raises_own x3 x4) (by rfl)))) pss_nil), ?_⟩
  refine ⟨_, rfl, x, rfl, hx, hz, fun H1 s1 => ⟨_, rfl, ?_⟩⟩
  cases e : isNm x with
  | true => exact q1 e H1 s1
  | false => exact q2 e H1 s1
theorem k_is_text (T : Txt K mg) : Kal P w K mg base CX0 1 "is_text" (spBl isTx K) := by
  refine kal_of T.f_is_text T.g_is_text sc_is_text (fun _ _ _ _ _ _ us hl => match us, hl with | [_], _ => rfl) (fun vs H Q E ⟨_, h, _⟩ => by rw [h] <;> rfl) fun cdv A outer s H vs Q E hr ⟨x, e, hx, hz, q⟩ => ?_
  subst e
  obtain ⟨u4, g4, r4⟩ := T.i_MOST_TEXT
  obtain ⟨uS, gS, rS⟩ := T.i_BARRED
  have nd := sc_is_text.nd
  refine ⟨_, pss_cons (ps_set (i := 1) nd rfl (Or.inl rfl) (pe_and (b_isi T.n_isinstance (pa_cons (pv 0) (pa_cons (pe_bltn (v := .ty "str") (by rfl) T.n_str (by decide +kernel) rfl) pa_nil)))
      (pe_one (pe_cmpR op_le (b_len T.n_len (pa_cons (pv 0) pa_nil)) (pe_glob (by rfl) g4 r4) (nomark _)))))
    (pss_one (ps_ret (pe_and (pv 1) (pe_one (b_all rfl T.n_all (pa_cons
        (pe_lc (own := [("sign", 2)]) (g := gName 2) (tt := tYes) rfl nd (pi_str (pv 0)) (blkOk_by (N := ["thing", "good", "sign"]) (sc := defScope s_is_text) (by decide +kernel))
          (fun _ _ _ _ _ => pg_name (i := 2) nd rfl (Or.inl rfl)) (fun _ _ _ _ _ => pts_nil)
          (fun _ _ _ _ _ => pe_and (pe_chain op_le_str op_le_str pe_str (pv 2) pe_str) (pe_one (pe_cmpR op_ne (pe_callB call_ord (by rfl) T.n_ord boot_ord (pa_cons (pv 2) pa_nil)) (pe_glob (by rfl) gS rS) (nomark _))))) pa_nil)))))), ?_⟩
  refine ⟨_, rfl, ?_⟩
  cases hx with
  | non => exact ⟨_, _, _, _, false, rfl, .ty "str", .base .non, kit_ty (by decide +kernel), _, rfl, _, rfl, _, rfl, q _ (Same.refl H)⟩
  | bl b => exact ⟨_, _, _, _, false, rfl, .ty "str", .base (.bl b), kit_ty (by decide +kernel), _, rfl, _, rfl, _, rfl, q _ (Same.refl H)⟩
  | int b => exact ⟨_, _, _, _, false, rfl, .ty "str", .base (.int b), kit_ty (by decide +kernel), _, rfl, _, rfl, _, rfl, q _ (Same.refl H)⟩
  | lst e => exact ⟨_, _, _, _, false, rfl, .ty "str", .base (.lst e), kit_ty (by decide +kernel), _, rfl, _, rfl, _, rfl, q _ (Same.refl H)⟩
  | tup e => exact ⟨_, _, _, _, false, rfl, .ty "str", .base (.tup e), kit_ty (by decide +kernel), _, rfl, _, rfl, _, rfl, q _ (Same.refl H)⟩
  | str z =>
    have hz : z.length ≤ 100000 := hz
    have hl : z.cps.size = z.length := rfl
    refine ⟨_, _, _, _, true, rfl, .ty "str", .base (.str z), kit_ty (by decide +kernel), _, rfl, _, rfl, _, z.length, rfl, ⟨sz hz, rfl⟩, _, _, rfl, rfl, ?_⟩
    by_cases h4 : z.length ≤ 20
    · have ed : decide ((z.length : Int) ≤ 20) = true := decide_eq_true (by omega)
      dsimp only
      rw [ed]
      refine ⟨_, rfl, _, rfl, _, rfl, z, rfl, fun D hD => ?_⟩
      refine lc_adds (walk_str (z := z)) (fun i acc => acc = (List.range i).map fun j => V.bl (txC (z.cps.toList.getD j 0))) hD (by omega) rfl (fun i acc h => by rw [h]; simp) (fun _ _ => trivial) ?_ ?_
      · rintro Tq N i acc y H1 H2 yes no hi s1 p ⟨rfl, c, hc, rfl⟩
        have key : ∀ b : Bool, txC c = b → Tq (.bl b) H2 := fun b eb => by
          refine yes _ _ (Same.refl _) ?_
          rw [p, List.range_succ, List.map_append]
          show _ = _ ++ [V.bl (txC (z.cps.toList.getD i 0))]
          rw [sign_at hc, eb]
        refine ⟨rfl, _, rfl, _, _, rfl, rfl, _, rfl, itb (fun e1 => ⟨_, _, rfl, rfl, _, rfl, itb (fun e2 => ⟨_, rfl, _, rfl, rfl, rfl, key _ ?_⟩) fun e2 => key _ ?_⟩) fun e1 => ⟨_, rfl, key _ ?_⟩⟩
        · have e1 : (!decide (([c] : List Nat) < blankS.cps.toList)) = true := e1
          have e2 : (!decide (tildeS.cps.toList < ([c] : List Nat))) = true := e2
          unfold txC
          rw [e1, e2]
          show decide (c ≠ 37) = !decide (V.int ((c : Nat) : Int) = V.int 37)
          by_cases h : c = 37
          · subst h
            rfl
          · rw [decide_eq_true h, decide_eq_false (show ¬ V.int ((c : Nat) : Int) = V.int 37 from fun z => h (by have := V.int.inj z; omega))]
            rfl
        · have e1 : (!decide (([c] : List Nat) < blankS.cps.toList)) = true := e1
          have e2 : (!decide (tildeS.cps.toList < ([c] : List Nat))) = false := e2
          unfold txC
          rw [e1, e2]
          rfl
        · have e1 : (!decide (([c] : List Nat) < blankS.cps.toList)) = false := e1
          unfold txC
          rw [e1]
          rfl
      · rintro acc H1 s1 hDa rfl
        refine ⟨D, z.cps.toList.map txC, rfl, sqL (by rw [hDa, ← range_all (f := txC) z.cps.toList z.cps.size (by simp), List.map_map]; rfl), ?_⟩
        have e : isTx (.str z) = (z.cps.toList.map txC).all id := by
          show textOk z = _
          unfold textOk
          rw [decide_eq_true h4, List.all_map]
          rfl
        rw [← e]
        exact q _ s1
    · have ed : decide ((z.length : Int) ≤ 20) = false := decide_eq_false (by omega)
      dsimp only
      rw [ed]
      have e : isTx (.str z) = false := by
        show textOk z = _
        unfold textOk
        rw [decide_eq_false h4]
        rfl
      rw [e] at q
      exact ⟨_, rfl, _, rfl, q _ (Same.refl H)⟩
theorem k_need_text (T : Txt K mg) : Kal P w K mg base (NX P w) 2 "need_text" (spNeedBl isTx "BadText" K) := by
  refine kal_of T.f_need_text T.g_need_text sc_need_text (fun _ _ _ _ _ _ us hl => match us, hl with | [_], _ => rfl) (fun vs H Q E ⟨_, h, _⟩ => by rw [h] <;> rfl) fun cdv A outer s H vs Q E hr ⟨x, e, hx, hz, q1, q2⟩ => ?_
  subst e
  obtain ⟨x1, x2, x3, x4⟩ := He.exc_ok T.e_BadText
  refine ⟨_, pss_one (ps_if (pt_not (pt_val (pe_k (E := E0) (k_is_text T) hr (by decide) pass0 (pa_cons (pv 0) pa_nil))))
      (pss_one (L2N.ps_raise rfl (L2N.takes_of rfl rfl rfl rfl) (L2N.pmk_own PySem.F.excBase_ValueError x1 T.g_BadText x2 (raises_own x3 x4) (by rfl)))) pss_nil), ?_⟩
  refine ⟨_, rfl, x, rfl, hx, hz, fun H1 s1 => ⟨_, rfl, ?_⟩⟩
  cases e : isTx x with
  | true => exact q1 e H1 s1
  | false => exact q2 e H1 s1
end
end T
end
section
namespace T
open PySem PySem.Spec PyProof.Rows L2 Tr LamX
/-! ### a caller's plain state -/
structure Cal where
  key : Str
  goal : Str
  text : Str
  word : Str
  fails : Int
  time : Int
  many : Int
  place : Str
structure St where
  rule : Rule
  now : Int
  roads : List (Str × Str)
  calls : List Cal
  log : List (Int × Int × Str)
/-! ### roads -/
def getT (r : List (Str × Str)) (k : Str) : Option Str := (r.find? fun e => decide (e.1 = k)).map (·.2)
def putT (r : List (Str × Str)) (k v : Str) : List (Str × Str) :=
  if (r.any fun e => decide (e.1 = k)) = true then r.map (fun e => if e.1 = k then (e.1, v) else e) else r ++ [(k, v)]
def kvT (r : List (Str × Str)) : List (Key × V) := r.map fun e => (.inr e.1, .str e.2)
theorem kvT_get (k : Str) : ∀ r : List (Str × Str), valV (kvT r) (.inr k) = (getT r k).map V.str
  | [] => rfl
  | e :: r => by
    show valV ((Sum.inr e.1, V.str e.2) :: kvT r) (.inr k) = _
    by_cases h : e.1 = k
    · rw [valV_pos (by rw [h])]
      simp [getT, h]
    · rw [valV_neg (fun z => h (Sum.inr.inj z)), kvT_get k r]
      simp [getT, List.find?_cons, h]
theorem kvT_any (k : Str) : ∀ r : List (Str × Str), ((kvT r).any fun kv => decide (kv.1 = Sum.inr k)) = r.any fun e => decide (e.1 = k)
  | [] => rfl
  | e :: r => by
    show (decide ((Sum.inr e.1 : Key) = Sum.inr k) || (kvT r).any _) = _
    rw [kvT_any k r, List.any_cons]
    congr 1
    by_cases h : e.1 = k
    · rw [decide_eq_true h, decide_eq_true (by rw [h])]
    · rw [decide_eq_false h, decide_eq_false fun z => h (Sum.inr.inj z)]
theorem kvT_put (k v : Str) (r : List (Str × Str)) : putK (kvT r) (.inr k) (.str v) = kvT (putT r k v) := by
  unfold putK putT
  rw [kvT_any]
  split
  · unfold kvT
    rw [List.map_map, List.map_map]
    refine List.map_congr_left fun e _ => ?_
    by_cases h : e.1 = k
    · simp [h]
    · have h' : ¬ ((Sum.inr e.1 : Key) = Sum.inr k) := fun z => h (Sum.inr.inj z)
      simp [h]
  · unfold kvT
    rw [List.map_append]
    rfl
theorem getT_put (r : List (Str × Str)) (k v k' : Str) : getT (putT r k v) k' = if k' = k then some v else getT r k' := by
  unfold putT
  split
  · rename_i h
    induction r with
    | nil => cases h
    | cons p r ih =>
      by_cases e : p.1 = k
      · by_cases e' : k' = k
        · subst e'
          simp [getT, e]
        · have ne : ¬ k = k' := fun z => e' z.symm
          have ne2 : ¬ p.1 = k' := fun z => e' (by rw [← z, e])
          rw [if_neg e']
          simp only [getT, List.map_cons, if_pos e, List.find?_cons, decide_eq_false ne2]
          by_cases h2 : (r.any fun kv => decide (kv.1 = k)) = true
          · have z := ih h2
            rw [if_neg e'] at z
            exact z
          · have z : (r.map fun kv => if kv.1 = k then (kv.1, v) else kv) = r := by
              refine List.map_congr_left (g := id) (fun q hq => ?_) |>.trans (List.map_id r)
              rw [if_neg fun z => h2 (List.any_eq_true.mpr ⟨q, hq, decide_eq_true z⟩)]
              rfl
            rw [z]
      · have h2 : (r.any fun kv => decide (kv.1 = k)) = true := by
          rw [List.any_cons, decide_eq_false e, Bool.false_or] at h
          exact h
        have z := ih h2
        simp only [getT, List.map_cons, if_neg e, List.find?_cons]
        by_cases e3 : p.1 = k'
        · rw [decide_eq_true e3]
          rw [if_neg fun y => e (by rw [e3, y])]
        · rw [decide_eq_false e3]
          exact z
  · rename_i h
    unfold getT
    rw [List.find?_append]
    by_cases e' : k' = k
    · subst e'
      rw [if_pos rfl, List.find?_eq_none.mpr fun q hq z => h (List.any_eq_true.mpr ⟨q, hq, z⟩)]
      simp
    · rw [if_neg e']
      have ne : ¬ k = k' := fun z => e' z.symm
      simp [ne]
theorem putT_len (r : List (Str × Str)) (k v : Str) : (putT r k v).length = if (getT r k).isSome = true then r.length else r.length + 1 := by
  have e : (r.any fun e => decide (e.1 = k)) = (getT r k).isSome := by
    unfold getT
    rw [Option.isSome_map]
    induction r with
    | nil => rfl
    | cons p r ih =>
      rw [List.any_cons, List.find?_cons]
      by_cases h : p.1 = k
      · rw [decide_eq_true h]
        rfl
      · rw [decide_eq_false h, Bool.false_or]
        exact ih
  unfold putT
  rw [e]
  split <;> simp
/-- l is the road from n to its end -/
inductive Way (r : List (Str × Str)) : Str → List Str → Prop
  | stop {n : Str} (h : getT r n = some n) : Way r n [n]
  | step {n t : Str} {l : List Str} (h : getT r n = some t) (ne : t ≠ n) (w : Way r t l) : Way r n (n :: l)
theorem Way.det {r : List (Str × Str)} {n : Str} {l : List Str} (w : Way r n l) : ∀ {m : List Str}, Way r n m → l = m := by
  induction w with
  | stop h =>
    intro m v
    cases v with
    | stop _ => rfl
    | step h' ne _ =>
      rw [h] at h'
      exact absurd (Option.some.inj h').symm ne
  | step h ne w ih =>
    intro m v
    cases v with
    | stop h' =>
      rw [h] at h'
      exact absurd (Option.some.inj h') ne
    | step h' _ w' =>
      rw [h] at h'
      cases h'
      rw [ih w']
theorem Way.ne {r : List (Str × Str)} {n : Str} {l : List Str} (w : Way r n l) : l ≠ [] := by
  cases w <;> exact fun z => by cases z
theorem Way.mem {r : List (Str × Str)} {n : Str} {l : List Str} (w : Way r n l) : ∀ x ∈ l, (getT r x).isSome = true := by
  induction w with
  | stop h =>
    intro x hx
    rw [List.mem_singleton.mp hx, h]
    rfl
  | step h ne w ih =>
    intro x hx
    rcases List.mem_cons.mp hx with rfl | hx
    · rw [h]
      rfl
    · exact ih x hx
theorem Way.head {r : List (Str × Str)} {n : Str} {l : List Str} (w : Way r n l) : n ∈ l := by
  cases w <;> exact List.mem_cons_self
/-- every road ends -/
def Ends_ (r : List (Str × Str)) : Prop := ∀ n t, getT r n = some t → ∃ l, Way r n l
noncomputable def roadOf (r : List (Str × Str)) (n : Str) : List Str := open Classical in if h : ∃ l, Way r n l then h.choose else [n]
noncomputable def endOf (r : List (Str × Str)) (n : Str) : Str := (roadOf r n).getLastD n
theorem roadOf_eq {r : List (Str × Str)} {n : Str} {l : List Str} (w : Way r n l) : roadOf r n = l := by
  unfold roadOf
  rw [dif_pos ⟨l, w⟩]
  exact (Exists.choose_spec (⟨l, w⟩ : ∃ l, Way r n l)).det w
theorem endOf_stop {r : List (Str × Str)} {n : Str} (h : getT r n = some n) : endOf r n = n := by
  unfold endOf
  rw [roadOf_eq (.stop h)]
  rfl
theorem endOf_step {r : List (Str × Str)} {n t : Str} {l : List Str} (h : getT r n = some t) (ne : t ≠ n) (w : Way r t l) : endOf r n = endOf r t := by
  unfold endOf
  rw [roadOf_eq (.step h ne w), roadOf_eq w]
  cases l with
  | nil => exact absurd rfl w.ne
  | cons a l => simp [List.getLastD]
/-- a road that does not meet k is the same behind a put at k -/
theorem Way.put {r : List (Str × Str)} {k v n : Str} {l : List Str} (w : Way r n l) (h : k ∉ l) : Way (putT r k v) n l := by
  induction w with
  | @stop n e =>
    refine .stop ?_
    rw [getT_put, if_neg fun z => h (by rw [z]; exact List.mem_cons_self)]
    exact e
  | @step n t l e ne w ih =>
    refine .step (t := t) ?_ ne (ih fun z => h (List.mem_cons_of_mem _ z))
    rw [getT_put, if_neg fun z => h (by rw [z]; exact List.mem_cons_self)]
    exact e
/-- a put keeps that every road ends, when the new target's road does not meet the key, or the target is the key -/
theorem ends_put {r : List (Str × Str)} (he : Ends_ r) {k v : Str} (h : v = k ∨ ∃ l, Way r v l ∧ k ∉ l) : Ends_ (putT r k v) := by
  have hk : ∃ l, Way (putT r k v) k l := by
    have g : getT (putT r k v) k = some v := by rw [getT_put, if_pos rfl]
    rcases h with rfl | ⟨l, w, hn⟩
    · exact ⟨_, .stop g⟩
    · exact ⟨_, .step g (fun z => hn (by rw [← z]; exact w.head)) (w.put hn)⟩
  have go : ∀ n l, Way r n l → ∃ l', Way (putT r k v) n l' := by
    intro n l w
    induction w with
    | @stop n e =>
      by_cases z : n = k
      · rw [z]
        exact hk
      · exact ⟨_, .stop (by rw [getT_put, if_neg z]; exact e)⟩
    | @step n t l e ne w ih =>
      by_cases z : n = k
      · rw [z]
        exact hk
      · obtain ⟨l', w'⟩ := ih
        exact ⟨_, .step (by rw [getT_put, if_neg z]; exact e) ne w'⟩
  intro n t e
  rw [getT_put] at e
  by_cases z : n = k
  · rw [z]
    exact hk
  · rw [if_neg z] at e
    obtain ⟨l, w⟩ := he n t e
    exact go n l w
end T
end
section
namespace T
open PySem PySem.Spec PyProof.Rows L2 Tr LamX
/-! ### the state over the heap -/
def callsKV : Nat → List Addr → List (Key × V)
  | _, [] => []
  | n, c :: cs => (.inl (n : Int), .ref c) :: callsKV (n + 1) cs
theorem callsKV_len : ∀ (n : Nat) (cs : List Addr), (callsKV n cs).length = cs.length
  | _, [] => rfl
  | n, c :: cs => by simp [callsKV, callsKV_len (n + 1) cs]
theorem callsKV_get : ∀ (cs : List Addr) (n i : Nat) (c : Addr), cs[i]? = some c → valV (callsKV n cs) (.inl ((n + i : Nat) : Int)) = some (.ref c)
  | [], _, _, _, h => by simp at h
  | a :: cs, n, 0, c, h => by
    cases h
    exact valV_pos rfl
  | a :: cs, n, i + 1, c, h => by
    show valV ((Sum.inl (n : Int), V.ref a) :: callsKV (n + 1) cs) _ = _
    rw [valV_neg fun z => by have := Sum.inl.inj z; omega]
    have e := callsKV_get cs (n + 1) i c (by simpa using h)
    rw [show n + (i + 1) = n + 1 + i by omega]
    exact e
theorem callsKV_none : ∀ (cs : List Addr) (n : Nat) (k : Int), (n : Int) + cs.length ≤ k → valV (callsKV n cs) (.inl k) = none
  | [], _, _, _ => rfl
  | a :: cs, n, k, h => by
    show valV ((Sum.inl (n : Int), V.ref a) :: callsKV (n + 1) cs) _ = _
    rw [List.length_cons] at h
    rw [valV_neg fun z => by have := Sum.inl.inj z; omega]
    exact callsKV_none cs (n + 1) k (by omega)
theorem callsKV_add : ∀ (cs : List Addr) (n : Nat) (c : Addr), callsKV n cs ++ [(.inl ((n + cs.length : Nat) : Int), .ref c)] = callsKV n (cs ++ [c])
  | [], n, c => rfl
  | a :: cs, n, c => by
    show (Sum.inl (n : Int), V.ref a) :: (callsKV (n + 1) cs ++ _) = (Sum.inl (n : Int), V.ref a) :: callsKV (n + 1) (cs ++ [c])
    rw [← callsKV_add cs (n + 1) c, List.length_cons, show n + (cs.length + 1) = n + 1 + cs.length by omega]
theorem callsKV_put (cs : List Addr) (c : Addr) : putK (callsKV 1 cs) (.inl ((cs.length : Nat) + 1 : Int)) (.ref c) = callsKV 1 (cs ++ [c]) := by
  unfold putK
  rw [if_neg]
  · rw [← callsKV_add, show ((1 + cs.length : Nat) : Int) = ((cs.length : Nat) : Int) + 1 by omega]
  · rw [valV_any, callsKV_none cs 1 _ (by omega)]
    decide
theorem callsKV_keys : ∀ (cs : List Addr) (n : Nat), (callsKV n cs).map (·.1) = ((List.range cs.length).map fun i => ((n + i : Nat) : Int)).map Sum.inl
  | [], _ => rfl
  | a :: cs, n => by
    rw [List.length_cons, List.range_succ_eq_map, List.map_cons, List.map_cons, List.map_map, List.map_map]
    show (Sum.inl (n : Int) : Key) :: (callsKV (n + 1) cs).map (·.1) = _
    rw [callsKV_keys cs (n + 1), List.map_map]
    have e : ∀ {a b : Key} {l m : List Key}, a = b → l = m → a :: l = b :: m := fun h h' => by rw [h, h']
    refine e (by simp) (List.map_congr_left fun i _ => ?_)
    show (Sum.inl (((n + 1 + i : Nat)) : Int) : Key) = Sum.inl (((n + (i + 1) : Nat)) : Int)
    rw [show n + 1 + i = n + (i + 1) by omega]
theorem callsKV_at {cs : List Addr} {n i : Nat} {kv : Key × V} (h : (callsKV n cs)[i]? = some kv) : ∃ c, cs[i]? = some c ∧ kv = (.inl ((n + i : Nat) : Int), .ref c) := by
  induction cs generalizing n i with
  | nil => simp [callsKV] at h
  | cons a cs ih =>
    cases i with
    | zero =>
      cases h
      exact ⟨a, rfl, rfl⟩
    | succ i =>
      obtain ⟨c, h1, h2⟩ := ih (n := n + 1) (i := i) (by simpa [callsKV] using h)
      exact ⟨c, by simpa using h1, by rw [h2, show n + 1 + i = n + (i + 1) by omega]⟩
def callFs (q : Cal) : List (Str × V) := [("key", .str q.key), ("goal", .str q.goal), ("text", .str q.text), ("word", .str q.word), ("fails", .int q.fails), ("time", .int q.time), ("many", .int q.many), ("place", .str q.place)]
structure Lay where
  rl : Addr
  dr : Addr
  dc : Addr
  dl : Addr
  cs : List Addr
  ts : List Addr
def selfFs (L : Lay) (now : Int) : List (Str × V) := [("rule", .ref L.rl), ("clock", .int now), ("roads", .ref L.dr), ("calls", .ref L.dc), ("rows", .ref L.dl)]
def rowT (e : Int × Int × Str) : HO := .tup [.int e.1, .int e.2.1, .str e.2.2]
structure Rep (K : PySem.W.Frag) (H : Hp) (p : Addr) (L : Lay) (S : St) : Prop where
  ins : ∃ dx, H p = some (.ins (He.ga K "Caller") dx (selfFs L S.now))
  hrl : H L.rl = some (.tup S.rule.vs)
  hdr : H L.dr = some (.dK (kvT S.roads))
  hdc : H L.dc = some (.dK (callsKV 1 L.cs))
  hdl : H L.dl = some (.lst (L.ts.map V.ref))
  tl : L.ts.length = S.log.length
  ht : ∀ (i : Nat) t e, L.ts[i]? = some t → S.log[i]? = some e → H t = some (rowT e)
  cl : L.cs.length = S.calls.length
  hc : ∀ (i : Nat) c q, L.cs[i]? = some c → S.calls[i]? = some q → ∃ dx, H c = some (.ins (He.ga K "Call") dx (callFs q))
  nd : L.cs.Nodup
  ne : L.dr ≠ L.dc
def foot (p : Addr) (L : Lay) (c : Addr) : Prop := c = p ∨ c = L.dr ∨ c = L.dc ∨ c = L.dl ∨ c ∈ L.cs
/-- from L over H to L' over H': all else stays, what is new was free -/
structure Step (p : Addr) (L : Lay) (H : Hp) (L' : Lay) (H' : Hp) : Prop where
  fr : Fr (foot p L) H H'
  nw : ∀ c, foot p L' c → foot p L c ∨ H c = none
section
variable {K : PySem.W.Frag} {H H1 H2 H3 : Hp} {p : Addr} {L L1 L2 L3 : Lay} {S : St}
theorem Step.refl_same (s : Same H H1) : Step p L H L H1 := ⟨fun c o h _ => s c o h, fun c h => .inl h⟩
theorem Step.trans (a : Step p L1 H1 L2 H2) (b : Step p L2 H2 L3 H3) : Step p L1 H1 L3 H3 := by
  refine ⟨fun c o h n => b.fr c o (a.fr c o h n) fun z => ?_, fun c h => ?_⟩
  · rcases a.nw c z with z | z
    · exact n z
    · rw [z] at h
      cases h
  · rcases b.nw c h with z | z
    · exact a.nw c z
    · by_cases f : foot p L1 c
      · exact .inl f
      · refine .inr ?_
        cases e : H1 c with
        | none => rfl
        | some o =>
          rw [a.fr c o e f] at z
          cases z
theorem Step.same (a : Step p L1 H1 L2 H2) (s : Same H2 H3) : Step p L1 H1 L2 H3 := a.trans (.refl_same s)
theorem Rep.ext (r : Rep K H p L S) (e : ExtN H H1) : Rep K H1 p L S := by
  obtain ⟨dx, h⟩ := r.ins
  refine ⟨⟨dx, e _ _ h (fun _ z => by cases z)⟩, ext_tup e r.hrl, e _ _ r.hdr (fun _ z => by cases z), e _ _ r.hdc (fun _ z => by cases z), ext_lst e r.hdl, r.tl, fun i t q h1 h2 => ext_tup e (r.ht i t q h1 h2), r.cl, fun i c q h1 h2 => ?_, r.nd, r.ne⟩
  obtain ⟨dx, h⟩ := r.hc i c q h1 h2
  exact ⟨dx, e _ _ h (fun _ z => by cases z)⟩
theorem Rep.same (r : Rep K H p L S) (s : Same H H1) : Rep K H1 p L S := r.ext (ext_of s)
theorem Rep.at (r : Rep K H p L S) {c : Addr} (h : c ∈ L.cs) : ∃ (i : Nat) (q : Cal) (dx : Addr), L.cs[i]? = some c ∧ S.calls[i]? = some q ∧ H c = some (.ins (He.ga K "Call") dx (callFs q)) := by
  obtain ⟨i, hi, e⟩ := List.mem_iff_getElem.mp h
  have hi' : i < S.calls.length := by rw [← r.cl]; exact hi
  have h1 : L.cs[i]? = some c := by rw [List.getElem?_eq_getElem hi, e]
  have h2 : S.calls[i]? = some S.calls[i] := List.getElem?_eq_getElem hi'
  obtain ⟨dx, h⟩ := r.hc i c _ h1 h2
  exact ⟨i, _, dx, h1, h2, h⟩
theorem Rep.pl (r : Rep K H p L S) : ∀ c, foot p L c → Pl H c := by
  rintro c (rfl | rfl | rfl | rfl | h)
  · obtain ⟨dx, h⟩ := r.ins
    exact pl_ins h
  · exact pl_dK r.hdr
  · exact pl_dK r.hdc
  · exact pl_lst r.hdl
  · obtain ⟨i, q, dx, _, _, h⟩ := r.at h
    exact pl_ins h
/-- p is none of the calls' objects -/
theorem Rep.p_ne (r : Rep K H p L S) {c : Addr} (h : c ∈ L.cs) : c ≠ p := fun z => by
  obtain ⟨i, q, dx, _, _, e⟩ := r.at h
  obtain ⟨dx', e'⟩ := r.ins
  rw [z, e'] at e
  have q := (HO.ins.inj (Option.some.inj e)).2.2
  have w := congrArg (fun l => l.head?.map (·.1)) q
  have w2 : ("rule" : Str) = "key" := Option.some.inj w
  exact absurd w2 (by decide)
/-- the clock -/
theorem Rep.clock (r : Rep K H p L S) {dx : Addr} (now : Int) : Rep K (upd H p (.ins (He.ga K "Caller") dx (selfFs L now))) p L { S with now := now } := by
  obtain ⟨dx', hp⟩ := r.ins
  have ne : ∀ {b o}, H b = some o → (∀ C d fs, o ≠ .ins C d fs) → b ≠ p := fun hb no z => by
    rw [z, hp] at hb
    exact no _ _ _ (Option.some.inj hb).symm
  refine ⟨⟨dx, upd_same⟩, ?_, ?_, ?_, ?_, r.tl, fun i t q h1 h2 => ?_, r.cl, fun i c q h1 h2 => ?_, r.nd, r.ne⟩
  · rw [upd_ne (ne r.hrl fun _ _ _ z => by cases z)]
    exact r.hrl
  · rw [upd_ne (ne r.hdr fun _ _ _ z => by cases z)]
    exact r.hdr
  · rw [upd_ne (ne r.hdc fun _ _ _ z => by cases z)]
    exact r.hdc
  · rw [upd_ne (ne r.hdl fun _ _ _ z => by cases z)]
    exact r.hdl
  · have h := r.ht i t q h1 h2
    rw [upd_ne (ne h fun _ _ _ z => by cases z)]
    exact h
  · rw [upd_ne (r.p_ne (List.mem_of_getElem? h1))]
    exact r.hc i c q h1 h2
/-- one call's object -/
theorem Rep.obj (r : Rep K H p L S) {i : Nat} {c dx : Addr} (hi : L.cs[i]? = some c) (q' : Cal) : Rep K (upd H c (.ins (He.ga K "Call") dx (callFs q'))) p L { S with calls := S.calls.set i q' } := by
  have hm := List.mem_of_getElem? hi
  obtain ⟨_, _, dx', _, _, hc⟩ := r.at hm
  have ne : ∀ {b o}, H b = some o → (∀ C d fs, o ≠ .ins C d fs) → b ≠ c := fun hb no z => by
    rw [z, hc] at hb
    exact no _ _ _ (Option.some.inj hb).symm
  obtain ⟨dp, hp⟩ := r.ins
  refine ⟨⟨dp, ?_⟩, ?_, ?_, ?_, ?_, r.tl, fun i t q h1 h2 => ?_, by rw [List.length_set]; exact r.cl, fun j d q h1 h2 => ?_, r.nd, r.ne⟩
  · rw [upd_ne (r.p_ne hm).symm]
    exact hp
  · rw [upd_ne (ne r.hrl fun _ _ _ z => by cases z)]
    exact r.hrl
  · rw [upd_ne (ne r.hdr fun _ _ _ z => by cases z)]
    exact r.hdr
  · rw [upd_ne (ne r.hdc fun _ _ _ z => by cases z)]
    exact r.hdc
  · rw [upd_ne (ne r.hdl fun _ _ _ z => by cases z)]
    exact r.hdl
  · have h := r.ht i t q h1 h2
    rw [upd_ne (ne h fun _ _ _ z => by cases z)]
    exact h
  · by_cases e : j = i
    · subst e
      rw [hi] at h1
      cases h1
      have hl : j < S.calls.length := by rw [← r.cl]; exact (List.getElem?_eq_some_iff.mp hi).1
      rw [List.getElem?_set_self hl] at h2
      cases h2
      exact ⟨dx, upd_same⟩
    · rw [List.getElem?_set_ne fun z => e z.symm] at h2
      have d_ne : d ≠ c := fun z => by
        rw [z] at h1
        obtain ⟨l1, g1⟩ := List.getElem?_eq_some_iff.mp hi
        obtain ⟨l2, g2⟩ := List.getElem?_eq_some_iff.mp h1
        exact e ((List.getElem_inj (h₀ := l2) (h₁ := l1) r.nd).mp (g2.trans g1.symm))
      rw [upd_ne d_ne]
      exact r.hc j d q h1 h2
/-- a row more -/
theorem Rep.row (r : Rep K H p L S) {t : Addr} {e : Int × Int × Str} (ht : H t = some (rowT e)) : Rep K (upd H L.dl (.lst ((L.ts ++ [t]).map V.ref))) p { L with ts := L.ts ++ [t] } { S with log := S.log ++ [e] } := by
  have ne : ∀ {b o}, H b = some o → (∀ xs, o ≠ .lst xs) → b ≠ L.dl := fun hb no z => by
    rw [z, r.hdl] at hb
    exact no _ (Option.some.inj hb).symm
  obtain ⟨dp, hp⟩ := r.ins
  refine ⟨⟨dp, ?_⟩, ?_, ?_, ?_, upd_same, by rw [List.length_append, List.length_append, r.tl]; rfl, fun i t' e' h1 h2 => ?_, r.cl, fun i c q h1 h2 => ?_, r.nd, r.ne⟩
  · rw [upd_ne (ne hp fun _ z => by cases z)]
    exact hp
  · show upd H L.dl _ L.rl = _
    rw [upd_ne (ne r.hrl fun _ z => by cases z)]
    exact r.hrl
  · show upd H L.dl _ L.dr = _
    rw [upd_ne (ne r.hdr fun _ z => by cases z)]
    exact r.hdr
  · show upd H L.dl _ L.dc = _
    rw [upd_ne (ne r.hdc fun _ z => by cases z)]
    exact r.hdc
  · have h1 : (L.ts ++ [t])[i]? = some t' := h1
    have h2 : (S.log ++ [e])[i]? = some e' := h2
    have h : H t' = some (rowT e') := by
      by_cases hi : i < L.ts.length
      · rw [List.getElem?_append_left hi] at h1
        rw [List.getElem?_append_left (by rw [← r.tl]; exact hi)] at h2
        exact r.ht i t' e' h1 h2
      · rw [List.getElem?_append_right (by omega)] at h1
        rw [List.getElem?_append_right (by rw [← r.tl]; omega), ← r.tl] at h2
        have z : i - L.ts.length = 0 := by
          have := (List.getElem?_eq_some_iff.mp h1).1
          simp at this
          omega
        rw [z] at h1 h2
        cases h1
        cases h2
        exact ht
    show upd H L.dl _ t' = _
    rw [upd_ne (ne h fun _ z => by cases z)]
    exact h
  · obtain ⟨dx, h⟩ := r.hc i c q h1 h2
    refine ⟨dx, ?_⟩
    show upd H L.dl _ c = _
    rw [upd_ne (ne h fun _ z => by cases z)]
    exact h
/-- a road set -/
theorem Rep.road (r : Rep K H p L S) (k v : Str) : Rep K (upd H L.dr (.dK (kvT (putT S.roads k v)))) p L { S with roads := putT S.roads k v } := by
  have ne : ∀ {b o}, H b = some o → (∀ xs, o ≠ .dK xs) → b ≠ L.dr := fun hb no z => by
    rw [z, r.hdr] at hb
    exact no _ (Option.some.inj hb).symm
  obtain ⟨dp, hp⟩ := r.ins
  refine ⟨⟨dp, ?_⟩, ?_, upd_same, ?_, ?_, r.tl, fun i t e h1 h2 => ?_, r.cl, fun i c q h1 h2 => ?_, r.nd, r.ne⟩
  · rw [upd_ne (ne hp fun _ z => by cases z)]
    exact hp
  · rw [upd_ne (ne r.hrl fun _ z => by cases z)]
    exact r.hrl
  · rw [upd_ne r.ne.symm]
    exact r.hdc
  · rw [upd_ne (ne r.hdl fun _ z => by cases z)]
    exact r.hdl
  · have h := r.ht i t e h1 h2
    rw [upd_ne (ne h fun _ z => by cases z)]
    exact h
  · obtain ⟨dx, h⟩ := r.hc i c q h1 h2
    refine ⟨dx, ?_⟩
    rw [upd_ne (ne h fun _ z => by cases z)]
    exact h
/-- a call more: its object stands at c already -/
theorem Rep.add (r : Rep K H p L S) {c dx : Addr} {q : Cal} (hc : H c = some (.ins (He.ga K "Call") dx (callFs q))) (hn : c ∉ L.cs) : Rep K (upd H L.dc (.dK (callsKV 1 (L.cs ++ [c])))) p { L with cs := L.cs ++ [c] } { S with calls := S.calls ++ [q] } := by
  have ne : ∀ {b o}, H b = some o → (∀ xs, o ≠ .dK xs) → b ≠ L.dc := fun hb no z => by
    rw [z, r.hdc] at hb
    exact no _ (Option.some.inj hb).symm
  obtain ⟨dp, hp⟩ := r.ins
  refine ⟨⟨dp, ?_⟩, ?_, ?_, upd_same, ?_, r.tl, fun i t e h1 h2 => ?_, by rw [List.length_append, List.length_append, r.cl]; rfl, fun i c' q' h1 h2 => ?_, ?_, r.ne⟩
  · show upd H L.dc _ p = _
    rw [upd_ne (ne hp fun _ z => by cases z)]
    exact hp
  · show upd H L.dc _ L.rl = _
    rw [upd_ne (ne r.hrl fun _ z => by cases z)]
    exact r.hrl
  · show upd H L.dc _ L.dr = _
    rw [upd_ne r.ne]
    exact r.hdr
  · show upd H L.dc _ L.dl = _
    rw [upd_ne (ne r.hdl fun _ z => by cases z)]
    exact r.hdl
  · have h := r.ht i t e h1 h2
    show upd H L.dc _ t = _
    rw [upd_ne (ne h fun _ z => by cases z)]
    exact h
  · have h1 : (L.cs ++ [c])[i]? = some c' := h1
    have h2 : (S.calls ++ [q])[i]? = some q' := h2
    obtain ⟨dx', h⟩ : ∃ dx, H c' = some (.ins (He.ga K "Call") dx (callFs q')) := by
      by_cases hi : i < L.cs.length
      · rw [List.getElem?_append_left hi] at h1
        rw [List.getElem?_append_left (by rw [← r.cl]; exact hi)] at h2
        exact r.hc i c' q' h1 h2
      · rw [List.getElem?_append_right (by omega)] at h1
        rw [List.getElem?_append_right (by rw [← r.cl]; omega), ← r.cl] at h2
        have z : i - L.cs.length = 0 := by
          have := (List.getElem?_eq_some_iff.mp h1).1
          simp at this
          omega
        rw [z] at h1 h2
        cases h1
        cases h2
        exact ⟨dx, hc⟩
    refine ⟨dx', ?_⟩
    show upd H L.dc _ c' = _
    rw [upd_ne (ne h fun _ z => by cases z)]
    exact h
  · exact List.nodup_append.mpr ⟨r.nd, by simp, fun a ha b hb => by
      rw [List.mem_singleton.mp hb]
      exact fun z => hn (by rw [← z]; exact ha)⟩
end
end T
end
section
namespace T
open PySem PySem.Spec PyProof.Rows L2 Tr LamX
/-! ### the caller's methods -/
def sayS (S : St) (n : Int) (w : Str) : St := { S with log := S.log ++ [(S.now, n, w)] }
def inRoads (S : St) : V → Bool
  | .str s => nameOk s && (getT S.roads s).isSome
  | _ => false
section
variable {P : Program} {w : World} {K : PySem.W.Frag} {mg : Str → Option Value} {base : Heap}
def spNow (K : PySem.W.Frag) : Sp := fun vs H Q _ => ∃ (p : Addr) (L : Lay) (S : St), vs = [.ref p] ∧ Rep K H p L S ∧ Q (.int S.now) H
theorem m_now (T : Txt K mg) : Mal P w K mg base CX0 1 (He.ga K "Caller") "now" (spNow K) := by
  refine mal_of T.f_Caller_now T.c_Caller T.m_Caller_now sc_Caller_now (fun _ _ _ _ _ _ us hl => match us, hl with | [_], _ => rfl) (fun vs H Q E ⟨_, _, _, h, _⟩ => by rw [h] <;> rfl) fun cdv A outer s H vs Q E hr ⟨p, L, S, e, r, q⟩ => ?_
  subst e
  obtain ⟨dx, hp⟩ := id r.ins
  exact ⟨_, pss_one (ps_ret (pe_fld (pv 0) rfl)), ⟨_, rfl, p, _, dx, _, _, rfl, hp, T.c_Caller, T.a_Caller_clock, rfl, q⟩⟩
def spSay (K : PySem.W.Frag) : Sp := fun vs H Q _ => ∃ (p : Addr) (L : Lay) (S : St) (n : Int) (x : Str), vs = [.ref p, .int n, .str x] ∧ Rep K H p L S ∧ S.log.length ≤ 10000000 ∧ ∀ H' ts, Rep K H' p { L with ts := ts } (sayS S n x) → Step p L H { L with ts := ts } H' → Q .non H'
theorem m_say (T : Txt K mg) : Mal P w K mg base CX0 1 (He.ga K "Caller") "say" (spSay K) := by
  refine mal_of T.f_Caller_say T.c_Caller T.m_Caller_say sc_Caller_say (fun _ _ _ _ _ _ us hl => match us, hl with | [_, _, _], _ => rfl) (fun vs H Q E ⟨_, _, _, _, _, h, _⟩ => by rw [h] <;> rfl) fun cdv A outer s H vs Q E hr ⟨p, L, S, n, x, e, r, lg, q⟩ => ?_
  subst e
  obtain ⟨dx, hp⟩ := id r.ins
  refine ⟨_, pss_one (ps_expr (pe_bm PySem.F.plainAttrs_list PySem.F.slot_list_append PySem.F.type_list_append mt_append (pe_fld (pv 0) rfl) (pa_cons (pe_tup (pa_cons (pe_fld (pv 0) rfl) (pa_cons (pv 1) (pa_cons (pv 2) pa_nil)))) pa_nil))), ?_⟩
  refine ⟨_, rfl, p, _, dx, _, _, rfl, hp, T.c_Caller, T.a_Caller_rows, rfl, .inl ⟨rfl, _, sqL r.hdl⟩, _, rfl, p, _, dx, _, _, rfl, hp, T.c_Caller, T.a_Caller_clock, rfl, _, rfl, _, rfl, by show 3 ≤ sizeLine; decide, fun t ht => ?_⟩
  have s1 := same_new (o := rowT (S.now, n, x)) ht
  have r1 := r.same s1
  refine ⟨L.dl, _, _, rfl, rfl, r1.hdl, by rw [List.length_map, r.tl]; exact Nat.lt_of_le_of_lt lg (by decide), ?_⟩
  have r2 := r1.row (t := t) (e := (S.now, n, x)) upd_same
  rw [List.map_append] at r2
  refine q _ _ r2 ⟨fun c o h nf => ?_, fun c hc => .inl hc⟩
  rw [upd_ne fun z => nf (.inr (.inr (.inr (.inl z))))]
  exact s1 c o h
def spNeedAddr (K : PySem.W.Frag) : Sp := fun vs H Q E => ∃ (p : Addr) (L : Lay) (S : St) (x : V), vs = [.ref p, x] ∧ Rep K H p L S ∧ Thing K H x ∧ Short x ∧ (inRoads S x = true → ∀ H', Same H H' → Q .non H') ∧ (inRoads S x = false → ∀ H', Same H H' → E (.ref (He.ga K "BadName")) none H')
theorem m_need_address (T : Txt K mg) : Mal P w K mg base (NX P w) 3 (He.ga K "Caller") "need_address" (spNeedAddr K) := by
  refine mal_of T.f_Caller_need_address T.c_Caller T.m_Caller_need_address sc_Caller_need_address (fun _ _ _ _ _ _ us hl => match us, hl with | [_, _], _ => rfl) (fun vs H Q E ⟨_, _, _, _, h, _⟩ => by rw [h] <;> rfl) fun cdv A outer s H vs Q E hr ⟨p, L, S, x, e, r, tx, sx, q1, q2⟩ => ?_
  subst e
  have hu := hu_of hr
  obtain ⟨x1, x2, x3, x4⟩ := He.exc_ok T.e_BadName
  refine ⟨_, pss_cons (ps_expr (pe_k (E := E) (k_need_name T) hr (by decide) (L2N.passes_call (L2N.takes_of rfl rfl rfl rfl) fun _ _ _ _ h => h) (pa_cons (pv 1) pa_nil)))
    (pss_one (ps_if (pt_cmp (pc_dnotin hu (pv 1) (pe_fld (pv 0) rfl))) (pss_one (L2N.ps_raise rfl (L2N.takes_of rfl rfl rfl rfl) (L2N.pmk_own PySem.F.excBase_ValueError x1 T.g_BadName x2 (raises_own x3 x4) (by rfl)))) pss_nil)), ?_⟩
  refine ⟨_, rfl, x, rfl, tx, sx, fun ek H1 s1 => ?_, fun ek H1 s1 => q2 ?_ H1 s1⟩
  · obtain ⟨a, rfl⟩ : ∃ a, x = .str a := by
      cases x with
      | str a => exact ⟨a, rfl⟩
      | _ => cases ek
    have r1 := r.same s1
    obtain ⟨dx, hp⟩ := id r1.ins
    refine ⟨_, rfl, _, rfl, p, _, dx, _, _, rfl, hp, T.c_Caller, T.a_Caller_roads, rfl, L.dr, _, rfl, DGet.k (k := Sum.inr a) r1.hdr, _, rfl, ?_⟩
    rw [kvT_get, Option.isSome_map]
    have ek : nameOk a = true := ek
    have e : inRoads S (.str a) = (getT S.roads a).isSome := by
      show (nameOk a && _) = _
      rw [ek, Bool.true_and]
    cases g : (getT S.roads a).isSome with
    | true => exact q1 (by rw [e, g]) H1 s1
    | false => exact q2 (by rw [e, g]) H1 s1
  · cases x with
    | str a =>
      have ek : nameOk a = false := ek
      show (nameOk a && _) = false
      rw [ek]
      rfl
    | _ => rfl
/-- a new address -/
def spAddAddr (K : PySem.W.Frag) : Sp := fun vs H Q E => ∃ (p : Addr) (L : Lay) (S : St) (x : V), vs = [.ref p, x] ∧ Rep K H p L S ∧ Thing K H x ∧ Short x ∧ S.roads.length ≤ 5 ∧
  ((isNm x = false ∨ inRoads S x = true ∨ S.roads.length = 5) → ∀ H', Same H H' → E (.ref (He.ga K "BadName")) none H') ∧
  (∀ a, x = .str a → nameOk a = true → (getT S.roads a).isSome = false → S.roads.length < 5 → ∀ H', Rep K H' p L { S with roads := putT S.roads a a } → Step p L H L H' → Q .non H')
theorem m_add_address (T : Txt K mg) : Mal P w K mg base (NX P w) 3 (He.ga K "Caller") "add_address" (spAddAddr K) := by
  refine mal_of T.f_Caller_add_address T.c_Caller T.m_Caller_add_address sc_Caller_add_address (fun _ _ _ _ _ _ us hl => match us, hl with | [_, _], _ => rfl) (fun vs H Q E ⟨_, _, _, _, h, _⟩ => by rw [h] <;> rfl) fun cdv A outer s H vs Q E hr ⟨p, L, S, x, e, r, tx, sx, l5, q1, q2⟩ => ?_
  subst e
  have hu := hu_of hr
  obtain ⟨x1, x2, x3, x4⟩ := He.exc_ok T.e_BadName
  obtain ⟨u5, g5, r5⟩ := T.i_MOST_ADDRESSES
  refine ⟨_, pss_cons (ps_expr (pe_k (E := E) (k_need_name T) hr (by decide) (L2N.passes_call (L2N.takes_of rfl rfl rfl rfl) fun _ _ _ _ h => h) (pa_cons (pv 1) pa_nil)))
    (pss_cons (ps_if (PW.pt (pw_or (pt_cmp (pc_din hu (pv 1) (pe_fld (pv 0) rfl))) (pw_or1 (pt_cmpR op_ge (pe_callB call_lenD (by rfl) T.n_len boot_len (pa_cons (pe_fld (pv 0) rfl) pa_nil)) (pe_glob (by rfl) g5 r5) (nomark _))))) (pss_one (L2N.ps_raise rfl (L2N.takes_of rfl rfl rfl rfl) (L2N.pmk_own PySem.F.excBase_ValueError x1 T.g_BadName x2 (raises_own x3 x4) (by rfl)))) pss_nil)
    (pss_one (ps_dput hu (pe_fld (pv 0) rfl) (pv 1) (pv 1) rfl))), ?_⟩
  refine ⟨_, rfl, x, rfl, tx, sx, fun ek H1 s1 => ?_, fun ek H1 s1 => q1 (.inl ek) H1 s1⟩
  obtain ⟨a, rfl⟩ : ∃ a, x = .str a := by
    cases x with
    | str a => exact ⟨a, rfl⟩
    | _ => cases ek
  have r1 := r.same s1
  obtain ⟨dx, hp⟩ := id r1.ins
  have ek : nameOk a = true := ek
  have e : inRoads S (.str a) = (getT S.roads a).isSome := by
    show (nameOk a && _) = _
    rw [ek, Bool.true_and]
  refine ⟨_, rfl, _, rfl, p, _, dx, _, _, rfl, hp, T.c_Caller, T.a_Caller_roads, rfl, L.dr, _, rfl, DGet.k (k := Sum.inr a) r1.hdr, _, rfl, ?_⟩
  rw [kvT_get, Option.isSome_map]
  cases g : (getT S.roads a).isSome with
  | true => exact q1 (.inr (.inl (by rw [e, g]))) H1 s1
  | false =>
    refine ⟨_, rfl, p, _, dx, _, _, rfl, hp, T.c_Caller, T.a_Caller_roads, rfl, L.dr, _, rfl, r1.hdr, _, _, rfl, rfl, ?_⟩
    have el : (kvT S.roads).length = S.roads.length := List.length_map ..
    by_cases h5 : S.roads.length = 5
    · exact ⟨true, congrArg V.bl (decide_eq_true (by rw [el]; omega)), q1 (.inr (.inr h5)) H1 s1⟩
    · refine ⟨false, congrArg V.bl (decide_eq_false (by rw [el]; omega)), _, rfl, _, rfl, p, _, dx, _, _, rfl, hp, T.c_Caller, T.a_Caller_roads, rfl, _, rfl, L.dr, _, rfl, DPut.k (k := Sum.inr a) r1.hdr (by rw [el]; exact small1000 (by omega)), ?_⟩
      rw [kvT_put]
      refine q2 a rfl ek g (by omega) _ (r1.road a a) ⟨fun c o h nf => ?_, fun c hc => .inl hc⟩
      rw [upd_ne fun z => nf (.inr (.inl z))]
      exact s1 c o h
end
end T
end
section
namespace T
open PySem PySem.Spec PyProof.Rows L2 Tr LamX
section
variable {P : Program} {w : World} {K : PySem.W.Frag} {mg : Str → Option Value} {base : Heap}
def spLog (K : PySem.W.Frag) : Sp := fun vs H Q _ => ∃ (p : Addr) (L : Lay) (S : St), vs = [.ref p] ∧ Rep K H p L S ∧ ∀ H' q, Same H H' → H q = none → H' q = some (.lst (L.ts.map V.ref)) → Q (.ref q) H'
theorem m_log (T : Txt K mg) : Mal P w K mg base CX0 1 (He.ga K "Caller") "log" (spLog K) := by
  refine mal_of T.f_Caller_log T.c_Caller T.m_Caller_log sc_Caller_log (fun _ _ _ _ _ _ us hl => match us, hl with | [_], _ => rfl) (fun vs H Q E ⟨_, _, _, h, _⟩ => by rw [h] <;> rfl) fun cdv A outer s H vs Q E hr ⟨p, L, S, e, r, q⟩ => ?_
  subst e
  obtain ⟨dx, hp⟩ := id r.ins
  refine ⟨_, pss_one (ps_ret (b_list T.n_list (pa_cons (pe_fld (pv 0) rfl) pa_nil))), ?_⟩
  exact ⟨_, rfl, p, _, dx, _, _, rfl, hp, T.c_Caller, T.a_Caller_rows, rfl, _, _, rfl, .inl (sqL r.hdl), fun l hl => q _ l (same_new hl) hl upd_same⟩
end
end T
end
section
namespace T
open PySem PySem.Spec PyProof.Rows L2 Tr LamX
/-- a road led over makes no ring -/
def leadOk (r : List (Str × Str)) (a b : Str) : Prop := a = b ∨ a ∉ roadOf r b
def nums (n : Nat) : List Int := (List.range n).map fun i => ((1 + i : Nat) : Int)
theorem nums_rise (n : Nat) : (nums n).Pairwise (· ≤ ·) := by
  unfold nums
  rw [List.pairwise_map]
  exact List.Pairwise.imp (fun h => by omega) (List.pairwise_lt_range (n := n))
theorem str_in (a : Str) (l : List Str) : inV (.str a) (l.map V.str) = decide (a ∈ l) := inV_strs a l
section
variable {P : Program} {w : World} {K : PySem.W.Frag} {mg : Str → Option Value} {base : Heap}
def spRoad (K : PySem.W.Frag) : Sp := fun vs H Q _ => ∃ (p : Addr) (L : Lay) (S : St) (n : Str) (l : List Str), vs = [.ref p, .str n] ∧ Rep K H p L S ∧ Way S.roads n l ∧ l.length ≤ 1000 ∧ ∀ H' q, Same H H' → H q = none → H' q = some (.lst (l.map V.str)) → Q (.ref q) H'
theorem m_road (T : Txt K mg) : Mal P w K mg base CX0 1 (He.ga K "Caller") "road" (spRoad K) := by
  refine mal_of T.f_Caller_road T.c_Caller T.m_Caller_road sc_Caller_road (fun _ _ _ _ _ _ us hl => match us, hl with | [_, _], _ => rfl) (fun vs H Q E ⟨_, _, _, _, _, h, _⟩ => by rw [h] <;> rfl) fun cdv A outer s H vs Q E hr ⟨p, L, S, n, l, e, r, wy, ll, q⟩ => ?_
  subst e
  have hu := hu_of hr
  have nd := sc_Caller_road.nd
  refine ⟨_, PSs.nox (pss_cons (ps_set (i := 2) nd rfl (Or.inl rfl) (pe_lst (pa_cons (pv 1) pa_nil)))
    (pss_cons (ps_while PassesOwn.never (pt_cmpR op_ne (pe_dget hu (pe_fld (pv 0) rfl) (pe_ix ix_list (pv 2) (pe_un un_neg pe_int) (fun _ _ => rfl)) (fun _ _ => rfl)) (pe_ix ix_list (pv 2) (pe_un un_neg pe_int) (fun _ _ => rfl)) (nomark _))
      (pss_one (ps_expr (pe_bm PySem.F.plainAttrs_list PySem.F.slot_list_append PySem.F.type_list_append mt_append (pv 2) (pa_cons (pe_dget hu (pe_fld (pv 0) rfl) (pe_ix ix_list (pv 2) (pe_un un_neg pe_int) (fun _ _ => rfl)) (fun _ _ => rfl)) pa_nil)))))
    (pss_one (ps_ret (pv 2))))), ?_⟩
  refine ⟨_, rfl, by show 1 ≤ sizeLine; decide, fun F hF => ?_⟩
  refine ⟨fun m σ H' => ∃ (pre : List Str) (x : Str) (l' : List Str), Same H H' ∧ H' F = some (.lst ((pre ++ [x]).map V.str)) ∧ Way S.roads x l' ∧ l = pre ++ l' ∧ m = l'.length ∧ σ = [some (.ref p), some (.str n), some (.ref F)], ⟨_, [], n, l, same_new hF, upd_same, wy, rfl, rfl, rfl⟩, ?_⟩
  rintro m σ H1 ⟨pre, x, l', s1, eF, w', el, rfl, rfl⟩
  have r1 := r.same s1
  obtain ⟨dx, hp⟩ := id r1.ins
  have eF' : H1 F = some (.lst (pre.map V.str ++ [.str x])) := by rw [eF, List.map_append]; rfl
  have look : ∀ t, getT S.roads x = some t → DGet H1 L.dr (.str x) (some (.str t)) := fun t ht => .inl ⟨_, Sum.inr x, .inl r1.hdr, rfl, by rw [kvT_get, ht]; rfl⟩
  cases w' with
  | stop h =>
    refine ⟨_, rfl, p, _, dx, _, _, rfl, hp, T.c_Caller, T.a_Caller_roads, rfl, _, rfl, _, rfl, _, _, _, _, rfl, rfl, sqL eF', atI_last _ _, L.dr, _, rfl, look x h, _, rfl, _, rfl, _, _, _, _, rfl, rfl, sqL eF', atI_last _ _, rfl, false, congrArg (fun b => V.bl (!b)) (decide_eq_true rfl), _, rfl, ?_⟩
    exact q H1 F s1 hF (by rw [eF, el])
  | @step _ t l2 h ne w2 =>
    refine ⟨_, rfl, p, _, dx, _, _, rfl, hp, T.c_Caller, T.a_Caller_roads, rfl, _, rfl, _, rfl, _, _, _, _, rfl, rfl, sqL eF', atI_last _ _, L.dr, _, rfl, look t h, _, rfl, _, rfl, _, _, _, _, rfl, rfl, sqL eF', atI_last _ _, rfl, true, congrArg (fun b => V.bl (!b)) (decide_eq_false fun z => ne (V.str.inj z)), ?_⟩
    refine ⟨fun σ' H' => ∃ (pre : List Str) (y : Str) (l' : List Str), Same H H' ∧ H' F = some (.lst ((pre ++ [y]).map V.str)) ∧ Way S.roads y l' ∧ l = pre ++ l' ∧ l'.length < (x :: l2).length ∧ σ' = [some (.ref p), some (.str n), some (.ref F)], fun σ' H' ⟨pre', y, l3, a1, a2, a3, a4, a5, a6⟩ => ⟨_, a5, pre', y, l3, a1, a2, a3, a4, rfl, a6⟩, ?_⟩
    refine ⟨_, rfl, .inl ⟨rfl, _, sqL eF⟩, _, rfl, p, _, dx, _, _, rfl, hp, T.c_Caller, T.a_Caller_roads, rfl, _, rfl, _, rfl, _, _, _, _, rfl, rfl, sqL eF', atI_last _ _, L.dr, _, rfl, look t h, F, _, _, rfl, rfl, eF, sz1 (by rw [List.length_map, List.length_append]; have := congrArg List.length el; rw [List.length_append, List.length_cons] at this; show pre.length + 1 < 100000; omega), ?_⟩
    refine ⟨pre ++ [x], t, l2, same_mut s1 hF, ?_, w2, by rw [el]; simp, by simp, rfl⟩
    rw [upd_same, List.map_append (l₂ := [t])]
    rfl
def spEndOf (K : PySem.W.Frag) : Sp := fun vs H Q E => ∃ (p : Addr) (L : Lay) (S : St) (x : V), vs = [.ref p, x] ∧ Rep K H p L S ∧ Ends_ S.roads ∧ (∀ n l, Way S.roads n l → l.length ≤ 1000) ∧ Thing K H x ∧ Short x ∧ (inRoads S x = false → ∀ H', Same H H' → E (.ref (He.ga K "BadName")) none H') ∧
  (∀ a, x = .str a → inRoads S x = true → ∀ H', Same H H' → Q (.str (endOf S.roads a)) H')
theorem m_end_of (T : Txt K mg) : Mal P w K mg base (NX P w) 4 (He.ga K "Caller") "end_of" (spEndOf K) := by
  refine mal_of T.f_Caller_end_of T.c_Caller T.m_Caller_end_of sc_Caller_end_of (fun _ _ _ _ _ _ us hl => match us, hl with | [_, _], _ => rfl) (fun vs H Q E ⟨_, _, _, _, h, _⟩ => by rw [h] <;> rfl) fun cdv A outer s H vs Q E hr ⟨p, L, S, x, e, r, en, wl, tx, sx, q1, q2⟩ => ?_
  subst e
  refine ⟨_, pss_cons (ps_expr (pe_m (E := E) (m_need_address T) hr (by decide) (L2N.passes_call (L2N.takes_of rfl rfl rfl rfl) fun _ _ _ _ h => h) (pv 0) (pa_cons (pv 1) pa_nil)))
    (pss_one (ps_ret (pe_ix ix_list (pe_m (E := E0) (m_road T) hr (by decide) pass0 (pv 0) (pa_cons (pv 1) pa_nil)) (pe_un un_neg pe_int) (fun _ _ => rfl)))), ?_⟩
  obtain ⟨dx, hp⟩ := id r.ins
  refine ⟨_, rfl, p, dx, _, rfl, hp, rfl, _, rfl, p, L, S, x, rfl, r, tx, sx, fun ek H1 s1 => ?_, fun ek H1 s1 => q1 ek H1 s1⟩
  obtain ⟨a, rfl⟩ : ∃ a, x = .str a := by
    cases x with
    | str a => exact ⟨a, rfl⟩
    | _ => cases ek
  have ek' : (nameOk a && (getT S.roads a).isSome) = true := ek
  obtain ⟨_, hs⟩ := Bool.and_eq_true_iff.mp ek'
  obtain ⟨t, ht⟩ := Option.isSome_iff_exists.mp hs
  obtain ⟨l, wy⟩ := en a t ht
  refine ⟨_, rfl, p, dx, _, rfl, s1 _ _ hp, rfl, _, rfl, p, L, S, a, l, rfl, r.same s1, wy, wl a l wy, fun H2 q3 s2 _ e3 => ?_⟩
  have el : ∃ pre, l = pre ++ [endOf S.roads a] := by
    unfold endOf
    rw [roadOf_eq wy]
    refine ⟨l.dropLast, ?_⟩
    have := wy.ne
    rw [List.getLastD_eq_getLast?, List.getLast?_eq_some_getLast this]
    exact (List.dropLast_concat_getLast this).symm
  obtain ⟨pre, el⟩ := el
  rw [el, List.map_append] at e3
  exact ⟨_, rfl, _, _, _, _, rfl, rfl, sqL e3, atI_last _ _, q2 a rfl ek _ (s1.trans s2)⟩
/-- lead an address over -/
def spLead (K : PySem.W.Frag) : Sp := fun vs H Q E => ∃ (p : Addr) (L : Lay) (S : St) (x y : V), vs = [.ref p, x, y] ∧ Rep K H p L S ∧ Ends_ S.roads ∧ (∀ n l, Way S.roads n l → l.length ≤ 1000) ∧ Thing K H x ∧ Short x ∧ Thing K H y ∧ Short y ∧ S.roads.length ≤ 5 ∧
  ((inRoads S x = false ∨ inRoads S y = false ∨ ∃ a b, x = .str a ∧ y = .str b ∧ ¬ leadOk S.roads a b) → ∀ H', Same H H' → E (.ref (He.ga K "BadName")) none H') ∧
  (∀ a b, x = .str a → y = .str b → inRoads S x = true → inRoads S y = true → leadOk S.roads a b → ∀ H', Rep K H' p L { S with roads := putT S.roads a b } → Step p L H L H' → Q .non H')
theorem m_lead (T : Txt K mg) : Mal P w K mg base (NX P w) 4 (He.ga K "Caller") "lead" (spLead K) := by
  refine mal_of T.f_Caller_lead T.c_Caller T.m_Caller_lead sc_Caller_lead (fun _ _ _ _ _ _ us hl => match us, hl with | [_, _, _], _ => rfl) (fun vs H Q E ⟨_, _, _, _, _, h, _⟩ => by rw [h] <;> rfl) fun cdv A outer s H vs Q E hr ⟨p, L, S, x, y, e, r, en, wl, tx, sx, ty, sy, l5, q1, q2⟩ => ?_
  subst e
  have hu := hu_of hr
  obtain ⟨x1, x2, x3, x4⟩ := He.exc_ok T.e_BadName
  refine ⟨_, pss_cons (ps_expr (pe_m (E := E) (m_need_address T) hr (by decide) (L2N.passes_call (L2N.takes_of rfl rfl rfl rfl) fun _ _ _ _ h => h) (pv 0) (pa_cons (pv 1) pa_nil)))
    (pss_cons (ps_expr (pe_m (E := E) (m_need_address T) hr (by decide) (L2N.passes_call (L2N.takes_of rfl rfl rfl rfl) fun _ _ _ _ h => h) (pv 0) (pa_cons (pv 2) pa_nil)))
    (pss_cons (ps_if (PW.pt (pw_and (pt_cmpR op_ne (pv 1) (pv 2) (nomark _)) (pw_and1 (pt_cmpR op_in_seq (pv 1) (pe_m (E := E0) (m_road T) hr (by decide) pass0 (pv 0) (pa_cons (pv 2) pa_nil)) rfl)))) (pss_one (L2N.ps_raise rfl (L2N.takes_of rfl rfl rfl rfl) (L2N.pmk_own PySem.F.excBase_ValueError x1 T.g_BadName x2 (raises_own x3 x4) (by rfl)))) pss_nil)
    (pss_one (ps_dput hu (pe_fld (pv 0) rfl) (pv 1) (pv 2) rfl)))), ?_⟩
  obtain ⟨dx, hp⟩ := id r.ins
  refine ⟨_, rfl, p, dx, _, rfl, hp, rfl, _, rfl, p, L, S, x, rfl, r, tx, sx, fun ek H1 s1 => ?_, fun ek H1 s1 => q1 (.inl ek) H1 s1⟩
  refine ⟨_, rfl, p, dx, _, rfl, s1 _ _ hp, rfl, _, rfl, p, L, S, y, rfl, r.same s1, ty.same s1, sy, fun ey H2 s2 => ?_, fun ey H2 s2 => q1 (.inr (.inl ey)) H2 (s1.trans s2)⟩
  obtain ⟨a, rfl⟩ : ∃ a, x = .str a := by
    cases x with
    | str a => exact ⟨a, rfl⟩
    | _ => cases ek
  obtain ⟨b, rfl⟩ : ∃ a, y = .str a := by
    cases y with
    | str a => exact ⟨a, rfl⟩
    | _ => cases ey
  have ey' : (nameOk b && (getT S.roads b).isSome) = true := ey
  obtain ⟨_, hs⟩ := Bool.and_eq_true_iff.mp ey'
  obtain ⟨t, ht⟩ := Option.isSome_iff_exists.mp hs
  obtain ⟨l, wy⟩ := en b t ht
  have ss := s1.trans s2
  have el : (kvT S.roads).length = S.roads.length := List.length_map ..
  have fin : leadOk S.roads a b → ∀ H3, Same H H3 → ∀ H4, H4 = upd H3 L.dr (.dK (putK (kvT S.roads) (Sum.inr a) (.str b))) → Q .non H4 := fun lo H3 s3 H4 e4 => by
    rw [e4, kvT_put]
    refine q2 a b rfl rfl ek ey lo _ ((r.same s3).road a b) ⟨fun c o h nf => ?_, fun c hc => .inl hc⟩
    rw [upd_ne fun z => nf (.inr (.inl z))]
    exact s3 c o h
  refine ⟨_, rfl, _, rfl, rfl, ?_⟩
  by_cases hab : a = b
  · refine ⟨false, congrArg (fun z => V.bl (!z)) (decide_eq_true (congrArg V.str hab)), ?_⟩
    exact ⟨_, rfl, _, rfl, p, _, dx, _, _, rfl, ss _ _ hp, T.c_Caller, T.a_Caller_roads, rfl, _, rfl, L.dr, _, rfl, DPut.k (k := Sum.inr a) (r.same ss).hdr (by rw [el]; exact small1000 (by omega)), fin (.inl hab) _ ss _ rfl⟩
  · refine ⟨true, congrArg (fun z => V.bl (!z)) (decide_eq_false fun z => hab (V.str.inj z)), ?_⟩
    refine ⟨_, rfl, _, rfl, p, dx, _, rfl, ss _ _ hp, rfl, _, rfl, p, L, S, b, l, rfl, r.same ss, wy, wl b l wy, fun H3 q3 s3 _ e3 => ⟨q3, _, rfl, .inl (sqL e3), rfl, Tr.flat_strs l, ?_⟩⟩
    by_cases hm : a ∈ l
    · refine ⟨true, congrArg V.bl (by rw [str_in]; exact decide_eq_true hm), q1 (.inr (.inr ⟨a, b, rfl, rfl, fun z => ?_⟩)) H3 (ss.trans s3)⟩
      rcases z with z | z
      · exact hab z
      · rw [roadOf_eq wy] at z
        exact z hm
    · refine ⟨false, congrArg V.bl (by rw [str_in]; exact decide_eq_false hm), _, rfl, _, rfl, p, _, dx, _, _, rfl, (ss.trans s3) _ _ hp, T.c_Caller, T.a_Caller_roads, rfl, _, rfl, L.dr, _, rfl, DPut.k (k := Sum.inr a) (r.same (ss.trans s3)).hdr (by rw [el]; exact small1000 (by omega)), fin (.inr (by rw [roadOf_eq wy]; exact hm)) _ (ss.trans s3) _ rfl⟩
/-- a call's object by its number -/
def spCall (K : PySem.W.Frag) : Sp := fun vs H Q E => ∃ (p : Addr) (L : Lay) (S : St) (x : V), vs = [.ref p, x] ∧ Rep K H p L S ∧ Thing K H x ∧ (isC x 1 S.calls.length = false → E (.ref (He.ga K "BadCall")) none H) ∧
  (∀ (i : Nat) c q, x = .int ((1 + i : Nat) : Int) → L.cs[i]? = some c → S.calls[i]? = some q → Q (.ref c) H)
theorem isC_some {x : V} {n : Nat} (h : isC x 1 (n : Int) = true) : ∃ i : Nat, x = .int ((1 + i : Nat) : Int) ∧ i < n := by
  cases x with
  | int k =>
    have b : 1 ≤ k ∧ k ≤ n := by simpa [isC] using h
    exact ⟨(k - 1).toNat, congrArg V.int (by omega), by omega⟩
  | _ => cases h
theorem m_call (T : Txt K mg) : Mal P w K mg base (NX P w) 2 (He.ga K "Caller") "call" (spCall K) := by
  refine mal_of T.f_Caller_call T.c_Caller T.m_Caller_call sc_Caller_call (fun _ _ _ _ _ _ us hl => match us, hl with | [_, _], _ => rfl) (fun vs H Q E ⟨_, _, _, _, h, _⟩ => by rw [h] <;> rfl) fun cdv A outer s H vs Q E hr ⟨p, L, S, x, e, r, tx, q1, q2⟩ => ?_
  subst e
  have hu := hu_of hr
  obtain ⟨x1, x2, x3, x4⟩ := He.exc_ok T.e_BadCall
  refine ⟨_, pss_cons (ps_if (pt_not (pt_val (pe_k (E := E0) (k_is_count T) hr (by decide) pass0 (pa_cons (pv 1) (pa_cons pe_int (pa_cons (pe_callB call_lenD (by rfl) T.n_len boot_len (pa_cons (pe_fld (pv 0) rfl) pa_nil)) pa_nil))))))
      (pss_one (L2N.ps_raise rfl (L2N.takes_of rfl rfl rfl rfl) (L2N.pmk_own PySem.F.excBase_ValueError x1 T.g_BadCall x2 (raises_own x3 x4) (by rfl)))) pss_nil)
    (pss_one (ps_ret (pe_dget hu (pe_fld (pv 0) rfl) (pv 1) (fun _ _ => rfl)))), ?_⟩
  obtain ⟨dx, hp⟩ := id r.ins
  have el : (callsKV 1 L.cs).length = S.calls.length := by rw [callsKV_len, r.cl]
  refine ⟨_, rfl, _, rfl, p, _, dx, _, _, rfl, hp, T.c_Caller, T.a_Caller_calls, rfl, L.dc, _, rfl, r.hdc, x, 1, _, rfl, tx, _, rfl, ?_⟩
  rw [el]
  cases ec : isC x 1 (S.calls.length : Int) with
  | false => exact q1 ec
  | true =>
    obtain ⟨i, rfl, hi⟩ := isC_some ec
    have hi' : i < L.cs.length := by rw [r.cl]; exact hi
    exact ⟨_, rfl, p, _, dx, _, _, rfl, hp, T.c_Caller, T.a_Caller_calls, rfl, _, rfl, L.dc, _, rfl, .inl ⟨_, Sum.inl _, .inl r.hdc, rfl, (callsKV_get L.cs 1 i _ (List.getElem?_eq_getElem hi')).symm⟩, q2 i _ _ rfl (List.getElem?_eq_getElem hi') (List.getElem?_eq_getElem hi)⟩
def spNumbers (K : PySem.W.Frag) : Sp := fun vs H Q _ => ∃ (p : Addr) (L : Lay) (S : St), vs = [.ref p] ∧ Rep K H p L S ∧ S.calls.length ≤ 30 ∧ ∀ H' q, Same H H' → H q = none → H' q = some (.lst ((nums S.calls.length).map V.int)) → Q (.ref q) H'
theorem m_numbers (T : Txt K mg) : Mal P w K mg base CX0 1 (He.ga K "Caller") "numbers" (spNumbers K) := by
  refine mal_of T.f_Caller_numbers T.c_Caller T.m_Caller_numbers sc_Caller_numbers (fun _ _ _ _ _ _ us hl => match us, hl with | [_], _ => rfl) (fun vs H Q E ⟨_, _, _, h, _⟩ => by rw [h] <;> rfl) fun cdv A outer s H vs Q E hr ⟨p, L, S, e, r, l30, q⟩ => ?_
  subst e
  refine ⟨_, pss_one (ps_ret (pe_callB (call_sortedDI rfl) (by rfl) T.n_sorted (by decide +kernel) (pa_cons (pe_fld (pv 0) rfl) pa_nil))), ?_⟩
  obtain ⟨dx, hp⟩ := id r.ins
  have ek : (callsKV 1 L.cs).map (·.1) = (nums S.calls.length).map Sum.inl := by
    rw [callsKV_keys, r.cl]
    rfl
  refine ⟨_, rfl, p, _, dx, _, _, rfl, hp, T.c_Caller, T.a_Caller_calls, rfl, L.dc, _, nums S.calls.length, rfl, .inl r.hdc, ek, by unfold nums; rw [List.length_map, List.length_range]; omega, fun ys q1 pm so hq => ?_⟩
  have e : ys = nums S.calls.length := List.Perm.eq_of_pairwise (fun _ _ _ _ a b => Int.le_antisymm a b) so (nums_rise _) pm
  rw [e]
  exact q _ q1 (same_new hq) hq upd_same
end
end T
end
section
namespace T
open PySem PySem.Spec PyProof.Rows L2 Tr LamX
def newCal (k g t : Str) (now : Int) : Cal := ⟨k, g, t, "waits", 0, now, 0, g⟩
def sendS (S : St) (k g t : Str) : St := sayS { S with calls := S.calls ++ [newCal k g t S.now] } ((S.calls.length : Int) + 1) "sent"
/-- the time a call is bound to -/
def timeV (S : St) (q : Cal) : V := if q.word = "waits" then .int q.time else if q.word = "tried" then .int (q.time + S.rule.p) else .non
section
variable {P : Program} {w : World} {K : PySem.W.Frag} {mg : Str → Option Value} {base : Heap}
def spCInit (K : PySem.W.Frag) : Sp := fun vs H Q _ => ∃ (c dx : Addr) (k g t : Str) (now : Int), vs = [.ref c, .str k, .str g, .str t, .int now] ∧ H c = some (.ins (He.ga K "Call") dx []) ∧ ∀ H' : Hp, (∀ b, b ≠ c → H' b = H b) → H' c = some (.ins (He.ga K "Call") dx (callFs (newCal k g t now))) → Q .non H'
theorem n_Call (T : Txt K mg) : Nal P w K mg base CX0 1 "Call" (He.ga K "Call") (spCInit K) := by
  refine nal_of T.f_CallX_initX T.k_Call T.g_Call sc_CallX_initX (fun _ _ _ _ _ _ us hl => match us, hl with | [_, _, _, _, _], _ => rfl) (fun vs H Q E ⟨_, _, _, _, _, _, h, _⟩ => by rw [h] <;> rfl) fun cdv A outer s H vs Q E hr ⟨c, dx, k, g, t, now, e, hc, q⟩ => ?_
  subst e
  refine ⟨_, pss_cons (ps_fld (pv 0) (pv 1) rfl) (pss_cons (ps_fld (pv 0) (pv 2) rfl) (pss_cons (ps_fld (pv 0) (pv 3) rfl) (pss_cons (ps_fld (pv 0) pe_str rfl) (pss_cons (ps_fld (pv 0) pe_int rfl) (pss_cons (ps_fld (pv 0) (pv 4) rfl) (pss_cons (ps_fld (pv 0) pe_int rfl) (pss_one (ps_fld (pv 0) (pv 2) rfl)))))))), ?_⟩
  refine ⟨_, rfl, _, rfl, c, _, dx, _, rfl, hc, T.c_Call, T.a_Call_key, by show 0 < 1000; decide, ?_⟩
  refine ⟨_, rfl, _, rfl, c, _, dx, _, rfl, upd_same, T.c_Call, T.a_Call_goal, by show 1 < 1000; decide, ?_⟩
  refine ⟨_, rfl, _, rfl, c, _, dx, _, rfl, upd_same, T.c_Call, T.a_Call_text, by show 2 < 1000; decide, ?_⟩
  refine ⟨_, rfl, c, _, dx, _, rfl, upd_same, T.c_Call, T.a_Call_word, by show 3 < 1000; decide, ?_⟩
  refine ⟨_, rfl, c, _, dx, _, rfl, upd_same, T.c_Call, T.a_Call_fails, by show 4 < 1000; decide, ?_⟩
  refine ⟨_, rfl, _, rfl, c, _, dx, _, rfl, upd_same, T.c_Call, T.a_Call_time, by show 5 < 1000; decide, ?_⟩
  refine ⟨_, rfl, c, _, dx, _, rfl, upd_same, T.c_Call, T.a_Call_many, by show 6 < 1000; decide, ?_⟩
  refine ⟨_, rfl, _, rfl, c, _, dx, _, rfl, upd_same, T.c_Call, T.a_Call_place, by show 7 < 1000; decide, ?_⟩
  simp only [upd_upd]
  exact q _ (fun b hb => upd_ne hb) upd_same
/-- send -/
def spSend (K : PySem.W.Frag) : Sp := fun vs H Q E => ∃ (p : Addr) (L : Lay) (S : St) (x y z : V), vs = [.ref p, x, y, z] ∧ Rep K H p L S ∧ Thing K H x ∧ Thing K H y ∧ Thing K H z ∧ Short x ∧ Short y ∧ Short z ∧ S.calls.length ≤ 30 ∧ S.log.length ≤ 10000000 ∧
  ((isNm x = false ∨ inRoads S y = false) → ∀ H', Same H H' → E (.ref (He.ga K "BadName")) none H') ∧
  (isNm x = true → inRoads S y = true → isTx z = false → ∀ H', Same H H' → E (.ref (He.ga K "BadText")) none H') ∧
  (isNm x = true → inRoads S y = true → isTx z = true → S.calls.length = 30 → ∀ H', Same H H' → E (.ref (He.ga K "Full")) none H') ∧
  (∀ k g t, x = .str k → y = .str g → z = .str t → isNm x = true → inRoads S y = true → isTx z = true → S.calls.length < 30 → ∀ H' L', Rep K H' p L' (sendS S k g t) → Step p L H L' H' → Q (.int ((S.calls.length : Int) + 1)) H')
theorem m_send (T : Txt K mg) : Mal P w K mg base (NX P w) 4 (He.ga K "Caller") "send" (spSend K) := by
  refine mal_of T.f_Caller_send T.c_Caller T.m_Caller_send sc_Caller_send (fun _ _ _ _ _ _ us hl => match us, hl with | [_, _, _, _], _ => rfl) (fun vs H Q E ⟨_, _, _, _, _, _, h, _⟩ => by rw [h] <;> rfl) fun cdv A outer s H vs Q E hr ⟨p, L, S, x, y, z, e, r, tx, ty, tz, sx, sy, szz, l30, lg, q1, q2, q3, q4⟩ => ?_
  subst e
  have hu := hu_of hr
  have nd := sc_Caller_send.nd
  obtain ⟨x1, x2, x3, x4⟩ := He.exc_ok T.e_Full
  obtain ⟨u5, g5, r5⟩ := T.i_MOST_CALLS
  refine ⟨_, pss_cons (ps_expr (pe_k (E := E) (k_need_name T) hr (by decide) (L2N.passes_call (L2N.takes_of rfl rfl rfl rfl) fun _ _ _ _ h => h) (pa_cons (pv 1) pa_nil)))
    (pss_cons (ps_expr (pe_m (E := E) (m_need_address T) hr (by decide) (L2N.passes_call (L2N.takes_of rfl rfl rfl rfl) fun _ _ _ _ h => h) (pv 0) (pa_cons (pv 2) pa_nil)))
    (pss_cons (ps_expr (pe_k (E := E) (k_need_text T) hr (by decide) (L2N.passes_call (L2N.takes_of rfl rfl rfl rfl) fun _ _ _ _ h => h) (pa_cons (pv 3) pa_nil)))
    (pss_cons (ps_if (pt_cmpR op_ge (pe_callB call_lenD (by rfl) T.n_len boot_len (pa_cons (pe_fld (pv 0) rfl) pa_nil)) (pe_glob (by rfl) g5 r5) (nomark _)) (pss_one (L2N.ps_raise rfl (L2N.takes_of rfl rfl rfl rfl) (L2N.pmk_own PySem.F.excBase_ValueError x1 T.g_Full x2 (raises_own x3 x4) (by rfl)))) pss_nil)
    (pss_cons (ps_set (i := 4) nd rfl (Or.inl rfl) (pe_op op_add (pe_callB call_lenD (by rfl) T.n_len boot_len (pa_cons (pe_fld (pv 0) rfl) pa_nil)) pe_int))
    (pss_cons (ps_dput hu (pe_fld (pv 0) rfl) (pv 4) (pe_n (E := E0) (n_Call T) hr (by decide) pass0 (pa_cons (pv 1) (pa_cons (pv 2) (pa_cons (pv 3) (pa_cons (pe_fld (pv 0) rfl) pa_nil))))) rfl)
    (pss_cons (ps_expr (pe_m (E := E0) (m_say T) hr (by decide) pass0 (pv 0) (pa_cons (pv 4) (pa_cons pe_str pa_nil))))
    (pss_one (ps_ret (pv 4))))))))), ?_⟩
  obtain ⟨dx, hp⟩ := id r.ins
  refine ⟨_, rfl, x, rfl, tx, sx, fun ek H1 s1 => ?_, fun ek H1 s1 => q1 (.inl ek) H1 s1⟩
  refine ⟨_, rfl, p, dx, _, rfl, s1 _ _ hp, rfl, _, rfl, p, L, S, y, rfl, r.same s1, ty.same s1, sy, fun ey H2 s2 => ?_, fun ey H2 s2 => q1 (.inr ey) H2 (s1.trans s2)⟩
  refine ⟨_, rfl, z, rfl, tz.same (s1.trans s2), szz, fun et H3 s3 => ?_, fun et H3 s3 => q2 ek ey et H3 ((s1.trans s2).trans s3)⟩
  obtain ⟨k, rfl⟩ : ∃ a, x = .str a := by
    cases x with
    | str a => exact ⟨a, rfl⟩
    | _ => cases ek
  obtain ⟨g, rfl⟩ : ∃ a, y = .str a := by
    cases y with
    | str a => exact ⟨a, rfl⟩
    | _ => cases ey
  obtain ⟨t, rfl⟩ : ∃ a, z = .str a := by
    cases z with
    | str a => exact ⟨a, rfl⟩
    | _ => cases et
  have ss := (s1.trans s2).trans s3
  have r3 := r.same ss
  have hp3 := ss _ _ hp
  have el : (callsKV 1 L.cs).length = S.calls.length := by rw [callsKV_len, r.cl]
  refine ⟨_, rfl, p, _, dx, _, _, rfl, hp3, T.c_Caller, T.a_Caller_calls, rfl, L.dc, _, rfl, r3.hdc, _, _, rfl, rfl, ?_⟩
  by_cases h30 : S.calls.length = 30
  · exact ⟨true, congrArg V.bl (decide_eq_true (by rw [el]; omega)), q3 ek ey et h30 _ ss⟩
  refine ⟨false, congrArg V.bl (decide_eq_false (by rw [el]; omega)), ?_⟩
  refine ⟨_, rfl, p, _, dx, _, _, rfl, hp3, T.c_Caller, T.a_Caller_calls, rfl, L.dc, _, rfl, r3.hdc, _, _, rfl, rfl, ?_⟩
  refine ⟨_, rfl, _, rfl, _, rfl, _, rfl, p, _, dx, _, _, rfl, hp3, T.c_Caller, T.a_Caller_clock, rfl, fun c cd hc hcd hne => ⟨c, cd, k, g, t, S.now, rfl, upd_same, fun H4 oth hcN => ⟨rfl, ?_⟩⟩⟩
  have s4 : Same H3 H4 := fun b o h => by
    have hb : b ≠ c := ne_of_none h hc
    rw [oth b hb, upd_ne hb, upd_ne (ne_of_none h hcd)]
    exact h
  have hp4 := s4 _ _ hp3
  have r4 := r3.same s4
  have hnc : c ∉ L.cs := fun hm => by
    obtain ⟨_, _, _, _, _, z⟩ := r3.at hm
    rw [hc] at z
    cases z
  refine ⟨_, rfl, p, _, dx, _, _, rfl, hp4, T.c_Caller, T.a_Caller_calls, rfl, _, rfl, L.dc, _, rfl, DPut.k (k := Sum.inl _) r4.hdc (by rw [el]; exact small1000 (by omega)), ?_⟩
  have r5' := r4.add hcN hnc
  have ep : putK (callsKV 1 L.cs) (Sum.inl (((callsKV 1 L.cs).length : Int) + 1)) (V.ref c) = callsKV 1 (L.cs ++ [c]) := by
    rw [callsKV_len]
    exact callsKV_put L.cs c
  have step5 : Step p L H { L with cs := L.cs ++ [c] } (upd H4 L.dc (.dK (callsKV 1 (L.cs ++ [c])))) := by
    refine ⟨fun d o h nf => ?_, fun d hd => ?_⟩
    · rw [upd_ne fun z => nf (.inr (.inr (.inl z)))]
      exact s4 d o (ss d o h)
    · rcases hd with z | z | z | z | z
      · exact .inl (.inl z)
      · exact .inl (.inr (.inl z))
      · exact .inl (.inr (.inr (.inl z)))
      · exact .inl (.inr (.inr (.inr (.inl z))))
      · have z : d ∈ L.cs ++ [c] := z
        rcases List.mem_append.mp z with z | z
        · exact .inl (.inr (.inr (.inr (.inr z))))
        · rw [List.mem_singleton.mp z]
          refine .inr ?_
          cases e : H c with
          | none => rfl
          | some o =>
            rw [ss c o e] at hc
            cases hc
  rw [← ep] at r5' step5
  obtain ⟨dx5, hp5⟩ := id r5'.ins
  refine ⟨_, rfl, p, dx5, _, rfl, hp5, rfl, _, rfl, p, _, _, _, "sent", rfl, r5', lg, fun H6 L6 r6 st6 => ⟨_, rfl, ?_⟩⟩
  have e6 : (((callsKV 1 L.cs).length : Int) + 1) = (S.calls.length : Int) + 1 := by rw [el]
  rw [e6] at r6
  have fin := q4 k g t rfl rfl rfl ek ey et (by omega) H6 _ r6 (step5.trans st6)
  rw [← e6] at fin
  exact fin
def spCField (f : Cal → V) (K : PySem.W.Frag) : Sp := fun vs H Q E => ∃ (p : Addr) (L : Lay) (S : St) (x : V), vs = [.ref p, x] ∧ Rep K H p L S ∧ Thing K H x ∧ (isC x 1 S.calls.length = false → E (.ref (He.ga K "BadCall")) none H) ∧
  (∀ (i : Nat) q, x = .int ((1 + i : Nat) : Int) → S.calls[i]? = some q → Q (f q) H)
def spTimeOf (K : PySem.W.Frag) : Sp := fun vs H Q E => ∃ (p : Addr) (L : Lay) (S : St) (x : V), vs = [.ref p, x] ∧ Rep K H p L S ∧ Thing K H x ∧ (isC x 1 S.calls.length = false → E (.ref (He.ga K "BadCall")) none H) ∧
  (∀ (i : Nat) q, x = .int ((1 + i : Nat) : Int) → S.calls[i]? = some q → Q (timeV S q) H)
theorem str_dec (a b : Str) : decide (V.str a = V.str b) = decide (a = b) := by
  by_cases h : a = b
  · rw [decide_eq_true h, decide_eq_true (congrArg V.str h)]
  · rw [decide_eq_false h, decide_eq_false fun z => h (V.str.inj z)]
end
end T
end
section
namespace T
open PySem PySem.Spec PyProof.Rows L2 Tr LamX
section
variable {P : Program} {w : World} {K : PySem.W.Frag} {mg : Str → Option Value} {base : Heap}
theorem m_state (T : Txt K mg) : Mal P w K mg base (NX P w) 3 (He.ga K "Caller") "state" (spCField (fun q => .str q.word) K) := by
  refine mal_of T.f_Caller_state T.c_Caller T.m_Caller_state sc_Caller_state (fun _ _ _ _ _ _ us hl => match us, hl with | [_, _], _ => rfl) (fun vs H Q E ⟨_, _, _, _, h, _⟩ => by rw [h] <;> rfl) fun cdv A outer s H vs Q E hr ⟨p, L, S, x, e, r, tx, q1, q2⟩ => ?_
  subst e
  refine ⟨_, pss_one (ps_ret (pe_fld (pe_m (E := E) (m_call T) hr (by decide) (L2N.passes_call (L2N.takes_of rfl rfl rfl rfl) fun _ _ _ _ h => h) (pv 0) (pa_cons (pv 1) pa_nil)) rfl)), ?_⟩
  obtain ⟨dx, hp⟩ := id r.ins
  refine ⟨_, rfl, p, dx, _, rfl, hp, rfl, _, rfl, p, L, S, x, rfl, r, tx, q1, fun i c q ex h1 h2 => ?_⟩
  obtain ⟨cd, hc⟩ := r.hc i c q h1 h2
  exact ⟨c, _, cd, _, _, rfl, hc, T.c_Call, T.a_Call_word, rfl, q2 i q ex h2⟩
end
end T
end
section
namespace T
open PySem PySem.Spec PyProof.Rows L2 Tr LamX
section
variable {P : Program} {w : World} {K : PySem.W.Frag} {mg : Str → Option Value} {base : Heap}
theorem m_tries (T : Txt K mg) : Mal P w K mg base (NX P w) 3 (He.ga K "Caller") "tries" (spCField (fun q => .int q.many) K) := by
  refine mal_of T.f_Caller_tries T.c_Caller T.m_Caller_tries sc_Caller_tries (fun _ _ _ _ _ _ us hl => match us, hl with | [_, _], _ => rfl) (fun vs H Q E ⟨_, _, _, _, h, _⟩ => by rw [h] <;> rfl) fun cdv A outer s H vs Q E hr ⟨p, L, S, x, e, r, tx, q1, q2⟩ => ?_
  subst e
  refine ⟨_, pss_one (ps_ret (pe_fld (pe_m (E := E) (m_call T) hr (by decide) (L2N.passes_call (L2N.takes_of rfl rfl rfl rfl) fun _ _ _ _ h => h) (pv 0) (pa_cons (pv 1) pa_nil)) rfl)), ?_⟩
  obtain ⟨dx, hp⟩ := id r.ins
  refine ⟨_, rfl, p, dx, _, rfl, hp, rfl, _, rfl, p, L, S, x, rfl, r, tx, q1, fun i c q ex h1 h2 => ?_⟩
  obtain ⟨cd, hc⟩ := r.hc i c q h1 h2
  exact ⟨c, _, cd, _, _, rfl, hc, T.c_Call, T.a_Call_many, rfl, q2 i q ex h2⟩
end
end T
end
section
namespace T
open PySem PySem.Spec PyProof.Rows L2 Tr LamX
section
variable {P : Program} {w : World} {K : PySem.W.Frag} {mg : Str → Option Value} {base : Heap}
theorem m_time_of (T : Txt K mg) : Mal P w K mg base (NX P w) 3 (He.ga K "Caller") "time_of" (spTimeOf K) := by
  refine mal_of T.f_Caller_time_of T.c_Caller T.m_Caller_time_of sc_Caller_time_of (fun _ _ _ _ _ _ us hl => match us, hl with | [_, _], _ => rfl) (fun vs H Q E ⟨_, _, _, _, h, _⟩ => by rw [h] <;> rfl) fun cdv A outer s H vs Q E hr ⟨p, L, S, x, e, r, tx, q1, q2⟩ => ?_
  subst e
  have nd := sc_Caller_time_of.nd
  refine ⟨_, pss_cons (ps_set (i := 2) nd rfl (Or.inl rfl) (pe_m (E := E) (m_call T) hr (by decide) (L2N.passes_call (L2N.takes_of rfl rfl rfl rfl) fun _ _ _ _ h => h) (pv 0) (pa_cons (pv 1) pa_nil)))
    (pss_cons (ps_if (pt_cmpR op_eq (pe_fld (pv 2) rfl) pe_str (nomark _)) (pss_one (ps_ret (pe_fld (pv 2) rfl))) pss_nil)
    (pss_one (ps_ret (pe_ifExp (pt_cmpR op_eq (pe_fld (pv 2) rfl) pe_str (nomark _)) (pe_op op_add (pe_fld (pv 2) rfl) (pe_ix ix_tup (pe_fld (pv 0) rfl) pe_int (fun _ _ => rfl))) pe_non)))), ?_⟩
  obtain ⟨dx, hp⟩ := id r.ins
  refine ⟨_, rfl, p, dx, _, rfl, hp, rfl, _, rfl, p, L, S, x, rfl, r, tx, q1, fun i c q ex h1 h2 => ?_⟩
  obtain ⟨cd, hc⟩ := r.hc i c q h1 h2
  have fin := q2 i q ex h2
  unfold timeV at fin
  refine ⟨_, rfl, c, _, cd, _, _, rfl, hc, T.c_Call, T.a_Call_word, rfl, rfl, _, rfl, ?_⟩
  rw [str_dec]
  by_cases hw : q.word = "waits"
  · rw [decide_eq_true hw]
    rw [if_pos hw] at fin
    exact ⟨_, rfl, c, _, cd, _, _, rfl, hc, T.c_Call, T.a_Call_time, rfl, fin⟩
  · rw [decide_eq_false hw]
    rw [if_neg hw] at fin
    refine ⟨_, rfl, c, _, cd, _, _, rfl, hc, T.c_Call, T.a_Call_word, rfl, rfl, _, rfl, ?_⟩
    rw [str_dec]
    by_cases ht : q.word = "tried"
    · rw [decide_eq_true ht]
      rw [if_pos ht] at fin
      exact ⟨_, rfl, c, _, cd, _, _, rfl, hc, T.c_Call, T.a_Call_time, rfl, _, rfl, p, _, dx, _, _, rfl, hp, T.c_Caller, T.a_Caller_rule, rfl, _, _, _, _, rfl, rfl, sqT r.hrl, rfl, _, _, rfl, rfl, fin⟩
    · rw [decide_eq_false ht]
      rw [if_neg ht] at fin
      exact fin
end
end T
end
section
namespace T
open PySem PySem.Spec PyProof.Rows L2 Tr LamX
def firstB (cs : List Cal) (i : Nat) (k : Str) : Bool := ((cs.take i).filter fun q => decide (q.key = k)).all fun q => decide (q.word = ("done" : Str)) || decide (q.word = ("gone" : Str))
def busyN (cs : List Cal) (g : Str) : Nat := (cs.filter fun q => decide (q.word = ("tried" : Str)) && decide (q.place = g)).length
noncomputable def dueB (S : St) (i : Nat) : Bool := match S.calls[i]? with
  | some q => decide (q.word = ("waits" : Str)) && (decide (q.time ≤ S.now) && (firstB S.calls i q.key && decide ((busyN S.calls (endOf S.roads q.goal) : Int) < S.rule.o)))
  | none => false
noncomputable def dueL (S : St) : List Int := ((List.range S.calls.length).filter (dueB S)).map fun i => ((1 + i : Nat) : Int)
/-- the objects of the calls that f takes -/
def objs (f : Cal → Bool) (cs : List Addr) (qs : List Cal) : List Addr := ((cs.zip qs).filter fun cq => f cq.2).map (·.1)
theorem objs_add {f : Cal → Bool} {cs : List Addr} {qs : List Cal} {i : Nat} {c : Addr} {q : Cal} (h1 : cs[i]? = some c) (h2 : qs[i]? = some q) : objs f (cs.take (i + 1)) (qs.take (i + 1)) = objs f (cs.take i) (qs.take i) ++ if f q = true then [c] else [] := by
  have z : (cs.take (i + 1)).zip (qs.take (i + 1)) = (cs.take i).zip (qs.take i) ++ [(c, q)] := by
    rw [List.take_succ, List.take_succ, h1, h2]
    have l1 := (List.getElem?_eq_some_iff.mp h1).1
    have l2 := (List.getElem?_eq_some_iff.mp h2).1
    rw [List.zip_append (by rw [List.length_take, List.length_take]; omega)]
    rfl
  unfold objs
  rw [z, List.filter_append, List.map_append]
  by_cases hf : f q = true
  · rw [if_pos hf]
    simp [hf]
  · rw [if_neg hf]
    simp [hf]
theorem objs_len {f : Cal → Bool} : ∀ {cs : List Addr} {qs : List Cal}, cs.length = qs.length → (objs f cs qs).length = (qs.filter f).length
  | [], [], _ => rfl
  | c :: cs, q :: qs, h => by
    have ih := objs_len (f := f) (cs := cs) (qs := qs) (by simpa using h)
    unfold objs at ih ⊢
    rw [List.zip_cons_cons, List.filter_cons, List.filter_cons]
    by_cases hf : f q = true
    · rw [if_pos hf, if_pos hf]
      simp [ih]
    · rw [if_neg hf, if_neg hf]
      exact ih
theorem objs_at {f : Cal → Bool} : ∀ {cs : List Addr} {qs : List Cal} {j : Nat} {c : Addr}, (objs f cs qs)[j]? = some c → ∃ (i : Nat) (q : Cal), cs[i]? = some c ∧ qs[i]? = some q ∧ (qs.filter f)[j]? = some q
  | [], _, _, _, h => by simp [objs] at h
  | _ :: _, [], _, _, h => by simp [objs] at h
  | c0 :: cs, q0 :: qs, j, c, h => by
    unfold objs at h
    rw [List.zip_cons_cons, List.filter_cons] at h
    rw [List.filter_cons]
    by_cases hf : f q0 = true
    · rw [if_pos hf] at h
      rw [if_pos hf]
      cases j with
      | zero =>
        cases h
        exact ⟨0, q0, rfl, rfl, rfl⟩
      | succ j =>
        obtain ⟨i, q, h1, h2, h3⟩ := objs_at (f := f) (cs := cs) (qs := qs) (j := j) (c := c) (show (objs f cs qs)[j]? = some c from h)
        exact ⟨i + 1, q, by simpa using h1, by simpa using h2, by simpa using h3⟩
    · rw [if_neg hf] at h
      rw [if_neg hf]
      obtain ⟨i, q, h1, h2, h3⟩ := objs_at (f := f) (cs := cs) (qs := qs) (j := j) (c := c) h
      exact ⟨i + 1, q, by simpa using h1, by simpa using h2, h3⟩
section
variable {P : Program} {w : World} {K : PySem.W.Frag} {mg : Str → Option Value} {base : Heap}
/-- one call's object, looked up -/
theorem Rep.get {H : Hp} {p : Addr} {L : Lay} {S : St} (r : Rep K H p L S) {i : Nat} {c : Addr} (h : L.cs[i]? = some c) : DGet H L.dc (.int ((1 + i : Nat) : Int)) (some (.ref c)) :=
  .inl ⟨_, Sum.inl _, .inl r.hdc, rfl, (callsKV_get L.cs 1 i c h).symm⟩
theorem Rep.get1 {H : Hp} {p : Addr} {L : Lay} {S : St} (r : Rep K H p L S) {i : Nat} {c : Addr} (h : L.cs[i]? = some c) : DGet H L.dc (.int (1 + (i : Int))) (some (.ref c)) := by
  have e : (1 + (i : Int)) = ((1 + i : Nat) : Int) := by omega
  rw [e]
  exact r.get h
theorem in2 (x a b : Str) : inV (.str x) [V.str a, V.str b] = (decide (x = a) || decide (x = b)) := by
  have e := inV_strs x [a, b]
  rw [show [V.str a, V.str b] = [a, b].map V.str from rfl, e]
  by_cases h1 : x = a <;> by_cases h2 : x = b <;> simp [h1, h2]
theorem take_map_add {α : Type} (f : α → Bool) (l : List α) (j : Nat) (x : α) (h : l[j]? = some x) : ((l.take (j + 1)).map f).map V.bl = ((l.take j).map f).map V.bl ++ [V.bl (f x)] := by
  rw [List.take_succ, h]
  simp
def spFirst (K : PySem.W.Frag) : Sp := fun vs H Q _ => ∃ (p : Addr) (L : Lay) (S : St) (i : Nat) (q : Cal), vs = [.ref p, .int ((1 + i : Nat) : Int)] ∧ Rep K H p L S ∧ S.calls[i]? = some q ∧ S.calls.length ≤ 30 ∧ ∀ H', Same H H' → Q (.bl (firstB S.calls i q.key)) H'
theorem m_is_first (T : Txt K mg) : Mal P w K mg base CX0 1 (He.ga K "Caller") "is_first" (spFirst K) := by
  refine mal_of T.f_Caller_is_first T.c_Caller T.m_Caller_is_first sc_Caller_is_first (fun _ _ _ _ _ _ us hl => match us, hl with | [_, _], _ => rfl) (fun vs H Q E ⟨_, _, _, _, _, h, _⟩ => by rw [h] <;> rfl) fun cdv A outer s H vs Q E hr ⟨p, L, S, i, q, e, r, hq, l30, fin⟩ => ?_
  subst e
  have hu := hu_of hr
  have nd := sc_Caller_is_first.nd
  refine ⟨_, pss_cons (ps_set (i := 2) nd rfl (Or.inr rfl) (pe_fld (pe_dget hu (pe_fld (pv 0) rfl) (pv 1) (fun _ _ => rfl)) rfl))
    (pss_cons (ps_setLc (i := 3) (own := [("one", 4)]) (g := gName 4) (tt := tTest (tOp rEq (tFld K (tDGet (tFld K (tVar 0) "calls") (tVar 4)) "key") (tVar 2))) (te := tDGet (tFld K (tVar 0) "calls") (tVar 4)) rfl nd rfl rfl (sw_true rfl rfl rfl (by decide +kernel)) (pi_range2 (by rfl) T.n_range (pa_cons pe_int (pa_cons (pv 1) pa_nil)))
        (blkOk_by (N := ["self", "number", "key", "ahead", "one"]) (sc := defScope s_Caller_is_first) (by decide +kernel)) (fun _ _ _ _ _ => pg_name (i := 4) nd rfl (Or.inl rfl))
        (fun _ _ _ _ _ => pts_one (pt_cmpR op_eq (pe_fld (pe_dget hu (pe_fld (pv 0) rfl) (pv 4) (fun _ _ => rfl)) rfl) (pv 2) (nomark _))) (fun _ _ _ _ _ => pe_dget hu (pe_fld (pv 0) rfl) (pv 4) (fun _ _ => rfl)))
    (pss_one (ps_ret (b_all rfl T.n_all (pa_cons (pe_lc (own := [("one", 4)]) (g := gName 4) (tt := tYes) rfl nd (pi_list (pv 3))
        (blkOk_by (N := ["self", "number", "key", "ahead", "one"]) (sc := defScope s_Caller_is_first) (by decide +kernel)) (fun _ _ _ _ _ => pg_name (i := 4) nd rfl (Or.inl rfl)) (fun _ _ _ _ _ => pts_nil)
        (te := tOp (rIn K false) (tFld K (tVar 4) "word") (tTup (tCons (tC (.str "done")) (tCons (tC (.str "gone")) tNil))))
        (fun _ _ _ _ _ => pe_cmpR op_in_seq (pe_fld (pv 4) rfl) (pe_tup (pa_cons pe_str (pa_cons pe_str pa_nil))) rfl)) pa_nil))))), ?_⟩
  obtain ⟨dx, hp⟩ := id r.ins
  have hil : i < L.cs.length := by rw [r.cl]; exact (List.getElem?_eq_some_iff.mp hq).1
  have hci : L.cs[i]? = some L.cs[i] := List.getElem?_eq_getElem hil
  obtain ⟨cd, hc⟩ := r.hc i _ q hci hq
  have lcs : L.cs.length ≤ 30 := by rw [r.cl]; exact l30
  refine ⟨_, rfl, p, _, dx, _, _, rfl, hp, T.c_Caller, T.a_Caller_calls, rfl, _, rfl, L.dc, _, rfl, r.get hci, _, _, cd, _, _, rfl, hc, T.c_Call, T.a_Call_key, rfl, ?_⟩
  have en : (((1 + i : Nat) : Int) - 1).toNat = i := by omega
  refine ⟨_, rfl, _, _, rfl, ⟨by omega, by omega, by omega, by omega⟩, fun D hD => ?_⟩
  refine lc_adds (walk_range (lo := 1) (n := (((1 + i : Nat) : Int) - 1).toNat)) (fun j acc => acc = (objs (fun o => decide (o.key = q.key)) (L.cs.take j) (S.calls.take j)).map V.ref) hD (by omega) rfl (fun j acc h => ?_) (fun _ _ => trivial) ?_ ?_
  · rw [h, List.length_map]
    unfold objs
    rw [List.length_map]
    exact Nat.le_trans (List.length_filter_le _ _) (by rw [List.length_zip, List.length_take]; omega)
  · rintro Tq N j acc y H2 H3 yes no hj s2 pp ⟨rfl, rfl⟩
    have hj : j < i := by omega
    have hjl : j < L.cs.length := by omega
    have hjq : j < S.calls.length := by rw [← r.cl]; exact hjl
    have hcj : L.cs[j]? = some L.cs[j] := List.getElem?_eq_getElem hjl
    have hqj : S.calls[j]? = some S.calls[j] := List.getElem?_eq_getElem hjq
    have r2 := r.same s2
    obtain ⟨cd2, hc2⟩ := r2.hc j _ _ hcj hqj
    have add := objs_add (f := fun o => decide (o.key = q.key)) hcj hqj
    refine ⟨rfl, _, rfl, p, _, dx, _, _, rfl, s2 _ _ hp, T.c_Caller, T.a_Caller_calls, rfl, _, rfl, L.dc, _, rfl, r2.get1 hcj, _, _, cd2, _, _, rfl, hc2, T.c_Call, T.a_Call_key, rfl, _, rfl, rfl, _, rfl, ?_⟩
    rw [str_dec]
    by_cases hk : S.calls[j].key = q.key
    · rw [decide_eq_true hk]
      rw [decide_eq_true hk, if_pos rfl] at add
      refine ⟨_, rfl, p, _, dx, _, _, rfl, s2 _ _ hp, T.c_Caller, T.a_Caller_calls, rfl, _, rfl, L.dc, _, rfl, r2.get1 hcj, yes _ _ (Same.refl _) ?_⟩
      rw [pp, add, List.map_append]
      rfl
    · rw [decide_eq_false hk]
      rw [decide_eq_false hk, if_neg (by decide)] at add
      refine no _ (Same.refl _) ?_
      rw [pp, add, List.append_nil]
  rintro acc H2 s2 eD rfl
  rw [en] at eD
  have r2 := r.same s2
  have ltk : (L.cs.take i).length = (S.calls.take i).length := by rw [List.length_take, List.length_take, r.cl]
  have hfl := objs_len (f := fun o => decide (o.key = q.key)) ltk
  have hfi : ((S.calls.take i).filter fun o => decide (o.key = q.key)).length ≤ 30 := Nat.le_trans (List.length_filter_le _ _) (by rw [List.length_take]; omega)
  refine ⟨_, rfl, D, rfl, ⟨_, sqL eD⟩, fun D2 hD2 => ?_⟩
  refine lc_adds (walk_list (xs := (objs (fun o => decide (o.key = q.key)) (L.cs.take i) (S.calls.take i)).map V.ref)) (fun j acc => acc = ((((S.calls.take i).filter fun o => decide (o.key = q.key)).take j).map fun o => decide (o.word = ("done" : Str)) || decide (o.word = ("gone" : Str))).map V.bl) hD2 (by rw [List.length_map, hfl]; omega) rfl
    (fun j acc h => by rw [h, List.length_map, List.length_map, List.length_take]; omega) (fun H' s' => sqL (s' _ _ eD)) ?_ ?_
  · rintro Tq N j acc y H4 H5 yes no hj s4 pp ⟨rfl, hy⟩
    rw [List.getElem?_map] at hy
    cases ho : (objs (fun o => decide (o.key = q.key)) (L.cs.take i) (S.calls.take i))[j]? with
    | none =>
      rw [ho] at hy
      cases hy
    | some c' =>
      rw [ho] at hy
      cases hy
      obtain ⟨i', q', h1, h2, h3⟩ := objs_at ho
      have h1' : L.cs[i']? = some c' := by
        have := (List.getElem?_eq_some_iff.mp h1).1
        rw [List.length_take] at this
        rw [List.getElem?_take_of_lt (by omega)] at h1
        exact h1
      have h2' : S.calls[i']? = some q' := by
        have := (List.getElem?_eq_some_iff.mp h2).1
        rw [List.length_take] at this
        rw [List.getElem?_take_of_lt (by omega)] at h2
        exact h2
      obtain ⟨cd3, hc3⟩ := (r2.same s4).hc i' c' q' h1' h2'
      refine ⟨rfl, _, rfl, c', _, cd3, _, _, rfl, hc3, T.c_Call, T.a_Call_word, rfl, by show 2 ≤ sizeLine; decide, fun t ht => ⟨t, _, rfl, .inr (sqT upd_same), rfl, rfl, yes _ _ (same_new ht) ?_⟩⟩
      rw [pp, take_map_add _ _ j q' h3]
      show _ ++ [V.bl (inV (.str q'.word) [V.str "done", V.str "gone"])] = _
      rw [in2]
  · rintro acc H4 s4 eD2 rfl
    refine ⟨D2, _, rfl, sqL eD2, ?_⟩
    rw [List.length_map, hfl, List.take_length, List.all_map]
    exact fin _ (s2.trans s4)
end
end T
end
section
namespace T
open PySem PySem.Spec PyProof.Rows L2 Tr LamX
theorem Way.short {r : List (Str × Str)} {n : Str} {l : List Str} (w : Way r n l) : ∀ x ∈ l, ∃ l', Way r x l' ∧ l'.length ≤ l.length := by
  induction w with
  | @stop n h =>
    intro x hx
    rw [List.mem_singleton.mp hx]
    exact ⟨_, .stop h, Nat.le_refl _⟩
  | @step n t l h ne w ih =>
    intro x hx
    rcases List.mem_cons.mp hx with rfl | hx
    · exact ⟨_, .step h ne w, Nat.le_refl _⟩
    · obtain ⟨l', w', hl⟩ := ih x hx
      exact ⟨l', w', Nat.le_succ_of_le hl⟩
theorem Way.nodup {r : List (Str × Str)} {n : Str} {l : List Str} (w : Way r n l) : l.Nodup := by
  induction w with
  | stop h => simp
  | @step n t l h ne w ih =>
    refine List.nodup_cons.mpr ⟨fun hm => ?_, ih⟩
    obtain ⟨l', w', hl⟩ := w.short n hm
    have e := (Way.step h ne w).det w'
    rw [← e] at hl
    simp at hl
    omega
theorem sub_len : ∀ (ks l : List Str), l.Nodup → (∀ x ∈ l, x ∈ ks) → l.length ≤ ks.length
  | [], l, _, h => by
    cases l with
    | nil => exact Nat.le_refl _
    | cons a l => exact absurd (h a List.mem_cons_self) (by simp)
  | k :: ks, l, nd, h => by
    have ih := sub_len ks (l.filter fun x => decide (x ≠ k)) (nd.filter _) fun x hx => by
      obtain ⟨h1, h2⟩ := List.mem_filter.mp hx
      rcases List.mem_cons.mp (h x h1) with z | z
      · exact absurd z (of_decide_eq_true h2)
      · exact z
    have q : l.length ≤ (l.filter fun x => decide (x ≠ k)).length + 1 := by
      clear ih h
      induction l with
      | nil => simp
      | cons a l ihl =>
        obtain ⟨na, ndl⟩ := List.nodup_cons.mp nd
        rw [List.filter_cons]
        by_cases e : a = k
        · subst e
          have z : l.filter (fun x => decide (x ≠ a)) = l := List.filter_eq_self.mpr fun x hx => decide_eq_true fun z => na (by rw [← z]; exact hx)
          rw [z]
          simp
        · rw [if_pos (decide_eq_true e), List.length_cons, List.length_cons]
          have := ihl ndl
          omega
    rw [List.length_cons]
    omega
theorem way_len {r : List (Str × Str)} {n : Str} {l : List Str} (w : Way r n l) : l.length ≤ r.length := by
  have e : (r.map (·.1)).length = r.length := List.length_map ..
  rw [← e]
  refine sub_len _ _ w.nodup fun x hx => ?_
  have h := w.mem x hx
  unfold getT at h
  cases q : r.find? fun e => decide (e.1 = x) with
  | none =>
    rw [q] at h
    cases h
  | some p =>
    have m := List.mem_of_find?_eq_some q
    have z : p.1 = x := of_decide_eq_true (List.find?_some (p := fun e : Str × Str => decide (e.1 = x)) q)
    exact List.mem_map.mpr ⟨p, m, z⟩
/-- what is always so of a caller -/
structure Wf (S : St) : Prop where
  ok : S.rule.Ok
  en : Ends_ S.roads
  l5 : S.roads.length ≤ 5
  nm : ∀ e ∈ S.roads, nameOk e.1 = true
  l30 : S.calls.length ≤ 30
  key : ∀ q ∈ S.calls, nameOk q.key = true
  goal : ∀ q ∈ S.calls, inRoads S (.str q.goal) = true
  text : ∀ q ∈ S.calls, textOk q.text = true
  fails : ∀ q ∈ S.calls, 0 ≤ q.fails
theorem Wf.wl {S : St} (f : Wf S) : ∀ n l, Way S.roads n l → l.length ≤ 1000 := fun n l w => Nat.le_trans (way_len w) (Nat.le_trans f.l5 (by decide))
theorem in_name {S : St} {a : Str} (h : inRoads S (.str a) = true) : nameOk a = true := by
  have h' : (nameOk a && (getT S.roads a).isSome) = true := h
  exact (Bool.and_eq_true_iff.mp h').1
theorem in_short {S : St} {a : Str} (h : inRoads S (.str a) = true) : Short (.str a) := by
  have e := in_name h
  unfold nameOk at e
  simp only [Bool.and_eq_true, decide_eq_true_eq] at e
  show a.length ≤ 100000
  omega
section
variable {P : Program} {w : World} {K : PySem.W.Frag} {mg : Str → Option Value} {base : Heap}
def spBusy (K : PySem.W.Frag) : Sp := fun vs H Q _ => ∃ (p : Addr) (L : Lay) (S : St) (g : Str), vs = [.ref p, .str g] ∧ Rep K H p L S ∧ S.calls.length ≤ 30 ∧ ∀ H', Same H H' → Q (.int (busyN S.calls g : Nat)) H'
theorem m_busy (T : Txt K mg) : Mal P w K mg base CX0 1 (He.ga K "Caller") "busy" (spBusy K) := by
  refine mal_of T.f_Caller_busy T.c_Caller T.m_Caller_busy sc_Caller_busy (fun _ _ _ _ _ _ us hl => match us, hl with | [_, _], _ => rfl) (fun vs H Q E ⟨_, _, _, _, h, _⟩ => by rw [h] <;> rfl) fun cdv A outer s H vs Q E hr ⟨p, L, S, g, e, r, l30, fin⟩ => ?_
  subst e
  have hu := hu_of hr
  have nd := sc_Caller_busy.nd
  refine ⟨_, pss_cons (ps_lock (ps_setLc (i := 2) (own := [("number", 3)]) (g := gName 3) (tt := tYes) (te := tDGet (tFld K (tVar 0) "calls") (tVar 3)) rfl nd rfl rfl (sw_true rfl rfl rfl (by decide +kernel)) (pi_keys (pe_fld (pv 0) rfl))
        (blkOk_by (N := ["self", "goal", "some", "number", "one"]) (sc := defScope s_Caller_busy) (by decide +kernel)) (fun _ _ _ _ _ => pg_name (i := 3) nd rfl (Or.inl rfl)) (fun _ _ _ _ _ => pts_nil) (fun _ _ _ _ _ => pe_dget hu (pe_fld (pv 0) rfl) (pv 3) (fun _ _ => rfl))))
    (pss_one (ps_ret (b_len T.n_len (pa_cons (pe_lc (own := [("one", 4)]) (g := gName 4) (tt := tAnd (tTest (tOp rEq (tFld K (tVar 4) "word") (tC (.str "tried")))) (tTest (tOp rEq (tFld K (tVar 4) "place") (tVar 1)))) (te := tVar 4) rfl nd (pi_list (pv 2))
        (blkOk_by (N := ["self", "goal", "some", "number", "one"]) (sc := defScope s_Caller_busy) (by decide +kernel)) (fun _ _ _ _ _ => pg_name (i := 4) nd rfl (Or.inl rfl))
        (fun _ _ _ _ _ => pts_one (PW.pt (pw_and (pt_cmpR op_eq (pe_fld (pv 4) rfl) pe_str (nomark _)) (pw_and1 (pt_cmpR op_eq (pe_fld (pv 4) rfl) (pv 1) (nomark _)))))) (fun _ _ _ _ _ => pv 4)) pa_nil)))), ?_⟩
  obtain ⟨dx, hp⟩ := id r.ins
  have lcs : L.cs.length ≤ 30 := by rw [r.cl]; exact l30
  refine ⟨L.dc, _, r.hdc, trivial, fun od => ?_⟩
  have hpd : p ≠ L.dc := fun z => by
    have h := r.hdc
    rw [← z, hp] at h
    cases h
  have hpL : upd H L.dc (.frz od (.dK (callsKV 1 L.cs))) p = some (.ins (He.ga K "Caller") dx (selfFs L S.now)) := by rw [upd_ne hpd]; exact hp
  have hdL : upd H L.dc (.frz od (.dK (callsKV 1 L.cs))) L.dc = some (.frz od (.dK (callsKV 1 L.cs))) := upd_same
  refine ⟨_, rfl, p, _, dx, _, _, rfl, hpL, T.c_Caller, T.a_Caller_calls, rfl, L.dc, od, rfl, .inl ⟨_, hdL, fun D hD => ?_⟩⟩
  have nD : D ≠ L.dc := fun z => by
    rw [z, hdL] at hD
    cases hD
  refine lc_adds (walk_keys (kvs := callsKV 1 L.cs) (d := L.dc) (o := od)) (fun j acc => acc = (L.cs.take j).map V.ref) hD (by rw [callsKV_len]; omega) rfl (fun j acc h => by rw [h, List.length_map, List.length_take]; omega) (fun H' s' => s' _ _ hdL) ?_ ?_
  · rintro Tq N j acc y H2 H3 yes no hj s2 pp ⟨rfl, kk, vv, hk, rfl⟩
    obtain ⟨c, hc, ekv⟩ := callsKV_at hk
    cases ekv
    refine ⟨rfl, _, rfl, p, _, dx, _, _, rfl, s2 _ _ hpL, T.c_Caller, T.a_Caller_calls, rfl, _, rfl, L.dc, _, rfl, .inl ⟨_, Sum.inl _, .inr ⟨od, s2 _ _ hdL⟩, rfl, (callsKV_get L.cs 1 j c hc).symm⟩, yes _ _ (Same.refl _) ?_⟩
    rw [pp, List.take_succ, hc, List.map_append]
    rfl
  rintro acc H2 s2 eD rfl
  rw [callsKV_len, List.take_length] at eD
  refine ⟨s2 _ _ hdL, ?_⟩
  have s3 := same_unlock r.hdc s2
  have eD3 : upd H2 L.dc (.dK (callsKV 1 L.cs)) D = some (.lst (L.cs.map V.ref)) := by rw [upd_ne nD]; exact eD
  generalize upd H2 L.dc (.dK (callsKV 1 L.cs)) = H3 at s3 eD3
  have r3 := r.same s3
  refine ⟨_, rfl, D, rfl, ⟨_, sqL eD3⟩, fun D2 hD2 => ?_⟩
  refine lc_adds (walk_list (xs := L.cs.map V.ref)) (fun j acc => acc = (objs (fun q => decide (q.word = ("tried" : Str)) && decide (q.place = g)) (L.cs.take j) (S.calls.take j)).map V.ref) hD2 (by rw [List.length_map]; omega) rfl (fun j acc h => ?_) (fun H' s' => sqL (s' _ _ eD3)) ?_ ?_
  · rw [h, List.length_map]
    unfold objs
    rw [List.length_map]
    exact Nat.le_trans (List.length_filter_le _ _) (by rw [List.length_zip, List.length_take]; omega)
  · rintro Tq N j acc y H4 H5 yes no hj s4 pp ⟨rfl, hy⟩
    have hjl : j < L.cs.length := by rw [List.length_map] at hj; exact hj
    have hjq : j < S.calls.length := by rw [← r.cl]; exact hjl
    have hcj : L.cs[j]? = some L.cs[j] := List.getElem?_eq_getElem hjl
    have hqj : S.calls[j]? = some S.calls[j] := List.getElem?_eq_getElem hjq
    rw [List.getElem?_map, hcj] at hy
    cases hy
    obtain ⟨cd4, hc4⟩ := (r3.same s4).hc j _ _ hcj hqj
    have add := objs_add (f := fun q => decide (q.word = ("tried" : Str)) && decide (q.place = g)) hcj hqj
    refine ⟨rfl, _, rfl, _, _, cd4, _, _, rfl, hc4, T.c_Call, T.a_Call_word, rfl, rfl, _, rfl, ?_⟩
    rw [str_dec]
    by_cases h1 : S.calls[j].word = ("tried" : Str)
    · rw [decide_eq_true h1]
      rw [decide_eq_true h1, Bool.true_and] at add
      refine ⟨_, rfl, _, _, cd4, _, _, rfl, hc4, T.c_Call, T.a_Call_place, rfl, _, rfl, rfl, _, rfl, ?_⟩
      rw [str_dec]
      by_cases h2 : S.calls[j].place = g
      · rw [decide_eq_true h2]
        rw [decide_eq_true h2, if_pos rfl] at add
        refine ⟨_, rfl, yes _ _ (Same.refl _) ?_⟩
        rw [pp, add, List.map_append]
        rfl
      · rw [decide_eq_false h2]
        rw [decide_eq_false h2, if_neg (by decide)] at add
        refine no _ (Same.refl _) ?_
        rw [pp, add, List.append_nil]
    · rw [decide_eq_false h1]
      rw [decide_eq_false h1, Bool.false_and, if_neg (by decide)] at add
      refine no _ (Same.refl _) ?_
      rw [pp, add, List.append_nil]
  · rintro acc H4 s4 eD4 rfl
    rw [List.length_map, List.take_length, r.cl, List.take_length] at eD4
    have hl := objs_len (f := fun q => decide (q.word = ("tried" : Str)) && decide (q.place = g)) r.cl
    refine ⟨_, (busyN S.calls g : Nat), rfl, .inl ⟨_, sqL eD4, by rw [List.length_map, hl]; rfl⟩, fin _ (s3.trans s4)⟩
end
end T
end
section
namespace T
open PySem PySem.Spec PyProof.Rows L2 Tr LamX
theorem range_filter_succ (f : Nat → Bool) (n : Nat) : (List.range (n + 1)).filter f = (List.range n).filter f ++ if f n = true then [n] else [] := by
  rw [List.range_succ, List.filter_append]
  by_cases h : f n = true
  · rw [if_pos h]
    simp [h]
  · rw [if_neg h]
    simp [h]
noncomputable def begC (S : St) (q : Cal) : Cal := { q with word := "tried", time := S.now, place := endOf S.roads q.goal, many := q.many + 1 }
noncomputable def beginS (S : St) (i : Nat) (q : Cal) : St := sayS { S with calls := S.calls.set i (begC S q) } ((1 + i : Nat) : Int) "tried"
section
variable {P : Program} {w : World} {K : PySem.W.Frag} {mg : Str → Option Value} {base : Heap}
def spDue (K : PySem.W.Frag) : Sp := fun vs H Q _ => ∃ (p : Addr) (L : Lay) (S : St), vs = [.ref p] ∧ Rep K H p L S ∧ Wf S ∧ ∀ H' q, Same H H' → H q = none → H' q = some (.lst ((dueL S).map V.int)) → Q (.ref q) H'
theorem m_due (T : Txt K mg) : Mal P w K mg base CX0 5 (He.ga K "Caller") "due" (spDue K) := by
  refine mal_of T.f_Caller_due T.c_Caller T.m_Caller_due sc_Caller_due (fun _ _ _ _ _ _ us hl => match us, hl with | [_], _ => rfl) (fun vs H Q E ⟨_, _, _, h, _⟩ => by rw [h] <;> rfl) fun cdv A outer s H vs Q E hr ⟨p, L, S, e, r, wf, fin⟩ => ?_
  subst e
  have hu := hu_of hr
  have nd := sc_Caller_due.nd
  refine ⟨_, PSs.nox (pss_cons (ps_set (i := 1) nd rfl (Or.inl rfl) (pe_lst pa_nil))
    (pss_cons (ps_for PassesOwn.never rfl (pi_list (pe_m0 (E := E0) (m_numbers T) hr (by decide) pass0 (pv 0))) (pg_name (i := 2) nd rfl (Or.inl rfl))
      (pss_cons (ps_set (i := 3) nd rfl (Or.inl rfl) (pe_dget hu (pe_fld (pv 0) rfl) (pv 2) (fun _ _ => rfl)))
      (pss_one (ps_if (PW.pt (pw_and (pt_cmpR op_eq (pe_fld (pv 3) rfl) pe_str (nomark _)) (pw_and (pt_cmpR op_le (pe_fld (pv 3) rfl) (pe_fld (pv 0) rfl) (nomark _)) (pw_and1 (pt_val (pe_m (E := E0) (m_is_first T) hr (by decide) pass0 (pv 0) (pa_cons (pv 2) pa_nil)))))))
        (pss_one (ps_if (pt_cmpR op_lt (pe_m (E := E0) (m_busy T) hr (by decide) pass0 (pv 0) (pa_cons (pe_m (E := E0) (m_end_of T) hr (by decide) passN0 (pv 0) (pa_cons (pe_fld (pv 3) rfl) pa_nil)) pa_nil)) (pe_ix ix_tup (pe_fld (pv 0) rfl) pe_int (fun _ _ => rfl)) (nomark _))
          (pss_one (ps_expr (pe_bm PySem.F.plainAttrs_list PySem.F.slot_list_append PySem.F.type_list_append mt_append (pv 1) (pa_cons (pv 2) pa_nil)))) pss_nil)) pss_nil))))
    (pss_one (ps_ret (pv 1))))), ?_⟩
  refine ⟨by show 0 ≤ sizeLine; decide, fun F hF => ?_⟩
  have s0 := same_new (o := HO.lst []) hF
  have eF0 : upd H F (.lst []) F = some (.lst []) := upd_same
  generalize upd H F (.lst []) = H0 at s0 eF0
  have r0 := r.same s0
  obtain ⟨dx, hp⟩ := id r0.ins
  refine ⟨_, rfl, p, dx, _, rfl, hp, rfl, p, L, S, rfl, r0, wf.l30, fun H1 B s1 hB eB => ⟨B, rfl, ⟨_, sqL eB⟩, ?_⟩⟩
  have hFB : F ≠ B := ne_of_none eF0 hB
  refine for_it (walk_list (xs := (nums S.calls.length).map V.int)) (fun j σ H' => Same H H' ∧ H' B = some (.lst ((nums S.calls.length).map V.int)) ∧ H' F = some (.lst (((((List.range j).filter (dueB S)).map fun i => ((1 + i : Nat) : Int))).map V.int)) ∧ ∃ o2 o3, σ = [some (.ref p), some (.ref F), o2, o3])
    ⟨s0.trans s1, eB, s1 _ _ eF0, _, _, rfl⟩ (fun _ _ _ _ h => sqL h.2.1) ?_ ?_
  · rintro j y σ H2' H2 hj ⟨s2, eB2, eF2, o2, o3, rfl⟩ ⟨rfl, hy⟩
    have hj : j < S.calls.length := by
      have hj : j < ((nums S.calls.length).map V.int).length := hj
      unfold nums at hj
      simpa using hj
    have hjl : j < L.cs.length := by rw [r.cl]; exact hj
    obtain rfl : V.int ((1 + j : Nat) : Int) = y := by
      unfold nums at hy
      rw [List.getElem?_map, List.getElem?_map, List.getElem?_range hj] at hy
      exact Option.some.inj hy
    have r2 := r.same s2
    obtain ⟨dx2, hp2⟩ := id r2.ins
    have hcj : L.cs[j]? = some L.cs[j] := List.getElem?_eq_getElem hjl
    have hqj : S.calls[j]? = some S.calls[j] := List.getElem?_eq_getElem hj
    obtain ⟨cd, hc⟩ := r2.hc j _ _ hcj hqj
    have qm : S.calls[j] ∈ S.calls := List.getElem_mem hj
    have gl := wf.goal _ qm
    have step := range_filter_succ (dueB S) j
    have eb : dueB S j = (decide (S.calls[j].word = ("waits" : Str)) && (decide (S.calls[j].time ≤ S.now) && (firstB S.calls j S.calls[j].key && decide ((busyN S.calls (endOf S.roads S.calls[j].goal) : Int) < S.rule.o)))) := by
      unfold dueB
      rw [hqj]
    have skip : dueB S j = false → ∀ H3, Same H2 H3 → ∀ o2 o3 : Option V, Same H H3 ∧ H3 B = some (.lst ((nums S.calls.length).map V.int)) ∧ H3 F = some (.lst (((((List.range (j + 1)).filter (dueB S)).map fun i => ((1 + i : Nat) : Int))).map V.int)) ∧ ∃ p2 p3 : Option V, [some (V.ref p), some (V.ref F), o2, o3] = [some (V.ref p), some (V.ref F), p2, p3] := fun e H3 s3 o2 o3 => by
      rw [e, if_neg (by decide), List.append_nil] at step
      refine ⟨s2.trans s3, s3 _ _ eB2, ?_, _, _, rfl⟩
      rw [step]
      exact s3 _ _ eF2
    refine ⟨_, rfl, p, _, dx2, _, _, rfl, hp2, T.c_Caller, T.a_Caller_calls, rfl, _, rfl, L.dc, _, rfl, r2.get hcj, ?_⟩
    refine ⟨_, rfl, _, _, cd, _, _, rfl, hc, T.c_Call, T.a_Call_word, rfl, rfl, _, rfl, ?_⟩
    rw [str_dec]
    by_cases h1 : S.calls[j].word = ("waits" : Str)
    · rw [decide_eq_true h1]
      rw [decide_eq_true h1, Bool.true_and] at eb
      refine ⟨_, rfl, _, _, cd, _, _, rfl, hc, T.c_Call, T.a_Call_time, rfl, _, rfl, p, _, dx2, _, _, rfl, hp2, T.c_Caller, T.a_Caller_clock, rfl, _, _, rfl, rfl, ?_⟩
      by_cases h2 : S.calls[j].time ≤ S.now
      · refine ⟨true, congrArg V.bl (decide_eq_true h2), ?_⟩
        rw [decide_eq_true h2, Bool.true_and] at eb
        refine ⟨_, rfl, p, dx2, _, rfl, hp2, rfl, _, rfl, p, L, S, j, _, rfl, r2, hqj, wf.l30, fun H3 s3 => ⟨_, rfl, ?_⟩⟩
        cases h3 : firstB S.calls j S.calls[j].key with
        | false =>
          rw [h3, Bool.false_and] at eb
          exact skip eb H3 s3 _ _
        | true =>
          rw [h3, Bool.true_and] at eb
          have r3 := r2.same s3
          refine ⟨_, rfl, p, dx2, _, rfl, s3 _ _ hp2, rfl, _, rfl, p, dx2, _, rfl, s3 _ _ hp2, rfl, _, rfl, _, _, cd, _, _, rfl, s3 _ _ hc, T.c_Call, T.a_Call_goal, rfl, p, L, S, .str S.calls[j].goal, rfl, r3, wf.en, wf.wl, .str _, in_short gl, fun z => (by rw [gl] at z; cases z), fun a ea _ H4 s4 => ?_⟩
          cases ea
          refine ⟨p, L, S, _, rfl, r3.same s4, wf.l30, fun H5 s5 => ⟨_, rfl, p, _, dx2, _, _, rfl, ((s3.trans s4).trans s5) _ _ hp2, T.c_Caller, T.a_Caller_rule, rfl, _, _, _, _, rfl, rfl, sqT (r3.same (s4.trans s5)).hrl, rfl, _, _, rfl, rfl, ?_⟩⟩
          have s35 := (s3.trans s4).trans s5
          by_cases h4 : (busyN S.calls (endOf S.roads S.calls[j].goal) : Int) < S.rule.o
          · refine ⟨true, congrArg V.bl (decide_eq_true h4), ?_⟩
            rw [decide_eq_true h4] at eb
            rw [eb, if_pos rfl] at step
            have eF5 := s35 _ _ eF2
            refine ⟨_, rfl, .inl ⟨rfl, _, sqL eF5⟩, _, rfl, F, _, _, rfl, rfl, eF5, sz1 (by rw [List.length_map, List.length_map]; have := List.length_filter_le (dueB S) (List.range j); rw [List.length_range] at this; have := wf.l30; omega), ?_⟩
            refine ⟨same_mut (s2.trans s35) hF, by rw [upd_ne hFB.symm]; exact s35 _ _ eB2, ?_, _, _, rfl⟩
            rw [step, upd_same, List.map_append, List.map_append]
            rfl
          · refine ⟨false, congrArg V.bl (decide_eq_false h4), ?_⟩
            rw [decide_eq_false h4] at eb
            exact skip eb H5 s35 _ _
      · refine ⟨false, congrArg V.bl (decide_eq_false h2), ?_⟩
        rw [decide_eq_false h2, Bool.false_and] at eb
        exact skip eb H2 (Same.refl _) _ _
    · rw [decide_eq_false h1]
      rw [decide_eq_false h1, Bool.false_and] at eb
      exact skip eb H2 (Same.refl _) _ _
  · rintro σ H2 ⟨s2, _, eF2, o2, o3, rfl⟩
    rw [List.length_map, show (nums S.calls.length).length = S.calls.length by unfold nums; simp] at eF2
    exact ⟨_, rfl, fin H2 F s2 hF eF2⟩
end
end T
end
section
namespace T
open PySem PySem.Spec PyProof.Rows L2 Tr LamX
def failS (S : St) (i : Nat) (q : Cal) : St :=
  if S.rule.m ≤ q.fails + 1 then sayS { S with calls := S.calls.set i { q with fails := q.fails + 1, word := "put by" } } ((1 + i : Nat) : Int) "put by"
  else sayS { S with calls := S.calls.set i { q with fails := q.fails + 1, word := "waits", time := S.now + waitOf S.rule (q.fails + 1) } } ((1 + i : Nat) : Int) "later"
section
variable {P : Program} {w : World} {K : PySem.W.Frag} {mg : Str → Option Value} {base : Heap}
/-- one field of a call's object written -/
theorem step_obj {H H1 : Hp} {p c : Addr} {L : Lay} {o : HO} (s : Same H H1) (hc : c ∈ L.cs) : Step p L H L (upd H1 c o) := by
  refine ⟨fun d u h nf => ?_, fun d hd => .inl hd⟩
  rw [upd_ne fun z => nf (by rw [z]; exact .inr (.inr (.inr (.inr hc))))]
  exact s d u h
theorem step_upd {H H1 : Hp} {p c : Addr} {L L1 : Lay} {o : HO} (s : Step p L H L1 H1) (hc : c ∈ L1.cs) : Step p L H L1 (upd H1 c o) := s.trans (step_obj (Same.refl H1) hc)
def spFail (K : PySem.W.Frag) : Sp := fun vs H Q _ => ∃ (p : Addr) (L : Lay) (S : St) (i : Nat) (q : Cal), vs = [.ref p, .int ((1 + i : Nat) : Int)] ∧ Rep K H p L S ∧ S.calls[i]? = some q ∧ S.rule.Ok ∧ 0 ≤ q.fails ∧ S.log.length ≤ 10000000 ∧
  ∀ H' L', L'.cs = L.cs → Rep K H' p L' (failS S i q) → Step p L H L' H' → Q .non H'
theorem m_fail (T : Txt K mg) : Mal P w K mg base CX0 2 (He.ga K "Caller") "fail" (spFail K) := by
  refine mal_of T.f_Caller_fail T.c_Caller T.m_Caller_fail sc_Caller_fail (fun _ _ _ _ _ _ us hl => match us, hl with | [_, _], _ => rfl) (fun vs H Q E ⟨_, _, _, _, _, h, _⟩ => by rw [h] <;> rfl) fun cdv A outer s H vs Q E hr ⟨p, L, S, i, q, e, r, hq, ok, f0, lg, fin⟩ => ?_
  subst e
  have hu := hu_of hr
  have nd := sc_Caller_fail.nd
  refine ⟨_, pss_cons (ps_set (i := 2) nd rfl (Or.inl rfl) (pe_dget hu (pe_fld (pv 0) rfl) (pv 1) (fun _ _ => rfl)))
    (pss_cons (ps_fld (pv 2) (pe_op op_add (pe_fld (pv 2) rfl) pe_int) rfl)
    (pss_one (ps_if (pt_cmpR op_ge (pe_fld (pv 2) rfl) (pe_ix ix_tup (pe_fld (pv 0) rfl) pe_int (fun _ _ => rfl)) (nomark _))
      (pss_cons (ps_fld (pv 2) pe_str rfl) (pss_one (ps_expr (pe_m (E := E0) (m_say T) hr (by decide) pass0 (pv 0) (pa_cons (pv 1) (pa_cons pe_str pa_nil))))))
      (pss_cons (ps_fld (pv 2) pe_str rfl) (pss_cons (ps_fld (pv 2) (pe_op op_add (pe_fld (pv 0) rfl) (pe_k (E := E0) (k_wait_of T) hr (by decide) pass0 (pa_cons (pe_fld (pv 0) rfl) (pa_cons (pe_fld (pv 2) rfl) pa_nil)))) rfl)
        (pss_one (ps_expr (pe_m (E := E0) (m_say T) hr (by decide) pass0 (pv 0) (pa_cons (pv 1) (pa_cons pe_str pa_nil)))))))))), ?_⟩
  obtain ⟨dx, hp⟩ := id r.ins
  have hil : i < L.cs.length := by rw [r.cl]; exact (List.getElem?_eq_some_iff.mp hq).1
  have hci : L.cs[i]? = some L.cs[i] := List.getElem?_eq_getElem hil
  have hcm : L.cs[i] ∈ L.cs := List.getElem_mem hil
  obtain ⟨cd, hc⟩ := r.hc i _ q hci hq
  generalize L.cs[i] = c at hci hcm hc
  refine ⟨_, rfl, p, _, dx, _, _, rfl, hp, T.c_Caller, T.a_Caller_calls, rfl, _, rfl, L.dc, _, rfl, r.get hci, ?_⟩
  refine ⟨_, rfl, c, _, cd, _, _, rfl, hc, T.c_Call, T.a_Call_fails, rfl, _, _, rfl, rfl, _, rfl, c, _, cd, _, rfl, hc, T.c_Call, T.a_Call_fails, by show 8 < 1000; decide, ?_⟩
  have r1 := r.obj (dx := cd) hci { q with fails := q.fails + 1 }
  have st1 : Step p L H L (upd H c (.ins (He.ga K "Call") cd (callFs { q with fails := q.fails + 1 }))) := step_obj (Same.refl H) hcm
  obtain ⟨dx1, hp1⟩ := id r1.ins
  have hc1 : upd H c (.ins (He.ga K "Call") cd (callFs { q with fails := q.fails + 1 })) c = some (.ins (He.ga K "Call") cd (callFs { q with fails := q.fails + 1 })) := upd_same
  refine ⟨_, rfl, c, _, cd, _, _, rfl, upd_same, T.c_Call, T.a_Call_fails, rfl, _, rfl, p, _, dx1, _, _, rfl, hp1, T.c_Caller, T.a_Caller_rule, rfl, _, _, _, _, rfl, rfl, sqT r1.hrl, rfl, _, _, rfl, rfl, ?_⟩
  by_cases hm : S.rule.m ≤ q.fails + 1
  · refine ⟨true, congrArg V.bl (decide_eq_true hm), ?_⟩
    refine ⟨_, rfl, c, _, cd, _, rfl, upd_same, T.c_Call, T.a_Call_word, by show 8 < 1000; decide, ?_⟩
    have r2 := r1.obj (dx := cd) hci { q with fails := q.fails + 1, word := "put by" }
    have st2 := step_upd (o := .ins (He.ga K "Call") cd (callFs { q with fails := q.fails + 1, word := "put by" })) st1 hcm
    simp only [List.set_set] at r2
    obtain ⟨dx2, hp2⟩ := id r2.ins
    refine ⟨_, rfl, p, dx2, _, rfl, hp2, rfl, _, rfl, p, L, _, _, "put by", rfl, r2, lg, fun H3 L3 r3 st3 => fin H3 { L with ts := L3 } rfl ?_ (st2.trans st3)⟩
    unfold failS
    rw [if_pos hm]
    exact r3
  · refine ⟨false, congrArg V.bl (decide_eq_false hm), ?_⟩
    have m5 := ok.m.2
    refine ⟨_, rfl, c, _, cd, _, rfl, upd_same, T.c_Call, T.a_Call_word, by show 8 < 1000; decide, ?_⟩
    have r2 := r1.obj (dx := cd) hci { q with fails := q.fails + 1, word := "waits" }
    have st2 := step_upd (o := .ins (He.ga K "Call") cd (callFs { q with fails := q.fails + 1, word := "waits" })) st1 hcm
    simp only [List.set_set] at r2
    obtain ⟨dx2, hp2⟩ := id r2.ins
    refine ⟨_, rfl, p, _, dx2, _, _, rfl, hp2, T.c_Caller, T.a_Caller_clock, rfl, _, rfl, p, _, dx2, _, _, rfl, hp2, T.c_Caller, T.a_Caller_rule, rfl, _, rfl, c, _, cd, _, _, rfl, upd_same, T.c_Call, T.a_Call_fails, rfl, _, S.rule, _, rfl, r2.hrl, ok, by omega, by omega, _, _, rfl, rfl, _, rfl, c, _, cd, _, rfl, upd_same, T.c_Call, T.a_Call_time, by show 8 < 1000; decide, ?_⟩
    have r3 := r2.obj (dx := cd) hci { q with fails := q.fails + 1, word := "waits", time := S.now + waitOf S.rule (q.fails + 1) }
    have st3 := step_upd (o := .ins (He.ga K "Call") cd (callFs { q with fails := q.fails + 1, word := "waits", time := S.now + waitOf S.rule (q.fails + 1) })) st2 hcm
    simp only [List.set_set] at r3
    obtain ⟨dx3, hp3⟩ := id r3.ins
    refine ⟨_, rfl, p, dx3, _, rfl, hp3, rfl, _, rfl, p, L, _, _, "later", rfl, r3, lg, fun H4 L4 r4 st4 => fin H4 { L with ts := L4 } rfl ?_ (st3.trans st4)⟩
    unfold failS
    rw [if_neg hm]
    exact r4
end
end T
end
section
namespace T
open PySem PySem.Spec PyProof.Rows L2 Tr LamX
/-- what an attempt gives -/
noncomputable def tryT (S : St) (i : Nat) (q : Cal) : HO := .tup [.int ((1 + i : Nat) : Int), .str (("m" : Str) ++ toString ((1 + i : Nat) : Int)), .str (endOf S.roads q.goal), .str q.key, .str q.text]
section
variable {P : Program} {w : World} {K : PySem.W.Frag} {mg : Str → Option Value} {base : Heap}
theorem num_short {i : Nat} (h : i < 1000) : ((1 + i : Nat) : Int).natAbs.log2 < 1920 ∧ (("m" : Str)).length + (toString ((1 + i : Nat) : Int) : Str).length ≤ 100000 := by
  refine ⟨Nat.lt_of_lt_of_le (PySem.Flt.log2_lt_of (by decide : 0 < 14) (by omega)) (by decide), ?_⟩
  have c := chk_int (k := 3) (n := ((1 + i : Nat) : Int)) (by omega) (by show ((1 + i : Nat) : Int) < 10000; omega)
  have e : (toString ((1 + i : Nat) : Int) : Str).length = (toString ((1 + i : Nat) : Int) : Str).cps.toList.length := rfl
  rw [e]
  generalize (toString ((1 + i : Nat) : Int) : Str).cps.toList = l at c
  cases l with
  | nil => cases c
  | cons a r =>
    simp only [chk, Bool.and_eq_true, decide_eq_true_eq] at c
    have := c.2.2
    show 1 + (r.length + 1) ≤ 100000
    omega
def spBegin (K : PySem.W.Frag) : Sp := fun vs H Q _ => ∃ (p : Addr) (L : Lay) (S : St) (i : Nat) (q : Cal), vs = [.ref p, .int ((1 + i : Nat) : Int)] ∧ Rep K H p L S ∧ S.calls[i]? = some q ∧ Wf S ∧ S.log.length ≤ 10000000 ∧
  ∀ H' L' t, Rep K H' p L' (beginS S i q) → Step p L H L' H' → H t = none → H' t = some (tryT S i q) → Q (.ref t) H'
theorem m_begin (T : Txt K mg) : Mal P w K mg base CX0 5 (He.ga K "Caller") "begin" (spBegin K) := by
  refine mal_of T.f_Caller_begin T.c_Caller T.m_Caller_begin sc_Caller_begin (fun _ _ _ _ _ _ us hl => match us, hl with | [_, _], _ => rfl) (fun vs H Q E ⟨_, _, _, _, _, h, _⟩ => by rw [h] <;> rfl) fun cdv A outer s H vs Q E hr ⟨p, L, S, i, q, e, r, hq, wf, lg, fin⟩ => ?_
  subst e
  have hu := hu_of hr
  have nd := sc_Caller_begin.nd
  refine ⟨_, pss_cons (ps_set (i := 2) nd rfl (Or.inl rfl) (pe_dget hu (pe_fld (pv 0) rfl) (pv 1) (fun _ _ => rfl)))
    (pss_cons (ps_fld (pv 2) pe_str rfl) (pss_cons (ps_fld (pv 2) (pe_fld (pv 0) rfl) rfl) (pss_cons (ps_fld (pv 2) (pe_m (E := E0) (m_end_of T) hr (by decide) passN0 (pv 0) (pa_cons (pe_fld (pv 2) rfl) pa_nil)) rfl)
    (pss_cons (ps_fld (pv 2) (pe_op op_add (pe_fld (pv 2) rfl) pe_int) rfl)
    (pss_cons (ps_expr (pe_m (E := E0) (m_say T) hr (by decide) pass0 (pv 0) (pa_cons (pv 1) (pa_cons pe_str pa_nil))))
    (pss_one (ps_ret (pe_tup (pa_cons (pv 1) (pa_cons (pe_op op_add_str pe_str (b_str T.n_str (pa_cons (pv 1) pa_nil))) (pa_cons (pe_fld (pv 2) rfl) (pa_cons (pe_fld (pv 2) rfl) (pa_cons (pe_fld (pv 2) rfl) pa_nil))))))))))))), ?_⟩
  obtain ⟨dx, hp⟩ := id r.ins
  have hil : i < L.cs.length := by rw [r.cl]; exact (List.getElem?_eq_some_iff.mp hq).1
  have hci : L.cs[i]? = some L.cs[i] := List.getElem?_eq_getElem hil
  have hcm : L.cs[i] ∈ L.cs := List.getElem_mem hil
  obtain ⟨cd, hc⟩ := r.hc i _ q hci hq
  generalize L.cs[i] = c at hci hcm hc
  have gl := wf.goal q (List.mem_of_getElem? hq)
  refine ⟨_, rfl, p, _, dx, _, _, rfl, hp, T.c_Caller, T.a_Caller_calls, rfl, _, rfl, L.dc, _, rfl, r.get hci, ?_⟩
  refine ⟨_, rfl, c, _, cd, _, rfl, hc, T.c_Call, T.a_Call_word, by show 8 < 1000; decide, ?_⟩
  have r1 := r.obj (dx := cd) hci { q with word := "tried" }
  have st1 : Step p L H L (upd H c (.ins (He.ga K "Call") cd (callFs { q with word := "tried" }))) := step_obj (Same.refl H) hcm
  obtain ⟨dx1, hp1⟩ := id r1.ins
  refine ⟨_, rfl, p, _, dx1, _, _, rfl, hp1, T.c_Caller, T.a_Caller_clock, rfl, _, rfl, c, _, cd, _, rfl, upd_same, T.c_Call, T.a_Call_time, by show 8 < 1000; decide, ?_⟩
  have r2 := r1.obj (dx := cd) hci { q with word := "tried", time := S.now }
  have st2 := step_upd (o := .ins (He.ga K "Call") cd (callFs { q with word := "tried", time := S.now })) st1 hcm
  simp only [List.set_set] at r2
  obtain ⟨dx2, hp2⟩ := id r2.ins
  refine ⟨_, rfl, p, dx2, _, rfl, hp2, rfl, _, rfl, c, _, cd, _, _, rfl, upd_same, T.c_Call, T.a_Call_goal, rfl, p, L, _, .str q.goal, rfl, r2, wf.en, wf.wl, .str _, in_short gl, fun z => (by have z : inRoads S (.str q.goal) = false := z; rw [gl] at z; cases z), fun a ea _ H3 s3 => ?_⟩
  cases ea
  have r3 := r2.same s3
  have st3 := st2.same s3
  have hc3 := s3 _ _ (upd_same (a := c) (o := .ins (He.ga K "Call") cd (callFs { q with word := "tried", time := S.now })) (H := upd H c (.ins (He.ga K "Call") cd (callFs { q with word := "tried" }))))
  refine ⟨_, rfl, c, _, cd, _, rfl, hc3, T.c_Call, T.a_Call_place, by show 8 < 1000; decide, ?_⟩
  have r4 := r3.obj (dx := cd) hci { q with word := "tried", time := S.now, place := endOf S.roads q.goal }
  have st4 := step_upd (o := .ins (He.ga K "Call") cd (callFs { q with word := "tried", time := S.now, place := endOf S.roads q.goal })) st3 hcm
  simp only [List.set_set] at r4
  refine ⟨_, rfl, c, _, cd, _, _, rfl, upd_same, T.c_Call, T.a_Call_many, rfl, _, _, rfl, rfl, _, rfl, c, _, cd, _, rfl, upd_same, T.c_Call, T.a_Call_many, by show 8 < 1000; decide, ?_⟩
  have r5 := r4.obj (dx := cd) hci (begC S q)
  have st5 := step_upd (o := .ins (He.ga K "Call") cd (callFs (begC S q))) st4 hcm
  simp only [List.set_set] at r5
  obtain ⟨dx5, hp5⟩ := id r5.ins
  refine ⟨_, rfl, p, dx5, _, rfl, hp5, rfl, _, rfl, p, L, _, _, "tried", rfl, r5, lg, fun H6 ts6 r6 st6 => ?_⟩
  have hi' : i < S.calls.length := (List.getElem?_eq_some_iff.mp hq).1
  have ns := num_short (i := i) (by have := wf.l30; omega)
  have hcl : L.cs[i]? = some c := hci
  obtain ⟨cd6, hc6⟩ := r6.hc i c (begC S q) hcl (List.getElem?_set_self hi')
  refine ⟨_, rfl, _, rfl, _, rfl, ns.1, _, _, rfl, rfl, sz ns.2, _, rfl, c, _, cd6, _, _, rfl, hc6, T.c_Call, T.a_Call_place, rfl, _, rfl, c, _, cd6, _, _, rfl, hc6, T.c_Call, T.a_Call_key, rfl, _, rfl, c, _, cd6, _, _, rfl, hc6, T.c_Call, T.a_Call_text, rfl, by show 5 ≤ sizeLine; decide, fun t ht => ?_⟩
  have st7 := (st5.trans st6).same (same_new (o := tryT S i q) ht)
  refine fin _ _ t (r6.same (same_new ht)) st7 ?_ upd_same
  by_cases f : foot p L t
  · have pl := r.pl t f
    cases e : H t with
    | none => rfl
    | some o =>
      rcases f with z | z | z | z | z
      · obtain ⟨d, h⟩ := r6.ins
        rw [← z, ht] at h
        cases h
      · have h := r6.hdr
        have h : H6 L.dr = _ := h
        rw [← z, ht] at h
        cases h
      · have h := r6.hdc
        have h : H6 L.dc = _ := h
        rw [← z, ht] at h
        cases h
      · have h := r6.hdl
        have h : H6 L.dl = _ := h
        rw [← z, ht] at h
        cases h
      · obtain ⟨_, _, _, _, _, h⟩ := r6.at (show t ∈ L.cs from z)
        rw [ht] at h
        cases h
  · cases e : H t with
    | none => rfl
    | some o =>
      have h := (st5.trans st6).fr t o e f
      rw [ht] at h
      cases h
end
end T
end
section
namespace T
open PySem PySem.Spec PyProof.Rows L2 Tr LamX
/-! ### the law's own state -/
structure OLay where
  rl : Addr
  dr : Addr
  lc : Addr
  ll : Addr
  cs : List Addr
  ts : List Addr
def ownKV (M : OLay) (now : Int) : List (Key × V) := [(.inr "rule", .ref M.rl), (.inr "now", .int now), (.inr "roads", .ref M.dr), (.inr "calls", .ref M.lc), (.inr "log", .ref M.ll)]
def ownC (q : Cal) : List (Key × V) := [(.inr "key", .str q.key), (.inr "goal", .str q.goal), (.inr "place", .str q.place), (.inr "text", .str q.text), (.inr "word", .str q.word), (.inr "fails", .int q.fails), (.inr "many", .int q.many), (.inr "time", .int q.time)]
structure Own (K : PySem.W.Frag) (H : Hp) (o : Addr) (M : OLay) (S : St) : Prop where
  ho : H o = some (.dK (ownKV M S.now))
  hrl : H M.rl = some (.tup S.rule.vs)
  hdr : H M.dr = some (.dK (kvT S.roads))
  hlc : H M.lc = some (.lst (M.cs.map V.ref))
  hll : H M.ll = some (.lst (M.ts.map V.ref))
  tl : M.ts.length = S.log.length
  ht : ∀ (i : Nat) t e, M.ts[i]? = some t → S.log[i]? = some e → H t = some (rowT e)
  cl : M.cs.length = S.calls.length
  hc : ∀ (i : Nat) c q, M.cs[i]? = some c → S.calls[i]? = some q → H c = some (.dK (ownC q))
  nd : M.cs.Nodup
  n1 : o ≠ M.dr
  n2 : o ∉ M.cs
  n3 : M.dr ∉ M.cs
  n4 : M.lc ≠ M.ll
def ofoot (o : Addr) (M : OLay) (c : Addr) : Prop := c = o ∨ c = M.dr ∨ c = M.lc ∨ c = M.ll ∨ c ∈ M.cs
structure OStep (o : Addr) (M : OLay) (H : Hp) (M' : OLay) (H' : Hp) : Prop where
  fr : Fr (ofoot o M) H H'
  nw : ∀ c, ofoot o M' c → ofoot o M c ∨ H c = none
section
variable {K : PySem.W.Frag} {H H1 H2 H3 : Hp} {o : Addr} {M M1 M2 M3 : OLay} {S : St}
theorem OStep.refl_same (s : Same H H1) : OStep o M H M H1 := ⟨fun c o h _ => s c o h, fun c h => .inl h⟩
theorem OStep.trans (a : OStep o M1 H1 M2 H2) (b : OStep o M2 H2 M3 H3) : OStep o M1 H1 M3 H3 := by
  refine ⟨fun c u h n => b.fr c u (a.fr c u h n) fun z => ?_, fun c h => ?_⟩
  · rcases a.nw c z with z | z
    · exact n z
    · rw [z] at h
      cases h
  · rcases b.nw c h with z | z
    · exact a.nw c z
    · by_cases f : ofoot o M1 c
      · exact .inl f
      · refine .inr ?_
        cases e : H1 c with
        | none => rfl
        | some u =>
          rw [a.fr c u e f] at z
          cases z
theorem OStep.same (a : OStep o M1 H1 M2 H2) (s : Same H2 H3) : OStep o M1 H1 M2 H3 := a.trans (.refl_same s)
theorem Own.ext (r : Own K H o M S) (e : ExtN H H1) : Own K H1 o M S :=
  ⟨e _ _ r.ho (fun _ z => by cases z), ext_tup e r.hrl, e _ _ r.hdr (fun _ z => by cases z), ext_lst e r.hlc, ext_lst e r.hll, r.tl, fun i t q h1 h2 => ext_tup e (r.ht i t q h1 h2), r.cl, fun i c q h1 h2 => e _ _ (r.hc i c q h1 h2) (fun _ z => by cases z), r.nd, r.n1, r.n2, r.n3, r.n4⟩
theorem Own.same (r : Own K H o M S) (s : Same H H1) : Own K H1 o M S := r.ext (ext_of s)
theorem Own.at (r : Own K H o M S) {c : Addr} (h : c ∈ M.cs) : ∃ (i : Nat) (q : Cal), M.cs[i]? = some c ∧ S.calls[i]? = some q ∧ H c = some (.dK (ownC q)) := by
  obtain ⟨i, hi, e⟩ := List.mem_iff_getElem.mp h
  have hi' : i < S.calls.length := by rw [← r.cl]; exact hi
  have h1 : M.cs[i]? = some c := by rw [List.getElem?_eq_getElem hi, e]
  have h2 : S.calls[i]? = some S.calls[i] := List.getElem?_eq_getElem hi'
  exact ⟨i, _, h1, h2, r.hc i c _ h1 h2⟩
theorem Own.pl (r : Own K H o M S) : ∀ c, ofoot o M c → Pl H c := by
  rintro c (rfl | rfl | rfl | rfl | h)
  · exact pl_dK r.ho
  · exact pl_dK r.hdr
  · exact pl_lst r.hlc
  · exact pl_lst r.hll
  · obtain ⟨i, q, _, _, h⟩ := r.at h
    exact pl_dK h
theorem Own.some_ (r : Own K H o M S) {c : Addr} (f : ofoot o M c) : ∃ u, H c = some u := by
  rcases f with z | z | z | z | z
  · rw [z]
    exact ⟨_, r.ho⟩
  · rw [z]
    exact ⟨_, r.hdr⟩
  · rw [z]
    exact ⟨_, r.hlc⟩
  · rw [z]
    exact ⟨_, r.hll⟩
  · obtain ⟨_, _, _, _, h⟩ := r.at z
    exact ⟨_, h⟩
/-- the clock -/
theorem Own.clock (r : Own K H o M S) (now : Int) : Own K (upd H o (.dK (ownKV M now))) o M { S with now := now } := by
  have ne : ∀ {b u}, H b = some u → (∀ xs, u ≠ .dK xs) → b ≠ o := fun hb no z => by
    rw [z, r.ho] at hb
    exact no _ (Option.some.inj hb).symm
  refine ⟨upd_same, ?_, ?_, ?_, ?_, r.tl, fun i t q h1 h2 => ?_, r.cl, fun i c q h1 h2 => ?_, r.nd, r.n1, r.n2, r.n3, r.n4⟩
  · rw [upd_ne (ne r.hrl fun _ z => by cases z)]
    exact r.hrl
  · rw [upd_ne r.n1.symm]
    exact r.hdr
  · rw [upd_ne (ne r.hlc fun _ z => by cases z)]
    exact r.hlc
  · rw [upd_ne (ne r.hll fun _ z => by cases z)]
    exact r.hll
  · have h := r.ht i t q h1 h2
    rw [upd_ne (ne h fun _ z => by cases z)]
    exact h
  · rw [upd_ne fun z => r.n2 (by rw [← z]; exact List.mem_of_getElem? h1)]
    exact r.hc i c q h1 h2
/-- one call's dict -/
theorem Own.obj (r : Own K H o M S) {i : Nat} {c : Addr} (hi : M.cs[i]? = some c) (q' : Cal) : Own K (upd H c (.dK (ownC q'))) o M { S with calls := S.calls.set i q' } := by
  have hm := List.mem_of_getElem? hi
  obtain ⟨_, _, _, _, hc⟩ := r.at hm
  have ne : ∀ {b u}, H b = some u → (∀ xs, u ≠ .dK xs) → b ≠ c := fun hb no z => by
    rw [z, hc] at hb
    exact no _ (Option.some.inj hb).symm
  refine ⟨?_, ?_, ?_, ?_, ?_, r.tl, fun i t q h1 h2 => ?_, by rw [List.length_set]; exact r.cl, fun j d q h1 h2 => ?_, r.nd, r.n1, r.n2, r.n3, r.n4⟩
  · rw [upd_ne fun z => r.n2 (by rw [z]; exact hm)]
    exact r.ho
  · rw [upd_ne (ne r.hrl fun _ z => by cases z)]
    exact r.hrl
  · rw [upd_ne fun z => r.n3 (by rw [z]; exact hm)]
    exact r.hdr
  · rw [upd_ne (ne r.hlc fun _ z => by cases z)]
    exact r.hlc
  · rw [upd_ne (ne r.hll fun _ z => by cases z)]
    exact r.hll
  · have h := r.ht i t q h1 h2
    rw [upd_ne (ne h fun _ z => by cases z)]
    exact h
  · by_cases e : j = i
    · subst e
      rw [hi] at h1
      cases h1
      have hl : j < S.calls.length := by rw [← r.cl]; exact (List.getElem?_eq_some_iff.mp hi).1
      rw [List.getElem?_set_self hl] at h2
      cases h2
      exact upd_same
    · rw [List.getElem?_set_ne fun z => e z.symm] at h2
      have d_ne : d ≠ c := fun z => by
        rw [z] at h1
        obtain ⟨l1, g1⟩ := List.getElem?_eq_some_iff.mp hi
        obtain ⟨l2, g2⟩ := List.getElem?_eq_some_iff.mp h1
        exact e ((List.getElem_inj (h₀ := l2) (h₁ := l1) r.nd).mp (g2.trans g1.symm))
      rw [upd_ne d_ne]
      exact r.hc j d q h1 h2
/-- a row more -/
theorem Own.row (r : Own K H o M S) {t : Addr} {e : Int × Int × Str} (ht : H t = some (rowT e)) : Own K (upd H M.ll (.lst ((M.ts ++ [t]).map V.ref))) o { M with ts := M.ts ++ [t] } { S with log := S.log ++ [e] } := by
  have ne : ∀ {b u}, H b = some u → (∀ xs, u ≠ .lst xs) → b ≠ M.ll := fun hb no z => by
    rw [z, r.hll] at hb
    exact no _ (Option.some.inj hb).symm
  refine ⟨?_, ?_, ?_, ?_, upd_same, by rw [List.length_append, List.length_append, r.tl]; rfl, fun i t' e' h1 h2 => ?_, r.cl, fun i c q h1 h2 => ?_, r.nd, r.n1, r.n2, r.n3, r.n4⟩
  · show upd H M.ll _ o = _
    rw [upd_ne (ne r.ho fun _ z => by cases z)]
    exact r.ho
  · show upd H M.ll _ M.rl = _
    rw [upd_ne (ne r.hrl fun _ z => by cases z)]
    exact r.hrl
  · show upd H M.ll _ M.dr = _
    rw [upd_ne (ne r.hdr fun _ z => by cases z)]
    exact r.hdr
  · show upd H M.ll _ M.lc = _
    rw [upd_ne r.n4]
    exact r.hlc
  · have h1 : (M.ts ++ [t])[i]? = some t' := h1
    have h2 : (S.log ++ [e])[i]? = some e' := h2
    have h : H t' = some (rowT e') := by
      by_cases hi : i < M.ts.length
      · rw [List.getElem?_append_left hi] at h1
        rw [List.getElem?_append_left (by rw [← r.tl]; exact hi)] at h2
        exact r.ht i t' e' h1 h2
      · rw [List.getElem?_append_right (by omega)] at h1
        rw [List.getElem?_append_right (by rw [← r.tl]; omega), ← r.tl] at h2
        have z : i - M.ts.length = 0 := by
          have := (List.getElem?_eq_some_iff.mp h1).1
          simp at this
          omega
        rw [z] at h1 h2
        cases h1
        cases h2
        exact ht
    show upd H M.ll _ t' = _
    rw [upd_ne (ne h fun _ z => by cases z)]
    exact h
  · have h := r.hc i c q h1 h2
    show upd H M.ll _ c = _
    rw [upd_ne (ne h fun _ z => by cases z)]
    exact h
/-- a road set -/
theorem Own.road (r : Own K H o M S) (k v : Str) : Own K (upd H M.dr (.dK (kvT (putT S.roads k v)))) o M { S with roads := putT S.roads k v } := by
  have ne : ∀ {b u}, H b = some u → (∀ xs, u ≠ .dK xs) → b ≠ M.dr := fun hb no z => by
    rw [z, r.hdr] at hb
    exact no _ (Option.some.inj hb).symm
  refine ⟨?_, ?_, upd_same, ?_, ?_, r.tl, fun i t e h1 h2 => ?_, r.cl, fun i c q h1 h2 => ?_, r.nd, r.n1, r.n2, r.n3, r.n4⟩
  · rw [upd_ne r.n1]
    exact r.ho
  · rw [upd_ne (ne r.hrl fun _ z => by cases z)]
    exact r.hrl
  · rw [upd_ne (ne r.hlc fun _ z => by cases z)]
    exact r.hlc
  · rw [upd_ne (ne r.hll fun _ z => by cases z)]
    exact r.hll
  · have h := r.ht i t e h1 h2
    rw [upd_ne (ne h fun _ z => by cases z)]
    exact h
  · rw [upd_ne fun z => r.n3 (by rw [← z]; exact List.mem_of_getElem? h1)]
    exact r.hc i c q h1 h2
/-- a call more: its dict stands at c already -/
theorem Own.add (r : Own K H o M S) {c : Addr} {q : Cal} (hc : H c = some (.dK (ownC q))) (hn : c ∉ M.cs) (ho : c ≠ o) (hd : c ≠ M.dr) : Own K (upd H M.lc (.lst ((M.cs ++ [c]).map V.ref))) o { M with cs := M.cs ++ [c] } { S with calls := S.calls ++ [q] } := by
  have ne : ∀ {b u}, H b = some u → (∀ xs, u ≠ .lst xs) → b ≠ M.lc := fun hb no z => by
    rw [z, r.hlc] at hb
    exact no _ (Option.some.inj hb).symm
  refine ⟨?_, ?_, ?_, upd_same, ?_, r.tl, fun i t e h1 h2 => ?_, by rw [List.length_append, List.length_append, r.cl]; rfl, fun i c' q' h1 h2 => ?_, ?_, r.n1, ?_, ?_, r.n4⟩
  · show upd H M.lc _ o = _
    rw [upd_ne (ne r.ho fun _ z => by cases z)]
    exact r.ho
  · show upd H M.lc _ M.rl = _
    rw [upd_ne (ne r.hrl fun _ z => by cases z)]
    exact r.hrl
  · show upd H M.lc _ M.dr = _
    rw [upd_ne (ne r.hdr fun _ z => by cases z)]
    exact r.hdr
  · show upd H M.lc _ M.ll = _
    rw [upd_ne r.n4.symm]
    exact r.hll
  · have h := r.ht i t e h1 h2
    show upd H M.lc _ t = _
    rw [upd_ne (ne h fun _ z => by cases z)]
    exact h
  · have h1 : (M.cs ++ [c])[i]? = some c' := h1
    have h2 : (S.calls ++ [q])[i]? = some q' := h2
    have h : H c' = some (.dK (ownC q')) := by
      by_cases hi : i < M.cs.length
      · rw [List.getElem?_append_left hi] at h1
        rw [List.getElem?_append_left (by rw [← r.cl]; exact hi)] at h2
        exact r.hc i c' q' h1 h2
      · rw [List.getElem?_append_right (by omega)] at h1
        rw [List.getElem?_append_right (by rw [← r.cl]; omega), ← r.cl] at h2
        have z : i - M.cs.length = 0 := by
          have := (List.getElem?_eq_some_iff.mp h1).1
          simp at this
          omega
        rw [z] at h1 h2
        cases h1
        cases h2
        exact hc
    show upd H M.lc _ c' = _
    rw [upd_ne (ne h fun _ z => by cases z)]
    exact h
  · exact List.nodup_append.mpr ⟨r.nd, by simp, fun a ha b hb => by
      rw [List.mem_singleton.mp hb]
      exact fun z => hn (by rw [← z]; exact ha)⟩
  · intro h
    rcases List.mem_append.mp h with h | h
    · exact r.n2 h
    · exact ho (List.mem_singleton.mp h).symm
  · intro h
    rcases List.mem_append.mp h with h | h
    · exact r.n3 h
    · exact hd (List.mem_singleton.mp h).symm
end
end T
end
section
namespace T
open PySem PySem.Spec PyProof.Rows L2 Tr LamX
section
variable {P : Program} {w : World} {K : PySem.W.Frag} {mg : Str → Option Value} {base : Heap}
theorem Own.fld {H : Hp} {o : Addr} {M : OLay} {S : St} (r : Own K H o M S) {k : Str} {v : V} (h : valV (ownKV M S.now) (.inr k) = some v) : DGet H o (.str k) (some v) := .inl ⟨_, Sum.inr k, .inl r.ho, rfl, h.symm⟩
theorem Own.cfld {H : Hp} {c : Addr} {q : Cal} (hc : H c = some (.dK (ownC q))) {k : Str} {v : V} (h : valV (ownC q) (.inr k) = some v) : DGet H c (.str k) (some v) := .inl ⟨_, Sum.inr k, .inl hc, rfl, h.symm⟩
/-- the end of an address's road, by the law's own -/
def spReal (K : PySem.W.Frag) : Sp := fun vs H Q _ => ∃ (o : Addr) (M : OLay) (S : St) (a : Str), vs = [.ref o, .str a] ∧ Own K H o M S ∧ Ends_ S.roads ∧ (getT S.roads a).isSome = true ∧ Q (.str (endOf S.roads a)) H
theorem k_l_real (T : Txt K mg) : Kal P w K mg base CX0 1 "_law_real" (spReal K) := by
  refine kal_of T.f_l_real T.g_l_real sc_l_real (fun _ _ _ _ _ _ us hl => match us, hl with | [_, _], _ => rfl) (fun vs H Q E ⟨_, _, _, _, h, _⟩ => by rw [h] <;> rfl) fun cdv A outer s H vs Q E hr ⟨o, M, S, a, e, r, en, ha, fin⟩ => ?_
  subst e
  have hu := hu_of hr
  have nd := sc_l_real.nd
  refine ⟨_, PSs.nox (pss_cons (ps_while PassesOwn.never (pt_cmpR op_ne (pe_dget hu (pe_dget hu (pv 0) pe_str (fun _ _ => rfl)) (pv 1) (fun _ _ => rfl)) (pv 1) (nomark _))
      (pss_one (ps_set (i := 1) nd rfl (Or.inl rfl) (pe_dget hu (pe_dget hu (pv 0) pe_str (fun _ _ => rfl)) (pv 1) (fun _ _ => rfl)))))
    (pss_one (ps_ret (pv 1)))), ?_⟩
  obtain ⟨t, ht⟩ := Option.isSome_iff_exists.mp ha
  obtain ⟨l, wy⟩ := en a t ht
  refine ⟨fun m σ H' => H' = H ∧ ∃ x l', Way S.roads x l' ∧ m = l'.length ∧ endOf S.roads x = endOf S.roads a ∧ σ = [some (.ref o), some (.str x)], ⟨_, rfl, a, l, wy, rfl, rfl, rfl⟩, ?_⟩
  rintro m σ H1 ⟨rfl, x, l', w', rfl, ex, rfl⟩
  have look : ∀ t, getT S.roads x = some t → DGet H1 M.dr (.str x) (some (.str t)) := fun t ht => .inl ⟨_, Sum.inr x, .inl r.hdr, rfl, by rw [kvT_get, ht]; rfl⟩
  cases w' with
  | stop h =>
    refine ⟨_, rfl, o, _, rfl, r.fld rfl, _, rfl, M.dr, _, rfl, look x h, _, rfl, rfl, false, congrArg (fun b => V.bl (!b)) (decide_eq_true rfl), _, rfl, ?_⟩
    rw [← ex, endOf_stop h] at fin
    exact fin
  | @step _ t l2 h ne w2 =>
    refine ⟨_, rfl, o, _, rfl, r.fld rfl, _, rfl, M.dr, _, rfl, look t h, _, rfl, rfl, true, congrArg (fun b => V.bl (!b)) (decide_eq_false fun z => ne (V.str.inj z)), ?_⟩
    refine ⟨fun σ' H' => H' = H1 ∧ ∃ y l', Way S.roads y l' ∧ l'.length < (x :: l2).length ∧ endOf S.roads y = endOf S.roads a ∧ σ' = [some (.ref o), some (.str y)], fun σ' H' ⟨b1, y, l3, b2, b3, b4, b5⟩ => ⟨_, b3, b1, y, l3, b2, rfl, b4, b5⟩, ?_⟩
    refine ⟨_, rfl, o, _, rfl, r.fld rfl, _, rfl, M.dr, _, rfl, look t h, rfl, t, l2, w2, by simp, ?_, rfl⟩
    rw [← endOf_step h ne w2]
    exact ex
end
end T
end
section
namespace T
open PySem PySem.Spec PyProof.Rows L2 Tr LamX
theorem filt_add {α : Type} (f : α → Bool) (l : List α) (j : Nat) (x : α) (h : l[j]? = some x) : (l.take (j + 1)).filter f = (l.take j).filter f ++ if f x = true then [x] else [] := by
  rw [List.take_succ, h, List.filter_append]
  by_cases hf : f x = true
  · rw [if_pos hf]
    simp [hf]
  · rw [if_neg hf]
    simp [hf]
def rested (x : Str) : Bool := decide (x = ("done" : Str)) || decide (x = ("gone" : Str))
theorem all_rest (l : List Cal) : (l.all fun q => decide (q.word = ("done" : Str)) || decide (q.word = ("gone" : Str))) = decide ((((l.map (·.word)).filter fun x => !rested x).length : Int) ≤ 0) := by
  induction l with
  | nil => rfl
  | cons q l ih =>
    rw [List.all_cons, ih, List.map_cons, List.filter_cons]
    by_cases h : rested q.word = true
    · have h' : (decide (q.word = ("done" : Str)) || decide (q.word = ("gone" : Str))) = true := h
      rw [h', h, Bool.true_and]
      simp
    · have h2 : rested q.word = false := by
        cases e : rested q.word with
        | true => exact absurd e h
        | false => rfl
      have h' : (decide (q.word = ("done" : Str)) || decide (q.word = ("gone" : Str))) = false := h2
      rw [h', h2, Bool.false_and]
      symm
      refine decide_eq_false ?_
      simp only [Bool.not_false, if_true, List.length_cons]
      omega
section
variable {P : Program} {w : World} {K : PySem.W.Frag} {mg : Str → Option Value} {base : Heap}
def spMay (K : PySem.W.Frag) : Sp := fun vs H Q _ => ∃ (o : Addr) (M : OLay) (S : St) (i : Nat), vs = [.ref o, .int ((1 + i : Nat) : Int)] ∧ Own K H o M S ∧ Wf S ∧ i < S.calls.length ∧ ∀ H', Same H H' → Q (.bl (dueB S i)) H'
theorem k_l_may (T : Txt K mg) : Kal P w K mg base CX0 2 "_law_may" (spMay K) := by
  refine kal_of T.f_l_may T.g_l_may sc_l_may (fun _ _ _ _ _ _ us hl => match us, hl with | [_, _], _ => rfl) (fun vs H Q E ⟨_, _, _, _, h, _⟩ => by rw [h] <;> rfl) fun cdv A outer s H vs Q E hr ⟨o, M, S, i, e, r, wf, hi, fin⟩ => ?_
  subst e
  have hu := hu_of hr
  have nd := sc_l_may.nd
  refine ⟨_, pss_cons (ps_set (i := 2) nd rfl (Or.inr rfl) (pe_ix ix_list (pe_dget hu (pv 0) pe_str (fun _ _ => rfl)) (pe_op op_sub (pv 1) pe_int) (fun _ _ => rfl)))
    (pss_cons (ps_if (PW.pt (pw_or (pt_cmpR op_ne (pe_dget hu (pv 2) pe_str (fun _ _ => rfl)) pe_str (nomark _)) (pw_or1 (pt_cmpR op_gt (pe_dget hu (pv 2) pe_str (fun _ _ => rfl)) (pe_dget hu (pv 0) pe_str (fun _ _ => rfl)) (nomark _))))) (pss_one (ps_ret pe_bl)) pss_nil)
    (pss_cons (ps_setLc (i := 3) (own := [("_law_far", 4)]) (g := gName 4) (tt := tTest (tOp rEq (tDGet (tVar 4) (tC (.str "key"))) (tDGet (tVar 2) (tC (.str "key"))))) (te := tDGet (tVar 4) (tC (.str "word"))) rfl nd rfl rfl (sw_true rfl rfl rfl (by decide +kernel))
        (pi_list (pe_slice sl_list (pe_dget hu (pv 0) pe_str (fun _ _ => rfl)) po_none (po_some (pe_op op_sub (pv 1) pe_int)))) (blkOk_by (N := ["_law_own_here", "_law_number", "_law_one", "_law_ahead", "_law_far", "_law_word_here", "_law_place"]) (sc := defScope s_l_may) (by decide +kernel)) (fun _ _ _ _ _ => pg_name (i := 4) nd rfl (Or.inl rfl))
        (fun _ _ _ _ _ => pts_one (pt_cmpR op_eq (pe_dget hu (pv 4) pe_str (fun _ _ => rfl)) (pe_dget hu (pv 2) pe_str (fun _ _ => rfl)) (nomark _))) (fun _ _ _ _ _ => pe_dget hu (pv 4) pe_str (fun _ _ => rfl)))
    (pss_cons (ps_if (pt_cmpR op_gt (b_len T.n_len (pa_cons (pe_lc (own := [("_law_word_here", 5)]) (g := gName 5) (tt := tTest (tOp (rIn K true) (tVar 5) (tTup (tCons (tC (.str "done")) (tCons (tC (.str "gone")) tNil))))) (te := tVar 5) rfl nd (pi_list (pv 3))
        (blkOk_by (N := ["_law_own_here", "_law_number", "_law_one", "_law_ahead", "_law_far", "_law_word_here", "_law_place"]) (sc := defScope s_l_may) (by decide +kernel)) (fun _ _ _ _ _ => pg_name (i := 5) nd rfl (Or.inl rfl)) (fun _ _ _ _ _ => pts_one (pt_cmpR op_notIn_seq (pv 5) (pe_tup (pa_cons pe_str (pa_cons pe_str pa_nil))) rfl)) (fun _ _ _ _ _ => pv 5)) pa_nil)) pe_int (nomark _)) (pss_one (ps_ret pe_bl)) pss_nil)
    (pss_cons (ps_set (i := 6) nd rfl (Or.inr rfl) (pe_k (E := E0) (k_l_real T) hr (by decide) pass0 (pa_cons (pv 0) (pa_cons (pe_dget hu (pv 2) pe_str (fun _ _ => rfl)) pa_nil))))
    (pss_one (ps_ret (pe_cmpR op_lt (b_len T.n_len (pa_cons (pe_lc (own := [("_law_far", 4)]) (g := gName 4) (tt := tAnd (tTest (tOp rEq (tDGet (tVar 4) (tC (.str "word"))) (tC (.str "tried")))) (tTest (tOp rEq (tDGet (tVar 4) (tC (.str "place"))) (tVar 6)))) (te := tVar 4) rfl nd (pi_list (pe_dget hu (pv 0) pe_str (fun _ _ => rfl)))
        (blkOk_by (N := ["_law_own_here", "_law_number", "_law_one", "_law_ahead", "_law_far", "_law_word_here", "_law_place"]) (sc := defScope s_l_may) (by decide +kernel)) (fun _ _ _ _ _ => pg_name (i := 4) nd rfl (Or.inl rfl))
        (fun _ _ _ _ _ => pts_one (PW.pt (pw_and (pt_cmpR op_eq (pe_dget hu (pv 4) pe_str (fun _ _ => rfl)) pe_str (nomark _)) (pw_and1 (pt_cmpR op_eq (pe_dget hu (pv 4) pe_str (fun _ _ => rfl)) (pv 6) (nomark _)))))) (fun _ _ _ _ _ => pv 4)) pa_nil)) (pe_ix ix_tup (pe_dget hu (pv 0) pe_str (fun _ _ => rfl)) pe_int (fun _ _ => rfl)) (nomark _)))))))), ?_⟩
  have hil : i < M.cs.length := by rw [r.cl]; exact hi
  have hci : M.cs[i]? = some M.cs[i] := List.getElem?_eq_getElem hil
  have hqi : S.calls[i]? = some S.calls[i] := List.getElem?_eq_getElem hi
  have hc := r.hc i _ _ hci hqi
  have hat : atI (M.cs.map V.ref) (((1 + i : Nat) : Int) - 1) = some (.ref M.cs[i]) := by
    rw [show ((1 + i : Nat) : Int) - 1 = ((i : Nat) : Int) by omega]
    exact atI_nat (by rw [List.getElem?_map, hci]; rfl)
  have gl := wf.goal _ (List.getElem_mem hi)
  have eb : dueB S i = (decide (S.calls[i].word = ("waits" : Str)) && (decide (S.calls[i].time ≤ S.now) && (firstB S.calls i S.calls[i].key && decide ((busyN S.calls (endOf S.roads S.calls[i].goal) : Int) < S.rule.o)))) := by
    unfold dueB
    rw [hqi]
  have l30 := wf.l30
  have lcs : M.cs.length ≤ 30 := by rw [r.cl]; exact l30
  generalize S.calls[i] = q at hqi hc gl eb
  generalize M.cs[i] = c at hci hat hc
  refine ⟨_, rfl, o, _, rfl, r.fld rfl, _, rfl, _, _, rfl, rfl, _, _, _, _, rfl, rfl, sqL r.hlc, hat, ?_⟩
  refine ⟨_, rfl, c, _, rfl, Own.cfld hc rfl, rfl, _, rfl, ?_⟩
  rw [str_dec]
  by_cases h1 : q.word = ("waits" : Str)
  · rw [decide_eq_true h1]
    rw [decide_eq_true h1, Bool.true_and] at eb
    refine ⟨_, rfl, c, _, rfl, Own.cfld hc rfl, _, rfl, o, _, rfl, r.fld rfl, _, _, rfl, rfl, ?_⟩
    by_cases h2 : q.time ≤ S.now
    · refine ⟨false, congrArg V.bl (decide_eq_false (by omega)), ?_⟩
      rw [decide_eq_true h2, Bool.true_and] at eb
      refine ⟨_, rfl, o, _, rfl, r.fld rfl, r_nopart ⟨_, rfl, _, _, rfl, rfl, _, rfl, _, _, rfl, sqL r.hlc, fun D hD => ?_⟩⟩
      have ecut : cutV (M.cs.map V.ref) none (some (((1 + i : Nat) : Int) - 1)) = (M.cs.take i).map V.ref := by
        rw [show ((1 + i : Nat) : Int) - 1 = ((i : Nat) : Int) by omega, cut_to (by rw [List.length_map]; omega), List.map_take]
      have s1 := same_new (o := HO.lst (cutV (M.cs.map V.ref) none (some (((1 + i : Nat) : Int) - 1)))) hD
      have eD : upd H D (.lst (cutV (M.cs.map V.ref) none (some (((1 + i : Nat) : Int) - 1)))) D = some (.lst ((M.cs.take i).map V.ref)) := by rw [upd_same, ecut]
      generalize upd H D (.lst (cutV (M.cs.map V.ref) none (some (((1 + i : Nat) : Int) - 1)))) = H1 at s1 eD
      refine ⟨D, rfl, ⟨_, sqL eD⟩, fun D2 hD2 => ?_⟩
      have ltk : ((M.cs.take i).map V.ref).length = i := by rw [List.length_map, List.length_take]; omega
      refine lc_adds (walk_list (xs := (M.cs.take i).map V.ref)) (fun j acc => acc = (((S.calls.take i).take j).filter fun o => decide (o.key = q.key)).map fun o => V.str o.word) hD2 (by rw [ltk]; omega) rfl (fun j acc h => by rw [h, List.length_map]; exact Nat.le_trans (List.length_filter_le _ _) (by rw [List.length_take]; omega)) (fun H' s' => sqL (s' _ _ eD)) ?_ ?_
      · rintro Tq N j acc y H2 H3 yes no hj s2 pp ⟨rfl, hy⟩
        have hj : j < i := by rw [ltk] at hj; exact hj
        have hjl : j < M.cs.length := by omega
        have hjq : j < S.calls.length := by omega
        have hcj : M.cs[j]? = some M.cs[j] := List.getElem?_eq_getElem hjl
        have hqj : S.calls[j]? = some S.calls[j] := List.getElem?_eq_getElem hjq
        have hqt : (S.calls.take i)[j]? = some S.calls[j] := by rw [List.getElem?_take_of_lt hj]; exact hqj
        rw [List.getElem?_map, List.getElem?_take_of_lt hj, hcj] at hy
        cases hy
        have hcc := (s1.trans s2) _ _ (r.hc j _ _ hcj hqj)
        have hc2 := (s1.trans s2) _ _ hc
        have add := filt_add (fun o : Cal => decide (o.key = q.key)) (S.calls.take i) j _ hqt
        refine ⟨rfl, _, rfl, _, _, rfl, Own.cfld hcc rfl, _, rfl, c, _, rfl, Own.cfld hc2 rfl, rfl, _, rfl, ?_⟩
        rw [str_dec]
        by_cases hk : S.calls[j].key = q.key
        · rw [decide_eq_true hk]
          rw [decide_eq_true hk, if_pos rfl] at add
          refine ⟨_, rfl, _, _, rfl, Own.cfld hcc rfl, yes _ _ (Same.refl _) ?_⟩
          rw [pp, add, List.map_append]
          rfl
        · rw [decide_eq_false hk]
          rw [decide_eq_false hk, if_neg (by decide), List.append_nil] at add
          refine no _ (Same.refl _) ?_
          rw [pp, add]
      rintro acc H2 s2 eD2 rfl
      rw [ltk, List.take_take, Nat.min_self] at eD2
      have s12 := s1.trans s2
      obtain ⟨ws, ews⟩ : ∃ ws, ws = ((S.calls.take i).filter fun o => decide (o.key = q.key)).map (·.word) := ⟨_, rfl⟩
      have eD2' : H2 D2 = some (.lst (ws.map V.str)) := by rw [eD2, ews, List.map_map]; rfl
      have lws : ws.length ≤ 30 := by rw [ews, List.length_map]; exact Nat.le_trans (List.length_filter_le _ _) (by rw [List.length_take]; omega)
      refine ⟨_, rfl, D2, rfl, ⟨_, sqL eD2'⟩, fun D3 hD3 => ?_⟩
      refine lc_adds (walk_list (xs := ws.map V.str)) (fun j acc => acc = ((ws.take j).filter fun x => !rested x).map V.str) hD3 (by rw [List.length_map]; omega) rfl (fun j acc h => by rw [h, List.length_map]; exact Nat.le_trans (List.length_filter_le _ _) (by rw [List.length_take]; omega)) (fun H' s' => sqL (s' _ _ eD2')) ?_ ?_
      · rintro Tq N j acc y H4 H5 yes no hj s4 pp ⟨rfl, hy⟩
        have hj : j < ws.length := by rw [List.length_map] at hj; exact hj
        have hwj : ws[j]? = some ws[j] := List.getElem?_eq_getElem hj
        rw [List.getElem?_map, hwj] at hy
        cases hy
        have add := filt_add (fun x : Str => !rested x) ws j _ hwj
        refine ⟨rfl, _, rfl, by show 2 ≤ sizeLine; decide, fun t ht => ⟨t, _, rfl, .inr (sqT upd_same), rfl, rfl, !rested ws[j], congrArg (fun b => V.bl (!b)) (in2 _ _ _), ?_⟩⟩
        cases hr' : rested ws[j] with
        | false =>
          rw [hr', if_pos (show (!false) = true from rfl)] at add
          refine ⟨_, rfl, yes _ _ (same_new ht) ?_⟩
          rw [pp, add, List.map_append]
          rfl
        | true =>
          rw [hr', if_neg (by decide), List.append_nil] at add
          refine no _ (same_new ht) ?_
          rw [pp, add]
      rintro acc H4 s4 eD3 rfl
      rw [List.length_map, List.take_length] at eD3
      have s14 := s12.trans s4
      have ef : firstB S.calls i q.key = decide (((ws.filter fun x => !rested x).length : Int) ≤ 0) := by
        unfold firstB
        rw [all_rest, ews]
      refine ⟨_, _, rfl, .inl ⟨_, sqL eD3, rfl⟩, _, _, rfl, rfl, ?_⟩
      rw [List.length_map]
      by_cases h3 : ((ws.filter fun x => !rested x).length : Int) ≤ 0
      · refine ⟨false, congrArg V.bl (decide_eq_false (by omega)), ?_⟩
        rw [decide_eq_true h3] at ef
        rw [ef, Bool.true_and] at eb
        have r4 := r.same s14
        have hc4 := s14 _ _ hc
        have gs : (getT S.roads q.goal).isSome = true := (Bool.and_eq_true_iff.mp gl).2
        refine ⟨_, rfl, _, rfl, c, _, rfl, Own.cfld hc4 rfl, o, M, S, q.goal, rfl, r4, wf.en, gs, ?_⟩
        refine ⟨_, rfl, o, _, rfl, r4.fld rfl, M.lc, rfl, ⟨_, sqL r4.hlc⟩, fun D4 hD4 => ?_⟩
        refine lc_adds (walk_list (xs := M.cs.map V.ref)) (fun j acc => acc = (objs (fun o => decide (o.word = ("tried" : Str)) && decide (o.place = endOf S.roads q.goal)) (M.cs.take j) (S.calls.take j)).map V.ref) hD4 (by rw [List.length_map]; omega) rfl (fun j acc h => ?_) (fun H' s' => sqL (s' _ _ r4.hlc)) ?_ ?_
        · rw [h, List.length_map]
          unfold objs
          rw [List.length_map]
          exact Nat.le_trans (List.length_filter_le _ _) (by rw [List.length_zip, List.length_take]; omega)
        · rintro Tq N j acc y H5 H6 yes no hj s5 pp ⟨rfl, hy⟩
          have hjl : j < M.cs.length := by rw [List.length_map] at hj; exact hj
          have hjq : j < S.calls.length := by rw [← r.cl]; exact hjl
          have hcj : M.cs[j]? = some M.cs[j] := List.getElem?_eq_getElem hjl
          have hqj : S.calls[j]? = some S.calls[j] := List.getElem?_eq_getElem hjq
          rw [List.getElem?_map, hcj] at hy
          cases hy
          have hcc := (s14.trans s5) _ _ (r.hc j _ _ hcj hqj)
          have add := objs_add (f := fun o => decide (o.word = ("tried" : Str)) && decide (o.place = endOf S.roads q.goal)) hcj hqj
          refine ⟨rfl, _, rfl, _, _, rfl, Own.cfld hcc rfl, rfl, _, rfl, ?_⟩
          rw [str_dec]
          by_cases k1 : S.calls[j].word = ("tried" : Str)
          · rw [decide_eq_true k1]
            rw [decide_eq_true k1, Bool.true_and] at add
            refine ⟨_, rfl, _, _, rfl, Own.cfld hcc rfl, _, rfl, rfl, _, rfl, ?_⟩
            rw [str_dec]
            by_cases k2 : S.calls[j].place = endOf S.roads q.goal
            · rw [decide_eq_true k2]
              rw [decide_eq_true k2, if_pos rfl] at add
              refine ⟨_, rfl, yes _ _ (Same.refl _) ?_⟩
              rw [pp, add, List.map_append]
              rfl
            · rw [decide_eq_false k2]
              rw [decide_eq_false k2, if_neg (by decide)] at add
              refine no _ (Same.refl _) ?_
              rw [pp, add, List.append_nil]
          · rw [decide_eq_false k1]
            rw [decide_eq_false k1, Bool.false_and, if_neg (by decide)] at add
            refine no _ (Same.refl _) ?_
            rw [pp, add, List.append_nil]
        · rintro acc H5 s5 eD4 rfl
          rw [List.length_map, List.take_length, r.cl, List.take_length] at eD4
          have hl := objs_len (f := fun o => decide (o.word = ("tried" : Str)) && decide (o.place = endOf S.roads q.goal)) r.cl
          have r5 := r4.same s5
          refine ⟨_, (busyN S.calls (endOf S.roads q.goal) : Nat), rfl, .inl ⟨_, sqL eD4, by rw [List.length_map, hl]; rfl⟩, _, rfl, o, _, rfl, r5.fld rfl, _, _, _, _, rfl, rfl, sqT r5.hrl, rfl, _, _, rfl, rfl, ?_⟩
          have f5 := fin _ (s14.trans s5)
          rw [eb] at f5
          exact f5
      · refine ⟨true, congrArg V.bl (decide_eq_true (by omega)), ?_⟩
        rw [decide_eq_false h3] at ef
        rw [ef, Bool.false_and] at eb
        rw [eb] at fin
        exact fin _ s14
    · refine ⟨true, congrArg V.bl (decide_eq_true (by omega)), ?_⟩
      rw [decide_eq_false h2, Bool.false_and] at eb
      rw [eb] at fin
      exact fin H (Same.refl H)
  · rw [decide_eq_false h1]
    rw [decide_eq_false h1, Bool.false_and] at eb
    rw [eb] at fin
    exact fin H (Same.refl H)
end
end T
end
section
namespace T
open PySem PySem.Spec PyProof.Rows L2 Tr LamX
section
variable {P : Program} {w : World} {K : PySem.W.Frag} {mg : Str → Option Value} {base : Heap}
def spODue (K : PySem.W.Frag) : Sp := fun vs H Q _ => ∃ (o : Addr) (M : OLay) (S : St), vs = [.ref o] ∧ Own K H o M S ∧ Wf S ∧ ∀ H' q, Same H H' → H q = none → H' q = some (.lst ((dueL S).map V.int)) → Q (.ref q) H'
theorem k_l_due (T : Txt K mg) : Kal P w K mg base CX0 3 "_law_due" (spODue K) := by
  refine kal_of T.f_l_due T.g_l_due sc_l_due (fun _ _ _ _ _ _ us hl => match us, hl with | [_], _ => rfl) (fun vs H Q E ⟨_, _, _, h, _⟩ => by rw [h] <;> rfl) fun cdv A outer s H vs Q E hr ⟨o, M, S, e, r, wf, fin⟩ => ?_
  subst e
  have hu := hu_of hr
  have nd := sc_l_due.nd
  refine ⟨_, pss_one (ps_ret (pe_lc (own := [("_law_number", 1)]) (g := gName 1) (te := tVar 1) rfl nd (pi_range2 (by rfl) T.n_range (pa_cons pe_int (pa_cons (pe_op op_add (b_len T.n_len (pa_cons (pe_dget hu (pv 0) pe_str (fun _ _ => rfl)) pa_nil)) pe_int) pa_nil)))
      (blkOk_by (N := ["_law_own_here", "_law_number"]) (sc := defScope s_l_due) (by decide +kernel)) (fun _ _ _ _ _ => pg_name (i := 1) nd rfl (Or.inl rfl))
      (tt := tTest (tK (spMay K) E0 (tCons (tVar 0) (tCons (tVar 1) tNil)))) (fun _ _ _ _ _ => pts_one (pt_val (pe_k (E := E0) (k_l_may T) hr (by decide) pass0 (pa_cons (pv 0) (pa_cons (pv 1) pa_nil))))) (fun _ _ _ _ _ => pv 1))), ?_⟩
  have l30 := wf.l30
  have lc : (M.cs.map V.ref).length = S.calls.length := by rw [List.length_map, r.cl]
  refine ⟨_, rfl, o, _, rfl, r.fld rfl, _, _, rfl, .inl ⟨_, sqL r.hlc, rfl⟩, _, _, rfl, rfl, _, _, rfl, ⟨by omega, by omega, by omega, by omega⟩, fun D hD => ?_⟩
  have en : ((((M.cs.map V.ref).length : Nat) : Int) + 1 - 1).toNat = S.calls.length := by rw [lc]; omega
  refine lc_adds (walk_range (lo := 1) (n := ((((M.cs.map V.ref).length : Nat) : Int) + 1 - 1).toNat)) (fun j acc => acc = ((((List.range j).filter (dueB S)).map fun i => ((1 + i : Nat) : Int))).map V.int) hD (by omega) rfl (fun j acc h => by rw [h, List.length_map, List.length_map]; exact Nat.le_trans (List.length_filter_le _ _) (by rw [List.length_range]; omega)) (fun _ _ => trivial) ?_ ?_
  · rintro Tq N j acc y H2 H3 yes no hj s2 pp ⟨rfl, rfl⟩
    have hj : j < S.calls.length := by omega
    have step := range_filter_succ (dueB S) j
    have ej : V.int (1 + (j : Int)) = V.int ((1 + j : Nat) : Int) := congrArg V.int (by omega)
    refine ⟨rfl, _, rfl, _, rfl, o, M, S, j, congrArg (fun z => [V.ref o, z]) ej, r.same s2, wf, hj, fun H4 s4 => ⟨_, rfl, ?_⟩⟩
    cases eb : dueB S j with
    | true =>
      rw [eb, if_pos rfl] at step
      refine ⟨_, rfl, yes _ _ s4 ?_⟩
      rw [pp, step, List.map_append, List.map_append]
      show _ ++ [V.int (1 + (j : Int))] = _
      rw [ej]
      rfl
    | false =>
      rw [eb, if_neg (by decide), List.append_nil] at step
      refine no _ s4 ?_
      rw [pp, step]
  · rintro acc H2 s2 eD rfl
    rw [en] at eD
    exact fin H2 D s2 hD eD
/-- the law's own state, new -/
def spOwn (K : PySem.W.Frag) : Sp := fun vs H Q _ => ∃ (a : Addr) (r : Rule), vs = [.ref a] ∧ H a = some (.tup r.vs) ∧ ∀ H' o M, Own K H' o M ⟨r, 0, [], [], []⟩ → Same H H' → (∀ c, ofoot o M c → H c = none) → Q (.ref o) H'
theorem k_l_own (T : Txt K mg) : Kal P w K mg base CX0 1 "_law_own" (spOwn K) := by
  refine kal_of T.f_l_own T.g_l_own sc_l_own (fun _ _ _ _ _ _ us hl => match us, hl with | [_], _ => rfl) (fun vs H Q E ⟨_, _, h, _⟩ => by rw [h] <;> rfl) fun cdv A outer s H vs Q E hr ⟨a, r, e, ha, fin⟩ => ?_
  subst e
  refine ⟨_, pss_one (ps_ret (pe_disp (pps_cons pe_str (pv 0) (pps_cons pe_str pe_int (pps_cons pe_str pe_dnewK (pps_cons pe_str (pe_lst pa_nil) (pps_cons pe_str (pe_lst pa_nil) pps_nil))))) (by rfl) (by rfl) (fun z => by cases z) (by decide))), ?_⟩
  refine fun o ho => ?_
  refine ⟨_, rfl, fun dr hdr => ⟨by show 0 ≤ sizeLine; decide, fun lc hlc => ⟨by show 0 ≤ sizeLine; decide, fun ll hll => ?_⟩⟩⟩
  have s0 := same_new (o := HO.dK []) ho
  have s1 := same_new (o := HO.dK []) hdr
  have s2 := same_new (o := HO.lst []) hlc
  have s3 := same_new (o := HO.lst []) hll
  have eo := s3 _ _ (s2 _ _ (s1 _ _ (upd_same (a := o) (o := HO.dK []) (H := H))))
  have edr := s3 _ _ (s2 _ _ (upd_same (a := dr) (o := HO.dK []) (H := upd H o (.dK []))))
  have elc := s3 _ _ (upd_same (a := lc) (o := HO.lst []) (H := upd (upd H o (.dK [])) dr (.dK [])))
  have ell := upd_same (a := ll) (o := HO.lst []) (H := upd (upd (upd H o (.dK [])) dr (.dK [])) lc (.lst []))
  have sa := ((s0.trans s1).trans s2).trans s3
  have bo : H o = none := ho
  have bdr : H dr = none := (s0.free hdr)
  have blc : H lc = none := ((s0.trans s1).free hlc)
  have bll : H ll = none := (((s0.trans s1).trans s2).free hll)
  have n1 : o ≠ dr := ne_of_none (upd_same (a := o) (o := HO.dK []) (H := H)) hdr
  have n4 : lc ≠ ll := ne_of_none (upd_same (a := lc) (o := HO.lst []) (H := upd (upd H o (.dK [])) dr (.dK []))) hll
  generalize upd (upd (upd (upd H o (.dK [])) dr (.dK [])) lc (.lst [])) ll (.lst []) = H4 at eo edr elc ell sa
  refine ⟨eo, ownKV ⟨a, dr, lc, ll, [], []⟩ 0, rfl, by show 5 ≤ 15; decide, ?_⟩
  have ne : ∀ {b u}, H4 b = some u → (∀ xs, u ≠ .dK xs) → b ≠ o := fun hb no z => by
    rw [z, eo] at hb
    exact no _ (Option.some.inj hb).symm
  refine fin _ o ⟨a, dr, lc, ll, [], []⟩ ⟨upd_same, ?_, ?_, ?_, ?_, rfl, fun i t e h => (by cases h), rfl, fun i c q h => (by cases h), List.nodup_nil, n1, by simp, by simp, n4⟩ (fun b u h => ?_) fun c hc => ?_
  · show upd H4 o _ a = _
    rw [upd_ne (ne_of_none ha bo)]
    exact sa _ _ ha
  · show upd H4 o _ dr = _
    rw [upd_ne n1.symm]
    exact edr
  · show upd H4 o _ lc = _
    rw [upd_ne (ne elc fun _ z => by cases z)]
    exact elc
  · show upd H4 o _ ll = _
    rw [upd_ne (ne ell fun _ z => by cases z)]
    exact ell
  · rw [upd_ne (ne_of_none h bo)]
    exact sa b u h
  · rcases hc with z | z | z | z | z
    · rw [z]
      exact bo
    · rw [z]
      exact bdr
    · rw [z]
      exact blc
    · rw [z]
      exact bll
    · exact absurd z (by simp)
end
end T
end
section
namespace T
open PySem PySem.Spec PyProof.Rows L2 Tr
/-! ### the law's own wait -/
def pw (r : Rule) : Nat → Int
  | 0 => r.b
  | n + 1 => pw r n * r.f
theorem pw_bd {r : Rule} (h : r.Ok) : ∀ n, n ≤ 4 → 1 ≤ pw r n ∧ pw r n ≤ 9 * 3 ^ n
  | 0, _ => ⟨h.b.1, h.b.2⟩
  | n + 1, hn => by
    obtain ⟨a, b⟩ := pw_bd h n (by omega)
    have f1 := h.f
    show 1 ≤ pw r n * r.f ∧ pw r n * r.f ≤ 9 * 3 ^ (n + 1)
    have c : 1 * 1 ≤ pw r n * r.f := Int.mul_le_mul a f1.1 (by decide) (by omega)
    have d : pw r n * r.f ≤ (9 * 3 ^ n) * 3 := Int.mul_le_mul b f1.2 (by omega) (by have : (0 : Int) ≤ 3 ^ n := Int.pow_nonneg (by decide); omega)
    refine ⟨by omega, ?_⟩
    rw [Int.pow_succ]
    omega
theorem pw_small {r : Rule} (h : r.Ok) {n : Nat} (hn : n ≤ 4) : 1 ≤ pw r n ∧ pw r n ≤ 729 := by
  obtain ⟨a, b⟩ := pw_bd h n hn
  refine ⟨a, Int.le_trans b ?_⟩
  match n, hn with
  | 0, _ => decide
  | 1, _ => decide
  | 2, _ => decide
  | 3, _ => decide
  | 4, _ => decide
theorem min_mul {t p f : Int} (hf : 1 ≤ f) (ht : 0 ≤ t) : min t (min t p * f) = min t (p * f) := by
  by_cases h : p ≤ t
  · rw [Int.min_eq_right h]
  · rw [Int.min_eq_left (show t ≤ p by omega)]
    have a : t * 1 ≤ t * f := Int.mul_le_mul_of_nonneg_left hf ht
    have b : t * f ≤ p * f := Int.mul_le_mul_of_nonneg_right (by omega) (by omega)
    rw [Int.min_eq_left (show t ≤ t * f by omega), Int.min_eq_left (show t ≤ p * f by omega)]
theorem wfold_pw {r : Rule} (h : r.Ok) : ∀ n, min r.t (wfold r n) = min r.t (pw r n)
  | 0 => rfl
  | n + 1 => by
    have ih := wfold_pw h n
    show min r.t (mn r.t (wfold r n * r.f)) = min r.t (pw r n * r.f)
    have h1 := h.f.1
    have h2 := h.t.1
    rw [mn_eq, ← min_mul (p := pw r n) h1 (by omega), ← ih, min_mul h1 (by omega)]
    omega
theorem waitOf_pw {r : Rule} (h : r.Ok) (n : Int) : waitOf r n = min r.t (pw r (n - 1).toNat) := by
  unfold waitOf
  rw [mn_eq]
  exact wfold_pw h _
theorem sorted2 {x y : Int} {ns : List Int} (p : ns.Perm [x, y]) (s : ns.Pairwise (· ≤ ·)) : ns[0]? = some (min x y) := by
  have l := p.length_eq
  match ns, l with
  | [a, b], _ =>
    have ab : a ≤ b := by simpa using s
    have m1 : x ∈ [a, b] := p.mem_iff.mpr (by simp)
    have m2 : y ∈ [a, b] := p.mem_iff.mpr (by simp)
    have m3 : a ∈ [x, y] := p.mem_iff.mp (by simp)
    simp only [List.mem_cons, List.not_mem_nil, or_false] at m1 m2 m3
    show some a = some (min x y)
    congr 1
    omega
section
variable {P : Program} {w : World} {K : PySem.W.Frag} {mg : Str → Option Value} {base : Heap}
/-- the rule's wait, by the law's own -/
def spLWait : Sp := fun vs H Q _ => ∃ (a : Addr) (r : Rule) (n : Int), vs = [.ref a, .int n] ∧ H a = some (.tup r.vs) ∧ r.Ok ∧ 1 ≤ n ∧ n ≤ 5 ∧ ∀ H', Same H H' → Q (.int (waitOf r n)) H'
theorem k_l_wait (T : Txt K mg) : Kal P w K mg base CX0 1 "_law_wait" spLWait := by
  refine kal_of T.f_l_wait T.g_l_wait sc_l_wait (fun _ _ _ _ _ _ us hl => match us, hl with | [_, _], _ => rfl) (fun vs H Q E ⟨_, _, _, h, _⟩ => by rw [h] <;> rfl) fun cdv A outer s H vs Q E hr ⟨a, r, n, e, ha, ok, n1, n5, q⟩ => ?_
  subst e
  refine ⟨_, PSs.nox (pss_cons (ps_set (i := 2) sc_l_wait.nd rfl (Or.inl rfl) (pe_ix ix_tup (pv 0) pe_int (fun _ _ => rfl)))
    (pss_cons (ps_for PassesOwn.never rfl (pi_range2 (by rfl) T.n_range (pa_cons pe_int (pa_cons (pv 1) pa_nil))) (pg_name (i := 3) sc_l_wait.nd rfl (Or.inl rfl))
      (pss_one (ps_set (i := 2) sc_l_wait.nd rfl (Or.inl rfl) (pe_op op_mul (pv 2) (pe_ix ix_tup (pv 0) pe_int (fun _ _ => rfl))))))
    (pss_one (ps_ret (pe_ix ix_list (b_sortedI T.n_sorted (pa_cons (pe_lst (pa_cons (pv 2) (pa_cons (pe_ix ix_tup (pv 0) pe_int (fun _ _ => rfl)) pa_nil))) pa_nil)) pe_int (fun _ _ => rfl)))))), ?_⟩
  refine ⟨_, rfl, _, _, _, _, rfl, rfl, sqT ha, rfl, ?_⟩
  refine ⟨_, rfl, _, _, rfl, ⟨by omega, by omega, by omega, by omega⟩, ?_⟩
  refine for_it walk_range (fun i σ H' => H' = H ∧ ∃ v, σ = [some (.ref a), some (.int n), some (.int (pw r i)), v]) ⟨rfl, _, rfl⟩ (fun _ _ _ _ _ => trivial) ?_ ?_
  · rintro i x σ H1 H' hi ⟨rfl, v, rfl⟩ ⟨rfl, rfl⟩
    have b := pw_small ok (n := i) (by omega)
    refine ⟨_, rfl, _, rfl, _, _, _, _, rfl, rfl, sqT ha, rfl, _, _, rfl, rfl, .inl ⟨by omega, by omega⟩, ?_⟩
    exact ⟨rfl, _, rfl⟩
  · rintro σ H1 ⟨rfl, v, rfl⟩
    refine ⟨_, rfl, _, rfl, _, _, _, _, rfl, rfl, sqT ha, rfl, by show 2 ≤ sizeLine; decide, fun p hp => ?_⟩
    refine ⟨p, [pw r (n - 1).toNat, r.t], rfl, sqL upd_same, fun ns t pm so ht => ?_⟩
    have hd := sorted2 pm so
    refine ⟨t, _, _, .int (min (pw r (n - 1).toNat) r.t), rfl, rfl, sqL upd_same, atI_nat (j := 0) (by rw [List.getElem?_map, hd] <;> rfl), ?_⟩
    have e : waitOf r n = min (pw r (n - 1).toNat) r.t := by rw [waitOf_pw ok, Int.min_comm]
    rw [← e]
    exact q _ ((same_new hp).trans (same_new ht))
end
end T
end
section
namespace T
open PySem PySem.Spec PyProof.Rows L2 Tr LamX
def endC (q : Cal) (x : Str) : Cal := { q with word := if x = "good" then "done" else "put by" }
def answerS (S : St) (i : Nat) (q : Cal) (x : Str) : St := if x = "later" then failS S i q else sayS { S with calls := S.calls.set i (endC q x) } ((1 + i : Nat) : Int) (endC q x).word
def isWord : V → Bool
  | .str x => decide (x = ("good" : Str)) || (decide (x = ("later" : Str)) || decide (x = ("never" : Str)))
  | _ => false
def goS (S : St) (i : Nat) (q : Cal) : St := sayS { S with calls := S.calls.set i { q with word := "waits", fails := 0, time := S.now } } ((1 + i : Nat) : Int) "sent"
def dropS (S : St) (i : Nat) (q : Cal) : St := sayS { S with calls := S.calls.set i { q with word := "gone" } } ((1 + i : Nat) : Int) "gone"
def changeS (S : St) (i : Nat) (q : Cal) (g : Str) : St := { S with calls := S.calls.set i { q with goal := g } }
section
variable {P : Program} {w : World} {K : PySem.W.Frag} {mg : Str → Option Value} {base : Heap}
theorem T_WORDS (T : Txt K mg) (H : Hp) : SqT K H (He.ga K "WORDS_callers") [.str "good", .str "later", .str "never"] := tupAt_ok (ex3 T.m) H
def spAttempt (K : PySem.W.Frag) : Sp := fun vs H Q _ => ∃ (p : Addr) (L : Lay) (S : St), vs = [.ref p] ∧ Rep K H p L S ∧ Wf S ∧ S.log.length ≤ 10000000 ∧ (dueL S = [] → ∀ H', Same H H' → Q .non H') ∧
  (∀ (i : Nat) rest q, dueL S = ((1 + i : Nat) : Int) :: rest → S.calls[i]? = some q → ∀ H' L' t, Rep K H' p L' (beginS S i q) → Step p L H L' H' → H t = none → H' t = some (tryT S i q) → Q (.ref t) H')
theorem m_attempt (T : Txt K mg) : Mal P w K mg base CX0 6 (He.ga K "Caller") "attempt" (spAttempt K) := by
  refine mal_of T.f_Caller_attempt T.c_Caller T.m_Caller_attempt sc_Caller_attempt (fun _ _ _ _ _ _ us hl => match us, hl with | [_], _ => rfl) (fun vs H Q E ⟨_, _, _, h, _⟩ => by rw [h] <;> rfl) fun cdv A outer s H vs Q E hr ⟨p, L, S, e, r, wf, lg, q1, q2⟩ => ?_
  subst e
  have nd := sc_Caller_attempt.nd
  refine ⟨_, pss_cons (ps_set (i := 1) nd rfl (Or.inl rfl) (pe_m0 (E := E0) (m_due T) hr (by decide) pass0 (pv 0)))
    (pss_cons (ps_if (pt_cmpR (op_eqD hr.units) (pv 1) (pe_lst pa_nil) (nomark _)) (pss_one (ps_ret pe_non)) pss_nil)
    (pss_one (ps_ret (pe_m (E := E0) (m_begin T) hr (by decide) pass0 (pv 0) (pa_cons (pe_ix ix_list (pv 1) pe_int (fun _ _ => rfl)) pa_nil))))), ?_⟩
  obtain ⟨dx, hp⟩ := id r.ins
  refine ⟨_, rfl, p, dx, _, rfl, hp, rfl, p, L, S, rfl, r, wf, fun H1 D s1 hD eD => ⟨_, rfl, by show 0 ≤ sizeLine; decide, fun D2 hD2 => ?_⟩⟩
  have s2 := same_new (o := HO.lst []) hD2
  refine ⟨_, _, dp_lints (s2 _ _ eD), .lst (sqL upd_same) .nil, (sh_ints _).shaped, (sh_ints []).shaped, _, rfl, ?_⟩
  rw [eqv_nil]
  have s12 := s1.trans s2
  cases e : dueL S with
  | nil => exact q1 e _ s12
  | cons a rest =>
    have hm : a ∈ dueL S := by rw [e]; exact List.mem_cons_self
    unfold dueL at hm
    obtain ⟨i, hi, rfl⟩ := List.mem_map.mp hm
    have hi' : i < S.calls.length := List.mem_range.mp (List.mem_filter.mp hi).1
    have hqi : S.calls[i]? = some S.calls[i] := List.getElem?_eq_getElem hi'
    rw [e] at eD
    refine ⟨_, rfl, p, dx, _, rfl, s12 _ _ hp, rfl, _, rfl, _, _, _, _, rfl, rfl, sqL (s2 _ _ eD), atI_nat (j := 0) rfl, p, L, S, i, _, rfl, r.same s12, hqi, wf, lg, fun H3 L3 t r3 st3 ht et => q2 i rest _ e hqi H3 L3 t r3 ((Step.refl_same s12).trans st3) ?_ et⟩
    cases e' : H t with
    | none => rfl
    | some o =>
      rw [s12 t o e'] at ht
      cases ht
def spAnswer (K : PySem.W.Frag) : Sp := fun vs H Q E => ∃ (p : Addr) (L : Lay) (S : St) (x y : V), vs = [.ref p, x, y] ∧ Rep K H p L S ∧ Wf S ∧ S.log.length ≤ 10000000 ∧ Thing K H x ∧ Thing K H y ∧
  ((isC x 1 S.calls.length = false ∨ isWord y = false ∨ ∃ (i : Nat) (q : Cal), x = .int ((1 + i : Nat) : Int) ∧ S.calls[i]? = some q ∧ q.word ≠ "tried") → E (.ref (He.ga K "BadCall")) none H) ∧
  (∀ (i : Nat) q (z : Str), x = .int ((1 + i : Nat) : Int) → S.calls[i]? = some q → y = .str z → isWord y = true → q.word = "tried" → ∀ H' L', Rep K H' p L' (answerS S i q z) → Step p L H L' H' → Q .non H')
def spAnswerC (K : PySem.W.Frag) : Sp := fun vs H Q E => ∃ (p : Addr) (L : Lay) (S : St) (x y : V), vs = [.ref p, x, y] ∧ Rep K H p L S ∧ Wf S ∧ S.log.length ≤ 10000000 ∧ Thing K H x ∧ Thing K H y ∧
  ((isC x 1 S.calls.length = false ∨ isWord y = false ∨ ∃ (i : Nat) (q : Cal), x = .int ((1 + i : Nat) : Int) ∧ S.calls[i]? = some q ∧ q.word ≠ "tried") → E (.ref (He.ga K "BadCall")) none H) ∧
  (∀ (i : Nat) q (z : Str), x = .int ((1 + i : Nat) : Int) → S.calls[i]? = some q → y = .str z → isWord y = true → q.word = "tried" → ∀ H' L', L'.cs = L.cs → Rep K H' p L' (answerS S i q z) → Step p L H L' H' → Q .non H')
theorem m_answerC (T : Txt K mg) : Mal P w K mg base (NX P w) 3 (He.ga K "Caller") "answer" (spAnswerC K) := by
  refine mal_of T.f_Caller_answer T.c_Caller T.m_Caller_answer sc_Caller_answer (fun _ _ _ _ _ _ us hl => match us, hl with | [_, _, _], _ => rfl) (fun vs H Q E ⟨_, _, _, _, _, h, _⟩ => by rw [h] <;> rfl) fun cdv A outer s H vs Q E hr ⟨p, L, S, x, y, e, r, wf, lg, tx, ty, q1, q2⟩ => ?_
  subst e
  have nd := sc_Caller_answer.nd
  obtain ⟨x1, x2, x3, x4⟩ := He.exc_ok T.e_BadCall
  refine ⟨_, pss_cons (ps_set (i := 3) nd rfl (Or.inl rfl) (pe_m (E := E) (m_call T) hr (by decide) (L2N.passes_call (L2N.takes_of rfl rfl rfl rfl) fun _ _ _ _ h => h) (pv 0) (pa_cons (pv 1) pa_nil)))
    (pss_cons (ps_if (PW.pt (pw_or (pt_not (pt_val (b_isi T.n_isinstance (pa_cons (pv 2) (pa_cons (pe_bltn (v := .ty "str") (by rfl) T.n_str (by decide +kernel) rfl) pa_nil))))) (pw_or (pt_cmpR op_notIn_seq (pv 2) (pe_glob (v := .ref (He.ga K "WORDS_callers")) (by rfl) T.g_WORDS_callers rfl) rfl) (pw_or1 (pt_cmpR op_ne (pe_fld (pv 3) rfl) pe_str (nomark _))))))
      (pss_one (L2N.ps_raise rfl (L2N.takes_of rfl rfl rfl rfl) (L2N.pmk_own PySem.F.excBase_ValueError x1 T.g_BadCall x2 (raises_own x3 x4) (by rfl)))) pss_nil)
    (pss_one (ps_if (pt_cmpR op_eq (pv 2) pe_str (nomark _)) (pss_one (ps_expr (pe_m (E := E0) (m_fail T) hr (by decide) pass0 (pv 0) (pa_cons (pv 1) pa_nil))))
      (pss_cons (ps_fld (pv 3) (pe_ifExp (pt_cmpR op_eq (pv 2) pe_str (nomark _)) pe_str pe_str) rfl) (pss_one (ps_expr (pe_m (E := E0) (m_say T) hr (by decide) pass0 (pv 0) (pa_cons (pv 1) (pa_cons (pe_fld (pv 3) rfl) pa_nil))))))))), ?_⟩
  obtain ⟨dx, hp⟩ := id r.ins
  refine ⟨_, rfl, p, dx, _, rfl, hp, rfl, _, rfl, p, L, S, x, rfl, r, tx, fun z => q1 (.inl z), fun i c q ex hci hq => ?_⟩
  subst ex
  obtain ⟨cd, hc⟩ := r.hc i c q hci hq
  have hcm := List.mem_of_getElem? hci
  cases ty with
  | non => exact ⟨_, rfl, _, _, _, _, false, rfl, .ty "str", .base .non, kit_ty (by decide +kernel), _, rfl, q1 (.inr (.inl rfl))⟩
  | bl b => exact ⟨_, rfl, _, _, _, _, false, rfl, .ty "str", .base (.bl b), kit_ty (by decide +kernel), _, rfl, q1 (.inr (.inl rfl))⟩
  | int b => exact ⟨_, rfl, _, _, _, _, false, rfl, .ty "str", .base (.int b), kit_ty (by decide +kernel), _, rfl, q1 (.inr (.inl rfl))⟩
  | lst e => exact ⟨_, rfl, _, _, _, _, false, rfl, .ty "str", .base (.lst e), kit_ty (by decide +kernel), _, rfl, q1 (.inr (.inl rfl))⟩
  | tup e => exact ⟨_, rfl, _, _, _, _, false, rfl, .ty "str", .base (.tup e), kit_ty (by decide +kernel), _, rfl, q1 (.inr (.inl rfl))⟩
  | str z =>
    have ein : inV (.str z) [V.str "good", V.str "later", V.str "never"] = isWord (.str z) := by
      have e := inV_strs z ["good", "later", "never"]
      rw [show [V.str "good", V.str "later", V.str "never"] = (["good", "later", "never"] : List Str).map V.str from rfl, e]
      show _ = (decide (z = ("good" : Str)) || (decide (z = ("later" : Str)) || decide (z = ("never" : Str))))
      by_cases h1 : z = ("good" : Str) <;> by_cases h2 : z = ("later" : Str) <;> by_cases h3 : z = ("never" : Str) <;> simp [h1, h2, h3]
    refine ⟨_, rfl, _, _, _, _, true, rfl, .ty "str", .base (.str z), kit_ty (by decide +kernel), _, rfl, _, rfl, _, _, rfl, .inr (T_WORDS T H), rfl, rfl, !isWord (.str z), congrArg (fun b => V.bl (!b)) ein, ?_⟩
    cases ew : isWord (.str z) with
    | false => exact q1 (.inr (.inl ew))
    | true =>
      refine ⟨_, rfl, c, _, cd, _, _, rfl, hc, T.c_Call, T.a_Call_word, rfl, rfl, _, rfl, ?_⟩
      rw [str_dec]
      by_cases ht : q.word = "tried"
      · rw [decide_eq_true ht]
        have fin := q2 i q z rfl hq rfl ew ht
        have f0 := wf.fails q (List.mem_of_getElem? hq)
        refine ⟨_, rfl, rfl, _, rfl, ?_⟩
        rw [str_dec]
        by_cases hl : z = "later"
        · rw [decide_eq_true hl]
          refine ⟨_, rfl, p, dx, _, rfl, hp, rfl, _, rfl, p, L, S, i, q, rfl, r, hq, wf.ok, f0, lg, fun H1 L1 e1 r1 st1 => fin H1 L1 e1 ?_ st1⟩
          unfold answerS
          rw [if_pos hl]
          exact r1
        · rw [decide_eq_false hl]
          have ec : endC q z = { q with word := if z = "good" then "done" else "put by" } := rfl
          refine ⟨_, rfl, rfl, _, rfl, ?_⟩
          rw [str_dec]
          have go : ∀ x : Str, x = (endC q z).word → Rep K (upd H c (.ins (He.ga K "Call") cd (callFs { q with word := x }))) p L { S with calls := S.calls.set i (endC q z) } := fun x hx => by
            rw [hx]
            exact r.obj (dx := cd) hci (endC q z)
          have fin2 : ∀ H3 ts3, Rep K H3 p { L with ts := ts3 } (sayS { S with calls := S.calls.set i (endC q z) } ((1 + i : Nat) : Int) (endC q z).word) → Step p L H { L with ts := ts3 } H3 → Q .non H3 := fun H3 ts3 r3 st3 => by
            refine fin H3 { L with ts := ts3 } rfl ?_ st3
            unfold answerS
            rw [if_neg hl]
            exact r3
          by_cases hg : z = "good"
          · rw [decide_eq_true hg]
            have hx : ("done" : Str) = (endC q z).word := by rw [ec, if_pos hg]
            have r1 := go _ hx
            obtain ⟨dx1, hp1⟩ := id r1.ins
            refine ⟨_, rfl, c, _, cd, _, rfl, hc, T.c_Call, T.a_Call_word, by show 8 < 1000; decide, ?_⟩
            refine ⟨_, rfl, p, dx1, _, rfl, hp1, rfl, _, rfl, _, rfl, c, _, cd, _, _, rfl, upd_same, T.c_Call, T.a_Call_word, rfl, p, L, _, _, "done", rfl, r1, lg, fun H3 ts3 r3 st3 => fin2 H3 ts3 (by rw [← hx]; exact r3) ((step_obj (Same.refl H) hcm).trans st3)⟩
          · rw [decide_eq_false hg]
            have hx : ("put by" : Str) = (endC q z).word := by rw [ec, if_neg hg]
            have r1 := go _ hx
            obtain ⟨dx1, hp1⟩ := id r1.ins
            refine ⟨_, rfl, c, _, cd, _, rfl, hc, T.c_Call, T.a_Call_word, by show 8 < 1000; decide, ?_⟩
            refine ⟨_, rfl, p, dx1, _, rfl, hp1, rfl, _, rfl, _, rfl, c, _, cd, _, _, rfl, upd_same, T.c_Call, T.a_Call_word, rfl, p, L, _, _, "put by", rfl, r1, lg, fun H3 ts3 r3 st3 => fin2 H3 ts3 (by rw [← hx]; exact r3) ((step_obj (Same.refl H) hcm).trans st3)⟩
      · rw [decide_eq_false ht]
        exact q1 (.inr (.inr ⟨i, q, rfl, hq, ht⟩))
theorem m_answer (T : Txt K mg) : Mal P w K mg base (NX P w) 3 (He.ga K "Caller") "answer" (spAnswer K) := by
  obtain ⟨f, fd, ps, F, r⟩ := (m_answerC T : Mal P w K mg base (NX P w) 3 (He.ga K "Caller") "answer" (spAnswerC K)).ex
  exact ⟨f, fd, ps, F.imp fun vs H Q E ⟨p, L, S, x, y, e, r, wf, lg, tx, ty, q1, q2⟩ => ⟨p, L, S, x, y, e, r, wf, lg, tx, ty, q1, fun i q z a b c d e H' L' _ => q2 i q z a b c d e H' L'⟩, r⟩
end
end T
end
section
namespace T
open PySem PySem.Spec PyProof.Rows L2 Tr LamX
/-- it may be dropped, changed -/
def loose_ (x : Str) : Bool := decide (x = ("waits" : Str)) || decide (x = ("put by" : Str))
section
variable {P : Program} {w : World} {K : PySem.W.Frag} {mg : Str → Option Value} {base : Heap}
def spDeed (f : Str → Bool) (g : St → Nat → Cal → St) (K : PySem.W.Frag) : Sp := fun vs H Q E => ∃ (p : Addr) (L : Lay) (S : St) (x : V), vs = [.ref p, x] ∧ Rep K H p L S ∧ S.log.length ≤ 10000000 ∧ Thing K H x ∧
  ((isC x 1 S.calls.length = false ∨ ∃ (i : Nat) (q : Cal), x = .int ((1 + i : Nat) : Int) ∧ S.calls[i]? = some q ∧ f q.word = false) → ∀ H', Same H H' → E (.ref (He.ga K "BadCall")) none H') ∧
  (∀ (i : Nat) q, x = .int ((1 + i : Nat) : Int) → S.calls[i]? = some q → f q.word = true → ∀ H' L', Rep K H' p L' (g S i q) → Step p L H L' H' → Q .non H')
end
end T
end
section
namespace T
open PySem PySem.Spec PyProof.Rows L2 Tr LamX
section
variable {P : Program} {w : World} {K : PySem.W.Frag} {mg : Str → Option Value} {base : Heap}
theorem m_go_on (T : Txt K mg) : Mal P w K mg base (NX P w) 3 (He.ga K "Caller") "go_on" (spDeed (fun x => decide (x = ("put by" : Str))) goS K) := by
  refine mal_of T.f_Caller_go_on T.c_Caller T.m_Caller_go_on sc_Caller_go_on (fun _ _ _ _ _ _ us hl => match us, hl with | [_, _], _ => rfl) (fun vs H Q E ⟨_, _, _, _, h, _⟩ => by rw [h] <;> rfl) fun cdv A outer s H vs Q E hr ⟨p, L, S, x, e, r, lg, tx, q1, q2⟩ => ?_
  subst e
  have nd := sc_Caller_go_on.nd
  obtain ⟨x1, x2, x3, x4⟩ := He.exc_ok T.e_BadCall
  refine ⟨_, pss_cons (ps_set (i := 2) nd rfl (Or.inl rfl) (pe_m (E := E) (m_call T) hr (by decide) (L2N.passes_call (L2N.takes_of rfl rfl rfl rfl) fun _ _ _ _ h => h) (pv 0) (pa_cons (pv 1) pa_nil)))
    (pss_cons (ps_if (pt_cmpR op_ne (pe_fld (pv 2) rfl) pe_str (nomark _)) (pss_one (L2N.ps_raise rfl (L2N.takes_of rfl rfl rfl rfl) (L2N.pmk_own PySem.F.excBase_ValueError x1 T.g_BadCall x2 (raises_own x3 x4) (by rfl)))) pss_nil)
    (pss_cons (ps_fld (pv 2) pe_str rfl) (pss_cons (ps_fld (pv 2) pe_int rfl) (pss_cons (ps_fld (pv 2) (pe_fld (pv 0) rfl) rfl)
    (pss_one (ps_expr (pe_m (E := E0) (m_say T) hr (by decide) pass0 (pv 0) (pa_cons (pv 1) (pa_cons pe_str pa_nil))))))))), ?_⟩
  obtain ⟨dx, hp⟩ := id r.ins
  refine ⟨_, rfl, p, dx, _, rfl, hp, rfl, _, rfl, p, L, S, x, rfl, r, tx, fun z => q1 (.inl z) H (Same.refl H), fun i c q ex hci hq => ?_⟩
  subst ex
  obtain ⟨cd, hc⟩ := r.hc i c q hci hq
  have hcm := List.mem_of_getElem? hci
  refine ⟨_, rfl, c, _, cd, _, _, rfl, hc, T.c_Call, T.a_Call_word, rfl, rfl, _, rfl, ?_⟩
  rw [str_dec]
  by_cases hw : q.word = ("put by" : Str)
  · rw [decide_eq_true hw]
    refine ⟨_, rfl, c, _, cd, _, rfl, hc, T.c_Call, T.a_Call_word, by show 8 < 1000; decide, ?_⟩
    have r1 := r.obj (dx := cd) hci { q with word := "waits" }
    have st1 : Step p L H L (upd H c (.ins (He.ga K "Call") cd (callFs { q with word := "waits" }))) := step_obj (Same.refl H) hcm
    refine ⟨_, rfl, c, _, cd, _, rfl, upd_same, T.c_Call, T.a_Call_fails, by show 8 < 1000; decide, ?_⟩
    have r2 := r1.obj (dx := cd) hci { q with word := "waits", fails := 0 }
    have st2 := step_upd (o := .ins (He.ga K "Call") cd (callFs { q with word := "waits", fails := 0 })) st1 hcm
    simp only [List.set_set] at r2
    obtain ⟨dx2, hp2⟩ := id r2.ins
    refine ⟨_, rfl, p, _, dx2, _, _, rfl, hp2, T.c_Caller, T.a_Caller_clock, rfl, _, rfl, c, _, cd, _, rfl, upd_same, T.c_Call, T.a_Call_time, by show 8 < 1000; decide, ?_⟩
    have r3 := r2.obj (dx := cd) hci { q with word := "waits", fails := 0, time := S.now }
    have st3 := step_upd (o := .ins (He.ga K "Call") cd (callFs { q with word := "waits", fails := 0, time := S.now })) st2 hcm
    simp only [List.set_set] at r3
    obtain ⟨dx3, hp3⟩ := id r3.ins
    exact ⟨_, rfl, p, dx3, _, rfl, hp3, rfl, _, rfl, p, L, _, _, "sent", rfl, r3, lg, fun H4 ts r4 st4 => q2 i q rfl hq (decide_eq_true hw) H4 _ r4 (st3.trans st4)⟩
  · rw [decide_eq_false hw]
    exact q1 (.inr ⟨i, q, rfl, hq, decide_eq_false hw⟩) H (Same.refl H)
end
end T
end
section
namespace T
open PySem PySem.Spec PyProof.Rows L2 Tr LamX
section
variable {P : Program} {w : World} {K : PySem.W.Frag} {mg : Str → Option Value} {base : Heap}
theorem m_drop (T : Txt K mg) : Mal P w K mg base (NX P w) 3 (He.ga K "Caller") "drop" (spDeed loose_ dropS K) := by
  refine mal_of T.f_Caller_drop T.c_Caller T.m_Caller_drop sc_Caller_drop (fun _ _ _ _ _ _ us hl => match us, hl with | [_, _], _ => rfl) (fun vs H Q E ⟨_, _, _, _, h, _⟩ => by rw [h] <;> rfl) fun cdv A outer s H vs Q E hr ⟨p, L, S, x, e, r, lg, tx, q1, q2⟩ => ?_
  subst e
  have nd := sc_Caller_drop.nd
  obtain ⟨x1, x2, x3, x4⟩ := He.exc_ok T.e_BadCall
  refine ⟨_, pss_cons (ps_set (i := 2) nd rfl (Or.inl rfl) (pe_m (E := E) (m_call T) hr (by decide) (L2N.passes_call (L2N.takes_of rfl rfl rfl rfl) fun _ _ _ _ h => h) (pv 0) (pa_cons (pv 1) pa_nil)))
    (pss_cons (ps_if (pt_cmpR op_notIn_seq (pe_fld (pv 2) rfl) (pe_tup (pa_cons pe_str (pa_cons pe_str pa_nil))) rfl) (pss_one (L2N.ps_raise rfl (L2N.takes_of rfl rfl rfl rfl) (L2N.pmk_own PySem.F.excBase_ValueError x1 T.g_BadCall x2 (raises_own x3 x4) (by rfl)))) pss_nil)
    (pss_cons (ps_fld (pv 2) pe_str rfl)
    (pss_one (ps_expr (pe_m (E := E0) (m_say T) hr (by decide) pass0 (pv 0) (pa_cons (pv 1) (pa_cons pe_str pa_nil))))))), ?_⟩
  obtain ⟨dx, hp⟩ := id r.ins
  refine ⟨_, rfl, p, dx, _, rfl, hp, rfl, _, rfl, p, L, S, x, rfl, r, tx, fun z => q1 (.inl z) H (Same.refl H), fun i c q ex hci hq => ?_⟩
  subst ex
  obtain ⟨cd, hc⟩ := r.hc i c q hci hq
  have hcm := List.mem_of_getElem? hci
  refine ⟨_, rfl, c, _, cd, _, _, rfl, hc, T.c_Call, T.a_Call_word, rfl, by show 2 ≤ sizeLine; decide, fun t ht => ?_⟩
  have s1 := same_new (o := HO.tup [.str "waits", .str "put by"]) ht
  refine ⟨t, _, rfl, .inr (sqT upd_same), rfl, rfl, !loose_ q.word, congrArg (fun b => V.bl (!b)) (in2 _ _ _), ?_⟩
  cases hw : loose_ q.word with
  | true =>
    refine ⟨_, rfl, c, _, cd, _, rfl, s1 _ _ hc, T.c_Call, T.a_Call_word, by show 8 < 1000; decide, ?_⟩
    have r1 := (r.same s1).obj (dx := cd) hci { q with word := "gone" }
    have st1 := step_obj (p := p) (o := .ins (He.ga K "Call") cd (callFs { q with word := "gone" })) s1 hcm
    obtain ⟨dx1, hp1⟩ := id r1.ins
    exact ⟨_, rfl, p, dx1, _, rfl, hp1, rfl, _, rfl, p, L, _, _, "gone", rfl, r1, lg, fun H4 ts r4 st4 => q2 i q rfl hq hw H4 _ r4 (st1.trans st4)⟩
  | false => exact q1 (.inr ⟨i, q, rfl, hq, hw⟩) _ s1
end
end T
end
section
namespace T
open PySem PySem.Spec PyProof.Rows L2 Tr LamX
section
variable {P : Program} {w : World} {K : PySem.W.Frag} {mg : Str → Option Value} {base : Heap}
def spChange (K : PySem.W.Frag) : Sp := fun vs H Q E => ∃ (p : Addr) (L : Lay) (S : St) (x y : V), vs = [.ref p, x, y] ∧ Rep K H p L S ∧ Thing K H x ∧ Thing K H y ∧ Short y ∧
  ((isC x 1 S.calls.length = false) → ∀ H', Same H H' → E (.ref (He.ga K "BadCall")) none H') ∧
  (isC x 1 S.calls.length = true → inRoads S y = false → ∀ H', Same H H' → E (.ref (He.ga K "BadName")) none H') ∧
  (∀ (i : Nat) (q : Cal), x = .int ((1 + i : Nat) : Int) → S.calls[i]? = some q → inRoads S y = true → loose_ q.word = false → ∀ H', Same H H' → E (.ref (He.ga K "BadCall")) none H') ∧
  (∀ (i : Nat) q g, x = .int ((1 + i : Nat) : Int) → S.calls[i]? = some q → y = .str g → inRoads S y = true → loose_ q.word = true → ∀ H' L', Rep K H' p L' (changeS S i q g) → Step p L H L' H' → Q .non H')
theorem m_change (T : Txt K mg) : Mal P w K mg base (NX P w) 4 (He.ga K "Caller") "change" (spChange K) := by
  refine mal_of T.f_Caller_change T.c_Caller T.m_Caller_change sc_Caller_change (fun _ _ _ _ _ _ us hl => match us, hl with | [_, _, _], _ => rfl) (fun vs H Q E ⟨_, _, _, _, _, h, _⟩ => by rw [h] <;> rfl) fun cdv A outer s H vs Q E hr ⟨p, L, S, x, y, e, r, tx, ty, sy, q1, q2, q3, q4⟩ => ?_
  subst e
  have nd := sc_Caller_change.nd
  obtain ⟨x1, x2, x3, x4⟩ := He.exc_ok T.e_BadCall
  refine ⟨_, pss_cons (ps_set (i := 3) nd rfl (Or.inl rfl) (pe_m (E := E) (m_call T) hr (by decide) (L2N.passes_call (L2N.takes_of rfl rfl rfl rfl) fun _ _ _ _ h => h) (pv 0) (pa_cons (pv 1) pa_nil)))
    (pss_cons (ps_expr (pe_m (E := E) (m_need_address T) hr (by decide) (L2N.passes_call (L2N.takes_of rfl rfl rfl rfl) fun _ _ _ _ h => h) (pv 0) (pa_cons (pv 2) pa_nil)))
    (pss_cons (ps_if (pt_cmpR op_notIn_seq (pe_fld (pv 3) rfl) (pe_tup (pa_cons pe_str (pa_cons pe_str pa_nil))) rfl) (pss_one (L2N.ps_raise rfl (L2N.takes_of rfl rfl rfl rfl) (L2N.pmk_own PySem.F.excBase_ValueError x1 T.g_BadCall x2 (raises_own x3 x4) (by rfl)))) pss_nil)
    (pss_one (ps_fld (pv 3) (pv 2) rfl)))), ?_⟩
  obtain ⟨dx, hp⟩ := id r.ins
  refine ⟨_, rfl, p, dx, _, rfl, hp, rfl, _, rfl, p, L, S, x, rfl, r, tx, fun z => q1 z H (Same.refl H), fun i c q ex hci hq => ?_⟩
  subst ex
  have hcm := List.mem_of_getElem? hci
  have hil : i < S.calls.length := (List.getElem?_eq_some_iff.mp hq).1
  have ec : isC (.int ((1 + i : Nat) : Int)) 1 (S.calls.length : Int) = true := by
    show (decide ((1 : Int) ≤ ((1 + i : Nat) : Int)) && decide (((1 + i : Nat) : Int) ≤ (S.calls.length : Int))) = true
    rw [decide_eq_true (by omega), decide_eq_true (by omega)]
    rfl
  refine ⟨_, rfl, p, dx, _, rfl, hp, rfl, _, rfl, p, L, S, y, rfl, r, ty, sy, fun ey H1 s1 => ?_, fun ey H1 s1 => q2 ec ey H1 s1⟩
  obtain ⟨g, rfl⟩ : ∃ a, y = .str a := by
    cases y with
    | str a => exact ⟨a, rfl⟩
    | _ => cases ey
  have r1 := r.same s1
  obtain ⟨cd, hc⟩ := r1.hc i c q hci hq
  refine ⟨_, rfl, c, _, cd, _, _, rfl, hc, T.c_Call, T.a_Call_word, rfl, by show 2 ≤ sizeLine; decide, fun t ht => ?_⟩
  have s2 := same_new (o := HO.tup [.str "waits", .str "put by"]) ht
  refine ⟨t, _, rfl, .inr (sqT upd_same), rfl, rfl, !loose_ q.word, congrArg (fun b => V.bl (!b)) (in2 _ _ _), ?_⟩
  cases hw : loose_ q.word with
  | true =>
    refine ⟨_, rfl, _, rfl, c, _, cd, _, rfl, s2 _ _ hc, T.c_Call, T.a_Call_goal, by show 8 < 1000; decide, ?_⟩
    exact q4 i q g rfl hq rfl ey hw _ L ((r1.same s2).obj (dx := cd) hci { q with goal := g }) (step_obj (s1.trans s2) hcm)
  | false => exact q3 i q rfl hq ey hw _ (s1.trans s2)
end
end T
end
section
namespace T
open PySem PySem.Spec PyProof.Rows L2 Tr LamX
section
variable {P : Program} {w : World} {K : PySem.W.Frag} {mg : Str → Option Value} {base : Heap}
/-- a caller, new -/
def spInit (K : PySem.W.Frag) : Sp := fun vs H Q E => ∃ (p dx : Addr) (x : V) (ok : Bool), vs = [.ref p, x] ∧ H p = some (.ins (He.ga K "Caller") dx []) ∧ RuleIs K H x ok ∧ (ok = false → ∀ H', Same H H' → E (.ref (He.ga K "BadRule")) none H') ∧
  (ok = true → ∃ (a : Addr) (r : Rule), x = .ref a ∧ H a = some (.tup r.vs) ∧ ∀ H' L', Rep K H' p L' ⟨r, 0, [], [], []⟩ → Fr (fun c => c = p) H H' → (∀ c, foot p L' c → c = p ∨ H c = none) → Q .non H')
theorem n_Caller (T : Txt K mg) : Nal P w K mg base (NX P w) 3 "Caller" (He.ga K "Caller") (spInit K) := by
  refine nal_of T.f_CallerX_initX T.k_Caller T.g_Caller sc_CallerX_initX (fun _ _ _ _ _ _ us hl => match us, hl with | [_, _], _ => rfl) (fun vs H Q E ⟨_, _, _, _, h, _⟩ => by rw [h] <;> rfl) fun cdv A outer s H vs Q E hr ⟨p, dx, x, ok, e, hp, hx, q1, q2⟩ => ?_
  subst e
  refine ⟨_, pss_cons (ps_expr (pe_k (E := E) (k_need_rule T) hr (by decide) (L2N.passes_call (L2N.takes_of rfl rfl rfl rfl) fun _ _ _ _ h => h) (pa_cons (pv 1) pa_nil)))
    (pss_cons (ps_fld (pv 0) (pv 1) rfl) (pss_cons (ps_fld (pv 0) pe_int rfl) (pss_cons (ps_fld (pv 0) pe_dnewK rfl) (pss_cons (ps_fld (pv 0) pe_dnewK rfl) (pss_one (ps_fld (pv 0) (pe_lst pa_nil) rfl)))))), ?_⟩
  refine ⟨_, rfl, x, ok, rfl, hx, fun eo H1 s1 => ?_, fun eo H1 s1 => q1 eo H1 s1⟩
  obtain ⟨a, r, rfl, ha, q⟩ := q2 eo
  have hp1 := s1 _ _ hp
  have ha1 := s1 _ _ ha
  refine ⟨_, rfl, _, rfl, p, _, dx, _, rfl, hp1, T.c_Caller, T.a_Caller_rule, by show 0 < 1000; decide, ?_⟩
  refine ⟨_, rfl, p, _, dx, _, rfl, upd_same, T.c_Caller, T.a_Caller_clock, by show 1 < 1000; decide, ?_⟩
  refine fun dr hdr => ?_
  have n1 : dr ≠ p := fun z => by
    rw [z, upd_same] at hdr
    cases hdr
  have f1 : H1 dr = none := by
    rw [upd_ne n1, upd_ne n1] at hdr
    exact hdr
  refine ⟨_, rfl, p, _, dx, _, rfl, by rw [upd_ne n1.symm]; exact upd_same, T.c_Caller, T.a_Caller_roads, by show 2 < 1000; decide, ?_⟩
  refine fun dc hdc => ?_
  have n2 : dc ≠ p := fun z => by
    rw [z, upd_same] at hdc
    cases hdc
  rw [upd_ne n2] at hdc
  have n3 : dc ≠ dr := fun z => by
    rw [z, upd_same] at hdc
    cases hdc
  have f2 : H1 dc = none := by
    rw [upd_ne n3, upd_ne n2, upd_ne n2] at hdc
    exact hdc
  refine ⟨_, rfl, p, _, dx, _, rfl, by rw [upd_ne n2.symm]; exact upd_same, T.c_Caller, T.a_Caller_calls, by show 3 < 1000; decide, ?_⟩
  refine ⟨by show 0 ≤ sizeLine; decide, fun dl hdl => ?_⟩
  have n4 : dl ≠ p := fun z => by
    rw [z, upd_same] at hdl
    cases hdl
  rw [upd_ne n4] at hdl
  have n5 : dl ≠ dc := fun z => by
    rw [z, upd_same] at hdl
    cases hdl
  rw [upd_ne n5, upd_ne n4] at hdl
  have n6 : dl ≠ dr := fun z => by
    rw [z, upd_same] at hdl
    cases hdl
  have f3 : H1 dl = none := by
    rw [upd_ne n6, upd_ne n4, upd_ne n4] at hdl
    exact hdl
  refine ⟨_, rfl, p, _, dx, _, rfl, by rw [upd_ne n4.symm]; exact upd_same, T.c_Caller, T.a_Caller_rows, by show 4 < 1000; decide, ?_⟩
  have back : ∀ b, H1 b = none → H b = none := fun b h => by
    cases e : H b with
    | none => rfl
    | some o =>
      rw [s1 b o e] at h
      cases h
  have keep : ∀ {H6 : Hp} {o1 o2 o3 o4 o5 : HO}, H6 = upd (upd (upd (upd (upd (upd (upd (upd H1 p o1) p o2) dr (.dK [])) p o3) dc (.dK [])) p o4) dl (.lst [])) p o5 → (∀ b o, H1 b = some o → b ≠ p → H6 b = some o) ∧ H6 dr = some (.dK []) ∧ H6 dc = some (.dK []) ∧ H6 dl = some (.lst []) ∧ H6 p = some o5 := by
    intro H6 o1 o2 o3 o4 o5 e
    subst e
    refine ⟨fun b o h nb => ?_, ?_, ?_, ?_, upd_same⟩
    · rw [upd_ne nb, upd_ne (ne_of_none h f3), upd_ne nb, upd_ne (ne_of_none h f2), upd_ne nb, upd_ne (ne_of_none h f1), upd_ne nb, upd_ne nb]
      exact h
    · rw [upd_ne n1, upd_ne n6.symm, upd_ne n1, upd_ne n3.symm, upd_ne n1]
      exact upd_same
    · rw [upd_ne n2, upd_ne n5.symm, upd_ne n2]
      exact upd_same
    · rw [upd_ne n4]
      exact upd_same
  have hap : a ≠ p := fun z => by
    rw [z, hp] at ha
    cases ha
  have goal6 : ∀ (H6 : Hp), (∀ b o, H1 b = some o → b ≠ p → H6 b = some o) → H6 dr = some (.dK []) → H6 dc = some (.dK []) → H6 dl = some (.lst []) → (H6 p = some (.ins (He.ga K "Caller") dx (selfFs ⟨a, dr, dc, dl, [], []⟩ 0))) → Q .non H6 := by
    intro H6 k1 k2 k3 k4 k5
    refine q _ ⟨a, dr, dc, dl, [], []⟩ ⟨⟨dx, k5⟩, k1 _ _ ha1 hap, k2, k3, k4, rfl, fun i t e h => (by cases h), rfl, fun i c q h => (by cases h), List.nodup_nil, n3.symm⟩ (fun c o h nf => k1 c o (s1 c o h) nf) fun c hc => ?_
    rcases hc with z | z | z | z | z
    · exact .inl z
    · exact .inr (by rw [z]; exact back _ f1)
    · exact .inr (by rw [z]; exact back _ f2)
    · exact .inr (by rw [z]; exact back _ f3)
    · exact absurd z (by simp)
  refine goal6 _ ?_ ?_ ?_ ?_ ?_
  · exact (keep rfl).1
  · exact (keep rfl).2.1
  · exact (keep rfl).2.2.1
  · exact (keep rfl).2.2.2.1
  · exact (keep rfl).2.2.2.2
end
end T
end
section
namespace T
open PySem PySem.Spec PyProof.Rows L2 Tr LamX
def tickStep (S : St) (i : Nat) : St := match S.calls[i]? with
  | some q => if q.word = ("tried" : Str) ∧ S.rule.p ≤ S.now - q.time then failS S i q else S
  | none => S
def tick0 (S : St) : St := { S with now := S.now + 1 }
def tickI (S : St) : Nat → St
  | 0 => tick0 S
  | i + 1 => tickStep (tickI S i) i
def tick1 (S : St) : St := tickI S S.calls.length
def tickN (S : St) : Nat → St
  | 0 => S
  | n + 1 => tick1 (tickN S n)
structure Keeps (S S' : St) : Prop where
  rule : S'.rule = S.rule
  roads : S'.roads = S.roads
  len : S'.calls.length = S.calls.length
  wf : Wf S → Wf S'
theorem Keeps.refl (S : St) : Keeps S S := ⟨rfl, rfl, rfl, id⟩
theorem Keeps.trans {A B C : St} (a : Keeps A B) (b : Keeps B C) : Keeps A C := ⟨b.rule.trans a.rule, b.roads.trans a.roads, b.len.trans a.len, fun w => b.wf (a.wf w)⟩
theorem keeps_set (S : St) {i : Nat} {q q' : Cal} (hq : S.calls[i]? = some q) (hk : q'.key = q.key) (hg : inRoads S (.str q'.goal) = true ∨ q'.goal = q.goal) (ht : q'.text = q.text) (hf : 0 ≤ q.fails → 0 ≤ q'.fails) : Keeps S { S with calls := S.calls.set i q' } := by
  refine ⟨rfl, rfl, List.length_set .., fun w => ?_⟩
  have qm := List.mem_of_getElem? hq
  have all : ∀ (P : Cal → Prop), (∀ o ∈ S.calls, P o) → P q' → ∀ o ∈ S.calls.set i q', P o := fun P h h' o ho => by
    rcases List.mem_or_eq_of_mem_set ho with z | z
    · exact h o z
    · rw [z]
      exact h'
  refine ⟨w.ok, w.en, w.l5, w.nm, by show (S.calls.set i q').length ≤ 30; rw [List.length_set]; exact w.l30, all _ w.key (by rw [hk]; exact w.key q qm), all _ w.goal ?_, all _ w.text (by rw [ht]; exact w.text q qm), all _ w.fails (hf (w.fails q qm))⟩
  rcases hg with z | z
  · exact z
  · rw [z]
    exact w.goal q qm
theorem keeps_say (S : St) (n : Int) (x : Str) : Keeps S (sayS S n x) := ⟨rfl, rfl, rfl, fun w => ⟨w.ok, w.en, w.l5, w.nm, w.l30, w.key, w.goal, w.text, w.fails⟩⟩
theorem keeps_fail {S : St} {i : Nat} {q : Cal} (hq : S.calls[i]? = some q) : Keeps S (failS S i q) := by
  unfold failS
  split
  · exact (keeps_set S (q' := { q with fails := q.fails + 1, word := "put by" }) hq rfl (.inr rfl) rfl (fun h => by show 0 ≤ q.fails + 1; omega)).trans (keeps_say _ _ _)
  · exact (keeps_set S (q' := { q with fails := q.fails + 1, word := "waits", time := S.now + waitOf S.rule (q.fails + 1) }) hq rfl (.inr rfl) rfl (fun h => by show 0 ≤ q.fails + 1; omega)).trans (keeps_say _ _ _)
theorem log_fail (S : St) (i : Nat) (q : Cal) : (failS S i q).log.length = S.log.length + 1 := by
  unfold failS sayS
  split <;> simp
theorem keeps_step (S : St) (i : Nat) : Keeps S (tickStep S i) ∧ (tickStep S i).log.length ≤ S.log.length + 1 := by
  unfold tickStep
  cases h : S.calls[i]? with
  | none => exact ⟨.refl S, Nat.le_succ _⟩
  | some q =>
    dsimp only
    split
    · exact ⟨keeps_fail h, Nat.le_of_eq (log_fail S i q)⟩
    · exact ⟨.refl S, Nat.le_succ _⟩
theorem keeps_tick0 (S : St) : Keeps S (tick0 S) := ⟨rfl, rfl, rfl, fun w => ⟨w.ok, w.en, w.l5, w.nm, w.l30, w.key, w.goal, w.text, w.fails⟩⟩
theorem keeps_tickI (S : St) : ∀ i, Keeps S (tickI S i) ∧ (tickI S i).log.length ≤ S.log.length + i
  | 0 => ⟨keeps_tick0 S, Nat.le_refl _⟩
  | i + 1 => by
    obtain ⟨a, b⟩ := keeps_tickI S i
    obtain ⟨c, d⟩ := keeps_step (tickI S i) i
    refine ⟨a.trans c, ?_⟩
    show (tickStep (tickI S i) i).log.length ≤ _
    omega
theorem keeps_tickN {S : St} (l30 : S.calls.length ≤ 30) : ∀ n, Keeps S (tickN S n) ∧ (tickN S n).log.length ≤ S.log.length + 30 * n
  | 0 => ⟨.refl S, Nat.le_refl _⟩
  | n + 1 => by
    obtain ⟨a, b⟩ := keeps_tickN l30 n
    obtain ⟨c, d⟩ := keeps_tickI (tickN S n) (tickN S n).calls.length
    refine ⟨a.trans c, ?_⟩
    have e := a.len
    show (tickI (tickN S n) (tickN S n).calls.length).log.length ≤ _
    omega
theorem Rep.some_ {K : PySem.W.Frag} {H : Hp} {p c : Addr} {L : Lay} {S : St} (r : Rep K H p L S) (f : foot p L c) : ∃ o, H c = some o := by
  rcases f with z | z | z | z | z
  · obtain ⟨d, h⟩ := r.ins
    rw [z]
    exact ⟨_, h⟩
  · rw [z]
    exact ⟨_, r.hdr⟩
  · rw [z]
    exact ⟨_, r.hdc⟩
  · rw [z]
    exact ⟨_, r.hdl⟩
  · obtain ⟨_, _, _, _, _, h⟩ := r.at z
    exact ⟨_, h⟩
section
variable {P : Program} {w : World} {K : PySem.W.Frag} {mg : Str → Option Value} {base : Heap}
def spTick (K : PySem.W.Frag) : Sp := fun vs H Q E => ∃ (p : Addr) (L : Lay) (S : St) (x : V), vs = [.ref p, x] ∧ Rep K H p L S ∧ Wf S ∧ S.log.length ≤ 9000000 ∧ Thing K H x ∧ (isC x 0 100 = false → E (.ref (He.ga K "BadTime")) none H) ∧
  (∀ n : Nat, x = .int (n : Int) → n ≤ 100 → ∀ H' L', Rep K H' p L' (tickN S n) → Step p L H L' H' → Q .non H')
theorem m_tick (T : Txt K mg) : Mal P w K mg base (NX P w) 3 (He.ga K "Caller") "tick" (spTick K) := by
  refine mal_of T.f_Caller_tick T.c_Caller T.m_Caller_tick sc_Caller_tick (fun _ _ _ _ _ _ us hl => match us, hl with | [_, _], _ => rfl) (fun vs H Q E ⟨_, _, _, _, h, _⟩ => by rw [h] <;> rfl) fun cdv A outer s H vs Q E hr ⟨p, L, S, x, e, r, wf, lg, tx, q1, q2⟩ => ?_
  subst e
  have hu := hu_of hr
  have nd := sc_Caller_tick.nd
  obtain ⟨x1, x2, x3, x4⟩ := He.exc_ok T.e_BadTime
  obtain ⟨u5, g5, r5⟩ := T.i_MOST_TICKS
  refine ⟨_, pss_cons (ps_if (pt_not (pt_val (pe_k (E := E0) (k_is_count T) hr (by decide) pass0 (pa_cons (pv 1) (pa_cons pe_int (pa_cons (pe_glob (by rfl) g5 r5) pa_nil))))))
      (pss_one (L2N.ps_raise rfl (L2N.takes_of rfl rfl rfl rfl) (L2N.pmk_own PySem.F.excBase_ValueError x1 T.g_BadTime x2 (raises_own x3 x4) (by rfl)))) pss_nil)
    (pss_one (ps_for (by exact passes_of rfl) rfl (pi_range1 (by rfl) T.n_range (pa_cons (pv 1) pa_nil)) (pg_name (i := 2) nd rfl (Or.inl rfl))
      (pss_cons (ps_fld (pv 0) (pe_op op_add (pe_fld (pv 0) rfl) pe_int) rfl)
      (pss_one (ps_for (by exact passes_of rfl) rfl (pi_list (pe_m0 (E := E0) (m_numbers T) hr (by decide) pass0 (pv 0))) (pg_name (i := 3) nd rfl (Or.inl rfl))
        (pss_cons (ps_set (i := 4) nd rfl (Or.inl rfl) (pe_dget hu (pe_fld (pv 0) rfl) (pv 3) (fun _ _ => rfl)))
        (pss_one (ps_if (PW.pt (pw_and (pt_cmpR op_eq (pe_fld (pv 4) rfl) pe_str (nomark _)) (pw_and1 (pt_cmpR op_ge (pe_op op_sub (pe_fld (pv 0) rfl) (pe_fld (pv 4) rfl)) (pe_ix ix_tup (pe_fld (pv 0) rfl) pe_int (fun _ _ => rfl)) (nomark _)))))
          (pss_one (ps_expr (pe_m (E := E0) (m_fail T) hr (by decide) pass0 (pv 0) (pa_cons (pv 3) pa_nil)))) pss_nil)))))))), ?_⟩
  refine ⟨_, rfl, x, 0, 100, rfl, tx, _, rfl, ?_⟩
  cases ec : isC x 0 100 with
  | false => exact q1 ec
  | true =>
    obtain ⟨n, rfl, hn⟩ : ∃ n : Nat, x = .int (n : Int) ∧ n ≤ 100 := by
      cases x with
      | int k =>
        have b : 0 ≤ k ∧ k ≤ 100 := by simpa [isC] using ec
        exact ⟨k.toNat, congrArg V.int (by omega), by omega⟩
      | _ => cases ec
    refine ⟨_, rfl, _, rfl, by omega, by omega, ?_⟩
    have en : ((n : Nat) : Int).toNat = n := by omega
    refine for_it (walk_range (lo := 0) (n := ((n : Nat) : Int).toNat)) (fun j σ H' => ∃ L', Rep K H' p L' (tickN S j) ∧ Step p L H L' H' ∧ ∃ o2 o3 o4, σ = [some (.ref p), some (.int (n : Int)), o2, o3, o4]) ⟨L, r, .refl_same (Same.refl H), _, _, _, rfl⟩ (fun _ _ _ _ _ => trivial) ?_ ?_
    · rintro j y σ H1' H1 hj ⟨L1, r1, st1, o2, o3, o4, rfl⟩ ⟨rfl, rfl⟩
      have hj : j < n := by omega
      obtain ⟨kn, ln⟩ := keeps_tickN wf.l30 j
      obtain ⟨dx1, hp1⟩ := id r1.ins
      refine ⟨_, rfl, p, _, dx1, _, _, rfl, hp1, T.c_Caller, T.a_Caller_clock, rfl, _, _, rfl, rfl, _, rfl, p, _, dx1, _, rfl, hp1, T.c_Caller, T.a_Caller_clock, by show 5 < 1000; decide, ?_⟩
      have r2 := r1.clock (dx := dx1) ((tickN S j).now + 1)
      have st2 : Step p L H L1 (upd H1 p (.ins (He.ga K "Caller") dx1 (selfFs L1 ((tickN S j).now + 1)))) := by
        refine st1.trans ⟨fun d u h nf => ?_, fun d hd => .inl hd⟩
        rw [upd_ne fun z => nf (.inl z)]
        exact h
      obtain ⟨dx2, hp2⟩ := id r2.ins
      have l30 : (tickN S j).calls.length ≤ 30 := by rw [kn.len]; exact wf.l30
      refine ⟨_, rfl, p, dx2, _, rfl, hp2, rfl, p, L1, tick0 (tickN S j), rfl, r2, l30, fun H3 B s3 hB eB => ⟨B, rfl, ⟨_, sqL eB⟩, ?_⟩⟩
      have r3 := r2.same s3
      have st3 := st2.same s3
      have nB : ¬ foot p L1 B := fun f => by
        obtain ⟨o, h⟩ := r2.some_ f
        have z : (none : Option HO) = some o := hB.symm.trans h
        cases z
      have hl0 : (tick0 (tickN S j)).calls.length = (tickN S j).calls.length := rfl
      have kt := fun i => keeps_tickI (tickN S j) i
      refine for_it (walk_list (xs := (nums (tick0 (tickN S j)).calls.length).map V.int)) (fun i σ H' => ∃ L', Rep K H' p L' (tickI (tickN S j) i) ∧ Step p L1 H3 L' H' ∧ H' B = some (.lst ((nums (tick0 (tickN S j)).calls.length).map V.int)) ∧ ¬ foot p L' B ∧ ∃ o3 o4, σ = [some (.ref p), some (.int (n : Int)), some (.int (0 + (j : Nat))), o3, o4])
        ⟨L1, r3, .refl_same (Same.refl H3), eB, nB, _, _, rfl⟩ (fun _ _ _ _ ⟨_, _, _, h, _⟩ => sqL h) ?_ ?_
      · rintro i y σ H4' H4 hi ⟨L4, r4, st4, eB4, nB4, o3, o4, rfl⟩ ⟨rfl, hy⟩
        have hi0 : i < (tick0 (tickN S j)).calls.length := by
          have hi : i < ((nums (tick0 (tickN S j)).calls.length).map V.int).length := hi
          unfold nums at hi
          simpa using hi
        have hi : i < (tickN S j).calls.length := hi0
        obtain rfl : V.int ((1 + i : Nat) : Int) = y := by
          unfold nums at hy
          rw [List.getElem?_map, List.getElem?_map, List.getElem?_range hi0] at hy
          exact Option.some.inj hy
        obtain ⟨ki, li⟩ := kt i
        have hiI : i < (tickI (tickN S j) i).calls.length := by rw [ki.len]; exact hi
        have hil : i < L4.cs.length := by rw [r4.cl]; exact hiI
        have hci : L4.cs[i]? = some L4.cs[i] := List.getElem?_eq_getElem hil
        have hqi : (tickI (tickN S j) i).calls[i]? = some (tickI (tickN S j) i).calls[i] := List.getElem?_eq_getElem hiI
        obtain ⟨cd, hc⟩ := r4.hc i _ _ hci hqi
        have hcm : L4.cs[i] ∈ L4.cs := List.getElem_mem hil
        have wfI := ki.wf (kn.wf wf)
        have f0 := wfI.fails _ (List.getElem_mem hiI)
        obtain ⟨dx4, hp4⟩ := id r4.ins
        have estep : tickI (tickN S j) (i + 1) = if (tickI (tickN S j) i).calls[i].word = ("tried" : Str) ∧ (tickI (tickN S j) i).rule.p ≤ (tickI (tickN S j) i).now - (tickI (tickN S j) i).calls[i].time then failS (tickI (tickN S j) i) i (tickI (tickN S j) i).calls[i] else tickI (tickN S j) i := by
          show tickStep (tickI (tickN S j) i) i = _
          unfold tickStep
          rw [hqi]
        have ljj : (tickI (tickN S j) i).log.length ≤ 10000000 := by omega
        generalize tickI (tickN S j) i = SI at *
        generalize SI.calls[i] = q at *
        generalize L4.cs[i] = c at *
        refine ⟨_, rfl, p, _, dx4, _, _, rfl, hp4, T.c_Caller, T.a_Caller_calls, rfl, _, rfl, L4.dc, _, rfl, r4.get hci, ?_⟩
        refine ⟨_, rfl, c, _, cd, _, _, rfl, hc, T.c_Call, T.a_Call_word, rfl, rfl, _, rfl, ?_⟩
        rw [str_dec]
        by_cases h1 : q.word = ("tried" : Str)
        · rw [decide_eq_true h1]
          refine ⟨_, rfl, p, _, dx4, _, _, rfl, hp4, T.c_Caller, T.a_Caller_clock, rfl, _, rfl, c, _, cd, _, _, rfl, hc, T.c_Call, T.a_Call_time, rfl, _, _, rfl, rfl, _, rfl, p, _, dx4, _, _, rfl, hp4, T.c_Caller, T.a_Caller_rule, rfl, _, _, _, _, rfl, rfl, sqT r4.hrl, rfl, _, _, rfl, rfl, ?_⟩
          by_cases h2 : SI.rule.p ≤ SI.now - q.time
          · refine ⟨true, congrArg V.bl (decide_eq_true h2), ?_⟩
            rw [if_pos ⟨h1, h2⟩] at estep
            refine ⟨_, rfl, p, dx4, _, rfl, hp4, rfl, _, rfl, p, L4, SI, i, q, rfl, r4, hqi, wfI.ok, f0, ljj, fun H5 L5 _ r5' st5 => ⟨L5, by rw [estep]; exact r5', st4.trans st5, st5.fr B _ eB4 nB4, fun f => ?_, _, _, rfl⟩⟩
            rcases st5.nw B f with z | z
            · exact nB4 z
            · rw [eB4] at z
              cases z
          · refine ⟨false, congrArg V.bl (decide_eq_false h2), ?_⟩
            rw [if_neg fun z => h2 z.2] at estep
            exact ⟨L4, by rw [estep]; exact r4, st4, eB4, nB4, _, _, rfl⟩
        · rw [decide_eq_false h1]
          rw [if_neg fun z => h1 z.1] at estep
          exact ⟨L4, by rw [estep]; exact r4, st4, eB4, nB4, _, _, rfl⟩
      · rintro σ H4 ⟨L4, r4, st4, _, _, o3, o4, rfl⟩
        refine ⟨L4, ?_, st3.trans st4, _, _, _, rfl⟩
        have el : ((nums (tick0 (tickN S j)).calls.length).map V.int).length = (tickN S j).calls.length := by
          unfold nums
          simp
          rfl
        rw [el] at r4
        exact r4
    · rintro σ H1 ⟨L1, r1, st1, o2, o3, o4, rfl⟩
      rw [en] at r1
      exact q2 n rfl hn H1 L1 r1 st1
end
end T
end
section
namespace T
open PySem PySem.Spec PyProof.Rows L2 Tr LamX
section
variable {P : Program} {w : World} {K : PySem.W.Frag} {mg : Str → Option Value} {base : Heap}
theorem ostep_obj {H H1 : Hp} {o c : Addr} {M : OLay} {u : HO} (s : Same H H1) (hc : c ∈ M.cs) : OStep o M H M (upd H1 c u) := by
  refine ⟨fun d v h nf => ?_, fun d hd => .inl hd⟩
  rw [upd_ne fun z => nf (by rw [z]; exact .inr (.inr (.inr (.inr hc))))]
  exact s d v h
theorem ostep_upd {H H1 : Hp} {o c : Addr} {M M1 : OLay} {u : HO} (s : OStep o M H M1 H1) (hc : c ∈ M1.cs) : OStep o M H M1 (upd H1 c u) := s.trans (ostep_obj (Same.refl H1) hc)
theorem put_fails (q : Cal) (x : Int) : putK (ownC q) (.inr "fails") (.int x) = ownC { q with fails := x } := rfl
theorem put_word (q : Cal) (x : Str) : putK (ownC q) (.inr "word") (.str x) = ownC { q with word := x } := rfl
theorem put_time (q : Cal) (x : Int) : putK (ownC q) (.inr "time") (.int x) = ownC { q with time := x } := rfl
theorem put_place (q : Cal) (x : Str) : putK (ownC q) (.inr "place") (.str x) = ownC { q with place := x } := rfl
theorem put_many (q : Cal) (x : Int) : putK (ownC q) (.inr "many") (.int x) = ownC { q with many := x } := rfl
theorem put_goal (q : Cal) (x : Str) : putK (ownC q) (.inr "goal") (.str x) = ownC { q with goal := x } := rfl
theorem put_now (M : OLay) (n x : Int) : putK (ownKV M n) (.inr "now") (.int x) = ownKV M x := rfl
theorem int_dec (a b : Int) : decide (V.int a = V.int b) = decide (a = b) := by
  by_cases h : a = b
  · rw [decide_eq_true h, decide_eq_true (congrArg V.int h)]
  · rw [decide_eq_false h, decide_eq_false fun z => h (V.int.inj z)]
def spOFail (K : PySem.W.Frag) : Sp := fun vs H Q _ => ∃ (o : Addr) (M : OLay) (S : St) (i : Nat) (q : Cal), vs = [.ref o, .int ((1 + i : Nat) : Int)] ∧ Own K H o M S ∧ S.calls[i]? = some q ∧ S.rule.Ok ∧ 0 ≤ q.fails ∧ q.fails < S.rule.m ∧ S.log.length ≤ 10000000 ∧
  ∀ H' ts, Own K H' o { M with ts := ts } (failS S i q) → OStep o M H { M with ts := ts } H' → Q .non H'
theorem k_l_fail (T : Txt K mg) : Kal P w K mg base CX0 2 "_law_fail" (spOFail K) := by
  refine kal_of T.f_l_fail T.g_l_fail sc_l_fail (fun _ _ _ _ _ _ us hl => match us, hl with | [_, _], _ => rfl) (fun vs H Q E ⟨_, _, _, _, _, h, _⟩ => by rw [h] <;> rfl) fun cdv A outer s H vs Q E hr ⟨o, M, S, i, q, e, r, hq, ok, f0, fm, lg, fin⟩ => ?_
  subst e
  have hu := hu_of hr
  have nd := sc_l_fail.nd
  refine ⟨_, pss_cons (ps_set (i := 2) nd rfl (Or.inl rfl) (pe_ix ix_list (pe_dget hu (pv 0) pe_str (fun _ _ => rfl)) (pe_op op_sub (pv 1) pe_int) (fun _ _ => rfl)))
    (pss_cons (ps_dput hu (pv 2) pe_str (pe_op op_add (pe_dget hu (pv 2) pe_str (fun _ _ => rfl)) pe_int) rfl)
    (pss_cons (ps_dput hu (pv 2) pe_str (pe_ifExp (pt_cmpR op_eq (pe_dget hu (pv 2) pe_str (fun _ _ => rfl)) (pe_ix ix_tup (pe_dget hu (pv 0) pe_str (fun _ _ => rfl)) pe_int (fun _ _ => rfl)) (nomark _)) pe_str pe_str) rfl)
    (pss_cons (ps_expr (pe_bm PySem.F.plainAttrs_list PySem.F.slot_list_append PySem.F.type_list_append mt_append (pe_dget hu (pv 0) pe_str (fun _ _ => rfl)) (pa_cons (pe_tup (pa_cons (pe_dget hu (pv 0) pe_str (fun _ _ => rfl)) (pa_cons (pv 1) (pa_cons (pe_ifExp (pt_cmpR op_eq (pe_dget hu (pv 2) pe_str (fun _ _ => rfl)) pe_str (nomark _)) pe_str pe_str) pa_nil)))) pa_nil)))
    (pss_one (ps_if (pt_cmpR op_eq (pe_dget hu (pv 2) pe_str (fun _ _ => rfl)) pe_str (nomark _)) (pss_one (ps_dput hu (pv 2) pe_str (pe_op op_add (pe_dget hu (pv 0) pe_str (fun _ _ => rfl)) (pe_k (E := E0) (k_l_wait T) hr (by decide) pass0 (pa_cons (pe_dget hu (pv 0) pe_str (fun _ _ => rfl)) (pa_cons (pe_dget hu (pv 2) pe_str (fun _ _ => rfl)) pa_nil)))) rfl)) pss_nil))))), ?_⟩
  have hi : i < S.calls.length := (List.getElem?_eq_some_iff.mp hq).1
  have hil : i < M.cs.length := by rw [r.cl]; exact hi
  have hci : M.cs[i]? = some M.cs[i] := List.getElem?_eq_getElem hil
  have hcm : M.cs[i] ∈ M.cs := List.getElem_mem hil
  have hc := r.hc i _ _ hci hq
  have hat : atI (M.cs.map V.ref) (((1 + i : Nat) : Int) - 1) = some (.ref M.cs[i]) := by
    rw [show ((1 + i : Nat) : Int) - 1 = ((i : Nat) : Int) by omega]
    exact atI_nat (by rw [List.getElem?_map, hci]; rfl)
  generalize M.cs[i] = c at hci hat hc hcm
  refine ⟨_, rfl, o, _, rfl, r.fld rfl, _, rfl, _, _, rfl, rfl, _, _, _, _, rfl, rfl, sqL r.hlc, hat, ?_⟩
  refine ⟨_, rfl, c, _, rfl, Own.cfld hc rfl, _, _, rfl, rfl, _, rfl, c, _, rfl, DPut.k (k := Sum.inr "fails") hc (by show 8 < sizeLine; decide), ?_⟩
  rw [put_fails]
  have r1 := r.obj hci { q with fails := q.fails + 1 }
  have st1 : OStep o M H M (upd H c (.dK (ownC { q with fails := q.fails + 1 }))) := ostep_obj (Same.refl H) hcm
  have hc1 : upd H c (.dK (ownC { q with fails := q.fails + 1 })) c = some (.dK (ownC { q with fails := q.fails + 1 })) := upd_same
  generalize upd H c (.dK (ownC { q with fails := q.fails + 1 })) = H1 at r1 st1 hc1
  refine ⟨_, rfl, c, _, rfl, Own.cfld hc1 rfl, _, rfl, o, _, rfl, r1.fld rfl, _, _, _, _, rfl, rfl, sqT r1.hrl, rfl, rfl, _, rfl, ?_⟩
  rw [int_dec]
  by_cases hm : q.fails + 1 = S.rule.m
  · rw [decide_eq_true hm]
    refine ⟨_, rfl, c, _, rfl, DPut.k (k := Sum.inr "word") hc1 (by show 8 < sizeLine; decide), ?_⟩
    rw [put_word]
    have r2 := r1.obj hci { q with fails := q.fails + 1, word := "put by" }
    have st2 := ostep_upd (u := .dK (ownC { q with fails := q.fails + 1, word := "put by" })) st1 hcm
    simp only [List.set_set] at r2
    have hc2 : upd H1 c (.dK (ownC { q with fails := q.fails + 1, word := "put by" })) c = some (.dK (ownC { q with fails := q.fails + 1, word := "put by" })) := upd_same
    generalize upd H1 c (.dK (ownC { q with fails := q.fails + 1, word := "put by" })) = H2 at r2 st2 hc2
    refine ⟨_, rfl, o, _, rfl, r2.fld rfl, .inl ⟨rfl, _, sqL r2.hll⟩, _, rfl, o, _, rfl, r2.fld rfl, _, rfl, _, rfl, c, _, rfl, Own.cfld hc2 rfl, rfl, true, congrArg V.bl (by rw [str_dec]; rfl), by show 3 ≤ sizeLine; decide, fun t ht => ?_⟩
    have s3 := same_new (o := rowT (S.now, ((1 + i : Nat) : Int), "put by")) ht
    have r3 := r2.same s3
    refine ⟨M.ll, _, _, rfl, rfl, r3.hll, by rw [List.length_map, r.tl]; exact Nat.lt_of_le_of_lt lg (by decide), ?_⟩
    have r4 := r3.row (t := t) (e := (S.now, ((1 + i : Nat) : Int), "put by")) upd_same
    rw [List.map_append] at r4
    have hc3 := s3 _ _ hc2
    have ncl : c ≠ M.ll := fun z => by
      have h := r3.hll
      rw [← z, hc3] at h
      cases h
    have st4 : OStep o M H { M with ts := M.ts ++ [t] } (upd (upd H2 t (rowT (S.now, ((1 + i : Nat) : Int), "put by"))) M.ll (.lst (M.ts.map V.ref ++ [t].map V.ref))) := by
      refine (st2.same s3).trans ⟨fun d v h nf => ?_, fun d hd => .inl hd⟩
      rw [upd_ne fun z => nf (.inr (.inr (.inr (.inl z))))]
      exact h
    have hc4 : upd (upd H2 t (rowT (S.now, ((1 + i : Nat) : Int), "put by"))) M.ll (.lst (M.ts.map V.ref ++ [t].map V.ref)) c = some (.dK (ownC { q with fails := q.fails + 1, word := "put by" })) := by
      rw [upd_ne ncl]
      exact hc3
    refine ⟨_, rfl, c, _, rfl, Own.cfld hc4 rfl, rfl, false, congrArg V.bl (by rw [str_dec]; rfl), ?_⟩
    refine fin _ _ ?_ st4
    unfold failS
    rw [if_pos (by omega)]
    exact r4
  · rw [decide_eq_false hm]
    refine ⟨_, rfl, c, _, rfl, DPut.k (k := Sum.inr "word") hc1 (by show 8 < sizeLine; decide), ?_⟩
    rw [put_word]
    have r2 := r1.obj hci { q with fails := q.fails + 1, word := "waits" }
    have st2 := ostep_upd (u := .dK (ownC { q with fails := q.fails + 1, word := "waits" })) st1 hcm
    simp only [List.set_set] at r2
    have hc2 : upd H1 c (.dK (ownC { q with fails := q.fails + 1, word := "waits" })) c = some (.dK (ownC { q with fails := q.fails + 1, word := "waits" })) := upd_same
    generalize upd H1 c (.dK (ownC { q with fails := q.fails + 1, word := "waits" })) = H2 at r2 st2 hc2
    refine ⟨_, rfl, o, _, rfl, r2.fld rfl, .inl ⟨rfl, _, sqL r2.hll⟩, _, rfl, o, _, rfl, r2.fld rfl, _, rfl, _, rfl, c, _, rfl, Own.cfld hc2 rfl, rfl, false, congrArg V.bl (by rw [str_dec]; rfl), by show 3 ≤ sizeLine; decide, fun t ht => ?_⟩
    have s3 := same_new (o := rowT (S.now, ((1 + i : Nat) : Int), "later")) ht
    have r3 := r2.same s3
    refine ⟨M.ll, _, _, rfl, rfl, r3.hll, by rw [List.length_map, r.tl]; exact Nat.lt_of_le_of_lt lg (by decide), ?_⟩
    have r4 := r3.row (t := t) (e := (S.now, ((1 + i : Nat) : Int), "later")) upd_same
    rw [List.map_append] at r4
    have hc3 := s3 _ _ hc2
    have ncl : c ≠ M.ll := fun z => by
      have h := r3.hll
      rw [← z, hc3] at h
      cases h
    have st4 : OStep o M H { M with ts := M.ts ++ [t] } (upd (upd H2 t (rowT (S.now, ((1 + i : Nat) : Int), "later"))) M.ll (.lst (M.ts.map V.ref ++ [t].map V.ref))) := by
      refine (st2.same s3).trans ⟨fun d v h nf => ?_, fun d hd => .inl hd⟩
      rw [upd_ne fun z => nf (.inr (.inr (.inr (.inl z))))]
      exact h
    have hc4 : upd (upd H2 t (rowT (S.now, ((1 + i : Nat) : Int), "later"))) M.ll (.lst (M.ts.map V.ref ++ [t].map V.ref)) c = some (.dK (ownC { q with fails := q.fails + 1, word := "waits" })) := by
      rw [upd_ne ncl]
      exact hc3
    refine ⟨_, rfl, c, _, rfl, Own.cfld hc4 rfl, rfl, true, congrArg V.bl (by rw [str_dec]; rfl), ?_⟩
    have m5 := ok.m.2
    refine ⟨_, rfl, o, _, rfl, r4.fld rfl, _, rfl, o, _, rfl, r4.fld rfl, _, rfl, c, _, rfl, Own.cfld hc4 rfl, _, S.rule, _, rfl, r4.hrl, ok, by show 1 ≤ q.fails + 1; omega, by show q.fails + 1 ≤ 5; omega, fun H5 s5 => ⟨_, _, rfl, rfl, _, rfl, c, _, rfl, DPut.k (k := Sum.inr "time") (s5 _ _ hc4) (by show 8 < sizeLine; decide), ?_⟩⟩
    rw [put_time]
    have r5 := (r4.same s5).obj hci { q with fails := q.fails + 1, word := "waits", time := S.now + waitOf S.rule (q.fails + 1) }
    have st5 := ostep_upd (u := .dK (ownC { q with fails := q.fails + 1, word := "waits", time := S.now + waitOf S.rule (q.fails + 1) })) (st4.same s5) hcm
    simp only [List.set_set] at r5
    refine fin _ _ ?_ st5
    unfold failS
    rw [if_neg (by omega)]
    exact r5
end
end T
end
section
namespace T
open PySem PySem.Spec PyProof.Rows L2 Tr LamX
section
variable {P : Program} {w : World} {K : PySem.W.Frag} {mg : Str → Option Value} {base : Heap}
def spOSend (K : PySem.W.Frag) : Sp := fun vs H Q _ => ∃ (o : Addr) (M : OLay) (S : St) (k g t : Str), vs = [.ref o, .str k, .str g, .str t] ∧ Own K H o M S ∧ S.calls.length ≤ 30 ∧ S.log.length ≤ 10000000 ∧
  ((getT S.roads g).isSome = false → ∀ H' q, Same H H' → H' q = some (.tup [.str "refused", .str "BadName"]) → Q (.ref q) H') ∧
  ((getT S.roads g).isSome = true → S.calls.length = 30 → ∀ H' q, Same H H' → H' q = some (.tup [.str "refused", .str "Full"]) → Q (.ref q) H') ∧
  ((getT S.roads g).isSome = true → S.calls.length < 30 → ∀ H' M', Own K H' o M' (sendS S k g t) → OStep o M H M' H' → Q (.int ((S.calls.length : Int) + 1)) H')
theorem k_l_send (T : Txt K mg) : Kal P w K mg base CX0 1 "_law_send" (spOSend K) := by
  refine kal_of T.f_l_send T.g_l_send sc_l_send (fun _ _ _ _ _ _ us hl => match us, hl with | [_, _, _, _], _ => rfl) (fun vs H Q E ⟨_, _, _, _, _, _, h, _⟩ => by rw [h] <;> rfl) fun cdv A outer s H vs Q E hr ⟨o, M, S, k, g, t, e, r, l30, lg, q1, q2, q3⟩ => ?_
  subst e
  have hu := hu_of hr
  have nd := sc_l_send.nd
  refine ⟨_, pss_cons (ps_if (pt_cmp (pc_dnotin hu (pv 2) (pe_dget hu (pv 0) pe_str (fun _ _ => rfl)))) (pss_one (ps_ret (pe_tup (pa_cons pe_str (pa_cons pe_str pa_nil))))) pss_nil)
    (pss_cons (ps_if (pt_cmpR op_eq (b_len T.n_len (pa_cons (pe_dget hu (pv 0) pe_str (fun _ _ => rfl)) pa_nil)) pe_int (nomark _)) (pss_one (ps_ret (pe_tup (pa_cons pe_str (pa_cons pe_str pa_nil))))) pss_nil)
    (pss_cons (ps_set (i := 4) nd rfl (Or.inl rfl) (pe_disp (pps_cons pe_str (pv 1) (pps_cons pe_str (pv 2) (pps_cons pe_str (pv 2) (pps_cons pe_str (pv 3) (pps_cons pe_str pe_str (pps_cons pe_str pe_int (pps_cons pe_str pe_int pps_nil))))))) (by rfl) (by rfl) (fun z => by cases z) (by decide)))
    (pss_cons (ps_dput hu (pv 4) pe_str (pe_dget hu (pv 0) pe_str (fun _ _ => rfl)) rfl)
    (pss_cons (ps_expr (pe_bm PySem.F.plainAttrs_list PySem.F.slot_list_append PySem.F.type_list_append mt_append (pe_dget hu (pv 0) pe_str (fun _ _ => rfl)) (pa_cons (pv 4) pa_nil)))
    (pss_cons (ps_expr (pe_bm PySem.F.plainAttrs_list PySem.F.slot_list_append PySem.F.type_list_append mt_append (pe_dget hu (pv 0) pe_str (fun _ _ => rfl)) (pa_cons (pe_tup (pa_cons (pe_dget hu (pv 0) pe_str (fun _ _ => rfl)) (pa_cons (b_len T.n_len (pa_cons (pe_dget hu (pv 0) pe_str (fun _ _ => rfl)) pa_nil)) (pa_cons pe_str pa_nil)))) pa_nil)))
    (pss_one (ps_ret (b_len T.n_len (pa_cons (pe_dget hu (pv 0) pe_str (fun _ _ => rfl)) pa_nil))))))))), ?_⟩
  refine ⟨_, rfl, _, rfl, o, _, rfl, r.fld rfl, M.dr, _, rfl, DGet.k (k := Sum.inr g) r.hdr, _, rfl, ?_⟩
  rw [kvT_get, Option.isSome_map]
  cases hg : (getT S.roads g).isSome with
  | false => exact ⟨by show 2 ≤ sizeLine; decide, fun q hq => q1 hg _ q (same_new hq) upd_same⟩
  | true =>
    refine ⟨_, rfl, o, _, rfl, r.fld rfl, _, _, rfl, .inl ⟨_, sqL r.hlc, rfl⟩, rfl, _, rfl, ?_⟩
    rw [int_dec]
    have lc : (M.cs.map V.ref).length = S.calls.length := by rw [List.length_map, r.cl]
    by_cases h30 : S.calls.length = 30
    · rw [decide_eq_true (by rw [lc, h30]; rfl)]
      exact ⟨by show 2 ≤ sizeLine; decide, fun q hq => q2 hg h30 _ q (same_new hq) upd_same⟩
    · rw [decide_eq_false (by rw [lc]; omega)]
      refine fun c hcn => ⟨_, rfl, _, rfl, _, rfl, _, rfl, upd_same, [(.inr "key", .str k), (.inr "goal", .str g), (.inr "place", .str g), (.inr "text", .str t), (.inr "word", .str "waits"), (.inr "fails", .int 0), (.inr "many", .int 0)], rfl, by show 7 ≤ 15; decide, ?_⟩
      have s1 : Same H (upd (upd H c (.dK [])) c (.dK (mergeK [] [(.inr "key", .str k), (.inr "goal", .str g), (.inr "place", .str g), (.inr "text", .str t), (.inr "word", .str "waits"), (.inr "fails", .int 0), (.inr "many", .int 0)]))) := by
        rw [upd_upd]
        exact same_new hcn
      have hc1 : upd (upd H c (.dK [])) c (.dK (mergeK [] [(.inr "key", .str k), (.inr "goal", .str g), (.inr "place", .str g), (.inr "text", .str t), (.inr "word", .str "waits"), (.inr "fails", .int 0), (.inr "many", .int 0)])) c = some (.dK [(.inr "key", .str k), (.inr "goal", .str g), (.inr "place", .str g), (.inr "text", .str t), (.inr "word", .str "waits"), (.inr "fails", .int 0), (.inr "many", .int 0)]) := upd_same
      generalize upd (upd H c (.dK [])) c (.dK (mergeK [] [(.inr "key", .str k), (.inr "goal", .str g), (.inr "place", .str g), (.inr "text", .str t), (.inr "word", .str "waits"), (.inr "fails", .int 0), (.inr "many", .int 0)])) = H1 at s1 hc1
      have r1 := r.same s1
      refine ⟨_, rfl, o, _, rfl, r1.fld rfl, _, rfl, c, _, rfl, DPut.k (k := Sum.inr "time") hc1 (by show 7 < sizeLine; decide), ?_⟩
      have ep : putK ([(.inr "key", .str k), (.inr "goal", .str g), (.inr "place", .str g), (.inr "text", .str t), (.inr "word", .str "waits"), (.inr "fails", .int 0), (.inr "many", .int 0)] : List (Key × V)) (.inr "time") (.int S.now) = ownC (newCal k g t S.now) := rfl
      rw [ep]
      have old : ∀ b u, H b = some u → b ≠ c := fun b u h => ne_of_none h hcn
      have s2 : Same H (upd H1 c (.dK (ownC (newCal k g t S.now)))) := fun b u h => by
        rw [upd_ne (old b u h)]
        exact s1 b u h
      have hc2 : upd H1 c (.dK (ownC (newCal k g t S.now))) c = some (.dK (ownC (newCal k g t S.now))) := upd_same
      generalize upd H1 c (.dK (ownC (newCal k g t S.now))) = H2 at s2 hc2
      have r2 := r.same s2
      have nf : ∀ d, ofoot o M d → d ≠ c := fun d hd z => by
        obtain ⟨u, hu'⟩ := r.some_ hd
        exact old d u hu' z
      have hnc : c ∉ M.cs := fun z => nf c (.inr (.inr (.inr (.inr z)))) rfl
      refine ⟨_, rfl, o, _, rfl, r2.fld rfl, .inl ⟨rfl, _, sqL r2.hlc⟩, _, rfl, M.lc, _, _, rfl, rfl, r2.hlc, by rw [lc]; exact small1000 (by omega), ?_⟩
      have r3 := r2.add hc2 hnc (nf o (.inl rfl)).symm (nf M.dr (.inr (.inl rfl))).symm
      rw [List.map_append] at r3
      have lc3 : (M.cs.map V.ref ++ [V.ref c]).length = S.calls.length + 1 := by rw [List.length_append, lc]; rfl
      have st3 : OStep o M H { M with cs := M.cs ++ [c] } (upd H2 M.lc (.lst (M.cs.map V.ref ++ [c].map V.ref))) := by
        refine ⟨fun b u h nfb => ?_, fun d hd => ?_⟩
        · rw [upd_ne fun z => nfb (.inr (.inr (.inl z)))]
          exact s2 b u h
        · rcases hd with z | z | z | z | z
          · exact .inl (.inl z)
          · exact .inl (.inr (.inl z))
          · exact .inl (.inr (.inr (.inl z)))
          · exact .inl (.inr (.inr (.inr (.inl z))))
          · have z : d ∈ M.cs ++ [c] := z
            rcases List.mem_append.mp z with z | z
            · exact .inl (.inr (.inr (.inr (.inr z))))
            · rw [List.mem_singleton.mp z]
              exact .inr hcn
      refine ⟨_, rfl, o, _, rfl, r3.fld rfl, .inl ⟨rfl, _, sqL r3.hll⟩, _, rfl, o, _, rfl, r3.fld rfl, _, rfl, o, _, rfl, r3.fld rfl, _, _, rfl, .inl ⟨_, sqL upd_same, rfl⟩, by show 3 ≤ sizeLine; decide, fun tt ht => ?_⟩
      rw [lc3]
      have ei : (((S.calls.length + 1 : Nat)) : Int) = (S.calls.length : Int) + 1 := by omega
      rw [ei]
      have s4 := same_new (o := rowT (S.now, ((S.calls.length : Int) + 1), "sent")) ht
      have r4 := r3.same s4
      refine ⟨M.ll, _, _, rfl, rfl, r4.hll, by rw [List.length_map, r.tl]; exact Nat.lt_of_le_of_lt lg (by decide), ?_⟩
      have r5 := r4.row (t := tt) (e := (S.now, ((S.calls.length : Int) + 1), "sent")) upd_same
      rw [List.map_append (l₂ := [tt])] at r5
      refine ⟨_, rfl, o, _, rfl, r5.fld rfl, _, _, rfl, .inl ⟨_, sqL r5.hlc, rfl⟩, ?_⟩
      have l5 : (((M.cs ++ [c]).map V.ref).length : Int) = (S.calls.length : Int) + 1 := by rw [List.length_map, List.length_append, r.cl]; simp
      have fin := q3 hg (by omega) _ _ r5 ((st3.same s4).trans ⟨fun d v h nfd => by
        rw [upd_ne fun z => nfd (.inr (.inr (.inr (.inl z))))]
        exact h, fun d hd => .inl hd⟩)
      exact (congrArg (fun v => Q v _) (congrArg V.int l5)).mpr fin
end
end T
end
section
namespace T
open PySem PySem.Spec PyProof.Rows L2 Tr LamX
section
variable {P : Program} {w : World} {K : PySem.W.Frag} {mg : Str → Option Value} {base : Heap}
def spOTry (K : PySem.W.Frag) : Sp := fun vs H Q _ => ∃ (o : Addr) (M : OLay) (S : St), vs = [.ref o] ∧ Own K H o M S ∧ Wf S ∧ S.log.length ≤ 10000000 ∧ (dueL S = [] → ∀ H', Same H H' → Q .non H') ∧
  (∀ (i : Nat) rest q, dueL S = ((1 + i : Nat) : Int) :: rest → S.calls[i]? = some q → ∀ H' M' t, Own K H' o M' (beginS S i q) → OStep o M H M' H' → H' t = some (tryT S i q) → Q (.ref t) H')
theorem k_l_try (T : Txt K mg) : Kal P w K mg base CX0 4 "_law_try" (spOTry K) := by
  refine kal_of T.f_l_try T.g_l_try sc_l_try (fun _ _ _ _ _ _ us hl => match us, hl with | [_], _ => rfl) (fun vs H Q E ⟨_, _, _, h, _⟩ => by rw [h] <;> rfl) fun cdv A outer s H vs Q E hr ⟨o, M, S, e, r, wf, lg, q1, q2⟩ => ?_
  subst e
  have hu := hu_of hr
  have nd := sc_l_try.nd
  refine ⟨_, pss_cons (ps_set (i := 1) nd rfl (Or.inl rfl) (pe_k (E := E0) (k_l_due T) hr (by decide) pass0 (pa_cons (pv 0) pa_nil)))
    (pss_cons (ps_if (pt_cmpR (op_eqD hr.units) (pv 1) (pe_lst pa_nil) (nomark _)) (pss_one (ps_ret pe_non)) pss_nil)
    (pss_cons (ps_set (i := 2) nd rfl (Or.inl rfl) (pe_ix ix_list (pe_dget hu (pv 0) pe_str (fun _ _ => rfl)) (pe_op op_sub (pe_ix ix_list (pv 1) pe_int (fun _ _ => rfl)) pe_int) (fun _ _ => rfl)))
    (pss_cons (ps_asg (pe_tup (pa_cons pe_str (pa_cons (pe_dget hu (pv 0) pe_str (fun _ _ => rfl)) (pa_cons (pe_k (E := E0) (k_l_real T) hr (by decide) pass0 (pa_cons (pv 0) (pa_cons (pe_dget hu (pv 2) pe_str (fun _ _ => rfl)) pa_nil))) pa_nil))))
        (pg_tup rfl (pgs_cons (pg_sub (pv 2) pe_str (set_dict hu) (fun _ => rfl)) (pgs_cons (pg_sub (pv 2) pe_str (set_dict hu) (fun _ => rfl)) (pgs_cons (pg_sub (pv 2) pe_str (set_dict hu) (fun _ => rfl)) pgs_nil)))))
    (pss_cons (ps_dput hu (pv 2) pe_str (pe_op op_add (pe_dget hu (pv 2) pe_str (fun _ _ => rfl)) pe_int) rfl)
    (pss_cons (ps_expr (pe_bm PySem.F.plainAttrs_list PySem.F.slot_list_append PySem.F.type_list_append mt_append (pe_dget hu (pv 0) pe_str (fun _ _ => rfl)) (pa_cons (pe_tup (pa_cons (pe_dget hu (pv 0) pe_str (fun _ _ => rfl)) (pa_cons (pe_ix ix_list (pv 1) pe_int (fun _ _ => rfl)) (pa_cons pe_str pa_nil)))) pa_nil)))
    (pss_one (ps_ret (pe_tup (pa_cons (pe_ix ix_list (pv 1) pe_int (fun _ _ => rfl)) (pa_cons (pe_op op_add_str pe_str (b_str T.n_str (pa_cons (pe_ix ix_list (pv 1) pe_int (fun _ _ => rfl)) pa_nil))) (pa_cons (pe_dget hu (pv 2) pe_str (fun _ _ => rfl)) (pa_cons (pe_dget hu (pv 2) pe_str (fun _ _ => rfl)) (pa_cons (pe_dget hu (pv 2) pe_str (fun _ _ => rfl)) pa_nil))))))))))))), ?_⟩
  refine ⟨_, rfl, o, M, S, rfl, r, wf, fun H1 D s1 hD eD => ⟨_, rfl, by show 0 ≤ sizeLine; decide, fun D2 hD2 => ?_⟩⟩
  have s2 := same_new (o := HO.lst []) hD2
  refine ⟨_, _, dp_lints (s2 _ _ eD), .lst (sqL upd_same) .nil, (sh_ints _).shaped, (sh_ints []).shaped, _, rfl, ?_⟩
  rw [eqv_nil]
  have s12 := s1.trans s2
  cases e : dueL S with
  | nil => exact q1 e _ s12
  | cons a rest =>
    have hm : a ∈ dueL S := by rw [e]; exact List.mem_cons_self
    unfold dueL at hm
    obtain ⟨i, hi, rfl⟩ := List.mem_map.mp hm
    have hi' : i < S.calls.length := List.mem_range.mp (List.mem_filter.mp hi).1
    have hqi : S.calls[i]? = some S.calls[i] := List.getElem?_eq_getElem hi'
    rw [e] at eD
    have eD2 := s2 _ _ eD
    have r2 := r.same s12
    generalize upd H1 D2 (.lst []) = H2 at s2 s12 eD2 r2
    have gl := wf.goal _ (List.getElem_mem hi')
    have gs : (getT S.roads S.calls[i].goal).isSome = true := (Bool.and_eq_true_iff.mp gl).2
    have fin := q2 i rest _ e hqi
    generalize S.calls[i] = q at hqi gl gs fin
    have hil : i < M.cs.length := by rw [r.cl]; exact hi'
    have hci : M.cs[i]? = some M.cs[i] := List.getElem?_eq_getElem hil
    have hcm : M.cs[i] ∈ M.cs := List.getElem_mem hil
    have hc := r2.hc i _ _ hci hqi
    have hat : atI (M.cs.map V.ref) (((1 + i : Nat) : Int) - 1) = some (.ref M.cs[i]) := by
      rw [show ((1 + i : Nat) : Int) - 1 = ((i : Nat) : Int) by omega]
      exact atI_nat (by rw [List.getElem?_map, hci]; rfl)
    generalize M.cs[i] = c at hci hat hc hcm
    have h0 : atI ((((1 + i : Nat) : Int) :: rest).map V.int) 0 = some (.int ((1 + i : Nat) : Int)) := atI_nat (j := 0) rfl
    refine ⟨_, rfl, o, _, rfl, r2.fld rfl, _, rfl, _, _, _, _, rfl, rfl, sqL eD2, h0, _, _, rfl, rfl, _, _, _, _, rfl, rfl, sqL r2.hlc, hat, ?_⟩
    refine ⟨_, rfl, o, _, rfl, r2.fld rfl, _, rfl, _, rfl, c, _, rfl, Own.cfld hc rfl, o, M, S, q.goal, rfl, r2, wf.en, gs, by show 3 ≤ sizeLine; decide, fun tp htp => ?_⟩
    have s3 := same_new (o := HO.tup [.str "tried", .int S.now, .str (endOf S.roads q.goal)]) htp
    have hc3 := s3 _ _ hc
    refine ⟨_, _, rfl, sqT upd_same, rfl, _, _, rfl, ?_⟩
    refine ⟨_, rfl, c, _, rfl, DPut.k (k := Sum.inr "word") hc3 (by show 8 < sizeLine; decide), ?_⟩
    rw [put_word]
    have nD : ¬ ofoot o M D := fun f => by
      obtain ⟨u, h⟩ := r.some_ f
      rw [hD] at h
      cases h
    have r4 := (r2.same s3).obj hci { q with word := "tried" }
    have st4 : OStep o M H2 M (upd (upd H2 tp (.tup [.str "tried", .int S.now, .str (endOf S.roads q.goal)])) c (.dK (ownC { q with word := "tried" }))) := ostep_obj (o := o) (u := .dK (ownC { q with word := "tried" })) s3 hcm
    have hc4 : upd (upd H2 tp (.tup [.str "tried", .int S.now, .str (endOf S.roads q.goal)])) c (.dK (ownC { q with word := "tried" })) c = some (.dK (ownC { q with word := "tried" })) := upd_same
    generalize upd (upd H2 tp (.tup [.str "tried", .int S.now, .str (endOf S.roads q.goal)])) c (.dK (ownC { q with word := "tried" })) = H4 at r4 st4 hc4
    refine ⟨_, _, rfl, _, rfl, c, _, rfl, DPut.k (k := Sum.inr "time") hc4 (by show 8 < sizeLine; decide), ?_⟩
    rw [put_time]
    have r5 := r4.obj hci { q with word := "tried", time := S.now }
    have st5 := ostep_upd (u := .dK (ownC { q with word := "tried", time := S.now })) st4 hcm
    simp only [List.set_set] at r5
    have hc5 : upd H4 c (.dK (ownC { q with word := "tried", time := S.now })) c = some (.dK (ownC { q with word := "tried", time := S.now })) := upd_same
    generalize upd H4 c (.dK (ownC { q with word := "tried", time := S.now })) = H5 at r5 st5 hc5
    refine ⟨_, _, rfl, _, rfl, c, _, rfl, DPut.k (k := Sum.inr "place") hc5 (by show 8 < sizeLine; decide), ?_⟩
    rw [put_place]
    have r6 := r5.obj hci { q with word := "tried", time := S.now, place := endOf S.roads q.goal }
    have st6 := ostep_upd (u := .dK (ownC { q with word := "tried", time := S.now, place := endOf S.roads q.goal })) st5 hcm
    simp only [List.set_set] at r6
    have hc6 : upd H5 c (.dK (ownC { q with word := "tried", time := S.now, place := endOf S.roads q.goal })) c = some (.dK (ownC { q with word := "tried", time := S.now, place := endOf S.roads q.goal })) := upd_same
    generalize upd H5 c (.dK (ownC { q with word := "tried", time := S.now, place := endOf S.roads q.goal })) = H6 at r6 st6 hc6
    refine ⟨rfl, ?_⟩
    refine ⟨_, rfl, c, _, rfl, Own.cfld hc6 rfl, _, _, rfl, rfl, _, rfl, c, _, rfl, DPut.k (k := Sum.inr "many") hc6 (by show 8 < sizeLine; decide), ?_⟩
    rw [put_many]
    have r7 : Own K (upd H6 c (.dK (ownC (begC S q)))) o M { S with calls := S.calls.set i (begC S q) } := by
      have z := r6.obj hci (begC S q)
      simp only [List.set_set] at z
      exact z
    have st7 : OStep o M H2 M (upd H6 c (.dK (ownC (begC S q)))) := ostep_upd (u := .dK (ownC (begC S q))) st6 hcm
    have hc7 : upd H6 c (.dK (ownC (begC S q))) c = some (.dK (ownC (begC S q))) := upd_same
    have eb : ({ { q with word := "tried", time := S.now, place := endOf S.roads q.goal } with many := q.many + 1 } : Cal) = begC S q := rfl
    show tSeq _ _ _ _ (upd H6 c (.dK (ownC (begC S q))))
    generalize upd H6 c (.dK (ownC (begC S q))) = H7 at r7 st7 hc7
    have eD7 := st7.fr D _ eD2 nD
    refine ⟨_, rfl, o, _, rfl, r7.fld rfl, .inl ⟨rfl, _, sqL r7.hll⟩, _, rfl, o, _, rfl, r7.fld rfl, _, rfl, _, _, _, _, rfl, rfl, sqL eD7, h0, by show 3 ≤ sizeLine; decide, fun t ht => ?_⟩
    have s8 := same_new (o := rowT (S.now, ((1 + i : Nat) : Int), "tried")) ht
    have r8 := r7.same s8
    refine ⟨M.ll, _, _, rfl, rfl, r8.hll, by rw [List.length_map, r.tl]; exact Nat.lt_of_le_of_lt lg (by decide), ?_⟩
    have r9 := r8.row (t := t) (e := (S.now, ((1 + i : Nat) : Int), "tried")) upd_same
    rw [List.map_append] at r9
    have st9 : OStep o M H2 { M with ts := M.ts ++ [t] } (upd (upd H7 t (rowT (S.now, ((1 + i : Nat) : Int), "tried"))) M.ll (.lst (M.ts.map V.ref ++ [t].map V.ref))) := by
      refine (st7.same s8).trans ⟨fun d v h nf => ?_, fun d hd => .inl hd⟩
      rw [upd_ne fun z => nf (.inr (.inr (.inr (.inl z))))]
      exact h
    have ncl : c ≠ M.ll := fun z => by
      have h := r8.hll
      rw [← z, s8 _ _ hc7] at h
      cases h
    have hc9 : upd (upd H7 t (rowT (S.now, ((1 + i : Nat) : Int), "tried"))) M.ll (.lst (M.ts.map V.ref ++ [t].map V.ref)) c = some (.dK (ownC (begC S q))) := by
      rw [upd_ne ncl]
      exact s8 _ _ hc7
    have eD9 := st9.fr D _ eD2 nD
    have ns := num_short (i := i) (by have := wf.l30; omega)
    refine ⟨_, rfl, _, _, _, _, rfl, rfl, sqL eD9, h0, _, rfl, _, _, _, _, rfl, rfl, sqL eD9, h0, _, rfl, ns.1, _, _, rfl, rfl, sz ns.2, _, rfl, c, _, rfl, Own.cfld hc9 rfl, _, rfl, c, _, rfl, Own.cfld hc9 rfl, _, rfl, c, _, rfl, Own.cfld hc9 rfl, by show 5 ≤ sizeLine; decide, fun tq htq => ?_⟩
    exact fin _ _ tq (r9.same (same_new htq)) (((OStep.refl_same s12).trans st9).same (same_new htq)) upd_same
end
end T
end
section
namespace T
open PySem PySem.Spec PyProof.Rows L2 Tr LamX
/-! ### what keeps == and >= alike -/
def AllC (R : Nat → Cal → Prop) (l : List Cal) : Prop := ∀ (j : Nat) q, l[j]? = some q → R j q
theorem allC_set {R R' : Nat → Cal → Prop} {l : List Cal} {k : Nat} {q : Cal} (h : AllC R l) (hn : ∀ j q, j ≠ k → R j q → R' j q) (hk : R' k q) : AllC R' (l.set k q) := fun j u hu => by
  by_cases e : j = k
  · subst e
    by_cases hl : j < l.length
    · rw [List.getElem?_set_self hl] at hu
      cases hu
      exact hk
    · rw [List.getElem?_eq_none (by rw [List.length_set]; omega)] at hu
      cases hu
  · rw [List.getElem?_set_ne fun z => e z.symm] at hu
    exact hn j u e (h j u hu)
def inFails (S : St) (q : Cal) : Prop := (q.word = ("waits" : Str) ∨ q.word = ("tried" : Str)) → q.fails < S.rule.m
def SaneI (S : St) (i : Nat) : Prop := AllC (fun j q => inFails S q ∧ (q.word = ("tried" : Str) → q.time ≤ S.now ∧ S.now - q.time ≤ S.rule.p ∧ (j < i → S.now - q.time < S.rule.p))) S.calls
def Sane (S : St) : Prop := AllC (fun _ q => inFails S q ∧ (q.word = ("tried" : Str) → q.time ≤ S.now ∧ S.now - q.time < S.rule.p)) S.calls
theorem Sane.tick0 {S : St} (h : Sane S) : SaneI (tick0 S) 0 := fun j q hq => by
  obtain ⟨a, b⟩ := h j q hq
  refine ⟨a, fun w => ?_⟩
  obtain ⟨b1, b2⟩ := b w
  exact ⟨by show q.time ≤ S.now + 1; omega, by show S.now + 1 - q.time ≤ S.rule.p; omega, fun z => absurd z (Nat.not_lt_zero j)⟩
theorem SaneI.all {S : St} {n : Nat} (h : SaneI S n) (hn : S.calls.length ≤ n) : Sane S := fun j q hq => by
  obtain ⟨a, b⟩ := h j q hq
  have hj := (List.getElem?_eq_some_iff.mp hq).1
  exact ⟨a, fun w => ⟨(b w).1, (b w).2.2 (by omega)⟩⟩
theorem inv_fail {S : St} {i : Nat} {q : Cal} {R : Nat → Cal → Prop} (h : AllC R S.calls) (R' : Nat → Cal → Prop) (hn : ∀ j u, j ≠ i → R j u → R' j u) (hp : R' i { q with fails := q.fails + 1, word := "put by" })
    (hw : q.fails + 1 < S.rule.m → R' i { q with fails := q.fails + 1, word := "waits", time := S.now + waitOf S.rule (q.fails + 1) }) : AllC R' (failS S i q).calls ∧ (failS S i q).rule = S.rule ∧ (failS S i q).now = S.now := by
  unfold failS
  split
  · exact ⟨allC_set h hn hp, rfl, rfl⟩
  · exact ⟨allC_set h hn (hw (by omega)), rfl, rfl⟩
theorem SaneI.step {S : St} {i : Nat} (h : SaneI S i) : SaneI (tickStep S i) (i + 1) := by
  unfold tickStep
  cases e : S.calls[i]? with
  | none =>
    intro j q hq
    obtain ⟨a, b⟩ := h j q hq
    refine ⟨a, fun w => ⟨(b w).1, (b w).2.1, fun hj => (b w).2.2 ?_⟩⟩
    have : j ≠ i := fun z => by
      rw [z, e] at hq
      cases hq
    omega
  | some q =>
    dsimp only
    split
    · rename_i c
      obtain ⟨g, hr, hn⟩ := inv_fail (q := q) h (fun j u => inFails S u ∧ (u.word = ("tried" : Str) → u.time ≤ S.now ∧ S.now - u.time ≤ S.rule.p ∧ (j < i + 1 → S.now - u.time < S.rule.p)))
        (fun j u hj ⟨a, b⟩ => ⟨a, fun w => ⟨(b w).1, (b w).2.1, fun z => (b w).2.2 (Nat.lt_of_le_of_ne (Nat.le_of_lt_succ z) hj)⟩⟩)
        ⟨fun z => by rcases z with z | z <;> exact absurd (show ("put by" : Str) = _ from z) (by decide), fun z => absurd (show ("put by" : Str) = "tried" from z) (by decide)⟩
        (fun hm => ⟨fun _ => hm, fun z => absurd (show ("waits" : Str) = "tried" from z) (by decide)⟩)
      unfold SaneI inFails at *
      rw [hr, hn]
      exact g
    · rename_i c
      intro j u hu
      obtain ⟨a, b⟩ := h j u hu
      refine ⟨a, fun w => ⟨(b w).1, (b w).2.1, fun hj => ?_⟩⟩
      by_cases z : j = i
      · subst z
        rw [e] at hu
        cases hu
        have := mt (fun t => (⟨w, t⟩ : q.word = ("tried" : Str) ∧ S.rule.p ≤ S.now - q.time)) c
        omega
      · exact (b w).2.2 (by omega)
theorem Sane.tickI {S : St} (h : Sane S) : ∀ i, SaneI (tickI S i) i
  | 0 => h.tick0
  | i + 1 => (Sane.tickI h i).step
theorem Sane.tick1 {S : St} (h : Sane S) : Sane (tick1 S) := (h.tickI S.calls.length).all (Nat.le_of_eq (keeps_tickI S S.calls.length).1.len)
theorem Sane.tickN {S : St} (h : Sane S) : ∀ n, Sane (tickN S n)
  | 0 => h
  | n + 1 => (Sane.tickN h n).tick1
section
variable {P : Program} {w : World} {K : PySem.W.Frag} {mg : Str → Option Value} {base : Heap}
def spOTick (K : PySem.W.Frag) : Sp := fun vs H Q _ => ∃ (o : Addr) (M : OLay) (S : St) (n : Nat), vs = [.ref o, .int (n : Int)] ∧ Own K H o M S ∧ Wf S ∧ Sane S ∧ S.log.length ≤ 9000000 ∧ n ≤ 100 ∧
  (∀ H' M', Own K H' o M' (tickN S n) → OStep o M H M' H' → Q .non H')
def spOTickC (K : PySem.W.Frag) : Sp := fun vs H Q _ => ∃ (o : Addr) (M : OLay) (S : St) (n : Nat), vs = [.ref o, .int (n : Int)] ∧ Own K H o M S ∧ Wf S ∧ Sane S ∧ S.log.length ≤ 9000000 ∧ n ≤ 100 ∧
  (∀ H' M', M'.cs = M.cs → Own K H' o M' (tickN S n) → OStep o M H M' H' → Q .non H')
theorem k_l_tickC (T : Txt K mg) : Kal P w K mg base CX0 3 "_law_tick" (spOTickC K) := by
  refine kal_of T.f_l_tick T.g_l_tick sc_l_tick (fun _ _ _ _ _ _ us hl => match us, hl with | [_, _], _ => rfl) (fun vs H Q E ⟨_, _, _, _, h, _⟩ => by rw [h] <;> rfl) fun cdv A outer s H vs Q E hr ⟨o, M, S, n, e, r, wf, iv, lg, hn, fin⟩ => ?_
  subst e
  have hu := hu_of hr
  have nd := sc_l_tick.nd
  refine ⟨_, PSs.nox (pss_one (ps_for PassesOwn.never rfl (pi_range1 (by rfl) T.n_range (pa_cons (pv 1) pa_nil)) (pg_name (i := 2) nd rfl (Or.inl rfl))
    (pss_cons (ps_dput hu (pv 0) pe_str (pe_op op_add (pe_dget hu (pv 0) pe_str (fun _ _ => rfl)) pe_int) rfl)
    (pss_one (ps_for PassesOwn.never rfl (pi_range2 (by rfl) T.n_range (pa_cons pe_int (pa_cons (pe_op op_add (b_len T.n_len (pa_cons (pe_dget hu (pv 0) pe_str (fun _ _ => rfl)) pa_nil)) pe_int) pa_nil))) (pg_name (i := 3) nd rfl (Or.inl rfl))
      (pss_cons (ps_set (i := 4) nd rfl (Or.inl rfl) (pe_ix ix_list (pe_dget hu (pv 0) pe_str (fun _ _ => rfl)) (pe_op op_sub (pv 3) pe_int) (fun _ _ => rfl)))
      (pss_one (ps_if (PW.pt (pw_and (pt_cmpR op_eq (pe_dget hu (pv 4) pe_str (fun _ _ => rfl)) pe_str (nomark _)) (pw_and1 (pt_cmpR op_eq (pe_op op_sub (pe_dget hu (pv 0) pe_str (fun _ _ => rfl)) (pe_dget hu (pv 4) pe_str (fun _ _ => rfl))) (pe_ix ix_tup (pe_dget hu (pv 0) pe_str (fun _ _ => rfl)) pe_int (fun _ _ => rfl)) (nomark _)))))
        (pss_one (ps_expr (pe_k (E := E0) (k_l_fail T) hr (by decide) pass0 (pa_cons (pv 0) (pa_cons (pv 3) pa_nil))))) pss_nil)))))))), ?_⟩
  refine ⟨_, rfl, _, rfl, by omega, by omega, ?_⟩
  have en : ((n : Nat) : Int).toNat = n := by omega
  refine for_it (walk_range (lo := 0) (n := ((n : Nat) : Int).toNat)) (fun j σ H' => ∃ M', M'.cs = M.cs ∧ Own K H' o M' (tickN S j) ∧ OStep o M H M' H' ∧ ∃ o2 o3 o4, σ = [some (.ref o), some (.int (n : Int)), o2, o3, o4]) ⟨M, rfl, r, .refl_same (Same.refl H), _, _, _, rfl⟩ (fun _ _ _ _ _ => trivial) ?_ ?_
  · rintro j y σ H1' H1 hj ⟨M1, em1, r1, st1, o2, o3, o4, rfl⟩ ⟨rfl, rfl⟩
    have hj : j < n := by omega
    obtain ⟨kn, ln⟩ := keeps_tickN wf.l30 j
    have ivj := iv.tickN j
    refine ⟨_, rfl, o, _, rfl, r1.fld rfl, _, _, rfl, rfl, _, rfl, o, _, rfl, DPut.k (k := Sum.inr "now") r1.ho (by show 5 < sizeLine; decide), ?_⟩
    rw [put_now]
    have r2 := r1.clock ((tickN S j).now + 1)
    have st2 : OStep o M H M1 (upd H1 o (.dK (ownKV M1 ((tickN S j).now + 1)))) := by
      refine st1.trans ⟨fun d u h nf => ?_, fun d hd => .inl hd⟩
      rw [upd_ne fun z => nf (.inl z)]
      exact h
    generalize upd H1 o (.dK (ownKV M1 ((tickN S j).now + 1))) = H2 at r2 st2
    have l30 : (tickN S j).calls.length ≤ 30 := by rw [kn.len]; exact wf.l30
    have lc : (M1.cs.map V.ref).length = (tickN S j).calls.length := by rw [List.length_map, r1.cl]
    refine ⟨_, rfl, o, _, rfl, r2.fld rfl, _, _, rfl, .inl ⟨_, sqL r2.hlc, rfl⟩, _, _, rfl, rfl, _, _, rfl, ⟨by omega, by omega, by omega, by omega⟩, ?_⟩
    have en2 : ((((M1.cs.map V.ref).length : Nat) : Int) + 1 - 1).toNat = (tickN S j).calls.length := by rw [lc]; omega
    have kt := fun i => keeps_tickI (tickN S j) i
    refine for_it (walk_range (lo := 1) (n := ((((M1.cs.map V.ref).length : Nat) : Int) + 1 - 1).toNat)) (fun i σ H' => ∃ M', M'.cs = M.cs ∧ Own K H' o M' (tickI (tickN S j) i) ∧ OStep o M H M' H' ∧ ∃ o3 o4, σ = [some (.ref o), some (.int (n : Int)), some (.int (0 + (j : Nat))), o3, o4])
      ⟨M1, em1, r2, st2, _, _, rfl⟩ (fun _ _ _ _ _ => trivial) ?_ ?_
    · rintro i y σ H4' H4 hi ⟨M4, em4, r4, st4, o3, o4, rfl⟩ ⟨rfl, rfl⟩
      have hi : i < (tickN S j).calls.length := by omega
      obtain ⟨ki, li⟩ := kt i
      have hiI : i < (tickI (tickN S j) i).calls.length := by rw [ki.len]; exact hi
      have hil : i < M4.cs.length := by rw [r4.cl]; exact hiI
      have hci : M4.cs[i]? = some M4.cs[i] := List.getElem?_eq_getElem hil
      have hqi : (tickI (tickN S j) i).calls[i]? = some (tickI (tickN S j) i).calls[i] := List.getElem?_eq_getElem hiI
      have hc := r4.hc i _ _ hci hqi
      have wfI := ki.wf (kn.wf wf)
      have f0 := wfI.fails _ (List.getElem_mem hiI)
      have ii := ivj.tickI i
      have estep : tickI (tickN S j) (i + 1) = if (tickI (tickN S j) i).calls[i].word = ("tried" : Str) ∧ (tickI (tickN S j) i).rule.p ≤ (tickI (tickN S j) i).now - (tickI (tickN S j) i).calls[i].time then failS (tickI (tickN S j) i) i (tickI (tickN S j) i).calls[i] else tickI (tickN S j) i := by
        show tickStep (tickI (tickN S j) i) i = _
        unfold tickStep
        rw [hqi]
      have ljj : (tickI (tickN S j) i).log.length ≤ 10000000 := by omega
      generalize tickI (tickN S j) i = SI at *
      generalize SI.calls[i] = q at *
      obtain ⟨iv1, iv2⟩ := ii i q hqi
      have hat : atI (M4.cs.map V.ref) (1 + (i : Int) - 1) = some (.ref M4.cs[i]) := by
        rw [show 1 + (i : Int) - 1 = ((i : Nat) : Int) by omega]
        exact atI_nat (by rw [List.getElem?_map, hci]; rfl)
      generalize M4.cs[i] = c at *
      refine ⟨_, rfl, o, _, rfl, r4.fld rfl, _, rfl, _, _, rfl, rfl, _, _, _, _, rfl, rfl, sqL r4.hlc, hat, ?_⟩
      refine ⟨_, rfl, c, _, rfl, Own.cfld hc rfl, rfl, _, rfl, ?_⟩
      rw [str_dec]
      by_cases h1 : q.word = ("tried" : Str)
      · rw [decide_eq_true h1]
        refine ⟨_, rfl, o, _, rfl, r4.fld rfl, _, rfl, c, _, rfl, Own.cfld hc rfl, _, _, rfl, rfl, _, rfl, o, _, rfl, r4.fld rfl, _, _, _, _, rfl, rfl, sqT r4.hrl, rfl, rfl, _, rfl, ?_⟩
        rw [int_dec]
        obtain ⟨t1, t2, _⟩ := iv2 h1
        by_cases h2 : SI.now - q.time = SI.rule.p
        · rw [decide_eq_true h2]
          rw [if_pos ⟨h1, by omega⟩] at estep
          have ei : V.int (1 + (i : Int)) = V.int ((1 + i : Nat) : Int) := congrArg V.int (by omega)
          refine ⟨_, rfl, _, rfl, o, M4, SI, i, q, congrArg (fun z => [V.ref o, z]) ei, r4, hqi, wfI.ok, f0, iv1 (.inr h1), ljj, fun H5 ts5 r5 st5 => ⟨{ M4 with ts := ts5 }, em4, by rw [estep]; exact r5, st4.trans st5, _, _, rfl⟩⟩
        · rw [decide_eq_false h2]
          rw [if_neg fun z => h2 (by have := z.2; omega)] at estep
          exact ⟨M4, em4, by rw [estep]; exact r4, st4, _, _, rfl⟩
      · rw [decide_eq_false h1]
        rw [if_neg fun z => h1 z.1] at estep
        exact ⟨M4, em4, by rw [estep]; exact r4, st4, _, _, rfl⟩
    · rintro σ H4 ⟨M4, em4, r4, st4, o3, o4, rfl⟩
      rw [en2] at r4
      exact ⟨M4, em4, r4, st4, _, _, _, rfl⟩
  · rintro σ H1 ⟨M1, em1, r1, st1, o2, o3, o4, rfl⟩
    rw [en] at r1
    exact fin H1 M1 em1 r1 st1
theorem k_l_tick (T : Txt K mg) : Kal P w K mg base CX0 3 "_law_tick" (spOTick K) := by
  obtain ⟨f, fd, ps, F, r⟩ := (k_l_tickC T : Kal P w K mg base CX0 3 "_law_tick" (spOTickC K)).ex
  exact ⟨f, fd, ps, F.imp fun vs H Q E ⟨o, M, S, n, e, r, wf, iv, lg, hn, fin⟩ => ⟨o, M, S, n, e, r, wf, iv, lg, hn, fun H' M' _ => fin H' M'⟩, r⟩
end
end T
end
section
namespace T
open PySem PySem.Spec PyProof.Rows L2 Tr LamX
/-! ### what a deed gives back -/
abbrev Fl := Int ⊕ Str
def flV : Fl → V
  | .inl n => .int n
  | .inr s => .str s
def flD : Fl → PyData
  | .inl n => .int n
  | .inr s => .str s
inductive Res (H : Hp) : V → PyData → Prop
  | non : Res H .non .none
  | int (i : Int) : Res H (.int i) (.int i)
  | tup {t : Addr} (fs : List Fl) (e : H t = some (.tup (fs.map flV))) : Res H (.ref t) (.tuple (fs.map flD))
theorem dp_fls {K : PySem.W.Frag} {H : Hp} : ∀ fs : List Fl, DpAll K H (fs.map flV) (fs.map flD)
  | [] => .nil
  | .inl n :: fs => .cons (.int n) (dp_fls fs)
  | .inr s :: fs => .cons (.str s) (dp_fls fs)
theorem Res.dp {K : PySem.W.Frag} {H : Hp} {v : V} {d : PyData} (r : Res H v d) : Dp K H v d := by
  cases r with
  | non => exact .non
  | int i => exact .int i
  | tup fs e => exact .tup (sqT e) (dp_fls fs)
theorem Res.tups {H H' : Hp} {v : V} {d : PyData} (r : Res H v d) (h : ∀ t xs, H t = some (.tup xs) → H' t = some (.tup xs)) : Res H' v d := by
  cases r with
  | non => exact .non
  | int i => exact .int i
  | tup fs e => exact .tup fs (h _ _ e)
theorem Res.rf {H : Hp} {t : Addr} {n : Str} (e : H t = some (.tup [.str "refused", .str n])) : Res H (.ref t) (rfD n) := .tup [.inr "refused", .inr n] e
/-- no tuple is written by a step -/
theorem OStep.tups {K : PySem.W.Frag} {H H' : Hp} {o : Addr} {M M' : OLay} {S : St} (r : Own K H o M S) (s : OStep o M H M' H') : ∀ t xs, H t = some (.tup xs) → H' t = some (.tup xs) := fun t xs e => by
  refine s.fr t _ e fun f => ?_
  rcases f with z | z | z | z | z
  · rw [z, r.ho] at e
    cases e
  · rw [z, r.hdr] at e
    cases e
  · rw [z, r.hlc] at e
    cases e
  · rw [z, r.hll] at e
    cases e
  · obtain ⟨_, _, _, _, h⟩ := r.at z
    rw [h] at e
    cases e
theorem Step.tups {K : PySem.W.Frag} {H H' : Hp} {p : Addr} {L L' : Lay} {S : St} (r : Rep K H p L S) (s : Step p L H L' H') : ∀ t xs, H t = some (.tup xs) → H' t = some (.tup xs) := fun t xs e => by
  refine s.fr t _ e fun f => ?_
  rcases f with z | z | z | z | z
  · obtain ⟨_, h⟩ := r.ins
    rw [z, h] at e
    cases e
  · rw [z, r.hdr] at e
    cases e
  · rw [z, r.hdc] at e
    cases e
  · rw [z, r.hdl] at e
    cases e
  · obtain ⟨_, _, _, _, _, h⟩ := r.at z
    rw [h] at e
    cases e
/-! ### deeds by hand, answers -/
def needB (x y : Str) : Bool := if x = ("go on" : Str) then decide (y = ("put by" : Str)) else if x = ("drop" : Str) ∨ x = ("change" : Str) then loose_ y else decide (y = ("tried" : Str))
def needL (x : Str) : List V := if x = ("go on" : Str) then [V.str "put by"] else if x = ("drop" : Str) ∨ x = ("change" : Str) then [V.str "waits", V.str "put by"] else [V.str "tried"]
def endW (x : Str) : Str := if x = ("go on" : Str) then "waits" else if x = ("drop" : Str) then "gone" else if x = ("good" : Str) then "done" else "put by"
def actS (S : St) (i : Nat) (q : Cal) (x g : Str) : St := if x = ("change" : Str) then changeS S i q g else if x = ("go on" : Str) then goS S i q else if x = ("drop" : Str) then dropS S i q else answerS S i q x
def handS (S : St) (x : Str) (n : Int) (g : Str) : St × PyData := if 1 ≤ n ∧ n ≤ (S.calls.length : Int) then (match S.calls[(n - 1).toNat]? with
  | some q => if x = ("change" : Str) ∧ (getT S.roads g).isSome = false then (S, rfD "BadName") else if needB x q.word = true then (actS S (n - 1).toNat q x g, .none) else (S, rfD "BadCall")
  | none => (S, rfD "BadCall")) else (S, rfD "BadCall")
inductive IsHand : Str → Prop
  | go : IsHand "go on"
  | drop : IsHand "drop"
  | change : IsHand "change"
  | good : IsHand "good"
  | later : IsHand "later"
  | never : IsHand "never"
theorem in1 (x a : Str) : inV (.str x) [V.str a] = decide (x = a) := by
  have e := inV_strs x [a]
  rw [show [V.str a] = [a].map V.str from rfl, e]
  simp
theorem need_in {x : Str} (h : IsHand x) (y : Str) : inV (.str y) (needL x) = needB x y := by
  cases h
  · exact in1 _ _
  · exact in2 _ _ _
  · exact in2 _ _ _
  · exact in1 _ _
  · exact in1 _ _
  · exact in1 _ _
theorem need_flat {x : Str} (h : IsHand x) : (needL x).all flatV = true := by
  cases h <;> rfl
section
variable {P : Program} {w : World} {K : PySem.W.Frag} {mg : Str → Option Value} {base : Heap}
def spOHand (K : PySem.W.Frag) : Sp := fun vs H Q _ => ∃ (o : Addr) (M : OLay) (S : St) (x : Str) (n : Int) (g : Str), vs = [.ref o, .str x, .int n, .str g] ∧ IsHand x ∧ Own K H o M S ∧ Wf S ∧ Sane S ∧ S.log.length ≤ 10000000 ∧
  ∀ H' M' v, Own K H' o M' (handS S x n g).1 → OStep o M H M' H' → Res H' v (handS S x n g).2 → Q v H'
theorem k_l_hand (T : Txt K mg) : Kal P w K mg base CX0 3 "_law_hand" (spOHand K) := by
  refine kal_of T.f_l_hand T.g_l_hand sc_l_hand (fun _ _ _ _ _ _ us hl => match us, hl with | [_, _, _, _], _ => rfl) (fun vs H Q E ⟨_, _, _, _, _, _, h, _⟩ => by rw [h] <;> rfl) fun cdv A outer s H vs Q E hr ⟨o, M, S, x, n, g, e, hx, r, wf, iv, lg, fin⟩ => ?_
  subst e
  have hu := hu_of hr
  have nd := sc_l_hand.nd
  refine ⟨_, pss_cons (ps_set (i := 4) nd rfl (Or.inl rfl) (pe_tup (pa_cons pe_str (pa_cons pe_str pa_nil))))
    (pss_cons (ps_if (pt_not (pt_chain op_le op_le pe_int (pv 2) (b_len T.n_len (pa_cons (pe_dget hu (pv 0) pe_str (fun _ _ => rfl)) pa_nil)))) (pss_one (ps_ret (pv 4))) pss_nil)
    (pss_cons (ps_set (i := 5) nd rfl (Or.inl rfl) (pe_ix ix_list (pe_dget hu (pv 0) pe_str (fun _ _ => rfl)) (pe_op op_sub (pv 2) pe_int) (fun _ _ => rfl)))
    (pss_cons (ps_if (PW.pt (pw_and (pt_cmpR op_eq (pv 1) pe_str (nomark _)) (pw_and1 (pt_cmp (pc_dnotin hu (pv 3) (pe_dget hu (pv 0) pe_str (fun _ _ => rfl))))))) (pss_one (ps_ret (pe_tup (pa_cons pe_str (pa_cons pe_str pa_nil))))) pss_nil)
    (pss_cons (ps_set (i := 6) nd rfl (Or.inl rfl) (pe_dget2 hu (pe_disp (pps_cons pe_str (pe_lst (pa_cons pe_str pa_nil)) (pps_cons pe_str (pe_lst (pa_cons pe_str (pa_cons pe_str pa_nil))) (pps_cons pe_str (pe_lst (pa_cons pe_str (pa_cons pe_str pa_nil))) pps_nil))) (by rfl) (by rfl) (fun z => by cases z) (by decide)) (pv 1) (pe_lst (pa_cons pe_str pa_nil)) ⟨rfl, rfl, rfl, rfl⟩))
    (pss_cons (ps_if (pt_cmpR op_notIn_seq (pe_dget hu (pv 5) pe_str (fun _ _ => rfl)) (pv 6) rfl) (pss_one (ps_ret (pv 4))) pss_nil)
    (pss_cons (ps_if (pt_cmpR op_eq (pv 1) pe_str (nomark _)) (pss_one (ps_dput hu (pv 5) pe_str (pv 3) rfl))
      (pss_one (ps_if (pt_cmpR op_eq (pv 1) pe_str (nomark _)) (pss_one (ps_expr (pe_k (E := E0) (k_l_fail T) hr (by decide) pass0 (pa_cons (pv 0) (pa_cons (pv 2) pa_nil)))))
        (pss_cons (ps_dput hu (pv 5) pe_str (pe_dget hu (pe_disp (pps_cons pe_str pe_str (pps_cons pe_str pe_str (pps_cons pe_str pe_str (pps_cons pe_str pe_str pps_nil)))) (by rfl) (by rfl) (fun z => by cases z) (by decide)) (pv 1) (fun _ _ => rfl)) rfl)
        (pss_cons (ps_expr (pe_bm PySem.F.plainAttrs_list PySem.F.slot_list_append PySem.F.type_list_append mt_append (pe_dget hu (pv 0) pe_str (fun _ _ => rfl)) (pa_cons (pe_tup (pa_cons (pe_dget hu (pv 0) pe_str (fun _ _ => rfl)) (pa_cons (pv 2) (pa_cons (pe_ifExp (pt_cmpR op_eq (pv 1) pe_str (nomark _)) pe_str (pe_dget hu (pv 5) pe_str (fun _ _ => rfl))) pa_nil)))) pa_nil)))
        (pss_one (ps_if (pt_cmpR op_eq (pv 1) pe_str (nomark _)) (pss_one (ps_asg (pe_tup (pa_cons pe_int (pa_cons (pe_dget hu (pv 0) pe_str (fun _ _ => rfl)) pa_nil)))
          (pg_tup rfl (pgs_cons (pg_sub (pv 5) pe_str (set_dict hu) (fun _ => rfl)) (pgs_cons (pg_sub (pv 5) pe_str (set_dict hu) (fun _ => rfl)) pgs_nil))))) pss_nil)))))))
    (pss_one (ps_ret pe_non)))))))), ?_⟩
  refine ⟨by show 2 ≤ sizeLine; decide, fun tb htb => ?_⟩
  have s0 := same_new (o := HO.tup [.str "refused", .str "BadCall"]) htb
  have eb : upd H tb (.tup [.str "refused", .str "BadCall"]) tb = some (.tup [.str "refused", .str "BadCall"]) := upd_same
  have r0 := r.same s0
  generalize upd H tb (.tup [.str "refused", .str "BadCall"]) = H0 at s0 eb r0
  have lc : (M.cs.map V.ref).length = S.calls.length := by rw [List.length_map, r.cl]
  have bad : handS S x n g = (S, rfD "BadCall") → ∀ H', Same H0 H' → Q (.ref tb) H' := fun e H' s' => by
    rw [e] at fin
    exact fin H' M _ (r0.same s') (.refl_same (s0.trans s')) (.rf (s' _ _ eb))
  refine ⟨_, rfl, _, _, rfl, rfl, _, rfl, ?_⟩
  by_cases h1 : 1 ≤ n
  case neg =>
    rw [decide_eq_false h1]
    refine ⟨_, rfl, _, rfl, bad ?_ H0 (Same.refl _)⟩
    unfold handS
    rw [if_neg fun z => h1 z.1]
  rw [decide_eq_true h1]
  refine ⟨_, rfl, o, _, rfl, r0.fld rfl, _, _, rfl, .inl ⟨_, sqL r0.hlc, rfl⟩, _, _, rfl, rfl, ?_⟩
  by_cases h2 : n ≤ ((M.cs.map V.ref).length : Int)
  case neg =>
    refine ⟨false, congrArg V.bl (decide_eq_false h2), _, rfl, bad ?_ H0 (Same.refl _)⟩
    unfold handS
    rw [if_neg fun z => h2 (by rw [lc]; exact z.2)]
  refine ⟨true, congrArg V.bl (decide_eq_true h2), ?_⟩
  rw [lc] at h2
  obtain ⟨i, rfl⟩ : ∃ i : Nat, n = ((1 + i : Nat) : Int) := ⟨(n - 1).toNat, by omega⟩
  have hi : i < S.calls.length := by omega
  have hil : i < M.cs.length := by rw [r.cl]; exact hi
  have hci : M.cs[i]? = some M.cs[i] := List.getElem?_eq_getElem hil
  have hqi : S.calls[i]? = some S.calls[i] := List.getElem?_eq_getElem hi
  have hcm : M.cs[i] ∈ M.cs := List.getElem_mem hil
  have hc := r0.hc i _ _ hci hqi
  have hat : atI (M.cs.map V.ref) (((1 + i : Nat) : Int) - 1) = some (.ref M.cs[i]) := by
    rw [show ((1 + i : Nat) : Int) - 1 = ((i : Nat) : Int) by omega]
    exact atI_nat (by rw [List.getElem?_map, hci]; rfl)
  have eS : handS S x ((1 + i : Nat) : Int) g = if x = ("change" : Str) ∧ (getT S.roads g).isSome = false then (S, rfD "BadName") else if needB x S.calls[i].word = true then (actS S i S.calls[i] x g, .none) else (S, rfD "BadCall") := by
    unfold handS
    rw [if_pos ⟨h1, h2⟩]
    have e : (((1 + i : Nat) : Int) - 1).toNat = i := by omega
    rw [e, hqi]
  have f0 := wf.fails _ (List.getElem_mem hi)
  obtain ⟨iv1, _⟩ := iv i _ hqi
  generalize S.calls[i] = q at hqi hc eS f0 iv1
  generalize M.cs[i] = c at hci hat hc hcm
  refine ⟨_, rfl, o, _, rfl, r0.fld rfl, _, rfl, _, _, rfl, rfl, _, _, _, _, rfl, rfl, sqL r0.hlc, hat, ?_⟩
  dsimp only
  refine r_seq (r_if (good := fun σ' H' => H' = H0 ∧ ¬ (x = ("change" : Str) ∧ (getT S.roads g).isSome = false) ∧ σ' = [some (.ref o), some (.str x), some (.int ((1 + i : Nat) : Int)), some (.str g), some (.ref tb), some (.ref c), none]) ?_ fun rr => ?_)
  case refine_2 =>
    refine ⟨_, rfl, rfl, _, rfl, ?_⟩
    rw [str_dec]
    by_cases hch : x = ("change" : Str)
    · rw [decide_eq_true hch]
      refine ⟨_, rfl, _, rfl, o, _, rfl, r0.fld rfl, M.dr, _, rfl, DGet.k (k := Sum.inr g) r0.hdr, _, rfl, ?_⟩
      rw [kvT_get, Option.isSome_map]
      cases hg : (getT S.roads g).isSome with
      | false =>
        refine ⟨by show 2 ≤ sizeLine; decide, fun t ht => ?_⟩
        rw [eS, if_pos ⟨hch, hg⟩] at fin
        exact fin _ M _ (r0.same (same_new ht)) (.refl_same (s0.trans (same_new ht))) (.rf upd_same)
      | true => exact rr _ _ ⟨rfl, (fun z => by rw [hg] at z; exact Bool.noConfusion z.2), rfl⟩
    · rw [decide_eq_false hch]
      exact rr _ _ ⟨rfl, fun z => hch z.1, rfl⟩
  rintro σ' H' ⟨rfl, hok, rfl⟩
  rw [if_neg hok] at eS
  refine fun d hd => ⟨by show 1 ≤ sizeLine; decide, fun l1 hl1 => ⟨by show 2 ≤ sizeLine; decide, fun l2 hl2 => ⟨by show 2 ≤ sizeLine; decide, fun l3 hl3 => ?_⟩⟩⟩
  have d1 : d ≠ l1 := fun z => by rw [← z, upd_same] at hl1; cases hl1
  have d2 : d ≠ l2 := fun z => by rw [← z, upd_ne d1, upd_same] at hl2; cases hl2
  have d3 : d ≠ l3 := fun z => by rw [← z, upd_ne d2, upd_ne d1, upd_same] at hl3; cases hl3
  have l12 : l1 ≠ l2 := fun z => by rw [← z, upd_same] at hl2; cases hl2
  have l13 : l1 ≠ l3 := fun z => by rw [← z, upd_ne l12, upd_same] at hl3; cases hl3
  have l23 : l2 ≠ l3 := fun z => by rw [← z, upd_same] at hl3; cases hl3
  refine ⟨by rw [upd_ne d3, upd_ne d2, upd_ne d1]; exact upd_same, [(.inr "go on", .ref l1), (.inr "drop", .ref l2), (.inr "change", .ref l3)], rfl, by show 3 ≤ 15; decide, ?_⟩
  have s1 := same_mut (o := .dK (mergeK [] [(.inr "go on", .ref l1), (.inr "drop", .ref l2), (.inr "change", .ref l3)])) ((((same_new (o := HO.dK []) hd).trans (same_new (o := HO.lst [V.str "put by"]) hl1)).trans (same_new (o := HO.lst [V.str "waits", V.str "put by"]) hl2)).trans (same_new (o := HO.lst [V.str "waits", V.str "put by"]) hl3)) hd
  have e1 : upd (upd (upd (upd (upd H' d (.dK [])) l1 (.lst [V.str "put by"])) l2 (.lst [V.str "waits", V.str "put by"])) l3 (.lst [V.str "waits", V.str "put by"])) d (.dK (mergeK [] [(.inr "go on", .ref l1), (.inr "drop", .ref l2), (.inr "change", .ref l3)])) d = some (.dK [(.inr "go on", .ref l1), (.inr "drop", .ref l2), (.inr "change", .ref l3)]) := upd_same
  have a1 : upd (upd (upd (upd (upd H' d (.dK [])) l1 (.lst [V.str "put by"])) l2 (.lst [V.str "waits", V.str "put by"])) l3 (.lst [V.str "waits", V.str "put by"])) d (.dK (mergeK [] [(.inr "go on", .ref l1), (.inr "drop", .ref l2), (.inr "change", .ref l3)])) l1 = some (.lst [V.str "put by"]) := by
    rw [upd_ne d1.symm, upd_ne l13, upd_ne l12]
    exact upd_same
  have a2 : upd (upd (upd (upd (upd H' d (.dK [])) l1 (.lst [V.str "put by"])) l2 (.lst [V.str "waits", V.str "put by"])) l3 (.lst [V.str "waits", V.str "put by"])) d (.dK (mergeK [] [(.inr "go on", .ref l1), (.inr "drop", .ref l2), (.inr "change", .ref l3)])) l2 = some (.lst [V.str "waits", V.str "put by"]) := by
    rw [upd_ne d2.symm, upd_ne l23]
    exact upd_same
  have a3 : upd (upd (upd (upd (upd H' d (.dK [])) l1 (.lst [V.str "put by"])) l2 (.lst [V.str "waits", V.str "put by"])) l3 (.lst [V.str "waits", V.str "put by"])) d (.dK (mergeK [] [(.inr "go on", .ref l1), (.inr "drop", .ref l2), (.inr "change", .ref l3)])) l3 = some (.lst [V.str "waits", V.str "put by"]) := by
    rw [upd_ne d3.symm]
    exact upd_same
  generalize upd (upd (upd (upd (upd H' d (.dK [])) l1 (.lst [V.str "put by"])) l2 (.lst [V.str "waits", V.str "put by"])) l3 (.lst [V.str "waits", V.str "put by"])) d (.dK (mergeK [] [(.inr "go on", .ref l1), (.inr "drop", .ref l2), (.inr "change", .ref l3)])) = H1 at s1 e1 a1 a2 a3
  refine ⟨d, rfl, .inl ⟨_, .inl e1⟩, _, rfl, by show 1 ≤ sizeLine; decide, fun l4 hl4 => ⟨_, DGet.k (k := Sum.inr x) ((same_new hl4) _ _ e1), ?_⟩⟩
  have s2 := s1.trans (same_new (o := HO.lst [V.str "tried"]) hl4)
  have a4 : upd H1 l4 (.lst [V.str "tried"]) l4 = some (.lst [V.str "tried"]) := upd_same
  obtain ⟨ln, eln, aln⟩ : ∃ ln, (valV ([(.inr "go on", .ref l1), (.inr "drop", .ref l2), (.inr "change", .ref l3)] : List (Key × V)) (.inr x)).getD (.ref l4) = .ref ln ∧ upd H1 l4 (.lst [V.str "tried"]) ln = some (.lst (needL x)) := by
    have n := fun l y (h : H1 l = some y) => (same_new (o := HO.lst [V.str "tried"]) hl4) l y h
    cases hx
    · exact ⟨l1, rfl, n _ _ a1⟩
    · exact ⟨l2, rfl, n _ _ a2⟩
    · exact ⟨l3, rfl, n _ _ a3⟩
    · exact ⟨l4, rfl, a4⟩
    · exact ⟨l4, rfl, a4⟩
    · exact ⟨l4, rfl, a4⟩
  rw [eln]
  have s02 := s0.trans s2
  have r2 := r0.same s2
  have hc2 := s2 _ _ hc
  have eb2 := s2 _ _ eb
  have bad2 : handS S x ((1 + i : Nat) : Int) g = (S, rfD "BadCall") → Q (.ref tb) (upd H1 l4 (.lst [V.str "tried"])) := fun e => bad e _ s2
  generalize upd H1 l4 (.lst [V.str "tried"]) = H2 at s2 s02 r2 hc2 eb2 aln bad2
  dsimp only
  refine ⟨_, rfl, c, _, rfl, Own.cfld hc2 rfl, _, rfl, ln, _, rfl, .inl (sqL aln), rfl, need_flat hx, !needB x q.word, congrArg (fun b => V.bl (!b)) (need_in hx q.word), ?_⟩
  cases hn : needB x q.word with
  | false =>
    rw [hn] at eS
    exact ⟨_, rfl, bad2 eS⟩
  | true =>
    rw [hn, if_pos rfl] at eS
    rw [eS] at fin
    refine ⟨_, rfl, rfl, _, rfl, ?_⟩
    rw [str_dec]
    by_cases hch : x = ("change" : Str)
    · rw [decide_eq_true hch]
      refine ⟨_, rfl, _, rfl, c, _, rfl, DPut.k (k := Sum.inr "goal") hc2 (by show 8 < sizeLine; decide), ?_⟩
      rw [put_goal]
      refine fin _ M _ ?_ (ostep_obj s02 hcm) .non
      unfold actS changeS
      rw [if_pos hch]
      exact r2.obj hci _
    rw [decide_eq_false hch]
    refine ⟨_, rfl, rfl, _, rfl, ?_⟩
    rw [str_dec]
    by_cases hla : x = ("later" : Str)
    · rw [decide_eq_true hla]
      have hw : q.word = ("tried" : Str) := by
        rw [hla] at hn
        exact of_decide_eq_true hn
      refine ⟨_, rfl, _, rfl, o, M, S, i, q, rfl, r2, hqi, wf.ok, f0, iv1 (.inr hw), lg, fun H5 ts5 r5 st5 => fin H5 _ _ ?_ ((OStep.refl_same s02).trans st5) .non⟩
      have ea : actS S i q x g = failS S i q := by
        rw [hla]
        rfl
      rw [ea]
      exact r5
    rw [decide_eq_false hla]
    refine fun d2 hd2 => ⟨upd_same, [(.inr "go on", .str "waits"), (.inr "drop", .str "gone"), (.inr "good", .str "done"), (.inr "never", .str "put by")], rfl, by show 4 ≤ 15; decide, ?_⟩
    have s3 := same_mut (o := .dK (mergeK [] [(.inr "go on", .str "waits"), (.inr "drop", .str "gone"), (.inr "good", .str "done"), (.inr "never", .str "put by")])) (same_new (o := HO.dK []) hd2) hd2
    have e3 : upd (upd H2 d2 (.dK [])) d2 (.dK (mergeK [] [(.inr "go on", .str "waits"), (.inr "drop", .str "gone"), (.inr "good", .str "done"), (.inr "never", .str "put by")])) d2 = some (.dK [(.inr "go on", .str "waits"), (.inr "drop", .str "gone"), (.inr "good", .str "done"), (.inr "never", .str "put by")]) := upd_same
    generalize upd (upd H2 d2 (.dK [])) d2 (.dK (mergeK [] [(.inr "go on", .str "waits"), (.inr "drop", .str "gone"), (.inr "good", .str "done"), (.inr "never", .str "put by")])) = H3 at s3 e3
    have ev : some (V.str (endW x)) = valV ([(.inr "go on", .str "waits"), (.inr "drop", .str "gone"), (.inr "good", .str "done"), (.inr "never", .str "put by")] : List (Key × V)) (.inr x) := by
      cases hx
      · rfl
      · rfl
      · exact absurd rfl hch
      · rfl
      · exact absurd rfl hla
      · rfl
    refine ⟨_, rfl, d2, _, rfl, .inl ⟨_, Sum.inr x, .inl e3, rfl, ev⟩, _, rfl, c, _, rfl, DPut.k (k := Sum.inr "word") (s3 _ _ hc2) (by show 8 < sizeLine; decide), ?_⟩
    rw [put_word]
    have s03 := s02.trans s3
    have r4 := (r2.same s3).obj hci { q with word := endW x }
    have st4 : OStep o M H M (upd H3 c (.dK (ownC { q with word := endW x }))) := ostep_obj s03 hcm
    have hc4 : upd H3 c (.dK (ownC { q with word := endW x })) c = some (.dK (ownC { q with word := endW x })) := upd_same
    generalize upd H3 c (.dK (ownC { q with word := endW x })) = H4 at r4 st4 hc4
    dsimp only
    refine ⟨_, rfl, o, _, rfl, r4.fld rfl, .inl ⟨rfl, _, sqL r4.hll⟩, _, rfl, o, _, rfl, r4.fld rfl, _, rfl, _, rfl, rfl, _, rfl, ?_⟩
    rw [str_dec]
    have ncl : ∀ {H5 : Hp}, Own K H5 o M { S with calls := S.calls.set i { q with word := endW x } } → H5 c = some (.dK (ownC { q with word := endW x })) → c ≠ M.ll := fun r5 h5 z => by
      have h := r5.hll
      rw [← z, h5] at h
      cases h
    by_cases hgo : x = ("go on" : Str)
    · rw [decide_eq_true hgo]
      refine ⟨by show 3 ≤ sizeLine; decide, fun t ht => ?_⟩
      have s5 := same_new (o := rowT (S.now, ((1 + i : Nat) : Int), "sent")) ht
      have r5 := r4.same s5
      have hc5 := s5 _ _ hc4
      refine ⟨M.ll, _, _, rfl, rfl, r5.hll, by rw [List.length_map, r.tl]; exact Nat.lt_of_le_of_lt lg (by decide), ?_⟩
      have r6 := r5.row (t := t) (e := (S.now, ((1 + i : Nat) : Int), "sent")) upd_same
      rw [List.map_append] at r6
      have st6 : OStep o M H { M with ts := M.ts ++ [t] } (upd (upd H4 t (rowT (S.now, ((1 + i : Nat) : Int), "sent"))) M.ll (.lst (M.ts.map V.ref ++ [t].map V.ref))) := by
        refine (st4.same s5).trans ⟨fun d v h nf => ?_, fun d hd => .inl hd⟩
        rw [upd_ne fun z => nf (.inr (.inr (.inr (.inl z))))]
        exact h
      have hc6 : upd (upd H4 t (rowT (S.now, ((1 + i : Nat) : Int), "sent"))) M.ll (.lst (M.ts.map V.ref ++ [t].map V.ref)) c = some (.dK (ownC { q with word := endW x })) := by
        rw [upd_ne (ncl r5 hc5)]
        exact hc5
      refine ⟨_, rfl, rfl, _, rfl, ?_⟩
      rw [str_dec, decide_eq_true hgo]
      refine ⟨_, rfl, o, _, rfl, r6.fld rfl, by show 2 ≤ sizeLine; decide, fun tp htp => ?_⟩
      have s7 := same_new (o := HO.tup [.int 0, .int S.now]) htp
      have r7 := r6.same s7
      have st7 := st6.same s7
      have hc7 := s7 _ _ hc6
      have et7 : upd (upd (upd H4 t (rowT (S.now, ((1 + i : Nat) : Int), "sent"))) M.ll (.lst (M.ts.map V.ref ++ [t].map V.ref))) tp (.tup [.int 0, .int S.now]) tp = some (.tup [.int 0, .int S.now]) := upd_same
      refine ⟨_, _, rfl, sqT et7, rfl, _, _, rfl, ?_⟩
      refine ⟨_, rfl, c, _, rfl, DPut.k (k := Sum.inr "fails") hc7 (by show 8 < sizeLine; decide), ?_⟩
      rw [put_fails]
      have r8 := r7.obj (i := i) hci { q with word := endW x, fails := 0 }
      have st8 := ostep_upd (u := .dK (ownC { q with word := endW x, fails := 0 })) st7 hcm
      simp only [List.set_set] at r8
      refine ⟨_, _, rfl, _, rfl, c, _, rfl, DPut.k (k := Sum.inr "time") upd_same (by show 8 < sizeLine; decide), ?_⟩
      rw [put_time]
      have r9 := r8.obj (i := i) hci { q with word := endW x, fails := 0, time := S.now }
      have st9 := ostep_upd (u := .dK (ownC { q with word := endW x, fails := 0, time := S.now })) st8 hcm
      simp only [List.set_set] at r9
      refine ⟨rfl, ?_⟩
      refine fin _ _ _ ?_ st9 .non
      subst hgo
      exact r9
    · rw [decide_eq_false hgo]
      refine ⟨_, rfl, c, _, rfl, Own.cfld hc4 rfl, by show 3 ≤ sizeLine; decide, fun t ht => ?_⟩
      have s5 := same_new (o := rowT (S.now, ((1 + i : Nat) : Int), endW x)) ht
      have r5 := r4.same s5
      have hc5 := s5 _ _ hc4
      refine ⟨M.ll, _, _, rfl, rfl, r5.hll, by rw [List.length_map, r.tl]; exact Nat.lt_of_le_of_lt lg (by decide), ?_⟩
      have r6 := r5.row (t := t) (e := (S.now, ((1 + i : Nat) : Int), endW x)) upd_same
      rw [List.map_append] at r6
      have st6 : OStep o M H { M with ts := M.ts ++ [t] } (upd (upd H4 t (rowT (S.now, ((1 + i : Nat) : Int), endW x))) M.ll (.lst (M.ts.map V.ref ++ [t].map V.ref))) := by
        refine (st4.same s5).trans ⟨fun d v h nf => ?_, fun d hd => .inl hd⟩
        rw [upd_ne fun z => nf (.inr (.inr (.inr (.inl z))))]
        exact h
      refine ⟨_, rfl, rfl, _, rfl, ?_⟩
      rw [str_dec, decide_eq_false hgo]
      refine fin _ _ _ ?_ st6 .non
      unfold actS
      rw [if_neg hch, if_neg hgo]
      by_cases hdr : x = ("drop" : Str)
      · rw [if_pos hdr]
        subst hdr
        exact r6
      · rw [if_neg hdr]
        unfold answerS
        rw [if_neg hla]
        have e : endC q x = { q with word := endW x } := by
          unfold endC endW
          rw [if_neg hgo, if_neg hdr]
        rw [e]
        exact r6
end
end T
end
section
namespace T
open PySem PySem.Spec PyProof.Rows L2 Tr LamX
noncomputable def leadS (S : St) (a b : Str) : St × PyData := open Classical in if (getT S.roads a).isSome = true ∧ (getT S.roads b).isSome = true ∧ leadOk S.roads a b then ({ S with roads := putT S.roads a b }, .none) else (S, rfD "BadName")
theorem leadS_no {S : St} {a b : Str} (h : ¬ ((getT S.roads a).isSome = true ∧ (getT S.roads b).isSome = true ∧ leadOk S.roads a b)) : leadS S a b = (S, rfD "BadName") := if_neg h
theorem leadS_yes {S : St} {a b : Str} (h : (getT S.roads a).isSome = true ∧ (getT S.roads b).isSome = true ∧ leadOk S.roads a b) : leadS S a b = ({ S with roads := putT S.roads a b }, .none) := if_pos h
theorem s_eq (a : Str) : decide (V.str a = V.str a) = true := decide_eq_true rfl
theorem s_ne {a b : Str} (h : a ≠ b) : decide (V.str a = V.str b) = false := by rw [str_dec, decide_eq_false h]
section
variable {P : Program} {w : World} {K : PySem.W.Frag} {mg : Str → Option Value} {base : Heap}
theorem ostep_road {H H1 : Hp} {o : Addr} {M : OLay} {u : HO} (s : Same H H1) : OStep o M H M (upd H1 M.dr u) := by
  refine ⟨fun d v h nf => ?_, fun d hd => .inl hd⟩
  rw [upd_ne fun z => nf (by rw [z]; exact .inr (.inl rfl))]
  exact s d v h
def spOLead (K : PySem.W.Frag) : Sp := fun vs H Q _ => ∃ (o : Addr) (M : OLay) (S : St) (a b : Str), vs = [.ref o, .str a, .str b] ∧ Own K H o M S ∧ Wf S ∧
  ∀ H' M' v, Own K H' o M' (leadS S a b).1 → OStep o M H M' H' → Res H' v (leadS S a b).2 → Q v H'
theorem k_l_lead (T : Txt K mg) : Kal P w K mg base CX0 1 "_law_lead" (spOLead K) := by
  refine kal_of T.f_l_lead T.g_l_lead sc_l_lead (fun _ _ _ _ _ _ us hl => match us, hl with | [_, _, _], _ => rfl) (fun vs H Q E ⟨_, _, _, _, _, h, _⟩ => by rw [h] <;> rfl) fun cdv A outer s H vs Q E hr ⟨o, M, S, a, b, e, r, wf, fin⟩ => ?_
  subst e
  have hu := hu_of hr
  have nd := sc_l_lead.nd
  refine ⟨_, PSs.nox (pss_cons (ps_if (PW.pt (pw_or (pt_cmp (pc_dnotin hu (pv 1) (pe_dget hu (pv 0) pe_str (fun _ _ => rfl)))) (pw_or1 (pt_cmp (pc_dnotin hu (pv 2) (pe_dget hu (pv 0) pe_str (fun _ _ => rfl))))))) (pss_one (ps_ret (pe_tup (pa_cons pe_str (pa_cons pe_str pa_nil))))) pss_nil)
    (pss_cons (ps_set (i := 3) nd rfl (Or.inl rfl) (pv 2))
    (pss_cons (ps_while PassesOwn.never (PW.pt (pw_and (pt_cmpR op_ne (pv 1) (pv 2) (nomark _)) (pw_and (pt_cmpR op_ne (pv 3) (pv 1) (nomark _)) (pw_and1 (pt_cmpR op_ne (pe_dget hu (pe_dget hu (pv 0) pe_str (fun _ _ => rfl)) (pv 3) (fun _ _ => rfl)) (pv 3) (nomark _))))))
      (pss_one (ps_set (i := 3) nd rfl (Or.inl rfl) (pe_dget hu (pe_dget hu (pv 0) pe_str (fun _ _ => rfl)) (pv 3) (fun _ _ => rfl)))))
    (pss_cons (ps_if (PW.pt (pw_and (pt_cmpR op_ne (pv 1) (pv 2) (nomark _)) (pw_and1 (pt_cmpR op_eq (pv 3) (pv 1) (nomark _))))) (pss_one (ps_ret (pe_tup (pa_cons pe_str (pa_cons pe_str pa_nil))))) pss_nil)
    (pss_cons (ps_dput hu (pe_dget hu (pv 0) pe_str (fun _ _ => rfl)) (pv 1) (pv 2) rfl)
    (pss_one (ps_ret pe_non))))))), ?_⟩
  have bad : ∀ t, H t = none → ¬ ((getT S.roads a).isSome = true ∧ (getT S.roads b).isSome = true ∧ leadOk S.roads a b) → Q (.ref t) (upd H t (.tup [.str "refused", .str "BadName"])) := fun t ht h => by
    rw [leadS_no h] at fin
    exact fin _ M _ (r.same (same_new ht)) (.refl_same (same_new ht)) (.rf upd_same)
  refine ⟨_, rfl, _, rfl, o, _, rfl, r.fld rfl, M.dr, _, rfl, DGet.k (k := Sum.inr a) r.hdr, _, rfl, ?_⟩
  rw [kvT_get, Option.isSome_map]
  cases ga : (getT S.roads a).isSome with
  | false => exact ⟨by show 2 ≤ sizeLine; decide, fun t ht => bad t ht fun z => by rw [ga] at z; cases z.1⟩
  | true =>
    refine ⟨_, rfl, _, rfl, o, _, rfl, r.fld rfl, M.dr, _, rfl, DGet.k (k := Sum.inr b) r.hdr, _, rfl, ?_⟩
    rw [kvT_get, Option.isSome_map]
    cases gb : (getT S.roads b).isSome with
    | false => exact ⟨by show 2 ≤ sizeLine; decide, fun t ht => bad t ht fun z => by rw [gb] at z; cases z.2.1⟩
    | true =>
      obtain ⟨t, ht⟩ := Option.isSome_iff_exists.mp gb
      obtain ⟨l, wy⟩ := wf.en b t ht
      refine ⟨_, rfl, ?_⟩
      refine ⟨fun m σ H' => H' = H ∧ ∃ pre x l', Way S.roads x l' ∧ l = pre ++ l' ∧ a ∉ pre ∧ m = l'.length ∧ (a = b → x = b) ∧ σ = [some (.ref o), some (.str a), some (.str b), some (.str x)], ⟨_, rfl, [], b, l, wy, rfl, by simp, rfl, fun _ => rfl, rfl⟩, ?_⟩
      rintro m σ H1 ⟨rfl, pre, x, l', w', el, na, rfl, _, rfl⟩
      have look : ∀ t, getT S.roads x = some t → DGet H1 M.dr (.str x) (some (.str t)) := fun t ht => .inl ⟨_, Sum.inr x, .inl r.hdr, rfl, by rw [kvT_get, ht]; rfl⟩
      have el5 : (kvT S.roads).length ≤ 5 := by
        have : (kvT S.roads).length = S.roads.length := List.length_map ..
        have := wf.l5
        omega
      have put : leadOk S.roads a b → Q .non (upd H1 M.dr (.dK (putK (kvT S.roads) (Sum.inr a) (.str b)))) := fun lo => by
        rw [leadS_yes ⟨ga, gb, lo⟩] at fin
        rw [kvT_put]
        exact fin _ M _ (r.road a b) (ostep_road (Same.refl _)) .non
      refine ⟨_, rfl, _, rfl, rfl, ?_⟩
      by_cases hab : a = b
      · refine ⟨false, congrArg (fun z => V.bl (!z)) (decide_eq_true (congrArg V.str hab)), ?_⟩
        refine ⟨_, rfl, _, rfl, rfl, false, congrArg (fun z => V.bl (!z)) (decide_eq_true (congrArg V.str hab)), ?_⟩
        exact ⟨_, rfl, _, rfl, o, _, rfl, r.fld rfl, _, rfl, M.dr, _, rfl, DPut.k (k := Sum.inr a) r.hdr (sz1 (by omega)), put (.inl hab)⟩
      · refine ⟨true, congrArg (fun z => V.bl (!z)) (decide_eq_false fun z => hab (V.str.inj z)), ?_⟩
        refine ⟨_, rfl, _, rfl, rfl, ?_⟩
        by_cases hxa : x = a
        · refine ⟨false, congrArg (fun z => V.bl (!z)) (decide_eq_true (congrArg V.str hxa)), ?_⟩
          refine ⟨_, rfl, _, rfl, rfl, true, congrArg (fun z => V.bl (!z)) (decide_eq_false fun z => hab (V.str.inj z)), ?_⟩
          refine ⟨_, rfl, _, rfl, rfl, true, congrArg V.bl (decide_eq_true (congrArg V.str hxa)), ?_⟩
          refine ⟨by show 2 ≤ sizeLine; decide, fun t ht => bad t ht fun z => ?_⟩
          rcases z.2.2 with z | z
          · exact hab z
          · rw [roadOf_eq wy, el] at z
            exact z (List.mem_append_right _ (by rw [← hxa]; exact w'.head))
        · refine ⟨true, congrArg (fun z => V.bl (!z)) (decide_eq_false fun z => hxa (V.str.inj z)), ?_⟩
          cases w' with
          | stop h =>
            refine ⟨_, rfl, o, _, rfl, r.fld rfl, _, rfl, M.dr, _, rfl, look x h, _, rfl, rfl, false, congrArg (fun z => V.bl (!z)) (decide_eq_true rfl), ?_⟩
            refine ⟨_, rfl, _, rfl, rfl, true, congrArg (fun z => V.bl (!z)) (decide_eq_false fun z => hab (V.str.inj z)), ?_⟩
            refine ⟨_, rfl, _, rfl, rfl, false, congrArg V.bl (decide_eq_false fun z => hxa (V.str.inj z)), ?_⟩
            refine ⟨_, rfl, _, rfl, o, _, rfl, r.fld rfl, _, rfl, M.dr, _, rfl, DPut.k (k := Sum.inr a) r.hdr (sz1 (by omega)), put (.inr ?_)⟩
            rw [roadOf_eq wy, el]
            intro z
            rcases List.mem_append.mp z with z | z
            · exact na z
            · exact hxa (List.mem_singleton.mp z).symm
          | @step _ t l2 h ne w2 =>
            refine ⟨_, rfl, o, _, rfl, r.fld rfl, _, rfl, M.dr, _, rfl, look t h, _, rfl, rfl, true, congrArg (fun z => V.bl (!z)) (decide_eq_false fun z => ne (V.str.inj z)), ?_⟩
            refine ⟨fun σ' H' => H' = H1 ∧ ∃ pre y l', Way S.roads y l' ∧ l = pre ++ l' ∧ a ∉ pre ∧ l'.length < (x :: l2).length ∧ (a = b → y = b) ∧ σ' = [some (.ref o), some (.str a), some (.str b), some (.str y)], fun σ' H' ⟨b1, p1, y, l3, b2, b3, b4, b5, b6, b7⟩ => ⟨_, b5, b1, p1, y, l3, b2, b3, b4, rfl, b6, b7⟩, ?_⟩
            refine ⟨_, rfl, o, _, rfl, r.fld rfl, _, rfl, M.dr, _, rfl, look t h, rfl, pre ++ [x], t, l2, w2, by rw [el]; simp, ?_, by simp, fun z => absurd z hab, rfl⟩
            intro z
            rcases List.mem_append.mp z with z | z
            · exact na z
            · exact hxa (List.mem_singleton.mp z).symm
end
end T
end
section
namespace T
open PySem PySem.Spec PyProof.Rows L2 Tr LamX
/-! ### deeds -/
inductive Deed where
  | send (k g t : Str)
  | try_
  | hand (x : Str) (n : Int) (g : Str)
  | tick (n : Nat)
  | lead (a b : Str)
  | add (a : Str)
def deedF : Deed → List Fl
  | .send k g t => [.inr "send", .inr k, .inr g, .inr t]
  | .try_ => [.inr "try"]
  | .hand x n g => [.inr x, .inl n, .inr g]
  | .tick n => [.inr "tick", .inl (n : Int)]
  | .lead a b => [.inr "lead", .inr a, .inr b]
  | .add a => [.inr "add", .inr a]
abbrev deedV (D : Deed) : List V := (deedF D).map flV
def OkD : Deed → Prop
  | .send k g t => nameOk k = true ∧ nameOk g = true ∧ textOk t = true
  | .try_ => True
  | .hand x n g => IsHand x ∧ nameOk g = true
  | .tick n => n ≤ 100
  | .lead a b => nameOk a = true ∧ nameOk b = true
  | .add a => nameOk a = true
def tryD (S : St) (i : Nat) (q : Cal) (e : Str) : PyData := .tuple [.int ((1 + i : Nat) : Int), .str (("m" : Str) ++ toString ((1 + i : Nat) : Int)), .str e, .str q.key, .str q.text]
def sendR (S : St) (k g t : Str) : St × PyData := if (getT S.roads g).isSome = true then (if S.calls.length = 30 then (S, rfD "Full") else (sendS S k g t, .int ((S.calls.length : Int) + 1))) else (S, rfD "BadName")
noncomputable def tryR (S : St) : St × PyData := match dueL S with
  | [] => (S, .none)
  | n :: _ => (match S.calls[(n - 1).toNat]? with
    | some q => (beginS S (n - 1).toNat q, tryD S (n - 1).toNat q (endOf S.roads q.goal))
    | none => (S, .none))
def addR (S : St) (a : Str) : St × PyData := if (getT S.roads a).isSome = true ∨ S.roads.length = 5 then (S, rfD "BadName") else ({ S with roads := putT S.roads a a }, .none)
noncomputable def doS (S : St) : Deed → St × PyData
  | .send k g t => sendR S k g t
  | .try_ => tryR S
  | .hand x n g => handS S x n g
  | .tick n => (tickN S n, .none)
  | .lead a b => leadS S a b
  | .add a => addR S a
theorem tryR_nil {S : St} (h : dueL S = []) : tryR S = (S, .none) := by
  unfold tryR
  rw [h]
theorem tryR_cons {S : St} {i : Nat} {rest : List Int} {q : Cal} (h : dueL S = ((1 + i : Nat) : Int) :: rest) (hq : S.calls[i]? = some q) : tryR S = (beginS S i q, tryD S i q (endOf S.roads q.goal)) := by
  unfold tryR
  rw [h]
  have e : (((1 + i : Nat) : Int) - 1).toNat = i := by omega
  dsimp only
  rw [e, hq]
theorem IsHand.ne {x : Str} (h : IsHand x) : x ≠ "send" ∧ x ≠ "try" ∧ x ≠ "tick" ∧ x ≠ "lead" ∧ x ≠ "add" := by
  cases h <;> decide
section
variable {P : Program} {w : World} {K : PySem.W.Frag} {mg : Str → Option Value} {base : Heap}
theorem try_res {H : Hp} {t : Addr} {S : St} {i : Nat} {q : Cal} (h : H t = some (tryT S i q)) : Res H (.ref t) (tryD S i q (endOf S.roads q.goal)) :=
  .tup [.inl ((1 + i : Nat) : Int), .inr (("m" : Str) ++ toString ((1 + i : Nat) : Int)), .inr (endOf S.roads q.goal), .inr q.key, .inr q.text] h
def spODoes (K : PySem.W.Frag) : Sp := fun vs H Q _ => ∃ (o : Addr) (M : OLay) (S : St) (t : Addr) (D : Deed), vs = [.ref o, .ref t] ∧ Own K H o M S ∧ Wf S ∧ Sane S ∧ S.log.length ≤ 9000000 ∧ H t = some (.tup (deedV D)) ∧ OkD D ∧
  ∀ H' M' v, Own K H' o M' (doS S D).1 → OStep o M H M' H' → Res H' v (doS S D).2 → Q v H'
theorem k_l_own_does (T : Txt K mg) : Kal P w K mg base CX0 5 "_law_own_does" (spODoes K) := by
  refine kal_of T.f_l_own_does T.g_l_own_does sc_l_own_does (fun _ _ _ _ _ _ us hl => match us, hl with | [_, _], _ => rfl) (fun vs H Q E ⟨_, _, _, _, _, h, _⟩ => by rw [h] <;> rfl) fun cdv A outer s H vs Q E hr ⟨o, M, S, t, D, e, r, wf, iv, lg, ht, ok, fin⟩ => ?_
  subst e
  have hu := hu_of hr
  have nd := sc_l_own_does.nd
  refine ⟨_, pss_cons (ps_set (i := 2) nd rfl (Or.inl rfl) (pe_ix ix_tup (pv 1) pe_int (fun _ _ => rfl)))
    (pss_cons (ps_if (pt_cmpR op_eq (pv 2) pe_str (nomark _)) (pss_one (ps_ret (pe_k (E := E0) (k_l_send T) hr (by decide) pass0 (pa_cons (pv 0) (pa_cons (pe_ix ix_tup (pv 1) pe_int (fun _ _ => rfl)) (pa_cons (pe_ix ix_tup (pv 1) pe_int (fun _ _ => rfl)) (pa_cons (pe_ix ix_tup (pv 1) pe_int (fun _ _ => rfl)) pa_nil))))))) pss_nil)
    (pss_cons (ps_if (pt_cmpR op_eq (pv 2) pe_str (nomark _)) (pss_one (ps_ret (pe_k (E := E0) (k_l_try T) hr (by decide) pass0 (pa_cons (pv 0) pa_nil)))) pss_nil)
    (pss_cons (ps_if (pt_cmpR op_eq (pv 2) pe_str (nomark _)) (pss_one (ps_ret (pe_k (E := E0) (k_l_tick T) hr (by decide) pass0 (pa_cons (pv 0) (pa_cons (pe_ix ix_tup (pv 1) pe_int (fun _ _ => rfl)) pa_nil))))) pss_nil)
    (pss_cons (ps_if (pt_cmpR op_eq (pv 2) pe_str (nomark _)) (pss_one (ps_ret (pe_k (E := E0) (k_l_lead T) hr (by decide) pass0 (pa_cons (pv 0) (pa_cons (pe_ix ix_tup (pv 1) pe_int (fun _ _ => rfl)) (pa_cons (pe_ix ix_tup (pv 1) pe_int (fun _ _ => rfl)) pa_nil)))))) pss_nil)
    (pss_cons (ps_if (pt_cmpR op_ne (pv 2) pe_str (nomark _)) (pss_one (ps_ret (pe_k (E := E0) (k_l_hand T) hr (by decide) pass0 (pa_cons (pv 0) (pa_cons (pv 2) (pa_cons (pe_ix ix_tup (pv 1) pe_int (fun _ _ => rfl)) (pa_cons (pe_ix ix_tup (pv 1) pe_int (fun _ _ => rfl)) pa_nil))))))) pss_nil)
    (pss_cons (ps_if (PW.pt (pw_or (pt_cmp (pc_din hu (pe_ix ix_tup (pv 1) pe_int (fun _ _ => rfl)) (pe_dget hu (pv 0) pe_str (fun _ _ => rfl)))) (pw_or1 (pt_cmpR op_eq (pe_callB call_lenD (by rfl) T.n_len boot_len (pa_cons (pe_dget hu (pv 0) pe_str (fun _ _ => rfl)) pa_nil)) pe_int (nomark _))))) (pss_one (ps_ret (pe_tup (pa_cons pe_str (pa_cons pe_str pa_nil))))) pss_nil)
    (pss_cons (ps_dput hu (pe_dget hu (pv 0) pe_str (fun _ _ => rfl)) (pe_ix ix_tup (pv 1) pe_int (fun _ _ => rfl)) (pe_ix ix_tup (pv 1) pe_int (fun _ _ => rfl)) rfl)
    (pss_one (ps_ret pe_non))))))))), ?_⟩
  cases D with
  | send k g tx =>
    refine ⟨_, rfl, _, _, _, _, rfl, rfl, sqT ht, show atI (deedV (.send k g tx)) 0 = some (.str "send") from rfl, ?_⟩
    refine ⟨_, rfl, rfl, _, rfl, ?_⟩
    rw [s_eq]
    refine ⟨_, rfl, _, rfl, _, _, _, _, rfl, rfl, sqT ht, rfl, _, rfl, _, _, _, _, rfl, rfl, sqT ht, rfl, _, rfl, _, _, _, _, rfl, rfl, sqT ht, rfl, o, M, S, k, g, tx, rfl, r, wf.l30, Nat.le_trans lg (by decide), fun eg H' q s' eq => ?_, fun eg el H' q s' eq => ?_, fun eg el H' M' r' st' => ?_⟩
    · have e : doS S (.send k g tx) = (S, rfD "BadName") := by
        show sendR S k g tx = _
        unfold sendR
        rw [if_neg (by rw [eg]; decide)]
      rw [e] at fin
      exact fin H' M _ (r.same s') (.refl_same s') (.rf eq)
    · have e : doS S (.send k g tx) = (S, rfD "Full") := by
        show sendR S k g tx = _
        unfold sendR
        rw [if_pos eg, if_pos el]
      rw [e] at fin
      exact fin H' M _ (r.same s') (.refl_same s') (.rf eq)
    · have e : doS S (.send k g tx) = (sendS S k g tx, .int ((S.calls.length : Int) + 1)) := by
        show sendR S k g tx = _
        unfold sendR
        rw [if_pos eg, if_neg (by omega)]
      rw [e] at fin
      exact fin H' M' _ r' st' (.int _)
  | try_ =>
    refine ⟨_, rfl, _, _, _, _, rfl, rfl, sqT ht, show atI (deedV .try_) 0 = some (.str "try") from rfl, ?_⟩
    refine ⟨_, rfl, rfl, _, rfl, ?_⟩
    rw [s_ne (a := "try") (b := "send") (by decide)]
    refine ⟨_, rfl, rfl, _, rfl, ?_⟩
    rw [s_eq]
    refine ⟨_, rfl, o, M, S, rfl, r, wf, Nat.le_trans lg (by decide), fun ed H' s' => ?_, fun i rest q ed hq H' M' t' r' st' et => ?_⟩
    · have e : doS S .try_ = (S, .none) := tryR_nil ed
      rw [e] at fin
      exact fin H' M _ (r.same s') (.refl_same s') .non
    · have e : doS S .try_ = _ := tryR_cons ed hq
      rw [e] at fin
      exact fin H' M' _ r' st' (try_res et)
  | tick n =>
    refine ⟨_, rfl, _, _, _, _, rfl, rfl, sqT ht, show atI (deedV (.tick n)) 0 = some (.str "tick") from rfl, ?_⟩
    refine ⟨_, rfl, rfl, _, rfl, ?_⟩
    rw [s_ne (a := "tick") (b := "send") (by decide)]
    refine ⟨_, rfl, rfl, _, rfl, ?_⟩
    rw [s_ne (a := "tick") (b := "try") (by decide)]
    refine ⟨_, rfl, rfl, _, rfl, ?_⟩
    rw [s_eq]
    refine ⟨_, rfl, _, rfl, _, _, _, _, rfl, rfl, sqT ht, rfl, o, M, S, n, rfl, r, wf, iv, lg, ok, fun H' M' r' st' => ?_⟩
    exact fin H' M' _ r' st' .non
  | lead a b =>
    refine ⟨_, rfl, _, _, _, _, rfl, rfl, sqT ht, show atI (deedV (.lead a b)) 0 = some (.str "lead") from rfl, ?_⟩
    refine ⟨_, rfl, rfl, _, rfl, ?_⟩
    rw [s_ne (a := "lead") (b := "send") (by decide)]
    refine ⟨_, rfl, rfl, _, rfl, ?_⟩
    rw [s_ne (a := "lead") (b := "try") (by decide)]
    refine ⟨_, rfl, rfl, _, rfl, ?_⟩
    rw [s_ne (a := "lead") (b := "tick") (by decide)]
    refine ⟨_, rfl, rfl, _, rfl, ?_⟩
    rw [s_eq]
    exact ⟨_, rfl, _, rfl, _, _, _, _, rfl, rfl, sqT ht, rfl, _, rfl, _, _, _, _, rfl, rfl, sqT ht, rfl, o, M, S, a, b, rfl, r, wf, fin⟩
  | hand x n g =>
    obtain ⟨n1, n2, n3, n4, n5⟩ := ok.1.ne
    refine ⟨_, rfl, _, _, _, _, rfl, rfl, sqT ht, show atI (deedV (.hand x n g)) 0 = some (.str x) from rfl, ?_⟩
    refine ⟨_, rfl, rfl, _, rfl, ?_⟩
    rw [s_ne n1]
    refine ⟨_, rfl, rfl, _, rfl, ?_⟩
    rw [s_ne n2]
    refine ⟨_, rfl, rfl, _, rfl, ?_⟩
    rw [s_ne n3]
    refine ⟨_, rfl, rfl, _, rfl, ?_⟩
    rw [s_ne n4]
    refine ⟨_, rfl, rfl, _, rfl, ?_⟩
    rw [s_ne n5]
    exact ⟨_, rfl, _, rfl, _, rfl, _, _, _, _, rfl, rfl, sqT ht, rfl, _, rfl, _, _, _, _, rfl, rfl, sqT ht, rfl, o, M, S, x, n, g, rfl, ok.1, r, wf, iv, Nat.le_trans lg (by decide), fin⟩
  | add a =>
    refine ⟨_, rfl, _, _, _, _, rfl, rfl, sqT ht, show atI (deedV (.add a)) 0 = some (.str "add") from rfl, ?_⟩
    refine ⟨_, rfl, rfl, _, rfl, ?_⟩
    rw [s_ne (a := "add") (b := "send") (by decide)]
    refine ⟨_, rfl, rfl, _, rfl, ?_⟩
    rw [s_ne (a := "add") (b := "try") (by decide)]
    refine ⟨_, rfl, rfl, _, rfl, ?_⟩
    rw [s_ne (a := "add") (b := "tick") (by decide)]
    refine ⟨_, rfl, rfl, _, rfl, ?_⟩
    rw [s_ne (a := "add") (b := "lead") (by decide)]
    refine ⟨_, rfl, rfl, _, rfl, ?_⟩
    rw [s_eq]
    have el : (kvT S.roads).length = S.roads.length := List.length_map ..
    have l5 := wf.l5
    refine ⟨_, rfl, _, _, _, _, rfl, rfl, sqT ht, rfl, _, rfl, o, _, rfl, r.fld rfl, M.dr, _, rfl, DGet.k (k := Sum.inr a) r.hdr, _, rfl, ?_⟩
    rw [kvT_get, Option.isSome_map]
    cases g : (getT S.roads a).isSome with
    | true =>
      have e : doS S (.add a) = (S, rfD "BadName") := if_pos (.inl g)
      rw [e] at fin
      exact ⟨by show 2 ≤ sizeLine; decide, fun t ht => fin _ M _ (r.same (same_new ht)) (.refl_same (same_new ht)) (.rf upd_same)⟩
    | false =>
      refine ⟨_, rfl, o, _, rfl, r.fld rfl, M.dr, _, rfl, r.hdr, rfl, _, rfl, ?_⟩
      rw [int_dec]
      by_cases h5 : S.roads.length = 5
      · rw [decide_eq_true (by rw [el]; omega)]
        have e : doS S (.add a) = (S, rfD "BadName") := if_pos (.inr h5)
        rw [e] at fin
        exact ⟨by show 2 ≤ sizeLine; decide, fun t ht => fin _ M _ (r.same (same_new ht)) (.refl_same (same_new ht)) (.rf upd_same)⟩
      · rw [decide_eq_false (by rw [el]; omega)]
        have e : doS S (.add a) = ({ S with roads := putT S.roads a a }, .none) := if_neg fun z => by
          rcases z with z | z
          · rw [g] at z
            cases z
          · exact h5 z
        rw [e] at fin
        refine ⟨_, rfl, _, _, _, _, rfl, rfl, sqT ht, rfl, _, rfl, o, _, rfl, r.fld rfl, _, rfl, _, _, _, _, rfl, rfl, sqT ht, rfl, M.dr, _, rfl, DPut.k (k := Sum.inr a) r.hdr (by rw [el]; exact small1000 (by omega)), ?_⟩
        show Q .non (upd H M.dr (.dK (putK (kvT S.roads) (Sum.inr a) (.str a))))
        rw [kvT_put]
        exact fin _ M _ (r.road a a) (ostep_road (Same.refl _)) .non
end
end T
end
section
namespace T
open PySem PySem.Spec PyProof.Rows L2 Tr LamX
/-! ### an item by a remainder -/
theorem pick (xs : List V) (n m : Int) (hm : m = (xs.length : Int)) (h0 : 0 < m) : ∃ x, x ∈ xs ∧ atI xs (n % m) = some x := by
  have e0 := Int.emod_nonneg n (show m ≠ 0 by omega)
  have e1 := Int.emod_lt_of_pos n h0
  have hj : (n % m).toNat < xs.length := by omega
  refine ⟨xs[(n % m).toNat], List.getElem_mem hj, ?_⟩
  have z := atI_nat (List.getElem?_eq_getElem hj)
  rw [Int.toNat_of_nonneg e0] at z
  exact z
theorem pickS (ss : List Str) (n m : Int) (hm : m = (ss.length : Int)) (h0 : 0 < m) : ∃ s, s ∈ ss ∧ atI (ss.map V.str) (n % m) = some (.str s) := by
  obtain ⟨x, hx, e⟩ := pick (ss.map V.str) n m (by rw [List.length_map]; exact hm) h0
  obtain ⟨s, hs, rfl⟩ := List.mem_map.mp hx
  exact ⟨s, hs, e⟩
theorem pickI (ss : List Int) (n m : Int) (hm : m = (ss.length : Int)) (h0 : 0 < m) : ∃ s, s ∈ ss ∧ atI (ss.map V.int) (n % m) = some (.int s) := by
  obtain ⟨x, hx, e⟩ := pick (ss.map V.int) n m (by rw [List.length_map]; exact hm) h0
  obtain ⟨s, hs, rfl⟩ := List.mem_map.mp hx
  exact ⟨s, hs, e⟩
theorem pickC (z : Str) (n m : Int) (hm : m = (z.cps.toList.length : Int)) (h0 : 0 < m) : ∃ c, c ∈ z.cps.toList ∧ atI z.cps.toList (n % m) = some c := by
  have e0 := Int.emod_nonneg n (show m ≠ 0 by omega)
  have e1 := Int.emod_lt_of_pos n h0
  have hj : (n % m).toNat < z.cps.toList.length := by omega
  refine ⟨z.cps.toList[(n % m).toNat], List.getElem_mem hj, ?_⟩
  have w := atI_nat (List.getElem?_eq_getElem hj)
  rw [Int.toNat_of_nonneg e0] at w
  exact w
end T
end
section
namespace T
open PySem PySem.Spec PyProof.Rows L2 Tr
/-! ### any name, any text -/
def sg (c : Nat) : Str := ⟨#[c]⟩
theorem join_signs (cs : List Nat) : (Txt.join "" (cs.map sg)).cps.toList = cs := by
  rw [TL.join_eq]
  induction cs with
  | nil => rfl
  | cons a l ih =>
    cases l with
    | nil => rfl
    | cons b l =>
      show (sg a ++ "" ++ Str.join "" ((b :: l).map sg)).cps.toList = _
      rw [Str.cps_append, Array.toList_append, ih, Str.cps_append, Array.toList_append]
      rfl
theorem signs_sum (cs : List Nat) : ((cs.map sg).map (·.length)).sum + (cs.map sg).length * ("" : Str).length = cs.length := by
  have e : ("" : Str).length = 0 := rfl
  rw [e, Nat.mul_zero, Nat.add_zero]
  induction cs with
  | nil => rfl
  | cons a l ih =>
    simp only [List.map_cons, List.sum_cons, List.length_cons, ih]
    have e1 : (sg a).length = 1 := rfl
    omega
abbrev signsS : Str := " !\"#$&'()*+,-./0123456789:;<=>?@ABCDEFGHIJKLMNOPQRSTUVWXYZ[\\]^_`abcdefghijklmnopqrstuvwxyz{|}~"
theorem small_len : smallS.cps.toList.length = 26 := by decide +kernel
theorem signs_len : signsS.cps.toList.length = 94 := by decide +kernel
theorem signs_tx : ∀ c ∈ signsS.cps.toList, txC c = true := by decide +kernel
theorem name_of {cs : List Nat} (h1 : 1 ≤ cs.length) (h4 : cs.length ≤ 4) (h : ∀ c ∈ cs, nmC c = true) : nameOk (Txt.join "" (cs.map sg)) = true := by
  have e := join_signs cs
  have el : (Txt.join "" (cs.map sg)).length = cs.length := by
    show (Txt.join "" (cs.map sg)).cps.size = _
    rw [← Array.length_toList, e]
  unfold nameOk
  rw [el, e, decide_eq_true h1, decide_eq_true h4, List.all_eq_true.mpr h]
  rfl
theorem text_of {cs : List Nat} (h4 : cs.length ≤ 20) (h : ∀ c ∈ cs, txC c = true) : textOk (Txt.join "" (cs.map sg)) = true := by
  have e := join_signs cs
  have el : (Txt.join "" (cs.map sg)).length = cs.length := by
    show (Txt.join "" (cs.map sg)).cps.size = _
    rw [← Array.length_toList, e]
  unfold textOk
  rw [el, e, decide_eq_true h4, List.all_eq_true.mpr h]
  rfl
section
variable {P : Program} {w : World} {K : PySem.W.Frag} {mg : Str → Option Value} {base : Heap}
def spAny (f : Str → Bool) (m : Int) : Sp := fun vs H Q _ => ∃ n : Int, vs = [.int n, .int m] ∧ ∀ (z : Str) (H' : Hp), f z = true → Same H H' → Q (.str z) H'
theorem k_l_any_name (T : Txt K mg) : Kal P w K mg base CX0 2 "_law_any_name" (spAny nameOk 4) := by
  refine kal_of T.f_l_any_name T.g_l_any_name sc_l_any_name (fun _ _ _ _ _ _ us hl => match us, hl with | [_, _], _ => rfl) (fun vs H Q E ⟨_, h, _⟩ => by rw [h] <;> rfl) fun cdv A outer s H vs Q E hr ⟨n, e, q⟩ => ?_
  subst e
  have nd := sc_l_any_name.nd
  refine ⟨_, pss_one (ps_ret (pe_join pe_str (pe_lc (own := [("_law_j", 2)]) (g := gName 2) (tt := tYes) rfl nd (pi_range1 (by rfl) T.n_range (pa_cons (pe_op op_add pe_int (pe_op op_mod (pv 0) (pv 1))) pa_nil))
      (blkOk_by (N := ["_law_more", "_law_most", "_law_j"]) (sc := defScope s_l_any_name) (by decide +kernel)) (fun _ _ _ _ _ => pg_name (i := 2) nd rfl (Or.inl rfl)) (fun _ _ _ _ _ => pts_nil)
      (fun _ _ _ _ _ => pe_ix ix_str pe_str (pe_op op_mod (pe_k (E := E0) (k_l_drawn T) hr (by decide) pass0 (pa_cons (pv 0) (pa_cons (pv 2) pa_nil))) pe_int) (fun _ _ => rfl))))), ?_⟩
  have n0 := Int.emod_nonneg n (show (4 : Int) ≠ 0 by decide)
  have n4 := Int.emod_lt_of_pos n (show (0 : Int) < 4 by decide)
  refine ⟨⟨_, rfl⟩, _, rfl, _, rfl, _, _, rfl, rfl, (by show (0 : Int) < 4; decide), _, _, rfl, rfl, _, rfl, by omega, by omega, fun D hD => ?_⟩
  refine lc_adds (walk_range (lo := 0) (n := (1 + n % 4).toNat)) (fun i acc => ∃ cs : List Nat, acc = (cs.map sg).map V.str ∧ cs.length = i ∧ ∀ c ∈ cs, nmC c = true) hD (by omega) ⟨[], rfl, rfl, fun c hc => by cases hc⟩ (fun i acc ⟨cs, h, l, _⟩ => by rw [h]; simp [l]) (fun _ _ => trivial) ?_ ?_
  · rintro Tq N i acc y H1 H2 yes no hi s1 ⟨cs, rfl, hl, hc⟩ ⟨rfl, rfl⟩
    refine ⟨rfl, _, rfl, _, rfl, n, _, rfl, by omega, by omega, fun d d0 d1 => ?_⟩
    have e0 := Int.emod_nonneg d (show (26 : Int) ≠ 0 by decide)
    have e1 := Int.emod_lt_of_pos d (show (0 : Int) < 26 by decide)
    have hj : (d % 26).toNat < smallS.cps.toList.length := by rw [small_len]; omega
    have ea : atI smallS.cps.toList (d % 26) = some (smallS.cps.toList[(d % 26).toNat]'hj) := by
      have z := atI_nat (List.getElem?_eq_getElem hj)
      rw [Int.toNat_of_nonneg e0] at z
      exact z
    refine ⟨_, _, rfl, rfl, (by show (0 : Int) < 26; decide), smallS, _, _, rfl, rfl, by decide, ea, yes _ _ (Same.refl _) ⟨cs ++ [smallS.cps.toList[(d % 26).toNat]'hj], by simp [sg], by simp [hl], fun c hc' => ?_⟩⟩
    rcases List.mem_append.mp hc' with hc' | hc'
    · exact hc c hc'
    · rw [List.mem_singleton.mp hc']
      exact decide_eq_true (List.getElem_mem hj)
  · rintro acc H1 s1 hDa ⟨cs, rfl, hl, hc⟩
    refine ⟨_, D, cs.map sg, rfl, rfl, .inl (sqL hDa), by rw [signs_sum]; omega, q _ _ (name_of (by omega) (by omega) hc) s1⟩
theorem k_l_any_text (T : Txt K mg) : Kal P w K mg base CX0 2 "_law_any_text" (spAny textOk 20) := by
  refine kal_of T.f_l_any_text T.g_l_any_text sc_l_any_text (fun _ _ _ _ _ _ us hl => match us, hl with | [_, _], _ => rfl) (fun vs H Q E ⟨_, h, _⟩ => by rw [h] <;> rfl) fun cdv A outer s H vs Q E hr ⟨n, e, q⟩ => ?_
  subst e
  have nd := sc_l_any_text.nd
  refine ⟨_, PSs.nox (pss_cons (ps_set (i := 2) nd rfl (Or.inr rfl) pe_str) (pss_one (ps_ret (pe_join pe_str (pe_lc (own := [("_law_j", 3)]) (g := gName 3) (tt := tYes) rfl nd (pi_range1 (by rfl) T.n_range (pa_cons (pe_op op_mod (pv 0) (pe_op op_add (pv 1) pe_int)) pa_nil))
      (blkOk_by (N := ["_law_more", "_law_most", "_law_signs", "_law_j"]) (sc := defScope s_l_any_text) (by decide +kernel)) (fun _ _ _ _ _ => pg_name (i := 3) nd rfl (Or.inl rfl)) (fun _ _ _ _ _ => pts_nil)
      (fun _ _ _ _ _ => pe_ix ix_str (pv 2) (pe_op op_mod (pe_k (E := E0) (k_l_drawn T) hr (by decide) pass0 (pa_cons (pv 0) (pa_cons (pv 3) pa_nil))) pe_int) (fun _ _ => rfl))))))), ?_⟩
  have n0 := Int.emod_nonneg n (show (21 : Int) ≠ 0 by decide)
  have n4 := Int.emod_lt_of_pos n (show (0 : Int) < 21 by decide)
  refine ⟨⟨_, rfl⟩, _, rfl, _, rfl, _, _, rfl, rfl, _, _, rfl, rfl, (by show (0 : Int) < 21; decide), _, rfl, by show -(2 ^ 62) ≤ n % 21; omega, by show n % 21 < 2 ^ 62; omega, fun D hD => ?_⟩
  refine lc_adds (walk_range (lo := 0) (n := (n % 21).toNat)) (fun i acc => ∃ cs : List Nat, acc = (cs.map sg).map V.str ∧ cs.length = i ∧ ∀ c ∈ cs, txC c = true) hD (by omega) ⟨[], rfl, rfl, fun c hc => by cases hc⟩ (fun i acc ⟨cs, h, l, _⟩ => by rw [h]; simp [l]) (fun _ _ => trivial) ?_ ?_
  · rintro Tq N i acc y H1 H2 yes no hi s1 ⟨cs, rfl, hl, hc⟩ ⟨rfl, rfl⟩
    refine ⟨rfl, _, rfl, _, rfl, _, rfl, n, _, rfl, by omega, by omega, fun d d0 d1 => ?_⟩
    have e0 := Int.emod_nonneg d (show (94 : Int) ≠ 0 by decide)
    have e1 := Int.emod_lt_of_pos d (show (0 : Int) < 94 by decide)
    have hj : (d % 94).toNat < signsS.cps.toList.length := by rw [signs_len]; omega
    have ea : atI signsS.cps.toList (d % 94) = some (signsS.cps.toList[(d % 94).toNat]'hj) := by
      have z := atI_nat (List.getElem?_eq_getElem hj)
      rw [Int.toNat_of_nonneg e0] at z
      exact z
    refine ⟨_, _, rfl, rfl, (by show (0 : Int) < 94; decide), signsS, _, _, rfl, rfl, by decide, ea, yes _ _ (Same.refl _) ⟨cs ++ [signsS.cps.toList[(d % 94).toNat]'hj], by simp [sg], by simp [hl], fun c hc' => ?_⟩⟩
    rcases List.mem_append.mp hc' with hc' | hc'
    · exact hc c hc'
    · rw [List.mem_singleton.mp hc']
      exact signs_tx _ (List.getElem_mem hj)
  · rintro acc H1 s1 hDa ⟨cs, rfl, hl, hc⟩
    refine ⟨_, D, cs.map sg, rfl, rfl, .inl (sqL hDa), by rw [signs_sum]; omega, q _ _ (text_of (by omega) hc) s1⟩
end
end T
end
section
namespace T
open PySem PySem.Spec PyProof.Rows L2 Tr LamX
/-! ### drawn deeds -/
abbrev fiveS : Str := "ab ~Z"
theorem five_len : fiveS.cps.toList.length = 5 := by decide +kernel
theorem mul_tx : ((List.range 21).all fun n => fiveS.cps.toList.all fun c => textOk (Txt.mul ⟨#[c]⟩ (n : Int))) = true := by decide +kernel
theorem mul_text {c : Nat} {n : Int} (hc : c ∈ fiveS.cps.toList) (h0 : 0 ≤ n) (h : n < 21) : textOk (Txt.mul ⟨#[c]⟩ n) = true := by
  have z := List.all_eq_true.mp (List.all_eq_true.mp mul_tx n.toNat (List.mem_range.mpr (by omega))) c hc
  rw [Int.toNat_of_nonneg h0] at z
  exact z
theorem mul_okN : ∀ m : Nat, m < 21 → ((decide ((m : Int) < -(2 ^ 63 : Int)) || decide ((m : Int) ≥ 2 ^ 63)) = false ∧ (¬ (m : Int) < 1 → ((m : Int) == 1 || (1 : Nat) == 0) = false → ¬ (((1 : Nat) : Int) > (2 ^ 63 - 1) / (m : Int))) ∧
  (¬ (m : Int) < 1 → ((m : Int) == 1 || (1 : Nat) == 0) = false → PySem.Builtin.Str.tooLong (1 * (m : Int).toNat) = false)) := by decide +kernel
theorem mul_ok {x : Str} {n : Int} (hx : x.length = 1) (h0 : 0 ≤ n) (h : n < 21) : MulOk x n := by
  unfold MulOk
  rw [hx]
  obtain ⟨m, rfl⟩ : ∃ m : Nat, n = (m : Int) := ⟨n.toNat, by omega⟩
  exact mul_okN m (by omega)
abbrev sixN : List Str := ["home", "out", "x", "yy", "far", "six"]
theorem six_ok : ∀ s ∈ sixN, nameOk s = true := by decide +kernel
abbrev deedN : List Str := ["_law_more", "_law_own_here", "_law_here", "_law_names", "_law_number", "_law_under", "_law_at", "_law_one", "_law_goal", "_law_text", "_law_way", "_law_key"]
section
variable {P : Program} {w : World} {K : PySem.W.Frag} {mg : Str → Option Value} {base : Heap}
def spDrawDeed (K : PySem.W.Frag) : Sp := fun vs H Q _ => ∃ (n : Int) (o : Addr) (M : OLay) (S : St), vs = [.int n, .ref o] ∧ Own K H o M S ∧ S.calls.length ≤ 30 ∧ ∀ (D : Deed) t H', OkD D → (∀ a, D = .add a → a ∈ sixN) → Same H H' → H' t = some (.tup (deedV D)) → Q (.ref t) H'
theorem k_l_deed (T : Txt K mg) : Kal P w K mg base CX0 3 "_law_deed" (spDrawDeed K) := by
  refine kal_of T.f_l_deed T.g_l_deed sc_l_deed (fun _ _ _ _ _ _ us hl => match us, hl with | [_, _], _ => rfl) (fun vs H Q E ⟨_, _, _, _, h, _⟩ => by rw [h] <;> rfl) fun cdv A outer s H vs Q E hr ⟨n, o, M, S, e, r, l30, fin⟩ => ?_
  subst e
  have hu := hu_of hr
  have nd := sc_l_deed.nd
  refine ⟨_, pss_cons (ps_set (i := 2) nd rfl (Or.inl rfl) (pe_op op_fdiv (pv 0) pe_int))
    (pss_cons (ps_set (i := 3) nd rfl (Or.inl rfl) (pe_lst (pa_cons pe_str (pa_cons pe_str (pa_cons pe_str (pa_cons pe_str (pa_cons pe_str (pa_cons pe_str pa_nil))))))))
    (pss_cons (ps_set (i := 4) nd rfl (Or.inl rfl) (pe_op op_add pe_int (pe_op op_mod (pv 2) (pe_op op_add (b_len T.n_len (pa_cons (pe_dget hu (pv 1) pe_str (fun _ _ => rfl)) pa_nil)) pe_int))))
    (pss_cons (ps_setLc (i := 5) (own := [("_law_at", 6), ("_law_one", 7)]) (g := gTup K 2 (gCons (gName 6) (gCons (gName 7) gNil))) (tt := tTest (tOp (rIn K false) (tDGet (tVar 7) (tC (.str "word"))) (tTup (tCons (tC (.str "tried")) (tCons (tC (.str "put by")) tNil))))) rfl nd rfl rfl (sw_true rfl rfl rfl (by decide +kernel))
        (pi_enum (by rfl) T.n_enumerate (pa_cons (pe_dget hu (pv 1) pe_str (fun _ _ => rfl)) pa_nil)) (blkOk_by (N := deedN) (sc := defScope s_l_deed) (by decide +kernel))
        (fun _ _ _ _ _ => pg_tup rfl (pgs_cons (pg_name (i := 6) nd rfl (Or.inl rfl)) (pgs_cons (pg_name (i := 7) nd rfl (Or.inl rfl)) pgs_nil)))
        (fun _ _ _ _ _ => pts_one (pt_cmpR op_in_seq (pe_dget hu (pv 7) pe_str (fun _ _ => rfl)) (pe_tup (pa_cons pe_str (pa_cons pe_str pa_nil))) rfl)) (fun _ _ _ _ _ => pe_op op_add (pv 6) pe_int))
    (pss_cons (ps_if (PW.pt (pw_and (pt_cmpR (op_neD hr.units) (pv 5) (pe_lst pa_nil) (nomark _)) (pw_and1 (pt_cmpR op_gt (pe_op op_mod (pe_op op_fdiv (pv 2) pe_int) pe_int) pe_int (nomark _)))))
        (pss_one (ps_set (i := 4) nd rfl (Or.inl rfl) (pe_ix ix_list (pv 5) (pe_op op_mod (pe_op op_fdiv (pv 2) pe_int) (b_len T.n_len (pa_cons (pv 5) pa_nil))) (fun _ _ => rfl)))) pss_nil)
    (pss_cons (ps_set (i := 8) nd rfl (Or.inl rfl) (pe_ix ix_list (pv 3) (pe_op op_mod (pe_op op_fdiv (pv 2) pe_int) pe_int) (fun _ _ => rfl)))
    (pss_cons (ps_set (i := 9) nd rfl (Or.inl rfl) (pe_op op_mulS (pe_ix ix_str pe_str (pe_op op_mod (pe_op op_fdiv (pv 2) pe_int) pe_int) (fun _ _ => rfl))
        (pe_op op_mod (pe_op op_fdiv (pv 2) (pe_op op_pow pe_int pe_int)) (pe_ix ix_list (pe_lst (pa_cons pe_int (pa_cons pe_int pa_nil))) (pe_op op_mod (pe_op op_fdiv (pv 2) (pe_op op_pow pe_int pe_int)) pe_int) (fun _ _ => rfl)))))
    (pss_cons (ps_set (i := 10) nd rfl (Or.inl rfl) (pe_op op_mod (pv 0) pe_int))
    (pss_cons (ps_if (pt_cmpR op_lt (pv 10) pe_int (nomark _))
        (pss_cons (ps_set (i := 11) nd rfl (Or.inl rfl) (pe_ix ix_list (pe_lst (pa_cons pe_str (pa_cons pe_str (pa_cons pe_str (pa_cons (pe_k (E := E0) (k_l_any_name T) hr (by decide) pass0 (pa_cons (pe_op op_fdiv (pv 2) (pe_op op_pow pe_int pe_int)) (pa_cons pe_int pa_nil))) pa_nil))))) (pe_op op_mod (pe_op op_fdiv (pv 2) (pe_op op_pow pe_int pe_int)) pe_int) (fun _ _ => rfl)))
          (pss_one (ps_ret (pe_tup (pa_cons pe_str (pa_cons (pv 11) (pa_cons (pv 8) (pa_cons (pe_ix ix_list (pe_lst (pa_cons (pv 9) (pa_cons (pe_k (E := E0) (k_l_any_text T) hr (by decide) pass0 (pa_cons (pe_op op_fdivW (pv 2) (pe_op op_pow pe_int pe_int)) (pa_cons pe_int pa_nil))) pa_nil))) (pe_op op_mod (pe_op op_fdiv (pv 2) (pe_op op_pow pe_int pe_int)) pe_int) (fun _ _ => rfl)) pa_nil)))))))) pss_nil)
    (pss_cons (ps_if (pt_cmpR op_lt (pv 10) pe_int (nomark _)) (pss_one (ps_ret (pe_tup (pa_cons pe_str pa_nil)))) pss_nil)
    (pss_cons (ps_if (pt_cmpR op_lt (pv 10) pe_int (nomark _)) (pss_one (ps_ret (pe_tup (pa_cons (pe_ix ix_list (pe_lst (pa_cons pe_str (pa_cons pe_str (pa_cons pe_str (pa_cons pe_str (pa_cons pe_str pa_nil)))))) (pe_op op_mod (pe_op op_fdiv (pv 2) (pe_op op_pow pe_int pe_int)) pe_int) (fun _ _ => rfl)) (pa_cons (pv 4) (pa_cons (pv 8) pa_nil)))))) pss_nil)
    (pss_cons (ps_if (pt_cmpR op_eq (pv 10) pe_int (nomark _)) (pss_one (ps_ret (pe_tup (pa_cons pe_str (pa_cons (pe_ix ix_list (pe_lst (pa_cons pe_int (pa_cons pe_int (pa_cons pe_int (pa_cons pe_int (pa_cons pe_int (pa_cons pe_int (pa_cons pe_int (pa_cons pe_int pa_nil))))))))) (pe_op op_mod (pe_op op_fdiv (pv 2) (pe_op op_pow pe_int pe_int)) pe_int) (fun _ _ => rfl)) pa_nil))))) pss_nil)
    (pss_cons (ps_if (pt_cmpR op_eq (pv 10) pe_int (nomark _)) (pss_one (ps_ret (pe_tup (pa_cons pe_str (pa_cons (pv 8) (pa_cons (pe_ix ix_list (pv 3) (pe_op op_mod (pe_op op_fdiv (pv 2) (pe_op op_pow pe_int pe_int)) pe_int) (fun _ _ => rfl)) pa_nil)))))) pss_nil)
    (pss_cons (ps_if (pt_cmpR op_eq (pv 10) pe_int (nomark _)) (pss_one (ps_ret (pe_tup (pa_cons pe_str (pa_cons (pv 8) pa_nil))))) pss_nil)
    (pss_one (ps_ret (pe_tup (pa_cons (pe_ix ix_list (pe_lst (pa_cons pe_str (pa_cons pe_str (pa_cons pe_str (pa_cons pe_str (pa_cons pe_str pa_nil)))))) (pe_op op_mod (pe_op op_fdiv (pv 2) (pe_op op_pow pe_int pe_int)) pe_int) (fun _ _ => rfl)) (pa_cons (pv 4) (pa_cons (pv 8) pa_nil))))))))))))))))))), ?_⟩
  refine ⟨_, rfl, _, _, rfl, rfl, ⟨by decide, by decide⟩, by show 6 ≤ sizeLine; decide, fun B hB => ?_⟩
  have s1 := same_new (o := HO.lst (sixN.map V.str)) hB
  have eB : upd H B (.lst (sixN.map V.str)) B = some (.lst (sixN.map V.str)) := upd_same
  have r1 := r.same s1
  have lc : (M.cs.map V.ref).length = S.calls.length := by rw [List.length_map, r.cl]
  have hp : (0 : Int) < (((M.cs.map V.ref).length : Nat) : Int) + 1 := by omega
  refine ⟨_, rfl, _, rfl, o, _, rfl, r1.fld rfl, _, _, rfl, .inl ⟨_, sqL r1.hlc, rfl⟩, _, _, rfl, rfl, _, _, rfl, rfl, hp, _, _, rfl, rfl, ?_⟩
  obtain ⟨N0, eN0⟩ : ∃ N0 : Int, 1 + n / 64 % ((((M.cs.map V.ref).length : Nat) : Int) + 1) = N0 := ⟨_, rfl⟩
  refine ⟨_, rfl, o, _, rfl, r1.fld rfl, _, _, rfl, sqL r1.hlc, fun D hD => ?_⟩
  refine lc_adds (walk_enum (xs := M.cs.map V.ref)) (fun j acc => ∃ ks : List Int, acc = ks.map V.int ∧ ks.length ≤ j) hD (by omega) ⟨[], rfl, Nat.le_refl _⟩ (fun j acc ⟨ks, h, l⟩ => by rw [h, List.length_map]; exact l) (fun H' s' => sqL (s' _ _ r1.hlc)) ?_ ?_
  · rintro Tq N j acc y H2 H3 yes no hj s2 ⟨ks, rfl, lk⟩ ⟨T1, u, v, rfl, hT, rfl, hu, hv⟩
    have hj : j < S.calls.length := by omega
    have hjl : j < M.cs.length := by rw [r.cl]; exact hj
    have hcj : M.cs[j]? = some M.cs[j] := List.getElem?_eq_getElem hjl
    have hqj : S.calls[j]? = some S.calls[j] := List.getElem?_eq_getElem hj
    have hu : some (V.int (j : Int)) = some u := hu
    cases hu
    have hv : (M.cs.map V.ref)[j]? = some v := hv
    rw [List.getElem?_map, hcj] at hv
    cases hv
    have s3 := s2.trans (same_new (o := HO.tup [.int (j : Nat), .ref M.cs[j]]) hT)
    have hc := s3 _ _ (r1.hc j _ _ hcj hqj)
    refine ⟨_, _, rfl, sqT upd_same, rfl, _, _, rfl, _, _, rfl, rfl, rfl, ?_⟩
    refine ⟨_, rfl, _, _, rfl, Own.cfld hc rfl, by show 2 ≤ sizeLine; decide, fun t ht => ?_⟩
    refine ⟨t, _, rfl, .inr (sqT upd_same), rfl, rfl, inV (.str S.calls[j].word) [.str "tried", .str "put by"], rfl, ?_⟩
    have s4 := (same_new (o := HO.tup [.int (j : Nat), .ref M.cs[j]]) hT).trans (same_new (o := HO.tup [.str "tried", .str "put by"]) ht)
    cases inV (.str S.calls[j].word) [.str "tried", .str "put by"] with
    | true => exact ⟨_, rfl, _, _, rfl, rfl, yes _ _ s4 ⟨ks ++ [(j : Int) + 1], by rw [List.map_append]; rfl, by rw [List.length_append]; exact Nat.succ_le_succ lk⟩⟩
    | false => exact no _ s4 ⟨ks, rfl, Nat.le_succ_of_le lk⟩
  rintro acc H2 s2 eD ⟨ks, rfl, lk⟩
  have s02 := s1.trans s2
  have eB2 := s2 _ _ eB
  dsimp only
  refine r_seq (r_if (good := fun σ' H' => ∃ N : Int, Same H2 H' ∧ σ' = [some (.int n), some (.ref o), some (.int (n / 64)), some (.ref B), some (.int N), some (.ref D), none, none, none, none, none, none]) ?_ fun rr => ?_)
  case refine_2 =>
    refine ⟨_, rfl, by show 0 ≤ sizeLine; decide, fun D2 hD2 => ?_⟩
    have s3 := same_new (o := HO.lst []) hD2
    have eD2 := s3 _ _ eD
    refine ⟨_, _, dp_lints eD2, .lst (sqL upd_same) .nil, (sh_ints _).shaped, (sh_ints []).shaped, _, rfl, ?_⟩
    rw [eqv_nil]
    cases ks with
    | nil => exact rr _ _ ⟨N0, s3, by rw [← eN0]; rfl⟩
    | cons k0 ks =>
      have hl : (0 : Int) < ((((k0 :: ks).map V.int).length : Nat) : Int) := by rw [List.length_map, List.length_cons]; omega
      obtain ⟨k1, _, ek⟩ := pickI (k0 :: ks) (n / 64 / 256) ((((k0 :: ks).map V.int).length : Nat) : Int) (by rw [List.length_map]) hl
      refine ⟨_, rfl, _, _, rfl, rfl, ⟨by decide, by decide⟩, _, _, rfl, rfl, (by show (0 : Int) < 4; decide), _, _, rfl, rfl, _, rfl, itd (fun _ => ?_) fun _ => rr _ _ ⟨N0, s3, by rw [← eN0]; rfl⟩⟩
      exact ⟨_, rfl, _, rfl, _, _, rfl, rfl, ⟨by decide, by decide⟩, _, rfl, _, _, rfl, .inl ⟨_, sqL eD2, rfl⟩, _, _, rfl, rfl, hl, _, _, _, _, rfl, rfl, sqL eD2, ek, rr _ _ ⟨k1, s3, rfl⟩⟩
  rintro σ' H3 ⟨N, s3, rfl⟩
  have s03 := s02.trans s3
  have eB3 := s3 _ _ eB2
  clear hD eD lk s2 s02 eB2 eB r1 s1 hB
  obtain ⟨g, hg, eg⟩ := pickS sixN (n / 64 / 1024) 6 rfl (by decide)
  have hgs := hg
  have hg := six_ok g hg
  refine ⟨_, rfl, _, rfl, _, _, rfl, rfl, ⟨by decide, by decide⟩, _, _, rfl, rfl, (by show (0 : Int) < 6; decide), _, _, _, _, rfl, rfl, sqL eB3, eg, ?_⟩
  obtain ⟨c, hc, ec⟩ := pickC fiveS (n / 64 / 8192) 5 (by rw [five_len]; rfl) (by decide)
  refine ⟨_, rfl, _, _, rfl, rfl, ⟨by decide, by decide⟩, _, _, rfl, rfl, (by show (0 : Int) < 5; decide), fiveS, _, _, rfl, rfl, by decide, ec, ?_⟩
  obtain ⟨qq, hq, eq⟩ := pickI [4, 21] (n / 64 / 2 ^ (20 : Int).toNat) 2 rfl (by decide)
  have qpos : 0 < qq ∧ qq ≤ 21 := by
    simp only [List.mem_cons, List.not_mem_nil, or_false] at hq
    omega
  have m0 := Int.emod_nonneg (n / 64 / 2 ^ (16 : Int).toNat) (show qq ≠ 0 by omega)
  have m1 := Int.emod_lt_of_pos (n / 64 / 2 ^ (16 : Int).toNat) qpos.1
  have htx := mul_text hc m0 (by omega)
  have hmk : MulOk ⟨#[c]⟩ (n / 64 / 2 ^ (16 : Int).toNat % qq) := mul_ok rfl m0 (by omega)
  refine ⟨_, rfl, _, _, rfl, rfl, ⟨by decide, by decide, by decide⟩, _, _, rfl, rfl, ⟨by decide, by decide⟩, by show 2 ≤ sizeLine; decide, fun L1 hL1 => ⟨_, rfl, _, _, rfl, rfl, ⟨by decide, by decide, by decide⟩, _, _, rfl, rfl, ⟨by decide, by decide⟩, _, _, rfl, rfl, (by show (0 : Int) < 2; decide), _, _, _, _, rfl, rfl, sqL upd_same, eq, _, _, rfl, rfl, qpos.1, _, _, rfl, rfl, hmk, ?_⟩⟩
  have s4 := s03.trans (same_new (o := HO.lst [V.int 4, V.int 21]) hL1)
  have eB4 := (same_new (o := HO.lst [V.int 4, V.int 21]) hL1) _ _ eB3
  generalize upd H3 L1 (.lst [V.int 4, V.int 21]) = H4 at s4 eB4
  generalize Txt.mul ⟨#[c]⟩ (n / 64 / 2 ^ (16 : Int).toNat % qq) = tx at htx
  clear hmk m0 m1 qpos eq hq hc ec eg
  refine ⟨_, rfl, _, _, rfl, rfl, (by show (0 : Int) < 16; decide), ?_⟩
  refine ⟨_, rfl, _, _, rfl, rfl, _, rfl, itd (fun _ => ?_) fun _ => ?_⟩
  · refine ⟨_, rfl, _, _, rfl, rfl, ⟨by decide, by decide, by decide⟩, _, _, rfl, rfl, ⟨by decide, by decide⟩, _, rfl, fun z H5 hz s5 => ?_⟩
    obtain ⟨ky, hky, eky⟩ := pickS ["k", "key", "z", z] (n / 64 / 2 ^ (22 : Int).toNat) 4 rfl (by decide)
    have hky : nameOk ky = true := by
      simp only [List.mem_cons, List.not_mem_nil, or_false] at hky
      rcases hky with rfl | rfl | rfl | rfl
      · decide +kernel
      · decide +kernel
      · decide +kernel
      · exact hz
    refine ⟨by show 4 ≤ sizeLine; decide, fun L2 hL2 => ⟨_, rfl, _, _, rfl, rfl, ⟨by decide, by decide, by decide⟩, _, _, rfl, rfl, ⟨by decide, by decide⟩, _, _, rfl, rfl, (by show (0 : Int) < 4; decide), _, _, _, _, rfl, rfl, sqL upd_same, eky, ?_⟩⟩
    refine ⟨_, rfl, _, rfl, _, rfl, _, rfl, _, _, rfl, rfl, ⟨by decide, by decide, by decide⟩, _, _, rfl, rfl, wide_div (b := 41) (by decide) (by decide) (by decide) (by decide), _, rfl, fun z2 H6 hz2 s6 => ⟨by show 2 ≤ sizeLine; decide, fun L3 hL3 => ?_⟩⟩
    obtain ⟨tx2, htx2, etx2⟩ := pickS [tx, z2] (n / 64 / 2 ^ (26 : Int).toNat) 2 rfl (by decide)
    have htx2 : textOk tx2 = true := by
      simp only [List.mem_cons, List.not_mem_nil, or_false] at htx2
      rcases htx2 with rfl | rfl
      · exact htx
      · exact hz2
    exact ⟨_, rfl, _, _, rfl, rfl, ⟨by decide, by decide, by decide⟩, _, _, rfl, rfl, ⟨by decide, by decide⟩, _, _, rfl, rfl, (by show (0 : Int) < 2; decide), _, _, _, _, rfl, rfl, sqL upd_same, etx2, by show 4 ≤ sizeLine; decide, fun t ht => fin (.send ky g tx2) t _ ⟨hky, hg, htx2⟩ (fun _ z => by cases z) ((((s4.trans s5).trans (same_new hL2)).trans (s6.trans (same_new hL3))).trans (same_new ht)) upd_same⟩
  refine ⟨_, rfl, _, _, rfl, rfl, _, rfl, itd (fun _ => ?_) fun _ => ?_⟩
  · exact ⟨by show 1 ≤ sizeLine; decide, fun t ht => fin .try_ t _ trivial (fun _ z => by cases z) (s4.trans (same_new ht)) upd_same⟩
  refine ⟨_, rfl, _, _, rfl, rfl, _, rfl, itd (fun _ => ?_) fun _ => ?_⟩
  · obtain ⟨x, hx, ex⟩ := pickS ["good", "later", "never", "later", "good"] (n / 64 / 2 ^ (22 : Int).toNat) 5 rfl (by decide)
    have hx : IsHand x := by
      simp only [List.mem_cons, List.not_mem_nil, or_false] at hx
      rcases hx with rfl | rfl | rfl | rfl | rfl
      · exact .good
      · exact .later
      · exact .never
      · exact .later
      · exact .good
    exact ⟨by show 5 ≤ sizeLine; decide, fun L2 hL2 => ⟨_, rfl, _, _, rfl, rfl, ⟨by decide, by decide, by decide⟩, _, _, rfl, rfl, ⟨by decide, by decide⟩, _, _, rfl, rfl, (by show (0 : Int) < 5; decide), _, _, _, _, rfl, rfl, sqL upd_same, ex, _, rfl, _, rfl, by show 3 ≤ sizeLine; decide, fun t ht => fin (.hand x N g) t _ ⟨hx, hg⟩ (fun _ z => by cases z) ((s4.trans (same_new hL2)).trans (same_new ht)) upd_same⟩⟩
  refine ⟨_, rfl, rfl, _, rfl, ?_⟩
  rw [int_dec]
  refine itd (fun _ => ?_) fun _ => ?_
  · obtain ⟨m, hm, em⟩ := pickI [0, 1, 1, 2, 3, 5, 10, 100] (n / 64 / 2 ^ (22 : Int).toNat) 8 rfl (by decide)
    have hm : 0 ≤ m ∧ m ≤ 100 := by
      simp only [List.mem_cons, List.not_mem_nil, or_false] at hm
      omega
    obtain ⟨k, rfl⟩ : ∃ k : Nat, m = (k : Int) := ⟨m.toNat, by omega⟩
    exact ⟨by show 8 ≤ sizeLine; decide, fun L2 hL2 => ⟨_, rfl, _, _, rfl, rfl, ⟨by decide, by decide, by decide⟩, _, _, rfl, rfl, ⟨by decide, by decide⟩, _, _, rfl, rfl, (by show (0 : Int) < 8; decide), _, _, _, _, rfl, rfl, sqL upd_same, em, by show 2 ≤ sizeLine; decide, fun t ht => fin (.tick k) t _ (by show k ≤ 100; omega) (fun _ z => by cases z) ((s4.trans (same_new hL2)).trans (same_new ht)) upd_same⟩⟩
  refine ⟨_, rfl, rfl, _, rfl, ?_⟩
  rw [int_dec]
  refine itd (fun _ => ?_) fun _ => ?_
  · obtain ⟨b, hb, eb⟩ := pickS sixN (n / 64 / 2 ^ (24 : Int).toNat) 6 rfl (by decide)
    have hb := six_ok b hb
    exact ⟨_, rfl, _, rfl, _, rfl, _, _, rfl, rfl, ⟨by decide, by decide, by decide⟩, _, _, rfl, rfl, ⟨by decide, by decide⟩, _, _, rfl, rfl, (by show (0 : Int) < 6; decide), _, _, _, _, rfl, rfl, sqL eB4, eb, by show 3 ≤ sizeLine; decide, fun t ht => fin (.lead g b) t _ ⟨hg, hb⟩ (fun _ z => by cases z) (s4.trans (same_new ht)) upd_same⟩
  refine ⟨_, rfl, rfl, _, rfl, ?_⟩
  rw [int_dec]
  refine itd (fun _ => ?_) fun _ => ?_
  · exact ⟨_, rfl, by show 2 ≤ sizeLine; decide, fun t ht => fin (.add g) t _ hg (fun _ z => by cases z; exact hgs) (s4.trans (same_new ht)) upd_same⟩
  obtain ⟨x, hx, ex⟩ := pickS ["go on", "drop", "change", "go on", "go on"] (n / 64 / 2 ^ (22 : Int).toNat) 5 rfl (by decide)
  have hx : IsHand x := by
    simp only [List.mem_cons, List.not_mem_nil, or_false] at hx
    rcases hx with rfl | rfl | rfl | rfl | rfl
    · exact .go
    · exact .drop
    · exact .change
    · exact .go
    · exact .go
  exact ⟨by show 5 ≤ sizeLine; decide, fun L2 hL2 => ⟨_, rfl, _, _, rfl, rfl, ⟨by decide, by decide, by decide⟩, _, _, rfl, rfl, ⟨by decide, by decide⟩, _, _, rfl, rfl, (by show (0 : Int) < 5; decide), _, _, _, _, rfl, rfl, sqL upd_same, ex, _, rfl, _, rfl, by show 3 ≤ sizeLine; decide, fun t ht => fin (.hand x N g) t _ ⟨hx, hg⟩ (fun _ z => by cases z) ((s4.trans (same_new hL2)).trans (same_new ht)) upd_same⟩⟩
end
end T
end
section
namespace T
open PySem PySem.Spec PyProof.Rows L2 Tr LamX
/-! ### the law's names, texts, marks -/
theorem lay_of {s : Str} (h : ∀ c ∈ s.cps.toList, c < 128) : sOk s := by
  show s.cps.all (fun c => decide (c < 0x110000)) = true
  refine Array.all_eq_true.mpr fun i hi => ?_
  have q := h s.cps[i] (by rw [Array.mem_toList_iff]; exact Array.getElem_mem hi)
  have q2 : s.cps[i] < 1114112 := by omega
  simpa using q2
theorem name_all {s : Str} (h : nameOk s = true) : ∀ c ∈ s.cps.toList, nmC c = true := by
  unfold nameOk at h
  simp only [Bool.and_eq_true] at h
  exact List.all_eq_true.mp h.2.2
theorem name_lay {s : Str} (h : nameOk s = true) : sOk s := lay_of fun c hc => by
  have e := of_decide_eq_true (name_all h c hc)
  have q : ∀ d ∈ smallS.cps.toList, d < 128 := by decide +kernel
  exact q c e
theorem text_lay {s : Str} (h : textOk s = true) : sOk s := lay_of fun c hc => by
  unfold textOk at h
  simp only [Bool.and_eq_true] at h
  have e := List.all_eq_true.mp h.2 c hc
  unfold txC at e
  simp only [Bool.and_eq_true] at e
  have e2 : ¬ (tildeS.cps.toList < ([c] : List Nat)) := fun z => by
    rw [decide_eq_true z] at e
    exact absurd e.2.1 (by decide)
  have e3 : tildeS.cps.toList = [126] := by decide +kernel
  rw [e3] at e2
  by_cases hh : c < 128
  · exact hh
  · exact absurd (List.Lex.rel (show 126 < c by omega)) e2
theorem name_short {s : Str} (h : nameOk s = true) : s.length ≤ 100000 := by
  unfold nameOk at h
  simp only [Bool.and_eq_true, decide_eq_true_eq] at h
  omega
theorem text_short {s : Str} (h : textOk s = true) : s.length ≤ 100000 := by
  unfold textOk at h
  simp only [Bool.and_eq_true, decide_eq_true_eq] at h
  omega
end T
end
section
namespace T
open PySem PySem.Spec PyProof.Rows L2 Tr LamX
theorem takes0N {X : Cx} : L2N.Takes X (fun _ _ _ _ => False) := fun _ _ x => by
  obtain ⟨_, _, _, _, _, _, _, _, _, _, _, _, _, _, _, _, z⟩ := x
  exact z.elim
/-- what a refusal is turned into -/
def eTold (K : PySem.W.Frag) (cs : List Str) (Q : VK) : XK := fun c d H' => ∃ n, n ∈ cs ∧ c = .ref (He.ga K n) ∧ d = none ∧ Word K cs n ∧ ∀ (H'' : Hp) (t : Addr), Same H' H'' → H' t = none → H'' t = some (.tup [.str "refused", .str n]) → Q (.ref t) H''
def TTell (K : PySem.W.Frag) (cs : List Str) : (XK → Hp → VK → Prop) → Hp → VK → Prop := fun tl H Q => tl (eTold K cs Q) H Q
theorem told_gives {X : Cx} (T : Txt X.K X.mg) {q : Str} {k : Nat} {cdg : Value} : TrL.Gives X ["_law_deed_here", "_law_e"] "_law_told" (defScope s_l_told) (He.ga X.K "_law_told") cdg (defBody s_l_told) "_law_deed_here" q k (TTell X.K cls) := by
  intro f c' s H Q tl hr act hc h
  obtain ⟨fw, fdw, Fw, gw, kw, bw⟩ := k_l_word (P := X.prog) (w := X.w) (base := X.base) T
  have nd := sc_l_told.nd
  refine ⟨_, pss_one (L2N.ps_try_as (X := (cxOf C8.CX0 X.prog X.w X.K X.mg X.base ["_law_deed_here", "_law_e"] "_law_told" (defScope s_l_told) (He.ga X.K "_law_told") cdg X.A X.stack s H C8.E0).nox) (i := 1) (c := .ref (He.ga X.K "TryError"))
      (tb := fun W D σ H => ∃ Ech : XK, (∀ cls d σ' H', Ech cls d H' → W cls d σ' H') ∧ σ[0]? = some (some (.ref f)) ∧ H c' = some (CodeO c' q) ∧ tl Ech H D.rt)
      (ts := fun a c d D σ H => (∃ σ0 : L2.St, σ = σ0.set 1 (some (.ref a))) ∧ eTold X.K cls D.rt c d H) (Wout := fun _ _ _ _ => False)
      rfl rfl nd rfl rfl ⟨rfl, by decide, .inl T.g_TryError⟩ takes0N (fun W pn xe tk _ => ?_) (fun a oe c d pn hz hf => ?_)), ?_⟩
  · refine ⟨fun pins s' σ H' D I ⟨Ech, hW, h1, h2, h3⟩ => ?_⟩
    exact (pss_one (ps_ret (act W pn xe Ech _ _ tk hW))).run pins s' σ H' D I ⟨h1, h2, h3⟩
  · obtain ⟨vs, hv⟩ := id hf
    have hot : L2H.Hot1 (((cxOf C8.CX0 X.prog X.w X.K X.mg X.base ["_law_deed_here", "_law_e"] "_law_told" (defScope s_l_told) (He.ga X.K "_law_told") cdg X.A X.stack s H C8.E0).nox).suite a ((a, oe) :: pn)).A (a, oe) := ⟨rfl, vs, hv, hz.2.2 vs hv⟩
    refine ⟨fun pins s' σ H' D I ⟨⟨σ0, h1⟩, n, hn, hc, hd, W, k'⟩ => ?_⟩
    subst hc hd
    have hr1 := hr.mono (Nat.succ_le_succ (Nat.zero_le k))
    have slot : σ[1]? = some (some (.ref a)) := by
      have l : σ.length = 2 := I.len
      rw [h1, List.length_set] at l
      rw [h1, List.getElem?_set_self (by omega)]
    exact (pss_one (ps_ret (TrL.peWord (X := ((cxOf C8.CX0 X.prog X.w X.K X.mg X.base ["_law_deed_here", "_law_e"] "_law_told" (defScope s_l_told) (He.ga X.K "_law_told") cdg X.A X.stack s H C8.E0).nox).suite a ((a, oe) :: pn)) (p0 := (a, oe)) (i := 1) (n := "_law_e") (x := "_law_word")
      Fw ⟨hr1.dp, hr1.un⟩ hot List.mem_cons_self rfl gw kw bw (pv 1)))).run pins s' σ H' D I ⟨slot, n, hn, hz.zc, hf, W, k'⟩
  · refine ⟨eTold X.K cls Q, fun c d σ' H' ⟨n, hn, hc, hd, W, k'⟩ => ?_, rfl, hc, h⟩
    exact ⟨true, by rw [hc]; exact W.exm, fun _ a ha => ⟨⟨σ', rfl⟩, n, hn, hc, hd, W, k'⟩, fun z => Bool.noConfusion z⟩
/-- _law_told(lambda: body), the body's names captured -/
def tTold (K : PySem.W.Frag) (Tb : List (Addr × Str)) (t : XK → TE) : TE := fun σ H Q => Tabs Tb H ∧ ∀ H1, ExtN H H1 → Tabs Tb H1 → t (eTold K cls Q) σ H1 Q
theorem pe_told {X : Cx} (tx : Txt X.K X.mg) {Tb : List (Addr × Str)} {c Pt : Addr} {k : Nat} {params : Arguments} {body : Expr} {scope : Scope} {t : XK → TE} {p lpos pos : Pos} (TB : TabB X.base X.mg c Pt) (hcode : X.env.code = .ref c) (hmT : (Pt, X.env.qual ++ "<lambda>") ∈ Tb)
    (hu : ∀ p ∈ Tb, p.1 = Pt → p.2 = X.env.qual ++ "<lambda>") (hr : Room (k + 2) X.A)
    (hbody : ∀ (A : Around) (outer : List Env) (s : Shared) (H : Hp) (E : XK) (f c' : Addr), Room k (A.deeper (lamEnv X scope s.heap.objs.size f c')) → PE (TrL.lamC X A outer s H E scope f c') body (t E))
    (hg : Gl X "_law_told" := by rfl) (L : LamS X.env.scope scope := by exact lamS_by (by rfl)) (hdef : defaultsOf params X.env = ([], []) := by rfl)
    (hbind : ∀ (q : Str) (cl : List (Str × Addr)) (pm cv ctv : Value), bindArgs (PySem.W.kla_fn "<lambda>" q params body scope cl pm cv ctv) ⟨[], []⟩ = pure [] := by intros; rfl) :
    PE X (.Call (.Name "_law_told" p) [.Lambda params body scope lpos] [] pos) (tTold X.K Tb t) := by
  obtain ⟨fd, F⟩ := tx.f_l_told
  obtain ⟨oc, od, dV, kV, doc, pm, an, cdv, ct, osl, rfl, lk, hcd, _, _⟩ := id F.ex
  refine pe_imp (TrL.lamcallN (k := k) (Ng := ["_law_deed_here", "_law_e"]) (a := "_law_deed_here") hg tx.g_l_told F.kp lk hcd (F.bindsN fun _ _ _ _ _ _ us hl => match us, hl with | [_], _ => rfl) sc_l_told rfl (.inl rfl) (told_gives tx) TB hcode hmT hu hr L hdef hbind hbody) fun σ H Q q => q
end T
end
section
namespace T
open PySem PySem.Spec PyProof.Rows L2 Tr LamX
abbrev doesQ : Str := (("_law_does" : Str) ++ (".<locals>." : Str)) ++ ("<lambda>" : Str)
theorem Wf.inS {S : St} {g : Str} (h : nameOk g = true) : inRoads S (.str g) = (getT S.roads g).isSome := by
  show (nameOk g && _) = _
  rw [h, Bool.true_and]
theorem hand_word {x : Str} (h : IsHand x) : x ≠ "go on" → x ≠ "drop" → x ≠ "change" → isWord (.str x) = true := by
  cases h with
  | go => exact fun z => absurd rfl z
  | drop => exact fun _ z => absurd rfl z
  | change => exact fun _ _ z => absurd rfl z
  | good => exact fun _ _ _ => rfl
  | later => exact fun _ _ _ => rfl
  | never => exact fun _ _ _ => rfl
theorem hand_no {S : St} {x g : Str} {n : Int} (h : isC (.int n) 1 S.calls.length = false) : handS S x n g = (S, rfD "BadCall") := by
  unfold handS
  rw [if_neg fun z => ?_]
  have h' : (decide (1 ≤ n) && decide (n ≤ (S.calls.length : Int))) = false := h
  rw [decide_eq_true z.1, decide_eq_true z.2] at h'
  cases h'
theorem hand_at {S : St} {x g : Str} {i : Nat} {q : Cal} (hq : S.calls[i]? = some q) : handS S x ((1 + i : Nat) : Int) g = if x = ("change" : Str) ∧ (getT S.roads g).isSome = false then (S, rfD "BadName") else if needB x q.word = true then (actS S i q x g, .none) else (S, rfD "BadCall") := by
  have hi := (List.getElem?_eq_some_iff.mp hq).1
  unfold handS
  rw [if_pos ⟨by omega, by omega⟩]
  have e : (((1 + i : Nat) : Int) - 1).toNat = i := by omega
  rw [e, hq]
section
variable {P : Program} {w : World} {K : PySem.W.Frag} {mg : Str → Option Value} {base : Heap}
def spDoes (K : PySem.W.Frag) (Tb : List (Addr × Str)) : Sp := fun vs H Q _ => ∃ (p : Addr) (L : Lay) (S : St) (t : Addr) (D : Deed), vs = [.ref p, .ref t] ∧ Rep K H p L S ∧ Wf S ∧ S.log.length ≤ 9000000 ∧ H t = some (.tup (deedV D)) ∧ OkD D ∧ Tabs Tb H ∧
  ∀ H1 H' L' v, ExtN H H1 → Tabs Tb H1 → Rep K H' p L' (doS S D).1 → Step p L H1 L' H' → Res H' v (doS S D).2 → Q v H'
abbrev tIx (K : PySem.W.Frag) (i j : Nat) : TE := tOp (rIxT K) (tVar i) (tC (.int (j : Int)))
theorem k_l_does (T : Txt K mg) {c Pt : Addr} {fd : FuncData} (F : FunD K "_law_does" "_law_does" (defArgs s_l_does) (defBody s_l_does) (defScope s_l_does) [] [] (He.ga K "_law_does") fd) (hc : fd.code = .ref c) (TB : TabB base mg c Pt) {Tb : List (Addr × Str)} (mem : (Pt, doesQ) ∈ Tb) (uq : ∀ p ∈ Tb, p.1 = Pt → p.2 = doesQ) : Kal P w K mg base (NX P w) 9 "_law_does" (spDoes K Tb) := by
  obtain ⟨oc, od, dV, kV, doc, pm, an, cdv, ct, osl, rfl, lk, hcd, _, _⟩ := id F.ex
  obtain rfl : cdv = .ref c := hc
  refine ⟨_, _, ["_law_caller", "_law_deed_here"], fn_of lk hcd sc_l_does (fun vs H Q E ⟨_, _, _, _, _, e, _⟩ => by rw [e] <;> rfl) fun A outer s H vs Q E hr ⟨p, L, S, t, D, e, r, wf, lg, ht, ok, hT, fin⟩ => ?_, T.g_l_does, F.kp, F.bindsN (fun _ _ _ _ _ _ us hl => match us, hl with | [_, _], _ => rfl)⟩
  subst e
  have nd := sc_l_does.nd
  refine ⟨_, pss_cons (ps_set (i := 2) nd rfl (Or.inr rfl) (pe_ix ix_tup (pv 1) pe_int (fun _ _ => rfl)))
    (pss_cons (ps_if (pt_cmpR op_eq (pv 2) pe_str (nomark _)) (pss_one (ps_ret (pe_told (k := 6) (t := fun E => tM (He.ga K "Caller") "send" (spSend K) E (tVar 0) (tCons (tIx K 1 1) (tCons (tIx K 1 2) (tCons (tIx K 1 3) tNil)))) T TB rfl mem uq hr (fun _ _ _ _ _ _ _ hr2 => pe_m (m_send T) hr2 (by decide) TrL.lamC_pass (pv 0) (pa_cons (pe_ix ix_tup (pv 1) pe_int (fun _ _ => rfl)) (pa_cons (pe_ix ix_tup (pv 1) pe_int (fun _ _ => rfl)) (pa_cons (pe_ix ix_tup (pv 1) pe_int (fun _ _ => rfl)) pa_nil))))))) pss_nil)
    (pss_cons (ps_if (pt_cmpR op_eq (pv 2) pe_str (nomark _)) (pss_one (ps_ret (pe_told (k := 6) (t := fun E => tM (He.ga K "Caller") "attempt" (spAttempt K) E (tVar 0) tNil) T TB rfl mem uq hr (fun _ _ _ _ E _ _ hr2 => pe_m0 (m_attempt T) hr2 (by decide) pass0 (pv 0))))) pss_nil)
    (pss_cons (ps_if (pt_cmpR op_eq (pv 2) pe_str (nomark _)) (pss_one (ps_ret (pe_told (k := 6) (t := fun E => tM (He.ga K "Caller") "tick" (spTick K) E (tVar 0) (tCons (tIx K 1 1) tNil)) T TB rfl mem uq hr (fun _ _ _ _ _ _ _ hr2 => pe_m (m_tick T) hr2 (by decide) TrL.lamC_pass (pv 0) (pa_cons (pe_ix ix_tup (pv 1) pe_int (fun _ _ => rfl)) pa_nil))))) pss_nil)
    (pss_cons (ps_if (pt_cmpR op_eq (pv 2) pe_str (nomark _)) (pss_one (ps_ret (pe_told (k := 6) (t := fun E => tM (He.ga K "Caller") "lead" (spLead K) E (tVar 0) (tCons (tIx K 1 1) (tCons (tIx K 1 2) tNil))) T TB rfl mem uq hr (fun _ _ _ _ _ _ _ hr2 => pe_m (m_lead T) hr2 (by decide) TrL.lamC_pass (pv 0) (pa_cons (pe_ix ix_tup (pv 1) pe_int (fun _ _ => rfl)) (pa_cons (pe_ix ix_tup (pv 1) pe_int (fun _ _ => rfl)) pa_nil)))))) pss_nil)
    (pss_cons (ps_if (pt_cmpR op_eq (pv 2) pe_str (nomark _)) (pss_one (ps_ret (pe_told (k := 6) (t := fun E => tM (He.ga K "Caller") "add_address" (spAddAddr K) E (tVar 0) (tCons (tIx K 1 1) tNil)) T TB rfl mem uq hr (fun _ _ _ _ _ _ _ hr2 => pe_m (m_add_address T) hr2 (by decide) TrL.lamC_pass (pv 0) (pa_cons (pe_ix ix_tup (pv 1) pe_int (fun _ _ => rfl)) pa_nil))))) pss_nil)
    (pss_cons (ps_if (pt_cmpR op_eq (pv 2) pe_str (nomark _)) (pss_one (ps_ret (pe_told (k := 6) (t := fun E => tM (He.ga K "Caller") "go_on" (spDeed (fun x => decide (x = ("put by" : Str))) goS K) E (tVar 0) (tCons (tIx K 1 1) tNil)) T TB rfl mem uq hr (fun _ _ _ _ _ _ _ hr2 => pe_m (m_go_on T) hr2 (by decide) TrL.lamC_pass (pv 0) (pa_cons (pe_ix ix_tup (pv 1) pe_int (fun _ _ => rfl)) pa_nil))))) pss_nil)
    (pss_cons (ps_if (pt_cmpR op_eq (pv 2) pe_str (nomark _)) (pss_one (ps_ret (pe_told (k := 6) (t := fun E => tM (He.ga K "Caller") "drop" (spDeed loose_ dropS K) E (tVar 0) (tCons (tIx K 1 1) tNil)) T TB rfl mem uq hr (fun _ _ _ _ _ _ _ hr2 => pe_m (m_drop T) hr2 (by decide) TrL.lamC_pass (pv 0) (pa_cons (pe_ix ix_tup (pv 1) pe_int (fun _ _ => rfl)) pa_nil))))) pss_nil)
    (pss_cons (ps_if (pt_cmpR op_eq (pv 2) pe_str (nomark _)) (pss_one (ps_ret (pe_told (k := 6) (t := fun E => tM (He.ga K "Caller") "change" (spChange K) E (tVar 0) (tCons (tIx K 1 1) (tCons (tIx K 1 2) tNil))) T TB rfl mem uq hr (fun _ _ _ _ _ _ _ hr2 => pe_m (m_change T) hr2 (by decide) TrL.lamC_pass (pv 0) (pa_cons (pe_ix ix_tup (pv 1) pe_int (fun _ _ => rfl)) (pa_cons (pe_ix ix_tup (pv 1) pe_int (fun _ _ => rfl)) pa_nil)))))) pss_nil)
    (pss_one (ps_ret (pe_told (k := 6) (t := fun E => tM (He.ga K "Caller") "answer" (spAnswer K) E (tVar 0) (tCons (tIx K 1 1) (tCons (tVar 2) tNil))) T TB rfl mem uq hr (fun _ _ _ _ _ _ _ hr2 => pe_m (m_answer T) hr2 (by decide) TrL.lamC_pass (pv 0) (pa_cons (pe_ix ix_tup (pv 1) pe_int (fun _ _ => rfl)) (pa_cons (pv 2) pa_nil)))))))))))))), ?_⟩
  have bad : ∀ (n : Str) {H1 H2 : Hp}, n ∈ cls → doS S D = (S, rfD n) → ExtN H H1 → Tabs Tb H1 → Same H1 H2 → eTold K cls Q (.ref (He.ga K n)) none H2 := fun n H1 H2 hn e x1 t1 s1 => ⟨n, hn, rfl, rfl, T_word T hn, fun H3 t3 s3 _ et => by
    rw [e] at fin
    have s := s1.trans s3
    exact fin H1 H3 L _ x1 t1 ((r.ext x1).same s) (.refl_same s) (.rf et)⟩
  cases D with
  | send k g tx =>
    refine ⟨_, rfl, _, _, _, _, rfl, rfl, sqT ht, show atI (deedV (.send k g tx)) 0 = some (.str "send") from rfl, ?_⟩
    refine ⟨_, rfl, rfl, _, rfl, ?_⟩
    rw [s_eq]
    refine ⟨hT, fun H1 x1 t1 => ?_⟩
    have r1 := r.ext x1
    have ht1 := ext_tup x1 ht
    obtain ⟨dx1, hp1⟩ := id r1.ins
    refine ⟨_, rfl, p, dx1, _, rfl, hp1, rfl, _, rfl, _, _, _, _, rfl, rfl, sqT ht1, rfl, _, rfl, _, _, _, _, rfl, rfl, sqT ht1, rfl, _, rfl, _, _, _, _, rfl, rfl, sqT ht1, rfl, ?_⟩
    obtain ⟨ok1, ok2, ok3⟩ := ok
    have en : isNm (.str k) = true := ok1
    have et : isTx (.str tx) = true := ok3
    have eg : inRoads S (.str g) = (getT S.roads g).isSome := Wf.inS ok2
    refine ⟨p, L, S, .str k, .str g, .str tx, rfl, r1, .str _, .str _, .str _, name_short ok1, name_short ok2, text_short ok3, wf.l30, Nat.le_trans lg (by decide), fun z H2 s2 => ?_, fun _ _ z => ?_, fun _ z _ el H2 s2 => ?_, fun k' g' t' e1 e2 e3 _ z _ el H2 L2 r2 st2 => ?_⟩
    · refine bad "BadName" (by decide) ?_ x1 t1 s2
      rcases z with z | z
      · rw [en] at z
        cases z
      · rw [eg] at z
        show sendR S k g tx = _
        unfold sendR
        rw [if_neg (by rw [z]; decide)]
    · rw [et] at z
      cases z
    · refine bad "Full" (by decide) ?_ x1 t1 s2
      rw [eg] at z
      show sendR S k g tx = _
      unfold sendR
      rw [if_pos z, if_pos el]
    · cases e1
      cases e2
      cases e3
      rw [eg] at z
      have e : doS S (.send k g tx) = (sendS S k g tx, .int ((S.calls.length : Int) + 1)) := by
        show sendR S k g tx = _
        unfold sendR
        rw [if_pos z, if_neg (by omega)]
      rw [e] at fin
      exact fin H1 H2 L2 _ x1 t1 r2 st2 (.int _)
  | try_ =>
    refine ⟨_, rfl, _, _, _, _, rfl, rfl, sqT ht, show atI (deedV .try_) 0 = some (.str "try") from rfl, ?_⟩
    refine ⟨_, rfl, rfl, _, rfl, ?_⟩
    rw [s_ne (a := "try") (b := "send") (by decide)]
    refine ⟨_, rfl, rfl, _, rfl, ?_⟩
    rw [s_eq]
    refine ⟨hT, fun H1 x1 t1 => ?_⟩
    have r1 := r.ext x1
    have ht1 := ext_tup x1 ht
    obtain ⟨dx1, hp1⟩ := id r1.ins
    refine ⟨_, rfl, p, dx1, _, rfl, hp1, rfl, p, L, S, rfl, r1, wf, Nat.le_trans lg (by decide), fun ed H2 s2 => ?_, fun i rest q ed hq H2 L2 t2 r2 st2 _ et => ?_⟩
    · have e : doS S .try_ = (S, .none) := tryR_nil ed
      rw [e] at fin
      exact fin H1 H2 L _ x1 t1 (r1.same s2) (.refl_same s2) .non
    · have e : doS S .try_ = _ := tryR_cons ed hq
      rw [e] at fin
      exact fin H1 H2 L2 _ x1 t1 r2 st2 (try_res et)
  | tick n =>
    refine ⟨_, rfl, _, _, _, _, rfl, rfl, sqT ht, show atI (deedV (.tick n)) 0 = some (.str "tick") from rfl, ?_⟩
    refine ⟨_, rfl, rfl, _, rfl, ?_⟩
    rw [s_ne (a := "tick") (b := "send") (by decide)]
    refine ⟨_, rfl, rfl, _, rfl, ?_⟩
    rw [s_ne (a := "tick") (b := "try") (by decide)]
    refine ⟨_, rfl, rfl, _, rfl, ?_⟩
    rw [s_eq]
    refine ⟨hT, fun H1 x1 t1 => ?_⟩
    have r1 := r.ext x1
    have ht1 := ext_tup x1 ht
    obtain ⟨dx1, hp1⟩ := id r1.ins
    have hn : n ≤ 100 := ok
    have ec : isC (.int (n : Int)) 0 100 = true := by
      show (decide ((0 : Int) ≤ (n : Int)) && decide ((n : Int) ≤ 100)) = true
      rw [decide_eq_true (by omega), decide_eq_true (by omega)]
      rfl
    refine ⟨_, rfl, p, dx1, _, rfl, hp1, rfl, _, rfl, _, _, _, _, rfl, rfl, sqT ht1, rfl, p, L, S, .int (n : Int), rfl, r1, wf, lg, .int _, fun z => (by rw [ec] at z; cases z), fun m em _ H2 L2 r2 st2 => ?_⟩
    have em2 : m = n := by
      have := V.int.inj em
      omega
    subst em2
    exact fin H1 H2 L2 _ x1 t1 r2 st2 .non
  | lead a b =>
    refine ⟨_, rfl, _, _, _, _, rfl, rfl, sqT ht, show atI (deedV (.lead a b)) 0 = some (.str "lead") from rfl, ?_⟩
    refine ⟨_, rfl, rfl, _, rfl, ?_⟩
    rw [s_ne (a := "lead") (b := "send") (by decide)]
    refine ⟨_, rfl, rfl, _, rfl, ?_⟩
    rw [s_ne (a := "lead") (b := "try") (by decide)]
    refine ⟨_, rfl, rfl, _, rfl, ?_⟩
    rw [s_ne (a := "lead") (b := "tick") (by decide)]
    refine ⟨_, rfl, rfl, _, rfl, ?_⟩
    rw [s_eq]
    refine ⟨hT, fun H1 x1 t1 => ?_⟩
    have r1 := r.ext x1
    have ht1 := ext_tup x1 ht
    obtain ⟨dx1, hp1⟩ := id r1.ins
    obtain ⟨ok1, ok2⟩ := ok
    have ea := Wf.inS (S := S) ok1
    have eb := Wf.inS (S := S) ok2
    refine ⟨_, rfl, p, dx1, _, rfl, hp1, rfl, _, rfl, _, _, _, _, rfl, rfl, sqT ht1, rfl, _, rfl, _, _, _, _, rfl, rfl, sqT ht1, rfl, p, L, S, .str a, .str b, rfl, r1, wf.en, wf.wl, .str _, name_short ok1, .str _, name_short ok2, wf.l5, fun z H2 s2 => ?_, fun a' b' e1 e2 za zb lo H2 r2 st2 => ?_⟩
    · refine bad "BadName" (by decide) (leadS_no fun y => ?_) x1 t1 s2
      rcases z with z | z | ⟨a', b', e1, e2, z⟩
      · rw [ea, y.1] at z
        cases z
      · rw [eb, y.2.1] at z
        cases z
      · cases e1
        cases e2
        exact z y.2.2
    · cases e1
      cases e2
      rw [ea] at za
      rw [eb] at zb
      have e : doS S (.lead a b) = _ := leadS_yes ⟨za, zb, lo⟩
      rw [e] at fin
      exact fin H1 H2 L _ x1 t1 r2 st2 .non
  | add a =>
    refine ⟨_, rfl, _, _, _, _, rfl, rfl, sqT ht, show atI (deedV (.add a)) 0 = some (.str "add") from rfl, ?_⟩
    refine ⟨_, rfl, rfl, _, rfl, ?_⟩
    rw [s_ne (a := "add") (b := "send") (by decide)]
    refine ⟨_, rfl, rfl, _, rfl, ?_⟩
    rw [s_ne (a := "add") (b := "try") (by decide)]
    refine ⟨_, rfl, rfl, _, rfl, ?_⟩
    rw [s_ne (a := "add") (b := "tick") (by decide)]
    refine ⟨_, rfl, rfl, _, rfl, ?_⟩
    rw [s_ne (a := "add") (b := "lead") (by decide)]
    refine ⟨_, rfl, rfl, _, rfl, ?_⟩
    rw [s_eq]
    refine ⟨hT, fun H1 x1 t1 => ?_⟩
    have r1 := r.ext x1
    have ht1 := ext_tup x1 ht
    obtain ⟨dx1, hp1⟩ := id r1.ins
    have ok1 : nameOk a = true := ok
    have ea := Wf.inS (S := S) ok1
    have en : isNm (.str a) = true := ok1
    refine ⟨_, rfl, p, dx1, _, rfl, hp1, rfl, _, rfl, _, _, _, _, rfl, rfl, sqT ht1, rfl, p, L, S, .str a, rfl, r1, .str _, name_short ok1, wf.l5, fun z H2 s2 => ?_, fun a' e1 _ g5 l5 H2 r2 st2 => ?_⟩
    · refine bad "BadName" (by decide) (if_pos ?_) x1 t1 s2
      rcases z with z | z | z
      · rw [en] at z
        cases z
      · rw [ea] at z
        exact .inl z
      · exact .inr z
    · cases e1
      have e : doS S (.add a) = ({ S with roads := putT S.roads a a }, .none) := if_neg fun z => by
        rcases z with z | z
        · rw [g5] at z
          cases z
        · omega
      rw [e] at fin
      exact fin H1 H2 L _ x1 t1 r2 st2 .non
  | hand x n g =>
    obtain ⟨hx, og⟩ := ok
    obtain ⟨n1, n2, n3, n4, n5⟩ := hx.ne
    have eg := Wf.inS (S := S) og
    refine ⟨_, rfl, _, _, _, _, rfl, rfl, sqT ht, show atI (deedV (.hand x n g)) 0 = some (.str x) from rfl, ?_⟩
    refine ⟨_, rfl, rfl, _, rfl, ?_⟩
    rw [s_ne n1]
    refine ⟨_, rfl, rfl, _, rfl, ?_⟩
    rw [s_ne n2]
    refine ⟨_, rfl, rfl, _, rfl, ?_⟩
    rw [s_ne n3]
    refine ⟨_, rfl, rfl, _, rfl, ?_⟩
    rw [s_ne n4]
    refine ⟨_, rfl, rfl, _, rfl, ?_⟩
    rw [s_ne n5]
    refine ⟨_, rfl, rfl, _, rfl, ?_⟩
    rw [str_dec]
    by_cases h1 : x = ("go on" : Str)
    case pos =>
      rw [decide_eq_true h1]
      refine ⟨hT, fun H1 x1 t1 => ?_⟩
      have r1 := r.ext x1
      have ht1 := ext_tup x1 ht
      obtain ⟨dx1, hp1⟩ := id r1.ins
      refine ⟨_, rfl, p, dx1, _, rfl, hp1, rfl, _, rfl, _, _, _, _, rfl, rfl, sqT ht1, rfl, p, L, S, .int n, rfl, r1, Nat.le_trans lg (by decide), .int _, fun z H2 s2 => ?_, fun i q e1 hq hw H2 L2 r2 st2 => ?_⟩
      · refine bad "BadCall" (by decide) ?_ x1 t1 s2
        rcases z with z | ⟨i, q, e1, hq, z⟩
        · exact hand_no z
        · cases e1
          show handS S x ((1 + i : Nat) : Int) g = _
          rw [hand_at hq, if_neg fun y => (by rw [h1] at y; exact absurd y.1 (by decide)), if_neg]
          rw [h1]
          intro y
          have y : decide (q.word = ("put by" : Str)) = true := y
          have z : decide (q.word = ("put by" : Str)) = false := z
          rw [z] at y
          cases y
      · cases e1
        have e : doS S (.hand x ((1 + i : Nat) : Int) g) = (goS S i q, .none) := by
          show handS S x ((1 + i : Nat) : Int) g = _
          rw [hand_at hq, if_neg fun y => (by rw [h1] at y; exact absurd y.1 (by decide)), if_pos (by rw [h1]; exact hw)]
          rw [h1]
          rfl
        rw [e] at fin
        exact fin H1 H2 L2 _ x1 t1 r2 st2 .non
    rw [decide_eq_false h1]
    refine ⟨_, rfl, rfl, _, rfl, ?_⟩
    rw [str_dec]
    by_cases h2 : x = ("drop" : Str)
    case pos =>
      rw [decide_eq_true h2]
      refine ⟨hT, fun H1 x1 t1 => ?_⟩
      have r1 := r.ext x1
      have ht1 := ext_tup x1 ht
      obtain ⟨dx1, hp1⟩ := id r1.ins
      refine ⟨_, rfl, p, dx1, _, rfl, hp1, rfl, _, rfl, _, _, _, _, rfl, rfl, sqT ht1, rfl, p, L, S, .int n, rfl, r1, Nat.le_trans lg (by decide), .int _, fun z H2 s2 => ?_, fun i q e1 hq hw H2 L2 r2 st2 => ?_⟩
      · refine bad "BadCall" (by decide) ?_ x1 t1 s2
        rcases z with z | ⟨i, q, e1, hq, z⟩
        · exact hand_no z
        · cases e1
          show handS S x ((1 + i : Nat) : Int) g = _
          rw [hand_at hq, if_neg fun y => (by rw [h2] at y; exact absurd y.1 (by decide)), if_neg]
          rw [h2]
          intro y
          have y : loose_ q.word = true := y
          rw [z] at y
          cases y
      · cases e1
        have e : doS S (.hand x ((1 + i : Nat) : Int) g) = (dropS S i q, .none) := by
          show handS S x ((1 + i : Nat) : Int) g = _
          rw [hand_at hq, if_neg fun y => (by rw [h2] at y; exact absurd y.1 (by decide)), if_pos (by rw [h2]; exact hw)]
          rw [h2]
          rfl
        rw [e] at fin
        exact fin H1 H2 L2 _ x1 t1 r2 st2 .non
    rw [decide_eq_false h2]
    refine ⟨_, rfl, rfl, _, rfl, ?_⟩
    rw [str_dec]
    by_cases h3 : x = ("change" : Str)
    case pos =>
      rw [decide_eq_true h3]
      refine ⟨hT, fun H1 x1 t1 => ?_⟩
      have r1 := r.ext x1
      have ht1 := ext_tup x1 ht
      obtain ⟨dx1, hp1⟩ := id r1.ins
      refine ⟨_, rfl, p, dx1, _, rfl, hp1, rfl, _, rfl, _, _, _, _, rfl, rfl, sqT ht1, rfl, _, rfl, _, _, _, _, rfl, rfl, sqT ht1, rfl, p, L, S, .int n, .str g, rfl, r1, .int _, .str _, name_short og, fun z H2 s2 => ?_, fun z zg H2 s2 => ?_, fun i q e1 hq zg hw H2 s2 => ?_, fun i q g' e1 hq e2 zg hw H2 L2 r2 st2 => ?_⟩
      · exact bad "BadCall" (by decide) (hand_no z) x1 t1 s2
      · obtain ⟨i, e1, hi⟩ := isC_some z
        cases e1
        refine bad "BadName" (by decide) ?_ x1 t1 s2
        show handS S x ((1 + i : Nat) : Int) g = _
        rw [eg] at zg
        rw [hand_at (List.getElem?_eq_getElem hi), if_pos ⟨h3, zg⟩]
      · cases e1
        refine bad "BadCall" (by decide) ?_ x1 t1 s2
        show handS S x ((1 + i : Nat) : Int) g = _
        rw [eg] at zg
        rw [hand_at hq, if_neg fun y => (by rw [zg] at y; cases y.2), if_neg]
        rw [h3]
        intro y
        have y : loose_ q.word = true := y
        rw [hw] at y
        cases y
      · cases e1
        cases e2
        rw [eg] at zg
        have e : doS S (.hand x ((1 + i : Nat) : Int) g) = (changeS S i q g, .none) := by
          show handS S x ((1 + i : Nat) : Int) g = _
          rw [hand_at hq, if_neg fun y => (by rw [zg] at y; cases y.2), if_pos (by rw [h3]; exact hw)]
          rw [h3]
          rfl
        rw [e] at fin
        exact fin H1 H2 L2 _ x1 t1 r2 st2 .non
    rw [decide_eq_false h3]
    refine ⟨hT, fun H1 x1 t1 => ?_⟩
    have r1 := r.ext x1
    have ht1 := ext_tup x1 ht
    obtain ⟨dx1, hp1⟩ := id r1.ins
    have hw := hand_word hx h1 h2 h3
    have nb : ∀ y : Str, needB x y = decide (y = ("tried" : Str)) := fun y => by
      unfold needB
      rw [if_neg h1, if_neg fun z => by
        rcases z with z | z
        · exact h2 z
        · exact h3 z]
    refine ⟨_, rfl, p, dx1, _, rfl, hp1, rfl, _, rfl, _, _, _, _, rfl, rfl, sqT ht1, rfl, _, rfl, p, L, S, .int n, .str x, rfl, r1, wf, Nat.le_trans lg (by decide), .int _, .str _, fun z => ?_, fun i q z e1 hq e2 _ hw2 H2 L2 r2 st2 => ?_⟩
    · refine bad "BadCall" (by decide) ?_ x1 t1 (Same.refl _)
      rcases z with z | z | ⟨i, q, e1, hq, z⟩
      · exact hand_no z
      · rw [hw] at z
        cases z
      · cases e1
        show handS S x ((1 + i : Nat) : Int) g = _
        rw [hand_at hq, if_neg fun y => h3 y.1, if_neg]
        rw [nb, decide_eq_false z]
        decide
    · cases e1
      cases e2
      have e : doS S (.hand x ((1 + i : Nat) : Int) g) = (answerS S i q x, .none) := by
        show handS S x ((1 + i : Nat) : Int) g = _
        rw [hand_at hq, if_neg fun y => h3 y.1, if_pos (by rw [nb]; exact decide_eq_true hw2)]
        unfold actS
        rw [if_neg h3, if_neg h1, if_neg h2]
      rw [e] at fin
      exact fin H1 H2 L2 _ x1 t1 r2 st2 .non
end
end T
end
section
namespace T
open PySem PySem.Spec PyProof.Rows L2 Tr LamX
/-! ### the two states side by side -/
def Disj (p : Addr) (L : Lay) (o : Addr) (M : OLay) : Prop := ∀ c, foot p L c → ¬ ofoot o M c
section
variable {K : PySem.W.Frag} {H H' : Hp} {p o : Addr} {L L' : Lay} {M M' : OLay} {S S' : St} {X : Addr → Prop}
theorem Own.fr (r : Own K H o M S) (f : Fr X H H') (h : ∀ c, ofoot o M c → ¬ X c) (ht : ∀ t xs, H t = some (.tup xs) → H' t = some (.tup xs)) : Own K H' o M S :=
  ⟨f _ _ r.ho (h _ (.inl rfl)), ht _ _ r.hrl, f _ _ r.hdr (h _ (.inr (.inl rfl))), f _ _ r.hlc (h _ (.inr (.inr (.inl rfl)))), f _ _ r.hll (h _ (.inr (.inr (.inr (.inl rfl))))), r.tl, fun i t q h1 h2 => ht _ _ (r.ht i t q h1 h2), r.cl,
    fun i c q h1 h2 => f _ _ (r.hc i c q h1 h2) (h _ (.inr (.inr (.inr (.inr (List.mem_of_getElem? h1)))))), r.nd, r.n1, r.n2, r.n3, r.n4⟩
theorem Rep.fr (r : Rep K H p L S) (f : Fr X H H') (h : ∀ c, foot p L c → ¬ X c) (ht : ∀ t xs, H t = some (.tup xs) → H' t = some (.tup xs)) : Rep K H' p L S := by
  obtain ⟨dx, hp⟩ := r.ins
  refine ⟨⟨dx, f _ _ hp (h _ (.inl rfl))⟩, ht _ _ r.hrl, f _ _ r.hdr (h _ (.inr (.inl rfl))), f _ _ r.hdc (h _ (.inr (.inr (.inl rfl)))), f _ _ r.hdl (h _ (.inr (.inr (.inr (.inl rfl))))), r.tl, fun i t q h1 h2 => ht _ _ (r.ht i t q h1 h2), r.cl, fun i c q h1 h2 => ?_, r.nd, r.ne⟩
  obtain ⟨cd, hc⟩ := r.hc i c q h1 h2
  exact ⟨cd, f _ _ hc (h _ (.inr (.inr (.inr (.inr (List.mem_of_getElem? h1))))))⟩
theorem Own.step (r : Own K H o M S) (rp : Rep K H p L S') (d : Disj p L o M) (st : Step p L H L' H') : Own K H' o M S := r.fr st.fr (fun c h f => d c f h) (st.tups rp)
theorem Rep.ostep (rp : Rep K H p L S) (r : Own K H o M S') (d : Disj p L o M) (st : OStep o M H M' H') : Rep K H' p L S := rp.fr st.fr (fun c h f => d c h f) (st.tups r)
theorem Disj.step (d : Disj p L o M) (r : Own K H o M S) (st : Step p L H L' H') : Disj p L' o M := fun c f g => by
  rcases st.nw c f with z | z
  · exact d c z g
  · obtain ⟨u, h⟩ := r.some_ g
    rw [z] at h
    cases h
theorem Disj.ostep (d : Disj p L o M) (r : Rep K H p L S) (st : OStep o M H M' H') : Disj p L o M' := fun c f g => by
  rcases st.nw c g with z | z
  · exact d c f z
  · obtain ⟨u, h⟩ := r.some_ f
    rw [z] at h
    cases h
end
/-! ### what each deed keeps -/
theorem so_sent : sOk "sent" := show (PyData.str "sent").canLay0 = true by decide +kernel
theorem so_tried : sOk "tried" := show (PyData.str "tried").canLay0 = true by decide +kernel
theorem so_later : sOk "later" := show (PyData.str "later").canLay0 = true by decide +kernel
theorem so_done : sOk "done" := show (PyData.str "done").canLay0 = true by decide +kernel
theorem so_put : sOk "put by" := show (PyData.str "put by").canLay0 = true by decide +kernel
theorem so_gone : sOk "gone" := show (PyData.str "gone").canLay0 = true by decide +kernel
def LogOk (S : St) : Prop := ∀ e ∈ S.log, sOk e.2.2
theorem logOk_say {S : St} (h : LogOk S) (n : Int) {x : Str} (hx : sOk x) : LogOk (sayS S n x) := fun e he => by
  rcases List.mem_append.mp he with z | z
  · exact h e z
  · rw [List.mem_singleton.mp z]
    exact hx
theorem logOk_fail {S : St} (h : LogOk S) (i : Nat) (q : Cal) : LogOk (failS S i q) := by
  unfold failS
  split
  · exact logOk_say (S := { S with calls := S.calls.set i _ }) h _ so_put
  · exact logOk_say (S := { S with calls := S.calls.set i _ }) h _ so_later
theorem logOk_step {S : St} (h : LogOk S) (i : Nat) : LogOk (tickStep S i) := by
  unfold tickStep
  cases S.calls[i]? with
  | none => exact h
  | some q =>
    dsimp only
    split
    · exact logOk_fail h i q
    · exact h
theorem logOk_tickI {S : St} (h : LogOk S) : ∀ i, LogOk (tickI S i)
  | 0 => h
  | i + 1 => logOk_step (logOk_tickI h i) i
theorem logOk_tickN {S : St} (h : LogOk S) : ∀ n, LogOk (tickN S n)
  | 0 => h
  | n + 1 => logOk_tickI (logOk_tickN h n) _
structure Good (S : St) : Prop where
  wf : Wf S
  sane : Sane S
  lok : LogOk S
/-- what a deed leads to: good, the rule as it was, not many rows more -/
structure Led (S S' : St) : Prop where
  good : Good S'
  rule : S'.rule = S.rule
  log : S'.log.length ≤ S.log.length + 3000
theorem Led.refl {S : St} (g : Good S) : Led S S := ⟨g, rfl, Nat.le_add_right _ _⟩
theorem led_set {S : St} (g : Good S) {i : Nat} {q q' : Cal} (hq : S.calls[i]? = some q) (hk : q'.key = q.key) (hg : inRoads S (.str q'.goal) = true ∨ q'.goal = q.goal) (ht : q'.text = q.text) (hf : 0 ≤ q.fails → 0 ≤ q'.fails)
    (h1 : inFails S q') (h2 : q'.word = ("tried" : Str) → q'.time ≤ S.now ∧ S.now - q'.time < S.rule.p) : Good { S with calls := S.calls.set i q' } :=
  ⟨(keeps_set S hq hk hg ht hf).wf g.wf, allC_set g.sane (fun _ _ _ h => h) ⟨h1, h2⟩, g.lok⟩
theorem led_say {S S' : St} (g : Good S') (hr : S'.rule = S.rule) (hl : S'.log = S.log) (n : Int) {x : Str} (hx : sOk x) : Led S (sayS S' n x) :=
  ⟨⟨(keeps_say S' n x).wf g.wf, g.sane, logOk_say g.lok n hx⟩, hr, by show (S'.log ++ [_]).length ≤ _; rw [hl, List.length_append]; exact Nat.add_le_add_left (show 1 ≤ 3000 by decide) _⟩
theorem led_fail {S : St} (g : Good S) {i : Nat} {q : Cal} (hq : S.calls[i]? = some q) : Led S (failS S i q) := by
  obtain ⟨a, b, c⟩ := inv_fail (q := q) g.sane (fun _ u => inFails S u ∧ (u.word = ("tried" : Str) → u.time ≤ S.now ∧ S.now - u.time < S.rule.p)) (fun _ _ _ h => h)
    ⟨fun z => by rcases z with z | z <;> exact absurd (show ("put by" : Str) = _ from z) (by decide), fun z => absurd (show ("put by" : Str) = "tried" from z) (by decide)⟩
    (fun hm => ⟨fun _ => hm, fun z => absurd (show ("waits" : Str) = "tried" from z) (by decide)⟩)
  refine ⟨⟨(keeps_fail hq).wf g.wf, ?_, logOk_fail g.lok i q⟩, (keeps_fail hq).rule, by rw [log_fail]; omega⟩
  unfold Sane inFails at *
  rw [b, c]
  exact a
theorem led_tick {S : St} (g : Good S) {n : Nat} (hn : n ≤ 100) : Led S (tickN S n) := by
  obtain ⟨a, b⟩ := keeps_tickN g.wf.l30 n
  exact ⟨⟨a.wf g.wf, g.sane.tickN n, logOk_tickN g.lok n⟩, a.rule, by omega⟩
theorem led_send {S : St} (g : Good S) {k h t : Str} (hk : nameOk k = true) (hh : inRoads S (.str h) = true) (ht : textOk t = true) (hl : S.calls.length < 30) : Led S (sendS S k h t) := by
  have mem : ∀ (P : Cal → Prop), (∀ o ∈ S.calls, P o) → P (newCal k h t S.now) → ∀ o ∈ S.calls ++ [newCal k h t S.now], P o := fun P a b o ho => by
    rcases List.mem_append.mp ho with z | z
    · exact a o z
    · rw [List.mem_singleton.mp z]
      exact b
  have w := g.wf
  refine led_say (S := S) (S' := { S with calls := S.calls ++ [newCal k h t S.now] }) ⟨⟨w.ok, w.en, w.l5, w.nm, ?_, mem _ w.key hk, mem _ w.goal hh, mem _ w.text ht, mem _ w.fails (Int.le_refl 0)⟩, ?_, g.lok⟩ rfl rfl _ so_sent
  · show (S.calls ++ [_]).length ≤ 30
    rw [List.length_append]
    exact hl
  · intro j q hq
    have hq : (S.calls ++ [newCal k h t S.now])[j]? = some q := hq
    by_cases hj : j < S.calls.length
    · rw [List.getElem?_append_left hj] at hq
      exact g.sane j q hq
    · rw [List.getElem?_append_right (by omega)] at hq
      have z : j - S.calls.length = 0 := by
        have := (List.getElem?_eq_some_iff.mp hq).1
        simp at this
        omega
      rw [z] at hq
      cases hq
      exact ⟨fun _ => by have := w.ok.m.1; show (0 : Int) < S.rule.m; omega, fun z => absurd (show ("waits" : Str) = "tried" from z) (by decide)⟩
theorem put_in {r : List (Str × Str)} {a b x : Str} (h : (getT r x).isSome = true) : (getT (putT r a b) x).isSome = true := by
  rw [getT_put]
  split
  · rfl
  · exact h
theorem put_nm {r : List (Str × Str)} {a b : Str} (h : ∀ e ∈ r, nameOk e.1 = true) (ha : nameOk a = true) : ∀ e ∈ putT r a b, nameOk e.1 = true := by
  unfold putT
  split
  · intro e he
    obtain ⟨u, hu, rfl⟩ := List.mem_map.mp he
    split
    · exact h u hu
    · exact h u hu
  · intro e he
    rcases List.mem_append.mp he with z | z
    · exact h e z
    · rw [List.mem_singleton.mp z]
      exact ha
theorem led_road {S : St} (g : Good S) {a b : Str} (ha : nameOk a = true) (hl : (getT S.roads a).isSome = true ∨ S.roads.length < 5) (he : b = a ∨ ∃ l, Way S.roads b l ∧ a ∉ l) : Led S { S with roads := putT S.roads a b } := by
  have w := g.wf
  refine ⟨⟨⟨w.ok, ends_put w.en he, ?_, put_nm w.nm ha, w.l30, w.key, fun q hq => ?_, w.text, w.fails⟩, g.sane, g.lok⟩, rfl, Nat.le_add_right _ _⟩
  · show (putT S.roads a b).length ≤ 5
    rw [putT_len]
    split
    · exact w.l5
    · rename_i z
      rcases hl with y | y
      · exact absurd y z
      · exact y
  · have z := w.goal q hq
    have z : (nameOk q.goal && (getT S.roads q.goal).isSome) = true := z
    obtain ⟨z1, z2⟩ := Bool.and_eq_true_iff.mp z
    show (nameOk q.goal && (getT (putT S.roads a b) q.goal).isSome) = true
    rw [z1, put_in z2]
    rfl
theorem led_lead {S : St} (g : Good S) {a b : Str} (ha : nameOk a = true) : Led S (leadS S a b).1 := by
  by_cases h : (getT S.roads a).isSome = true ∧ (getT S.roads b).isSome = true ∧ leadOk S.roads a b
  · rw [leadS_yes h]
    refine led_road g ha (.inl h.1) ?_
    rcases h.2.2 with z | z
    · exact .inl z.symm
    · obtain ⟨t, ht⟩ := Option.isSome_iff_exists.mp h.2.1
      obtain ⟨l, wy⟩ := g.wf.en b t ht
      rw [roadOf_eq wy] at z
      exact .inr ⟨l, wy, z⟩
  · rw [leadS_no h]
    exact .refl g
theorem led_add {S : St} (g : Good S) {a : Str} (ha : nameOk a = true) : Led S (addR S a).1 := by
  unfold addR
  split
  · exact .refl g
  · rename_i h
    exact led_road g ha (.inr (by have := g.wf.l5; have := mt (fun z => (Or.inr z : (getT S.roads a).isSome = true ∨ S.roads.length = 5)) h; omega)) (.inl rfl)
theorem due_word {S : St} {n : Int} (h : n ∈ dueL S) : ∃ (i : Nat) (q : Cal), n = ((1 + i : Nat) : Int) ∧ S.calls[i]? = some q ∧ q.word = ("waits" : Str) := by
  unfold dueL at h
  obtain ⟨i, hi, rfl⟩ := List.mem_map.mp h
  have hd := (List.mem_filter.mp hi).2
  unfold dueB at hd
  cases hq : S.calls[i]? with
  | none =>
    rw [hq] at hd
    cases hd
  | some q =>
    rw [hq] at hd
    exact ⟨i, q, rfl, hq, of_decide_eq_true (Bool.and_eq_true_iff.mp hd).1⟩
theorem led_begin {S : St} (g : Good S) {i : Nat} {q : Cal} (hq : S.calls[i]? = some q) (hw : q.word = ("waits" : Str)) : Led S (beginS S i q) := by
  refine led_say (S := S) (S' := { S with calls := S.calls.set i (begC S q) }) (led_set g hq rfl (.inr rfl) rfl (fun h => h) (fun _ => ?_) fun _ => ⟨Int.le_refl _, ?_⟩) rfl rfl _ so_tried
  · exact (g.sane i q hq).1 (.inl hw)
  · have := g.wf.ok.p.1
    show S.now - S.now < S.rule.p
    omega
theorem led_try {S : St} (g : Good S) : Led S (tryR S).1 := by
  unfold tryR
  cases e : dueL S with
  | nil => exact .refl g
  | cons n r =>
    obtain ⟨i, q, rfl, hq, hw⟩ := due_word (S := S) (n := n) (by rw [e]; exact List.mem_cons_self)
    have en : (((1 + i : Nat) : Int) - 1).toNat = i := by omega
    dsimp only
    rw [en, hq]
    exact led_begin g hq hw
theorem led_act {S : St} (g : Good S) {i : Nat} {q : Cal} {x h : Str} (hq : S.calls[i]? = some q) (hx : IsHand x) (hg : x = ("change" : Str) → inRoads S (.str h) = true) : Led S (actS S i q x h) := by
  have no : ∀ {y : Str} {T : Prop}, y ≠ "waits" → y ≠ "tried" → (y = ("waits" : Str) ∨ y = ("tried" : Str)) → T := fun a b z => by
    rcases z with z | z
    · exact absurd z a
    · exact absurd z b
  cases hx with
  | go =>
    refine led_say (S := S) (S' := { S with calls := S.calls.set i { q with word := "waits", fails := 0, time := S.now } }) (led_set g hq rfl (.inr rfl) rfl (fun _ => Int.le_refl 0) (fun _ => ?_) fun z => absurd (show ("waits" : Str) = "tried" from z) (by decide)) rfl rfl _ so_sent
    have := g.wf.ok.m.1
    show (0 : Int) < S.rule.m
    omega
  | drop => exact led_say (S := S) (S' := { S with calls := S.calls.set i { q with word := "gone" } }) (led_set g hq rfl (.inr rfl) rfl (fun h => h) (no (show ("gone" : Str) ≠ "waits" by decide) (show ("gone" : Str) ≠ "tried" by decide)) fun z => absurd (show ("gone" : Str) = "tried" from z) (by decide)) rfl rfl _ so_gone
  | change =>
    exact ⟨led_set (q' := { q with goal := h }) g hq rfl (.inl (hg rfl)) rfl (fun h => h) (g.sane i q hq).1 (g.sane i q hq).2, rfl, Nat.le_add_right _ _⟩
  | good => exact led_say (S := S) (S' := { S with calls := S.calls.set i { q with word := "done" } }) (led_set g hq rfl (.inr rfl) rfl (fun h => h) (no (show ("done" : Str) ≠ "waits" by decide) (show ("done" : Str) ≠ "tried" by decide)) fun z => absurd (show ("done" : Str) = "tried" from z) (by decide)) rfl rfl _ so_done
  | later => exact led_fail g hq
  | never => exact led_say (S := S) (S' := { S with calls := S.calls.set i { q with word := "put by" } }) (led_set g hq rfl (.inr rfl) rfl (fun h => h) (no (show ("put by" : Str) ≠ "waits" by decide) (show ("put by" : Str) ≠ "tried" by decide)) fun z => absurd (show ("put by" : Str) = "tried" from z) (by decide)) rfl rfl _ so_put
theorem led_hand {S : St} (g : Good S) {x h : Str} {n : Int} (hx : IsHand x) (hh : nameOk h = true) : Led S (handS S x n h).1 := by
  unfold handS
  split
  · cases hq : S.calls[(n - 1).toNat]? with
    | none => exact .refl g
    | some q =>
      dsimp only
      split
      · exact .refl g
      · rename_i hc
        split
        · refine led_act g hq hx fun e => ?_
          show (nameOk h && _) = true
          rw [hh]
          cases z : (getT S.roads h).isSome with
          | true => rfl
          | false => exact absurd ⟨e, z⟩ hc
        · exact .refl g
  · exact .refl g
theorem led_do {S : St} (g : Good S) : ∀ {D : Deed}, OkD D → Led S (doS S D).1
  | .send k h t, ok => by
    show Led S (sendR S k h t).1
    unfold sendR
    split
    · rename_i hg
      split
      · exact .refl g
      · rename_i hl
        have := g.wf.l30
        refine led_send g ok.1 ?_ ok.2.2 (by omega)
        show (nameOk h && _) = true
        rw [ok.2.1, hg]
        rfl
    · exact .refl g
  | .try_, _ => led_try g
  | .hand x n h, ok => led_hand g ok.1 ok.2
  | .tick n, ok => led_tick g ok
  | .lead a b, ok => led_lead g ok.1
  | .add a, ok => led_add g ok
theorem num_lay {i : Nat} (h : i < 1000) : sOk (("m" : Str) ++ (toString ((1 + i : Nat) : Int) : Str)) := lay_of fun c hc => by
  have z := chk_int (k := 3) (n := ((1 + i : Nat) : Int)) (by omega) (by show ((1 + i : Nat) : Int) < 10000; omega)
  rw [Str.cps_append, Array.toList_append] at hc
  rcases List.mem_append.mp hc with y | y
  · have : ∀ d ∈ ("m" : Str).cps.toList, d < 128 := by decide +kernel
    exact this c y
  · generalize (toString ((1 + i : Nat) : Int) : Str).cps.toList = l at z y
    cases l with
    | nil => cases y
    | cons a r =>
      simp only [chk, Bool.and_eq_true, decide_eq_true_eq, List.all_eq_true] at z
      have := z.2.1 c y
      omega
theorem way_name {S : St} (w : Wf S) {n : Str} {l : List Str} (wy : Way S.roads n l) : ∀ x ∈ l, nameOk x = true := fun x hx => by
  have h := wy.mem x hx
  unfold getT at h
  rw [Option.isSome_map] at h
  obtain ⟨e, he⟩ := Option.isSome_iff_exists.mp h
  have e1 := List.find?_some he
  have e2 := List.mem_of_find?_eq_some he
  rw [← of_decide_eq_true e1]
  exact w.nm e e2
theorem end_name {S : St} (w : Wf S) {n : Str} (h : (getT S.roads n).isSome = true) : nameOk (endOf S.roads n) = true := by
  obtain ⟨t, ht⟩ := Option.isSome_iff_exists.mp h
  obtain ⟨l, wy⟩ := w.en n t ht
  refine way_name w wy _ ?_
  unfold endOf
  rw [roadOf_eq wy]
  have := wy.ne
  rw [List.getLastD_eq_getLast?, List.getLast?_eq_some_getLast this]
  exact List.getLast_mem this
theorem sh_try {S : St} (w : Wf S) {i : Nat} {q : Cal} (hq : S.calls[i]? = some q) : Sh 1 (tryD S i q (endOf S.roads q.goal)) := by
  have qm := List.mem_of_getElem? hq
  have hi := (List.getElem?_eq_some_iff.mp hq).1
  have l30 := w.l30
  have gl := w.goal q qm
  have gl : (nameOk q.goal && (getT S.roads q.goal).isSome) = true := gl
  refine sh_tup fun d hd => ?_
  simp only [List.mem_cons, List.not_mem_nil, or_false] at hd
  rcases hd with rfl | rfl | rfl | rfl | rfl
  · exact sh_int _
  · exact sh_str (num_lay (by omega))
  · exact sh_str (name_lay (end_name w (Bool.and_eq_true_iff.mp gl).2))
  · exact sh_str (name_lay (w.key q qm))
  · exact sh_str (text_lay (w.text q qm))
theorem sh_do {S : St} (g : Good S) : ∀ {D : Deed}, OkD D → Sh 1 (doS S D).2
  | .send k h t, ok => by
    show Sh 1 (sendR S k h t).2
    unfold sendR
    split
    · split
      · exact sh_rf (by decide +kernel)
      · exact (sh_int _).mono (by decide)
    · exact sh_rf (by decide +kernel)
  | .try_, _ => by
    show Sh 1 (tryR S).2
    unfold tryR
    cases e : dueL S with
    | nil => exact sh_non.mono (by decide)
    | cons n r =>
      obtain ⟨i, q, rfl, hq, hw⟩ := due_word (S := S) (n := n) (by rw [e]; exact List.mem_cons_self)
      have en : (((1 + i : Nat) : Int) - 1).toNat = i := by omega
      dsimp only
      rw [en, hq]
      exact sh_try g.wf hq
  | .hand x n h, ok => by
    show Sh 1 (handS S x n h).2
    unfold handS
    split
    · cases hq : S.calls[(n - 1).toNat]? with
      | none => exact sh_rf (by decide +kernel)
      | some q =>
        dsimp only
        split
        · exact sh_rf (by decide +kernel)
        · split
          · exact sh_non.mono (by decide)
          · exact sh_rf (by decide +kernel)
    · exact sh_rf (by decide +kernel)
  | .tick n, ok => sh_non.mono (by decide)
  | .lead a b, ok => by
    show Sh 1 (leadS S a b).2
    by_cases h : (getT S.roads a).isSome = true ∧ (getT S.roads b).isSome = true ∧ leadOk S.roads a b
    · rw [leadS_yes h]
      exact sh_non.mono (by decide)
    · rw [leadS_no h]
      exact sh_rf (by decide +kernel)
  | .add a, ok => by
    show Sh 1 (addR S a).2
    unfold addR
    split
    · exact sh_rf (by decide +kernel)
    · exact sh_non.mono (by decide)
def rowD (e : Int × Int × Str) : PyData := .tuple [.int e.1, .int e.2.1, .str e.2.2]
theorem dp_rows {K : PySem.W.Frag} {H : Hp} : ∀ {ts : List Addr} {log : List (Int × Int × Str)}, ts.length = log.length → (∀ (i : Nat) t e, ts[i]? = some t → log[i]? = some e → H t = some (rowT e)) → DpAll K H (ts.map V.ref) (log.map rowD)
  | [], [], _, _ => .nil
  | t :: ts, e :: log, hl, h => .cons (.tup (sqT (h 0 t e rfl rfl)) (.cons (.int _) (.cons (.int _) (.cons (.str _) .nil)))) (dp_rows (by simpa using hl) fun i t' e' h1 h2 => h (i + 1) t' e' (by simpa using h1) (by simpa using h2))
theorem sh_rows {log : List (Int × Int × Str)} (h : ∀ e ∈ log, sOk e.2.2) : Sh 2 (.list (log.map rowD)) := sh_lst fun d hd => by
  obtain ⟨e, he, rfl⟩ := List.mem_map.mp hd
  refine sh_tup fun u hu => ?_
  simp only [List.mem_cons, List.not_mem_nil, or_false] at hu
  rcases hu with rfl | rfl | rfl
  · exact sh_int _
  · exact sh_int _
  · exact sh_str (h e he)
end T
end
section
namespace T
open PySem PySem.Spec PyProof.Rows L2 Tr LamX
theorem op_ne_emp {X : Cx} (hu : X.A.units < cLine) : OpR X (compareOp .NotEq) (fun x y H Q => ∃ a b ks, x = .ref a ∧ y = .ref b ∧ H a = some (.dK ks) ∧ H b = some (.dK []) ∧ Q (.bl (!ks.isEmpty)) H) := by
  intro pins s σ H x y v u Q I rx ry h
  obtain ⟨a, b, ks, rfl, rfl, ea, eb, q⟩ := h
  obtain rfl : v = Value.ref a := rx
  obtain rfl : u = Value.ref b := ry
  obtain ⟨_, ya, va, ra, da⟩ := (show ObjOk X.prog X.w H s.heap a (.dK ks) from I.hok a _ ea)
  obtain ⟨_, yb, vb, rb, db⟩ := (show ObjOk X.prog X.w H s.heap b (.dK []) from I.hok b _ eb)
  have lb : vb.length = 0 := rb.length.symm
  have la : ks.length = va.length := ra.length
  refine PySem.W.keq_ne (knd := mixKind X.prog X.w) (r := true) ya yb da db hu (fun e => ?_) (fin_bl I q ?_)
  · have z : va = [] := List.length_eq_zero_iff.mp (by omega)
    rw [z]
    exact .nil
  · cases ks with
    | nil =>
      have z : va.length = 0 := la.symm
      simp [z, lb]
    | cons k r =>
      have z : va.length = r.length + 1 := la.symm
      simp [z, lb]
/-! ### the two callers while tables are written -/
structure LX (K : PySem.W.Frag) (Tb : List (Addr × Str)) (H H' : Hp) (p : Addr) (L : Lay) (o : Addr) (M : OLay) (S1 S2 : St) : Prop where
  fw : Fw Tb H H'
  rp : Rep K H' p L S1
  ro : Own K H' o M S2
  dj : Disj p L o M
  np : ∀ c, foot p L c → NT H c
  no : ∀ c, ofoot o M c → NT H c
section
variable {K : PySem.W.Frag} {Tb : List (Addr × Str)} {H H1 H2 : Hp} {p o : Addr} {L L' : Lay} {M M' : OLay} {S1 S2 S : St}
theorem LX.ext (l : LX K Tb H H1 p L o M S1 S2) (e : ExtN H1 H2) (t : Tabs Tb H2) : LX K Tb H H2 p L o M S1 S2 := ⟨l.fw.ext e t, l.rp.ext e, l.ro.ext e, l.dj, l.np, l.no⟩
theorem LX.same (l : LX K Tb H H1 p L o M S1 S2) (s : Same H1 H2) : LX K Tb H H2 p L o M S1 S2 := ⟨l.fw.same s, l.rp.same s, l.ro.same s, l.dj, l.np, l.no⟩
theorem LX.step (l : LX K Tb H H1 p L o M S1 S2) (st : Step p L H1 L' H2) (r : Rep K H2 p L' S) : LX K Tb H H2 p L' o M S S2 :=
  ⟨l.fw.fr l.np l.rp.pl st.fr, r, l.ro.step l.rp l.dj st, l.dj.step l.ro st, fun c f => (st.nw c f).elim (l.np c) l.fw.nt, l.no⟩
theorem LX.ostep (l : LX K Tb H H1 p L o M S1 S2) (st : OStep o M H1 M' H2) (r : Own K H2 o M' S) : LX K Tb H H2 p L o M' S1 S :=
  ⟨l.fw.fr l.no l.ro.pl st.fr, l.rp.ostep l.ro l.dj st, r, l.dj.ostep l.rp st, l.np, fun c f => (st.nw c f).elim (l.no c) l.fw.nt⟩
structure Kept (H : Hp) (p : Addr) (L : Lay) (o : Addr) (M : OLay) (b : Addr) (u : HO) : Prop where
  h : H b = some u
  n1 : ¬ foot p L b
  n2 : ¬ ofoot o M b
theorem Kept.same {b : Addr} {u : HO} (k : Kept H1 p L o M b u) (s : Same H1 H2) : Kept H2 p L o M b u := ⟨s _ _ k.h, k.n1, k.n2⟩
theorem Kept.ext {b : Addr} {u : HO} (k : Kept H1 p L o M b u) (e : ExtN H1 H2) (hu : ∀ ps, u ≠ .tbl ps) : Kept H2 p L o M b u := ⟨e _ _ k.h hu, k.n1, k.n2⟩
theorem Kept.step {b : Addr} {u : HO} (k : Kept H1 p L o M b u) (st : Step p L H1 L' H2) : Kept H2 p L' o M b u :=
  ⟨st.fr b _ k.h k.n1, fun f => (st.nw b f).elim k.n1 (fun z => (by rw [k.h] at z; cases z)), k.n2⟩
theorem Kept.ostep {b : Addr} {u : HO} (k : Kept H1 p L o M b u) (st : OStep o M H1 M' H2) : Kept H2 p L o M' b u :=
  ⟨st.fr b _ k.h k.n2, k.n1, fun f => (st.nw b f).elim k.n2 (fun z => (by rw [k.h] at z; cases z))⟩
theorem Kept.fresh {b : Addr} {u : HO} (l : LX K Tb H H1 p L o M S1 S2) (hb : H1 b = none) : Kept (upd H1 b u) p L o M b u :=
  ⟨upd_same, (fun f => by
    obtain ⟨v, h⟩ := l.rp.some_ f
    rw [hb] at h
    cases h), (fun f => by
    obtain ⟨v, h⟩ := l.ro.some_ f
    rw [hb] at h
    cases h)⟩
theorem LX.mutL {D : Addr} {xs ys : List V} (l : LX K Tb H H1 p L o M S1 S2) (nD : NT H D) (k : Kept H1 p L o M D (.lst xs)) : LX K Tb H (upd H1 D (.lst ys)) p L o M S1 S2 := by
  have tp : ∀ t vs, H1 t = some (.tup vs) → upd H1 D (.lst ys) t = some (.tup vs) := fun t vs e => by
    rw [upd_ne fun z => by rw [z, k.h] at e; cases e]
    exact e
  have fr : Fr (fun c => c = D) H1 (upd H1 D (.lst ys)) := fun c u h n => by
    rw [upd_ne n]
    exact h
  exact ⟨l.fw.mut nD k.h, l.rp.fr fr (fun c f z => k.n1 (by rw [← z]; exact f)) tp, l.ro.fr fr (fun c f z => k.n2 (by rw [← z]; exact f)) tp, l.dj, l.np, l.no⟩
theorem Kept.put {D : Addr} {u v : HO} (k : Kept H1 p L o M D u) : Kept (upd H1 D v) p L o M D v := ⟨upd_same, k.n1, k.n2⟩
theorem Kept.put_ne {D b : Addr} {u v : HO} (k : Kept H1 p L o M b u) (n : b ≠ D) : Kept (upd H1 D v) p L o M b u := ⟨by rw [upd_ne n]; exact k.h, k.n1, k.n2⟩
/-- the two, new -/
theorem LX.new {H3 H4 H5 : Hp} {dx C : Addr} (f3 : Fw Tb H H3) (hp : H3 p = none) (hdx : H3 dx = none) (hne : dx ≠ p) (rp4 : Rep K H4 p L S) (fr4 : Fr (fun c => c = p) (upd (upd H3 dx (.own p)) p (.ins C dx [])) H4)
    (nw4 : ∀ c, foot p L c → c = p ∨ upd (upd H3 dx (.own p)) p (.ins C dx []) c = none) (ro5 : Own K H5 o M S) (s5 : Same H4 H5) (hn5 : ∀ c, ofoot o M c → H4 c = none) :
    LX K Tb H H5 p L o M S S ∧ ∀ b u, H3 b = some u → Kept H5 p L o M b u := by
  have fA : Fw Tb H (upd (upd H3 dx (.own p)) p (.ins C dx [])) := (f3.new hdx).new (by rw [upd_ne hne.symm]; exact hp)
  have f4 : Fw Tb H H4 := fA.fr (S := fun c => c = p) (fun c hc => by rw [hc]; exact f3.nt hp) (fun c hc => by rw [hc]; exact pl_ins upd_same) fr4
  refine ⟨⟨f4.same s5, rp4.same s5, ro5, fun c f g => ?_, fun c f => ?_, fun c g => f4.nt (hn5 c g)⟩, fun b u e => ?_⟩
  · obtain ⟨u, h⟩ := rp4.some_ f
    rw [hn5 c g] at h
    cases h
  · rcases nw4 c f with z | z
    · rw [z]
      exact f3.nt hp
    · exact fA.nt z
  · have n1 : b ≠ p := ne_of_none e hp
    have n2 : b ≠ dx := ne_of_none e hdx
    have eA : upd (upd H3 dx (.own p)) p (.ins C dx []) b = some u := by
      rw [upd_ne n1, upd_ne n2]
      exact e
    have e4 := fr4 _ _ eA n1
    refine ⟨s5 _ _ e4, fun f => ?_, fun g => ?_⟩
    · rcases nw4 b f with z | z
      · exact n1 z
      · rw [eA] at z
        cases z
    · have z := hn5 b g
      rw [e4] at z
      cases z
end
theorem getT_key (r : List (Str × Str)) (a : Str) : (getT r a).isSome = decide (a ∈ r.map (·.1)) := by
  unfold getT
  rw [Option.isSome_map, Bool.eq_iff_iff, List.find?_isSome, decide_eq_true_iff, List.mem_map]
  constructor
  · rintro ⟨e, he, h⟩
    exact ⟨e, he, of_decide_eq_true h⟩
  · rintro ⟨e, he, h⟩
    exact ⟨e, he, decide_eq_true h⟩
theorem putT_new {r : List (Str × Str)} {a b : Str} (h : (getT r a).isSome = false) : putT r a b = r ++ [(a, b)] := by
  unfold putT
  rw [if_neg]
  intro z
  obtain ⟨e, he, hd⟩ := List.any_eq_true.mp z
  have e1 : (getT r a).isSome = true := by
    unfold getT
    rw [Option.isSome_map, List.find?_isSome]
    exact ⟨e, he, hd⟩
  rw [h] at e1
  cases e1
theorem vs_flat {K : PySem.W.Frag} {H : Hp} {r : Rule} {y : V} (hy : y ∈ r.vs) : Thing K H y := by
  simp only [Rule.vs, List.mem_cons, List.not_mem_nil, or_false] at hy
  rcases hy with rfl | rfl | rfl | rfl | rfl | rfl <;> exact .int _
theorem rule_is {K : PySem.W.Frag} {H : Hp} {p : Addr} {r : Rule} (h : r.Ok) (e : H p = some (.tup r.vs)) : RuleIs K H (.ref p) true := by
  have q : RuleIs K H (.ref p) (okItems r.vs) := .tup e fun y hy => vs_flat hy
  rw [Rule.items h] at q
  exact q
theorem good_new {r : Rule} (h : r.Ok) : Good ⟨r, 0, [], [], []⟩ := by
  refine ⟨⟨h, fun n t e => (by cases e), Nat.zero_le _, fun e he => (by cases he), Nat.zero_le _, fun q hq => (by cases hq), fun q hq => (by cases hq), fun q hq => (by cases hq), fun q hq => (by cases hq)⟩, fun j q hq => ?_, fun e he => (by cases he)⟩
  have hq : ([] : List Cal)[j]? = some q := hq
  simp at hq
end T
end
section
namespace T
open PySem PySem.Spec PyProof.Rows L2 Tr LamX
/-! ### a caller written: plain -/
abbrev fiveW : List Str := ["waits", "tried", "done", "put by", "gone"]
abbrev signL : List Str := ["w", "t", "d", "p", "g"]
def wdOf (z : Str) : Str := if z = "w" then "waits" else if z = "t" then "tried" else if z = "d" then "done" else if z = "p" then "put by" else "gone"
def signS (x : Str) : Str := if x = "waits" then "w" else if x = "tried" then "t" else if x = "done" then "d" else if x = "put by" then "p" else "g"
theorem one_sign : ∀ x ∈ fiveW, signL.filter (fun z => decide (wdOf z = x)) = [signS x] := by decide +kernel
theorem sign_len : ∀ x ∈ fiveW, (signS x).length = 1 := by decide +kernel
/-- what is written can be written: words, small numbers, short places -/
structure Wr5 (b : Int) (S : St) : Prop where
  now : 0 ≤ S.now ∧ S.now ≤ b
  c : ∀ q ∈ S.calls, q.word ∈ fiveW ∧ nameOk q.place = true ∧ (0 ≤ q.fails ∧ q.fails ≤ b) ∧ (0 ≤ q.time ∧ q.time ≤ b + 60) ∧ (0 ≤ q.many ∧ q.many ≤ b)
theorem Wr5.mono {b b' : Int} {S : St} (h : Wr5 b S) (l : b ≤ b') : Wr5 b' S :=
  ⟨⟨h.now.1, by have := h.now.2; omega⟩, fun q hq => by
    obtain ⟨c1, c2, c3, c4, c5⟩ := h.c q hq
    exact ⟨c1, c2, ⟨c3.1, by omega⟩, ⟨c4.1, by omega⟩, c5.1, by omega⟩⟩
theorem Wr5.set {b : Int} {S : St} (h : Wr5 b S) {i : Nat} {q' : Cal} (h' : q'.word ∈ fiveW ∧ nameOk q'.place = true ∧ (0 ≤ q'.fails ∧ q'.fails ≤ b) ∧ (0 ≤ q'.time ∧ q'.time ≤ b + 60) ∧ (0 ≤ q'.many ∧ q'.many ≤ b)) (log : List (Int × Int × Str)) : Wr5 b { S with calls := S.calls.set i q', log := log } :=
  ⟨h.now, fun q hq => by
    have hq : q ∈ S.calls.set i q' := hq
    rcases List.mem_or_eq_of_mem_set hq with z | z
    · exact h.c q z
    · rw [z]
      exact h'⟩
theorem wait_bd {r : Rule} (ok : r.Ok) (n : Int) : 0 ≤ waitOf r n ∧ waitOf r n ≤ 60 := by
  have h := wfold_bd ok (n - 1).toNat
  have t := ok.t
  unfold waitOf mn
  split <;> omega
theorem wr_fail {b : Int} {S : St} (h : Wr5 b S) (ok : S.rule.Ok) {i : Nat} {q : Cal} (hq : q ∈ S.calls) : Wr5 (b + 1) (failS S i q) := by
  obtain ⟨c1, c2, c3, c4, c5⟩ := h.c q hq
  have h2 := h.mono (b' := b + 1) (by omega)
  have n := h.now
  have w := wait_bd ok (q.fails + 1)
  unfold failS
  split
  · exact h2.set (q' := { q with fails := q.fails + 1, word := "put by" }) ⟨(by decide : ("put by" : Str) ∈ fiveW), c2, ⟨by show 0 ≤ q.fails + 1; omega, by show q.fails + 1 ≤ b + 1; omega⟩, ⟨c4.1, by show q.time ≤ b + 1 + 60; omega⟩, c5.1, by show q.many ≤ b + 1; omega⟩ _
  · exact h2.set (q' := { q with fails := q.fails + 1, word := "waits", time := S.now + waitOf S.rule (q.fails + 1) }) ⟨(by decide : ("waits" : Str) ∈ fiveW), c2, ⟨by show 0 ≤ q.fails + 1; omega, by show q.fails + 1 ≤ b + 1; omega⟩, ⟨by show 0 ≤ S.now + waitOf S.rule (q.fails + 1); omega, by show S.now + waitOf S.rule (q.fails + 1) ≤ b + 1 + 60; omega⟩, c5.1, by show q.many ≤ b + 1; omega⟩ _
theorem wr_tickI {b : Int} {S : St} (h : Wr5 b S) (ok : S.rule.Ok) : ∀ i : Nat, Wr5 (b + 1 + i) (tickI S i)
  | 0 => ⟨⟨by show 0 ≤ S.now + 1; have := h.now; omega, by show S.now + 1 ≤ b + 1 + 0; have := h.now; omega⟩, (h.mono (by omega)).c⟩
  | i + 1 => by
    have ih := wr_tickI h ok i
    have er : (tickI S i).rule = S.rule := (keeps_tickI S i).1.rule
    show Wr5 (b + 1 + ((i + 1 : Nat) : Int)) (tickStep (tickI S i) i)
    unfold tickStep
    split
    · rename_i q hq
      split
      · exact (wr_fail ih (by rw [er]; exact ok) (List.mem_of_getElem? hq)).mono (by omega)
      · exact ih.mono (by omega)
    · exact ih.mono (by omega)
theorem wr_tickN {b : Int} {S : St} (h : Wr5 b S) (ok : S.rule.Ok) (l30 : S.calls.length ≤ 30) : ∀ n : Nat, Wr5 (b + 31 * n) (tickN S n)
  | 0 => h.mono (by omega)
  | n + 1 => by
    have ih := wr_tickN h ok l30 n
    have k := (keeps_tickN l30 n).1
    have z := wr_tickI ih (by rw [k.rule]; exact ok) (tickN S n).calls.length
    have l := k.len
    exact z.mono (by omega)
theorem end_nm {S : St} (wf : Wf S) {q : Cal} (hq : q ∈ S.calls) : nameOk (endOf S.roads q.goal) = true := by
  have gl : (nameOk q.goal && (getT S.roads q.goal).isSome) = true := wf.goal q hq
  exact end_name wf (Bool.and_eq_true_iff.mp gl).2
theorem wr_do {b : Int} {S : St} (h : Wr5 b S) (g : Good S) : ∀ {D : Deed}, OkD D → Wr5 (b + 4000) (doS S D).1 := by
  have up := h.mono (b' := b + 4000) (by omega)
  intro D ok
  cases D with
  | send k gl t =>
    show Wr5 (b + 4000) (sendR S k gl t).1
    unfold sendR
    split
    · split
      · exact up
      · refine ⟨up.now, fun q hq => ?_⟩
        have hq : q ∈ S.calls ++ [newCal k gl t S.now] := hq
        rcases List.mem_append.mp hq with z | z
        · exact up.c q z
        · rw [List.mem_singleton.mp z]
          have n := h.now
          exact ⟨(by decide : ("waits" : Str) ∈ fiveW), ok.2.1, ⟨Int.le_refl _, by show (0 : Int) ≤ b + 4000; omega⟩, ⟨n.1, by show S.now ≤ b + 4000 + 60; omega⟩, Int.le_refl _, by show (0 : Int) ≤ b + 4000; omega⟩
    · exact up
  | try_ =>
    show Wr5 (b + 4000) (tryR S).1
    unfold tryR
    split
    · exact up
    · split
      · rename_i q hq
        have hm := List.mem_of_getElem? hq
        obtain ⟨c1, c2, c3, c4, c5⟩ := h.c q hm
        have n := h.now
        exact up.set (q' := begC S q) ⟨(by decide : ("tried" : Str) ∈ fiveW), end_nm g.wf hm, ⟨c3.1, by show q.fails ≤ b + 4000; omega⟩, ⟨n.1, by show S.now ≤ b + 4000 + 60; omega⟩, by show 0 ≤ q.many + 1; omega, by show q.many + 1 ≤ b + 4000; omega⟩ _
      · exact up
  | hand x n gl =>
    show Wr5 (b + 4000) (handS S x n gl).1
    unfold handS
    split
    · split
      · rename_i q hq
        split
        · exact up
        · split
          · have hm := List.mem_of_getElem? hq
            obtain ⟨c1, c2, c3, c4, c5⟩ := h.c q hm
            have nw := h.now
            have f1 : q.fails ≤ b + 4000 := by omega
            have f2 : q.time ≤ b + 4000 + 60 := by omega
            have f3 : q.many ≤ b + 4000 := by omega
            cases ok.1 with
            | go => exact up.set (q' := { q with word := "waits", fails := 0, time := S.now }) ⟨(by decide : ("waits" : Str) ∈ fiveW), c2, ⟨Int.le_refl _, by show (0 : Int) ≤ b + 4000; omega⟩, ⟨nw.1, by show S.now ≤ b + 4000 + 60; omega⟩, c5.1, f3⟩ _
            | drop => exact up.set (q' := { q with word := "gone" }) ⟨(by decide : ("gone" : Str) ∈ fiveW), c2, ⟨c3.1, f1⟩, ⟨c4.1, f2⟩, c5.1, f3⟩ _
            | change => exact up.set (q' := { q with goal := gl }) ⟨c1, c2, ⟨c3.1, f1⟩, ⟨c4.1, f2⟩, c5.1, f3⟩ _
            | good => exact up.set (q' := { q with word := "done" }) ⟨(by decide : ("done" : Str) ∈ fiveW), c2, ⟨c3.1, f1⟩, ⟨c4.1, f2⟩, c5.1, f3⟩ _
            | later => exact (wr_fail h g.wf.ok hm).mono (by omega)
            | never => exact up.set (q' := { q with word := "put by" }) ⟨(by decide : ("put by" : Str) ∈ fiveW), c2, ⟨c3.1, f1⟩, ⟨c4.1, f2⟩, c5.1, f3⟩ _
          · exact up
      · exact up
    · exact up
  | tick n =>
    have hn : n ≤ 100 := ok
    exact (wr_tickN h g.wf.ok g.wf.l30 n).mono (by omega)
  | lead a b' =>
    show Wr5 (b + 4000) (leadS S a b').1
    unfold leadS
    split
    · exact ⟨up.now, up.c⟩
    · exact up
  | add a =>
    show Wr5 (b + 4000) (addR S a).1
    unfold addR
    split
    · exact up
    · exact ⟨up.now, up.c⟩
/-! ### the text -/
def ruleNs (r : Rule) : List Int := [r.b, r.f, r.t, r.m, r.p, r.o]
def numT (i : Int) : Str := toString i
def headT (S : St) : Str := Txt.join " " ((ruleNs S.rule ++ [S.now]).map numT)
def roadT (S : St) (y : Str) : Str := (y ++ (">" : Str)) ++ (getT S.roads y).getD ""
def roadsT (S : St) (ys : List Str) : Str := Txt.join " " (ys.map (roadT S))
def wordsT (q : Cal) : List Str := [signS q.word, q.key, q.goal, q.place, numT q.fails, numT q.time, numT q.many]
def callT (q : Cal) : Str := Txt.join " " (wordsT q ++ [q.text])
def wrT (S : St) (ys : List Str) : Str := Txt.join "\n" ([headT S, roadsT S ys] ++ S.calls.map callT)
def WrOf (S : St) (x : Str) : Prop := ∃ ys : List Str, ys.Perm (S.roads.map (·.1)) ∧ sortedS ys = true ∧ x = wrT S ys
theorem WrOf.det {S : St} {x y : Str} (h : WrOf S x) (h' : WrOf S y) : x = y := by
  obtain ⟨ys, p, s, e⟩ := h
  obtain ⟨zs, p', s', e'⟩ := h'
  rw [e, e', same_sorted2 p p' s s']
theorem num_len {i : Int} (h0 : 0 ≤ i) (h : i < 1000000000) : (numT i).length ≤ 9 := by
  by_cases z : i = 0
  · rw [z]
    decide
  · have c := chk_int (k := 8) (n := i) (by omega) (by simpa using h)
    show (toString i : Str).cps.size ≤ 9
    rw [← Array.length_toList]
    generalize (toString i : Str).cps.toList = l at c
    cases l with
    | nil => cases c
    | cons a r =>
      simp only [chk, Bool.and_eq_true, decide_eq_true_eq] at c
      rw [List.length_cons]
      omega
theorem num_log {i : Int} (h0 : 0 ≤ i) (h : i < 1000000000) : i.natAbs.log2 < 1920 := by
  have h1 : i.natAbs < 2 ^ 30 := by omega
  by_cases z : i.natAbs = 0
  · rw [z]
    decide
  · have := (Nat.log2_lt z).mpr h1
    omega
end T
end
section
namespace T
open PySem PySem.Spec PyProof.Rows L2 Tr LamX
theorem join_le (a : Str) : ∀ ys : List Str, (Txt.join a ys).length ≤ (ys.map (·.length)).sum + ys.length * a.length := by
  intro ys
  rw [TL.join_eq]
  induction ys with
  | nil => exact Nat.zero_le _
  | cons y l ih =>
    cases l with
    | nil =>
      show y.length ≤ _
      simp only [List.map_cons, List.map_nil, List.sum_cons, List.sum_nil]
      omega
    | cons z l =>
      show (y ++ a ++ Str.join a (z :: l)).length ≤ _
      rw [PySem.Str.length_append, PySem.Str.length_append]
      simp only [List.map_cons, List.sum_cons, List.length_cons] at ih ⊢
      rw [Nat.succ_mul (l.length + 1)]
      omega
theorem sum_le {m : Nat} : ∀ {ys : List Str}, (∀ y ∈ ys, y.length ≤ m) → (ys.map (·.length)).sum ≤ ys.length * m
  | [], _ => Nat.zero_le _
  | y :: l, h => by
    have a := h y List.mem_cons_self
    have b := sum_le (ys := l) fun z hz => h z (List.mem_cons_of_mem _ hz)
    simp only [List.map_cons, List.sum_cons, List.length_cons]
    rw [Nat.succ_mul]
    omega
theorem name4 {s : Str} (h : nameOk s = true) : s.length ≤ 4 := by
  unfold nameOk at h
  exact of_decide_eq_true (Bool.and_eq_true_iff.mp (Bool.and_eq_true_iff.mp h).2).1
theorem text20 {s : Str} (h : textOk s = true) : s.length ≤ 20 := by
  unfold textOk at h
  exact of_decide_eq_true (Bool.and_eq_true_iff.mp h).1
theorem road_name {S : St} (wf : Wf S) {y t : Str} (h : getT S.roads y = some t) : nameOk t = true ∧ nameOk y = true := by
  obtain ⟨l, wy⟩ := wf.en y t h
  refine ⟨way_name wf wy t ?_, way_name wf wy y ?_⟩
  · cases wy with
    | stop h2 =>
      rw [h] at h2
      rw [Option.some.inj h2]
      exact List.mem_cons_self
    | step h2 ne w =>
      rw [h] at h2
      cases h2
      cases w with
      | stop _ => exact List.mem_cons_of_mem _ List.mem_cons_self
      | step _ _ _ => exact List.mem_cons_of_mem _ List.mem_cons_self
  · cases wy with
    | stop _ => exact List.mem_cons_self
    | step _ _ _ => exact List.mem_cons_self
theorem road_len {S : St} (wf : Wf S) {y : Str} (h : (getT S.roads y).isSome = true) : (roadT S y).length ≤ 9 := by
  obtain ⟨t, ht⟩ := Option.isSome_iff_exists.mp h
  obtain ⟨a, b⟩ := road_name wf ht
  have a4 := name4 a
  have b4 := name4 b
  unfold roadT
  rw [ht, PySem.Str.length_append, PySem.Str.length_append]
  have : (">" : Str).length = 1 := rfl
  show y.length + (">" : Str).length + t.length ≤ 9
  omega
theorem head_len {b : Int} {S : St} (h : Wr5 b S) (hb : b < 900000000) (ok : S.rule.Ok) : ∀ y ∈ (ruleNs S.rule ++ [S.now]).map numT, y.length ≤ 9 := by
  intro y hy
  obtain ⟨i, hi, rfl⟩ := List.mem_map.mp hy
  have n := h.now
  obtain ⟨⟨_, _⟩, ⟨_, _⟩, ⟨_, _⟩, ⟨_, _⟩, ⟨_, _⟩, ⟨_, _⟩⟩ := ok
  have e : 0 ≤ i ∧ i < 1000000000 := by
    simp only [ruleNs, List.cons_append, List.nil_append, List.mem_cons, List.not_mem_nil, or_false] at hi
    rcases hi with rfl | rfl | rfl | rfl | rfl | rfl | rfl <;> omega
  exact num_len e.1 e.2
theorem words_len {b : Int} {S : St} (h : Wr5 b S) (hb : b < 900000000) (wf : Wf S) {q : Cal} (hq : q ∈ S.calls) : ∀ y ∈ wordsT q ++ [q.text], y.length ≤ 20 := by
  intro y hy
  obtain ⟨c1, c2, c3, c4, c5⟩ := h.c q hq
  have k := name4 (wf.key q hq)
  have g := name4 (in_name (wf.goal q hq))
  have p := name4 c2
  have t := text20 (wf.text q hq)
  have s := sign_len q.word c1
  have f1 := num_len c3.1 (by omega)
  have f2 := num_len c4.1 (by omega)
  have f3 := num_len c5.1 (by omega)
  simp only [wordsT, List.cons_append, List.nil_append, List.mem_cons, List.not_mem_nil, or_false] at hy
  rcases hy with rfl | rfl | rfl | rfl | rfl | rfl | rfl | rfl <;> omega
theorem call_len {b : Int} {S : St} (h : Wr5 b S) (hb : b < 900000000) (wf : Wf S) {q : Cal} (hq : q ∈ S.calls) : (callT q).length ≤ 200 := by
  have a := join_le " " (wordsT q ++ [q.text])
  have s := sum_le (words_len h hb wf hq)
  have e : (wordsT q ++ [q.text]).length = 8 := rfl
  have e1 : (" " : Str).length = 1 := rfl
  rw [e, e1] at a
  rw [e] at s
  unfold callT
  omega
section
variable {P : Program} {w : World} {K : PySem.W.Frag} {mg : Str → Option Value} {base : Heap}
theorem sign_val {K : PySem.W.Frag} (h : tabB K = true) {z : Str} (hz : z ∈ signL) : ∃ u, PySem.W.nsIn K (He.ga K "WORDS_papers") z = some (some u) ∧ RelV (.str (wdOf z)) u := by
  have go : ∀ {z x : Str}, ((z, .str x) : Str × He.Dv) ∈ signs → ∃ u, PySem.W.nsIn K (He.ga K "WORDS_papers") z = some (some u) ∧ RelV (.str x) u := fun hq => He.valsB_ok h hq
  simp only [signL, List.mem_cons, List.not_mem_nil, or_false] at hz
  rcases hz with rfl | rfl | rfl | rfl | rfl
  · exact go (x := "waits") (by simp [signs])
  · exact go (x := "tried") (by simp [signs])
  · exact go (x := "done") (by simp [signs])
  · exact go (x := "put by") (by simp [signs])
  · exact go (x := "gone") (by simp [signs])
def spSign : Sp := fun vs H Q _ => ∃ x : Str, vs = [.str x] ∧ x ∈ fiveW ∧ ∀ H', Same H H' → Q (.str (signS x)) H'
theorem k_sign_of (T : Txt K mg) {es : Array DictEntry} {n : Nat} (D : TrK.KD K w (He.ga K "WORDS_papers") signL es n) : Kal P w K mg base CX0 1 "sign_of" spSign := by
  refine kal_of T.f_sign_of T.g_sign_of sc_sign_of (fun _ _ _ _ _ _ us hl => match us, hl with | [_], _ => rfl) (fun vs H Q E ⟨_, h, _⟩ => by rw [h] <;> rfl) fun cdv A outer s H vs Q E hr ⟨x, e, hx, fin⟩ => ?_
  subst e
  have nd := sc_sign_of.nd
  refine ⟨_, pss_one (ps_ret (pe_ix ix_list (pe_lc (own := [("sign", 1)]) (g := gName 1) (te := tVar 1) rfl nd (TrK.pi_kd (pe_glob (v := .ref (He.ga K "WORDS_papers")) (by rfl) T.g_WORDS_papers rfl))
      (blkOk_by (N := ["word", "sign"]) (sc := defScope s_sign_of) (by decide +kernel)) (fun _ _ _ _ _ => pg_name (i := 1) nd rfl (Or.inl rfl))
      (tt := tTest (tOp rEq (tOp (rIxD K w) (tC (.ref (He.ga K "WORDS_papers"))) (tVar 1)) (tVar 0))) (fun _ _ _ _ _ => pts_one (pt_cmpR op_eq (pe_ix ix_kdict (pe_glob (v := .ref (He.ga K "WORDS_papers")) (by rfl) T.g_WORDS_papers rfl) (pv 1) (fun _ _ => rfl)) (pv 0) (nomark _))) (fun _ _ _ _ _ => pv 1))
      pe_int (fun _ _ => rfl))), ?_⟩
  refine ⟨_, _, _, _, rfl, D, fun D1 hD1 => ?_⟩
  refine lc_adds (TrK.walk_kd (zs := signL)) (fun i acc => acc = ((signL.take i).filter fun z => decide (wdOf z = x)).map V.str) hD1 (by decide) rfl (fun i acc h => by rw [h, List.length_map]; exact Nat.le_trans (List.length_filter_le _ _) (by rw [List.length_take]; exact Nat.min_le_left _ _)) (fun _ _ => trivial) ?_ ?_
  · rintro Tq N i acc y H2 H3 yes no hi s2 pp ⟨rfl, z, hz, rfl⟩
    obtain ⟨u, e1, e2⟩ := sign_val (ex5 T.m) (List.mem_of_getElem? hz)
    have step : (signL.take (i + 1)).filter (fun z => decide (wdOf z = x)) = (signL.take i).filter (fun z => decide (wdOf z = x)) ++ if decide (wdOf z = x) = true then [z] else [] := by
      rw [List.take_succ, hz, List.filter_append]
      congr 1
      show [z].filter _ = _
      rw [List.filter_cons, List.filter_nil]
    refine ⟨rfl, _, rfl, _, _, _, rfl, rfl, ⟨_, _, u, D.kd.at_, D.kd.lit, e1, e2⟩, _, rfl, rfl, decide (wdOf z = x), congrArg V.bl (str_dec _ _), ?_⟩
    cases eb : decide (wdOf z = x) with
    | true =>
      rw [eb, if_pos rfl] at step
      refine ⟨_, rfl, yes _ _ (Same.refl _) ?_⟩
      rw [pp, step, List.map_append]
      rfl
    | false =>
      rw [eb, if_neg (by decide), List.append_nil] at step
      refine no _ (Same.refl _) ?_
      rw [pp, step]
  · rintro acc H2 s2 eD rfl
    have e5 : signL.take signL.length = signL := rfl
    rw [e5, one_sign x hx] at eD
    exact ⟨_, _, _, _, rfl, rfl, sqL eD, atI_nat (j := 0) rfl, fin H2 s2⟩
end
end T
end
section
namespace T
open PySem PySem.Spec PyProof.Rows L2 Tr LamX
section
variable {P : Program} {w : World} {K : PySem.W.Frag} {mg : Str → Option Value} {base : Heap}
def spWritten (K : PySem.W.Frag) : Sp := fun vs H Q _ => ∃ (p : Addr) (L : Lay) (S : St) (b : Int), vs = [.ref p] ∧ Rep K H p L S ∧ Wf S ∧ Wr5 b S ∧ b < 900000000 ∧ ∀ H' x, Same H H' → WrOf S x → Q (.str x) H'
abbrev rAddS : R2 := fun x y H Q => ∃ i j, x = .str i ∧ y = .str j ∧ i.length + j.length ≤ sizeLine ∧ Q (.str (i ++ j)) H
abbrev wrN : List Str := ["caller", "rows", "one", "name", "number", "words"]
theorem k_written (T : Txt K mg) {es : Array DictEntry} {n : Nat} (D : TrK.KD K w (He.ga K "WORDS_papers") signL es n) : Kal P w K mg base (NX P w) 3 "written" (spWritten K) := by
  refine kal_of T.f_written T.g_written sc_written (fun _ _ _ _ _ _ us hl => match us, hl with | [_], _ => rfl) (fun vs H Q E ⟨_, _, _, _, h, _⟩ => by rw [h] <;> rfl) fun cdv A outer s H vs Q E hr ⟨p, L, S, b, e, rp, wf, wr, hb, fin⟩ => ?_
  subst e
  have nd := sc_written.nd
  have hu := hu_of hr
  refine ⟨_, pss_cons (ps_set (i := 1) nd rfl (Or.inl rfl) (pe_lst (pa_cons (pe_join pe_str (pe_lc (own := [("one", 2)]) (g := gName 2) (tt := tYes) rfl nd (pi_tup (pe_op op_catA (pe_fld (pv 0) rfl) (pe_tup (pa_cons (pe_fld (pv 0) rfl) pa_nil))))
        (blkOk_by (N := wrN) (sc := defScope s_written) (by decide +kernel)) (fun _ _ _ _ _ => pg_name (i := 2) nd rfl (Or.inl rfl)) (fun _ _ _ _ _ => pts_nil) (fun _ _ _ _ _ => b_str T.n_str (pa_cons (pv 2) pa_nil)))) pa_nil)))
    (pss_cons (ps_expr (pe_bm PySem.F.plainAttrs_list PySem.F.slot_list_append PySem.F.type_list_append mt_append (pv 1) (pa_cons (pe_join pe_str (pe_lc (own := [("name", 3)]) (g := gName 3) (tt := tYes) (te := tOp rAddS (tOp rAddS (tVar 3) (tC (.str ">"))) (tDGet (tFld K (tVar 0) "roads") (tVar 3))) rfl nd (pi_list (pe_callB (call_sortedD rfl) (by rfl) T.n_sorted (by decide +kernel) (pa_cons (pe_fld (pv 0) rfl) pa_nil)))
        (blkOk_by (N := wrN) (sc := defScope s_written) (by decide +kernel)) (fun _ _ _ _ _ => pg_name (i := 3) nd rfl (Or.inl rfl)) (fun _ _ _ _ _ => pts_nil) (fun _ _ _ _ _ => pe_op op_add_str (pe_op op_add_str (pv 3) pe_str) (pe_dget hu (pe_fld (pv 0) rfl) (pv 3) (fun _ _ => rfl))))) pa_nil)))
    (pss_cons (ps_for (by exact passes_of rfl) rfl (pi_list (pe_m0 (E := E0) (m_numbers T) hr (by decide) pass0 (pv 0))) (pg_name (i := 4) nd rfl (Or.inl rfl))
      (pss_cons (ps_set (i := 2) nd rfl (Or.inl rfl) (pe_dget hu (pe_fld (pv 0) rfl) (pv 4) (fun _ _ => rfl)))
      (pss_cons (ps_set (i := 5) nd rfl (Or.inl rfl) (pe_lst (pa_cons (pe_k (E := E0) (k_sign_of T D) hr (by decide) pass0 (pa_cons (pe_fld (pv 2) rfl) pa_nil)) (pa_cons (pe_fld (pv 2) rfl) (pa_cons (pe_fld (pv 2) rfl) (pa_cons (pe_fld (pv 2) rfl) (pa_cons (b_str T.n_str (pa_cons (pe_fld (pv 2) rfl) pa_nil)) (pa_cons (b_str T.n_str (pa_cons (pe_fld (pv 2) rfl) pa_nil)) (pa_cons (b_str T.n_str (pa_cons (pe_fld (pv 2) rfl) pa_nil)) pa_nil)))))))))
      (pss_one (ps_expr (pe_bm PySem.F.plainAttrs_list PySem.F.slot_list_append PySem.F.type_list_append mt_append (pv 1) (pa_cons (pe_join pe_str (pe_op op_cat (pv 5) (pe_lst (pa_cons (pe_fld (pv 2) rfl) pa_nil)))) pa_nil)))))))
    (pss_one (ps_ret (pe_join pe_str (pv 1)))))), ?_⟩
  obtain ⟨dx, hp⟩ := id rp.ins
  have l30 := wf.l30
  have e1 : (" " : Str).length = 1 := rfl
  -- the first row
  refine ⟨⟨_, rfl⟩, _, rfl, p, _, dx, _, _, rfl, hp, T.c_Caller, T.a_Caller_rule, rfl, ⟨_, rfl, p, _, dx, _, _, rfl, hp, T.c_Caller, T.a_Caller_clock, rfl, by show 1 ≤ sizeLine; decide, fun t ht => ?_⟩⟩
  have s1 := same_new (o := HO.tup [.int S.now]) ht
  refine rd_cat (xs := S.rule.vs) (ys := [.int S.now]) (s1 _ _ rp.hrl) upd_same (by show 7 ≤ 100000; decide) fun t2 H2 s2 et2 => ⟨t2, rfl, ⟨_, sqT et2⟩, fun D1 hD1 => ?_⟩
  have s02 := s1.trans s2
  clear ht
  have hdl := head_len wr hb wf.ok
  have hds := sum_le hdl
  have hdj := join_le " " ((ruleNs S.rule ++ [S.now]).map numT)
  have hdn : ((ruleNs S.rule ++ [S.now]).map numT).length = 7 := rfl
  rw [hdn] at hds
  rw [hdn, e1] at hdj
  have nlog : ∀ i ∈ ruleNs S.rule ++ [S.now], i.natAbs.log2 < 1920 := fun i hi => by
    have n := wr.now
    obtain ⟨⟨_, _⟩, ⟨_, _⟩, ⟨_, _⟩, ⟨_, _⟩, ⟨_, _⟩, ⟨_, _⟩⟩ := wf.ok
    simp only [ruleNs, List.cons_append, List.nil_append, List.mem_cons, List.not_mem_nil, or_false] at hi
    refine num_log ?_ ?_
    · rcases hi with rfl | rfl | rfl | rfl | rfl | rfl | rfl <;> omega
    · rcases hi with rfl | rfl | rfl | rfl | rfl | rfl | rfl <;> omega
  refine lc_adds (walk_tup (xs := S.rule.vs ++ [V.int S.now])) (fun i acc => acc = (((ruleNs S.rule ++ [S.now]).take i).map numT).map V.str) hD1 (by show 7 ≤ 90000; decide) rfl (fun i acc h => by rw [h, List.length_map, List.length_map, List.length_take]; exact Nat.min_le_left _ _) (fun H3 s3 => sqT (s3 _ _ et2)) ?_ ?_
  · rintro Tq N i acc y H3 H4 yes no hi s3 pp ⟨rfl, hy⟩
    have hy : ((ruleNs S.rule ++ [S.now]).map V.int)[i]? = some y := hy
    rw [List.getElem?_map] at hy
    cases hz : (ruleNs S.rule ++ [S.now])[i]? with
    | none =>
      rw [hz] at hy
      cases hy
    | some z =>
      rw [hz] at hy
      cases hy
      refine ⟨rfl, _, rfl, z, rfl, nlog z (List.mem_of_getElem? hz), yes _ _ (Same.refl _) ?_⟩
      rw [pp, List.take_succ, hz, List.map_append, List.map_append]
      rfl
  rintro acc H3 s3 eD rfl
  have etk : (ruleNs S.rule ++ [S.now]).take (S.rule.vs ++ [V.int S.now]).length = ruleNs S.rule ++ [S.now] := rfl
  rw [etk] at eD
  refine ⟨_, D1, _, rfl, rfl, .inl (sqL eD), by rw [hdn, e1]; omega, by show 1 ≤ sizeLine; decide, fun B hB => ?_⟩
  have s03 := s02.trans s3
  have sB := same_new (o := HO.lst [.str (headT S)]) hB
  have eB : upd H3 B (.lst [.str (headT S)]) B = some (.lst [.str (headT S)]) := upd_same
  show gName _ _ _ (upd H3 B (.lst [.str (headT S)])) _
  generalize upd H3 B (.lst [.str (headT S)]) = H4 at sB eB ⊢
  have hB0 : H B = none := s03.free hB
  have s04 := s03.trans sB
  have hhead : (headT S).length ≤ 70 := by unfold headT; omega
  clear eD s3 et2 s2 s1 hD1 hds hdj hdn hdl nlog
  have hp4 := s04 _ _ hp
  have rp4 := rp.same s04
  have elk : (S.roads.map (·.1)).length = S.roads.length := List.length_map ..
  have ekk : (kvT S.roads).map (·.1) = (S.roads.map (·.1)).map Sum.inr := by
    unfold kvT
    rw [List.map_map, List.map_map]
    rfl
  -- the second row
  refine ⟨_, rfl, .inl ⟨rfl, _, sqL eB⟩, ⟨_, rfl⟩, _, rfl, p, _, dx, _, _, rfl, hp4, T.c_Caller, T.a_Caller_roads, rfl, L.dr, kvT S.roads, S.roads.map (·.1), rfl, .inl rp4.hdr, ekk, by rw [elk]; have := wf.l5; omega, fun ys q1 pm so hq1 => ⟨q1, rfl, ⟨_, sqL upd_same⟩, fun D2 hD2 => ?_⟩⟩
  have sq := same_new (o := HO.lst (ys.map V.str)) hq1
  have eq1 : upd H4 q1 (.lst (ys.map V.str)) q1 = some (.lst (ys.map V.str)) := upd_same
  generalize upd H4 q1 (.lst (ys.map V.str)) = H5 at sq eq1 hD2 ⊢
  have ly : ys.length ≤ 5 := by
    have := pm.length_eq
    rw [elk] at this
    have := wf.l5
    omega
  have yin : ∀ y ∈ ys, (getT S.roads y).isSome = true := fun y hy => by
    rw [getT_key]
    exact decide_eq_true (pm.mem_iff.mp hy)
  have rp5 := rp4.same sq
  refine lc_adds (walk_list (xs := ys.map V.str)) (fun i acc => acc = ((ys.take i).map (roadT S)).map V.str) hD2 (by rw [List.length_map]; omega) rfl (fun i acc h => by rw [h, List.length_map, List.length_map, List.length_take]; exact Nat.min_le_left _ _) (fun H3 s3 => sqL (s3 _ _ eq1)) ?_ ?_
  · rintro Tq N i acc y H6 H7 yes no hi s6 pp ⟨rfl, hy⟩
    rw [List.getElem?_map] at hy
    cases hz : ys[i]? with
    | none =>
      rw [hz] at hy
      cases hy
    | some z =>
      rw [hz] at hy
      cases hy
      have hm := List.mem_of_getElem? hz
      obtain ⟨t, ht⟩ := Option.isSome_iff_exists.mp (yin z hm)
      obtain ⟨nt, nz⟩ := road_name wf ht
      have l1 := name4 nt
      have l2 := name4 nz
      have l3 : (">" : Str).length = 1 := rfl
      have rl := road_len wf (yin z hm)
      have z4 : z.length + (">" : Str).length ≤ sizeLine := sz (by omega)
      refine ⟨rfl, _, rfl, _, _, rfl, rfl, z4, _, rfl, p, _, dx, _, _, rfl, s6 _ _ (sq _ _ hp4), T.c_Caller, T.a_Caller_roads, rfl, _, rfl, L.dr, .str t, rfl, .inl ⟨_, Sum.inr z, .inl (rp5.same s6).hdr, rfl, ?_⟩, _, _, rfl, rfl, ?_, yes _ _ (Same.refl _) ?_⟩
      · rw [kvT_get, ht]
        rfl
      · rw [PySem.Str.length_append]
        exact sz (by omega)
      · rw [pp, List.take_succ, hz, List.map_append, List.map_append]
        show _ = _ ++ [V.str (roadT S z)]
        unfold roadT
        rw [ht]
        rfl
  rintro acc H6 s6 eD rfl
  have ety : ys.take (ys.map V.str).length = ys := by rw [List.length_map, List.take_length]
  rw [ety] at eD
  have hrs : ∀ y ∈ ys.map (roadT S), y.length ≤ 9 := fun y hy => by
    obtain ⟨z, hz, rfl⟩ := List.mem_map.mp hy
    exact road_len wf (yin z hz)
  have hss := sum_le hrs
  have hsj := join_le " " (ys.map (roadT S))
  have hln : (ys.map (roadT S)).length = ys.length := List.length_map ..
  rw [hln] at hss
  rw [hln, e1] at hsj
  have hroads : (roadsT S ys).length ≤ 60 := by unfold roadsT; omega
  have s46 := sq.trans s6
  have nB : ∀ {b : Addr} {o : HO}, H3 b = some o → b ≠ B := fun h => ne_of_none h hB
  have s36 : Same H3 H6 := sB.trans s46
  refine ⟨_, D2, _, rfl, rfl, .inl (sqL eD), by rw [hln, e1]; omega, B, _, _, rfl, rfl, s46 _ _ eB, by show 1 < sizeLine; decide, ?_⟩
  show tSeq _ _ _ _ (upd H6 B (.lst [.str (headT S), .str (roadsT S ys)]))
  have s37 : Same H3 (upd H6 B (.lst [.str (headT S), .str (roadsT S ys)])) := same_mut s36 hB
  have eB7 : upd H6 B (.lst [.str (headT S), .str (roadsT S ys)]) B = some (.lst [.str (headT S), .str (roadsT S ys)]) := upd_same
  generalize upd H6 B (.lst [.str (headT S), .str (roadsT S ys)]) = H7 at s37 eB7 ⊢
  clear eD s6 s46 s36 eq1 sq hD2 hq1 rp5 hss hsj hln hrs ety rp4 hp4 ekk elk
  have rp3 := rp.same s03
  have hp3 := s03 _ _ hp
  refine ⟨_, rfl, p, dx, _, rfl, s37 _ _ hp3, rfl, p, L, S, rfl, rp3.same s37, l30, fun H8 q2 s8 n8 e8 => ⟨q2, rfl, ⟨_, sqL e8⟩, ?_⟩⟩
  have nq : q2 ≠ B := Ne.symm (ne_of_none eB7 n8)
  have nln : (nums S.calls.length).length = S.calls.length := by unfold nums; rw [List.length_map, List.length_range]
  refine for_it (walk_list (xs := (nums S.calls.length).map V.int)) (fun i σ H' => Same H3 H' ∧ H' q2 = some (.lst ((nums S.calls.length).map V.int)) ∧ H' B = some (.lst (([headT S, roadsT S ys] ++ (S.calls.take i).map callT).map V.str)) ∧ ∃ o2 o3 o4 o5, σ = [some (.ref p), some (.ref B), o2, o3, o4, o5])
    ⟨s37.trans s8, e8, s8 _ _ eB7, _, _, _, _, rfl⟩ (fun _ _ _ _ h => sqL h.2.1) ?_ ?_
  · clear s37 eB7 e8 s8 n8
    rintro i y σ H6' H9 hi ⟨s9, e9, b9, o2, o3, o4, o5, rfl⟩ ⟨rfl, hy⟩
    rw [List.length_map, nln] at hi
    have ey : y = .int ((1 + i : Nat) : Int) := by
      unfold nums at hy
      rw [List.map_map, List.getElem?_map, List.getElem?_range hi] at hy
      exact (Option.some.inj hy).symm
    subst ey
    obtain ⟨q, hq⟩ : ∃ q, S.calls[i]? = some q := ⟨S.calls[i], List.getElem?_eq_getElem hi⟩
    have hil : i < L.cs.length := by rw [rp.cl]; exact hi
    obtain ⟨c, hc⟩ : ∃ c, L.cs[i]? = some c := ⟨L.cs[i], List.getElem?_eq_getElem hil⟩
    have qm := List.mem_of_getElem? hq
    have rp9 := rp3.same s9
    obtain ⟨dc, hco⟩ := rp9.hc i c q hc hq
    obtain ⟨c1, c2, c3, c4, c5⟩ := wr.c q qm
    refine ⟨_, rfl, p, _, dx, _, _, rfl, s9 _ _ hp3, T.c_Caller, T.a_Caller_calls, rfl, _, rfl, L.dc, _, rfl, .inl ⟨_, Sum.inl _, .inl rp9.hdc, rfl, (callsKV_get L.cs 1 i _ hc).symm⟩, ?_⟩
    dsimp only
    refine ⟨_, rfl, c, _, dc, _, _, rfl, hco, T.c_Call, T.a_Call_word, rfl, q.word, rfl, c1, fun H10 s10 => ?_⟩
    have hco := s10 _ _ hco
    refine ⟨_, rfl, c, _, dc, _, _, rfl, hco, T.c_Call, T.a_Call_key, rfl, _, rfl, c, _, dc, _, _, rfl, hco, T.c_Call, T.a_Call_goal, rfl, _, rfl, c, _, dc, _, _, rfl, hco, T.c_Call, T.a_Call_place, rfl,
      _, rfl, c, _, dc, _, _, rfl, hco, T.c_Call, T.a_Call_fails, rfl, q.fails, rfl, num_log c3.1 (by omega), _, rfl, c, _, dc, _, _, rfl, hco, T.c_Call, T.a_Call_time, rfl, q.time, rfl, num_log c4.1 (by omega), _, rfl, c, _, dc, _, _, rfl, hco, T.c_Call, T.a_Call_many, rfl, q.many, rfl, num_log c5.1 (by omega), by show 7 ≤ sizeLine; decide, fun W hW => ?_⟩
    dsimp only
    have sW := same_new (o := HO.lst ((wordsT q).map V.str)) hW
    have eW : upd H10 W (.lst ((wordsT q).map V.str)) W = some (.lst ((wordsT q).map V.str)) := upd_same
    show gName _ _ _ (upd H10 W (.lst ((wordsT q).map V.str))) _
    generalize upd H10 W (.lst ((wordsT q).map V.str)) = H11 at sW eW ⊢
    have hco := sW _ _ hco
    have b11 := sW _ _ (s10 _ _ b9)
    refine ⟨_, rfl, .inl ⟨rfl, _, sqL b11⟩, ⟨_, rfl⟩, _, rfl, _, rfl, c, _, dc, _, _, rfl, hco, T.c_Call, T.a_Call_text, rfl, by show 1 ≤ sizeLine; decide, fun T1 hT1 => ?_⟩
    have sT := same_new (o := HO.lst [.str q.text]) hT1
    have wl := words_len wr hb wf qm
    have ws := sum_le wl
    have e8 : (wordsT q ++ [q.text]).length = 8 := rfl
    rw [e8] at ws
    refine ⟨W, T1, _, _, rfl, rfl, sT _ _ eW, upd_same, by show 8 ≤ sizeLine; decide, fun T2 hT2 => ?_⟩
    have sU := same_new (o := HO.lst ((wordsT q ++ [q.text]).map V.str)) hT2
    have s13 := (((s9.trans s10).trans sW).trans sT).trans sU
    have b13 := sU _ _ (sT _ _ b11)
    have e13 := sU _ _ (sT _ _ (sW _ _ (s10 _ _ e9)))
    refine ⟨_, T2, wordsT q ++ [q.text], rfl, rfl, .inl (sqL upd_same), by rw [e8, e1]; omega, B, _, _, rfl, rfl, b13, ?_, ?_⟩
    · refine sz1 ?_
      rw [List.length_map, List.length_append, List.length_map, List.length_take]
      have : ([headT S, roadsT S ys] : List Str).length = 2 := rfl
      omega
    · refine ⟨same_mut s13 hB, by rw [upd_ne nq]; exact e13, ?_, _, _, _, _, rfl⟩
      rw [upd_same, List.take_succ, hq, List.map_append, List.map_append, List.map_append, List.map_append, List.append_assoc]
      rfl
  · rintro σ H9 ⟨s9, e9, b9, o2, o3, o4, o5, rfl⟩
    have etk : S.calls.take ((nums S.calls.length).map V.int).length = S.calls := by rw [List.length_map, nln, List.take_length]
    rw [etk] at b9
    have hall : ∀ y ∈ [headT S, roadsT S ys] ++ S.calls.map callT, y.length ≤ 200 := fun y hy => by
      rcases List.mem_append.mp hy with z | z
      · simp only [List.mem_cons, List.not_mem_nil, or_false] at z
        rcases z with rfl | rfl
        · omega
        · omega
      · obtain ⟨q, hq, rfl⟩ := List.mem_map.mp z
        exact call_len wr hb wf hq
    have hs := sum_le hall
    have hl : ([headT S, roadsT S ys] ++ S.calls.map callT).length = 2 + S.calls.length := by rw [List.length_append, List.length_map]; rfl
    have e2 : ("\n" : Str).length = 1 := rfl
    rw [hl] at hs
    exact ⟨⟨_, rfl⟩, _, rfl, _, B, _, rfl, rfl, .inl (sqL b9), by rw [hl, e2]; omega, fin H9 _ (s03.trans s9) ⟨ys, pm, so, rfl⟩⟩
end
end T
end
section
namespace T
open PySem PySem.Spec PyProof.Rows L2 Tr LamX
/-! ### a list of refusals, lambdas made on the way -/
structure Rf (Tb : List (Addr × Str)) (H H' : Hp) (D : Addr) (n : Str) (ts : List Addr) : Prop where
  fw : Fw Tb H H'
  nt : NT H D
  hD : H' D = some (.lst (ts.map V.ref))
  ht : ∀ t ∈ ts, H' t = some (.tup [.str "refused", .str n])
theorem Rf.ext {Tb : List (Addr × Str)} {H H1 H2 : Hp} {D : Addr} {n : Str} {ts : List Addr} (r : Rf Tb H H1 D n ts) (e : ExtN H1 H2) (t : Tabs Tb H2) : Rf Tb H H2 D n ts :=
  ⟨r.fw.ext e t, r.nt, ext_lst e r.hD, fun u hu => ext_tup e (r.ht u hu)⟩
theorem Rf.same {Tb : List (Addr × Str)} {H H1 H2 : Hp} {D : Addr} {n : Str} {ts : List Addr} (r : Rf Tb H H1 D n ts) (s : Same H1 H2) : Rf Tb H H2 D n ts := r.ext (ext_of s) (r.fw.same s).t
theorem Rf.add {Tb : List (Addr × Str)} {H H1 : Hp} {D u : Addr} {n : Str} {ts : List Addr} (r : Rf Tb H H1 D n ts) (eu : H1 u = some (.tup [.str "refused", .str n])) : Rf Tb H (upd H1 D (.lst (ts.map V.ref ++ [.ref u]))) D n (ts ++ [u]) := by
  have ne : ∀ {b : Addr} {xs : List V}, H1 b = some (.tup xs) → b ≠ D := fun h z => by
    rw [z, r.hD] at h
    cases h
  refine ⟨r.fw.mut r.nt r.hD, r.nt, by rw [upd_same, List.map_append]; rfl, fun t ht => ?_⟩
  rcases List.mem_append.mp ht with z | z
  · rw [upd_ne (ne (r.ht t z))]
    exact r.ht t z
  · rw [List.mem_singleton.mp z, upd_ne (ne eu)]
    exact eu
theorem Rf.first {Tb : List (Addr × Str)} {H H1 : Hp} {D u : Addr} {n : Str} (fw : Fw Tb H H1) (hD : H1 D = none) (eu : H1 u = some (.tup [.str "refused", .str n])) : Rf Tb H (upd H1 D (.lst [.ref u])) D n [u] :=
  ⟨fw.new hD, fw.nt hD, upd_same, fun t ht => by
    rw [List.mem_singleton.mp ht]
    exact (same_new hD) _ _ eu⟩
theorem Rf.none {Tb : List (Addr × Str)} {H H1 : Hp} {D : Addr} {n : Str} (fw : Fw Tb H H1) (hD : H1 D = none) : Rf Tb H (upd H1 D (.lst [])) D n [] := ⟨fw.new hD, fw.nt hD, upd_same, fun t ht => by cases ht⟩
theorem Rf.dp {K : PySem.W.Frag} {Tb : List (Addr × Str)} {H H1 : Hp} {D : Addr} {n : Str} {ts : List Addr} (r : Rf Tb H H1 D n ts) : Dp K H1 (.ref D) (.list (List.replicate ts.length (rfD n))) := .lst (sqL r.hD) (dp_rfs r.ht)
theorem rep_flat (t : Addr) : ∀ k : Nat, (List.replicate k [V.ref t]).flatten = (List.replicate k t).map V.ref
  | 0 => rfl
  | k + 1 => by
    rw [List.replicate_succ, List.flatten_cons, rep_flat t k]
    rfl
theorem dp_rep {K : PySem.W.Frag} {H : Hp} {B t : Addr} {n : Str} {k : Nat} (h : H B = some (.lst (List.replicate k [V.ref t]).flatten)) (et : H t = some (.tup [.str "refused", .str n])) : Dp K H (.ref B) (.list (List.replicate k (rfD n))) := by
  rw [rep_flat] at h
  have z := dp_rfs (K := K) (H := H) (n := n) (ts := List.replicate k t) fun u hu => by
    rw [List.eq_of_mem_replicate hu]
    exact et
  rw [List.length_replicate] at z
  exact .lst (sqL h) z
theorem isC_atT {n i : Nat} (h : i < n) : isC (.int ((1 + i : Nat) : Int)) 1 (n : Int) = true := by
  simp [isC]
  omega
abbrev numQ : Str := (("_law_numbers_right" : Str) ++ (".<locals>." : Str)) ++ ("<lambda>" : Str)
abbrev sentQ : Str := (("_law_sent_right" : Str) ++ (".<locals>." : Str)) ++ ("<lambda>" : Str)
section
variable {P : Program} {w : World} {K : PySem.W.Frag} {mg : Str → Option Value} {base : Heap}
def spNum (K : PySem.W.Frag) (Tb : List (Addr × Str)) : Sp := fun vs H Q _ => ∃ (p : Addr) (L : Lay) (S : St) (x : V), vs = [.ref p, x] ∧ Rep K H p L S ∧ Wf S ∧ S.log.length ≤ 9000000 ∧ (∀ H, Thing K H x) ∧ isC x 1 S.calls.length = false ∧ Tabs Tb H ∧ ∀ H', ExtN H H' → Tabs Tb H' → Q (.bl true) H'
theorem k_l_numbers_right (T : Txt K mg) {c Pt : Addr} {fd : FuncData} (F : FunD K "_law_numbers_right" "_law_numbers_right" (defArgs s_l_numbers_right) (defBody s_l_numbers_right) (defScope s_l_numbers_right) [] [] (He.ga K "_law_numbers_right") fd) (hc : fd.code = .ref c) (TB : TabB base mg c Pt)
    {Tb : List (Addr × Str)} (mem : (Pt, numQ) ∈ Tb) (uq : ∀ p ∈ Tb, p.1 = Pt → p.2 = numQ) : Kal P w K mg base (NX P w) 9 "_law_numbers_right" (spNum K Tb) := by
  obtain ⟨oc, od, dV, kV, doc, pm, an, cdv, ct, osl, rfl, lk, hcd, _, _⟩ := id F.ex
  obtain rfl : cdv = .ref c := hc
  refine ⟨_, _, ["_law_caller", "_law_bad"], fn_of lk hcd sc_l_numbers_right (fun vs H Q E ⟨_, _, _, _, e, _⟩ => by rw [e] <;> rfl) fun A outer s H vs Q E hr ⟨p, L, S, x, e, r, wf, lg, tx, ix, hT, fin⟩ => ?_, T.g_l_numbers_right, F.kp, F.bindsN (fun _ _ _ _ _ _ us hl => match us, hl with | [_, _], _ => rfl)⟩
  subst e
  have nd := sc_l_numbers_right.nd
  have hBC : ("BadCall" : Str) ∈ cls := by decide
  refine ⟨_, pss_cons (ps_set (i := 2) nd rfl (Or.inl rfl) (pe_lst (pa_cons (pe_told (k := 6) (t := fun E => tM (He.ga K "Caller") "state" (spCField (fun q => .str q.word) K) E (tVar 0) (tCons (tVar 1) tNil)) T TB rfl mem uq hr (fun _ _ _ _ _ _ _ hr2 => pe_m (m_state T) hr2 (by decide) TrL.lamC_pass (pv 0) (pa_cons (pv 1) pa_nil))) pa_nil)))
      (pss_cons (ps_expr (pe_bm PySem.F.plainAttrs_list PySem.F.slot_list_append PySem.F.type_list_append mt_append (pv 2) (pa_cons (pe_told (k := 6) (t := fun E => tM (He.ga K "Caller") "tries" (spCField (fun q => .int q.many) K) E (tVar 0) (tCons (tVar 1) tNil)) T TB rfl mem uq hr (fun _ _ _ _ _ _ _ hr2 => pe_m (m_tries T) hr2 (by decide) TrL.lamC_pass (pv 0) (pa_cons (pv 1) pa_nil))) pa_nil)))
      (pss_cons (ps_expr (pe_bm PySem.F.plainAttrs_list PySem.F.slot_list_append PySem.F.type_list_append mt_append (pv 2) (pa_cons (pe_told (k := 6) (t := fun E => tM (He.ga K "Caller") "time_of" (spTimeOf K) E (tVar 0) (tCons (tVar 1) tNil)) T TB rfl mem uq hr (fun _ _ _ _ _ _ _ hr2 => pe_m (m_time_of T) hr2 (by decide) TrL.lamC_pass (pv 0) (pa_cons (pv 1) pa_nil))) pa_nil)))
      (pss_cons (ps_expr (pe_bm PySem.F.plainAttrs_list PySem.F.slot_list_append PySem.F.type_list_append mt_append (pv 2) (pa_cons (pe_told (k := 6) (t := fun E => tM (He.ga K "Caller") "answer" (spAnswer K) E (tVar 0) (tCons (tVar 1) (tCons (tC (.str "good")) tNil))) T TB rfl mem uq hr (fun _ _ _ _ _ _ _ hr2 => pe_m (m_answer T) hr2 (by decide) TrL.lamC_pass (pv 0) (pa_cons (pv 1) (pa_cons pe_str pa_nil)))) pa_nil)))
      (pss_cons (ps_expr (pe_bm PySem.F.plainAttrs_list PySem.F.slot_list_append PySem.F.type_list_append mt_append (pv 2) (pa_cons (pe_told (k := 6) (t := fun E => tM (He.ga K "Caller") "go_on" (spDeed (fun x => decide (x = ("put by" : Str))) goS K) E (tVar 0) (tCons (tVar 1) tNil)) T TB rfl mem uq hr (fun _ _ _ _ _ _ _ hr2 => pe_m (m_go_on T) hr2 (by decide) TrL.lamC_pass (pv 0) (pa_cons (pv 1) pa_nil))) pa_nil)))
      (pss_cons (ps_expr (pe_bm PySem.F.plainAttrs_list PySem.F.slot_list_append PySem.F.type_list_append mt_append (pv 2) (pa_cons (pe_told (k := 6) (t := fun E => tM (He.ga K "Caller") "drop" (spDeed loose_ dropS K) E (tVar 0) (tCons (tVar 1) tNil)) T TB rfl mem uq hr (fun _ _ _ _ _ _ _ hr2 => pe_m (m_drop T) hr2 (by decide) TrL.lamC_pass (pv 0) (pa_cons (pv 1) pa_nil))) pa_nil)))
      (pss_cons (ps_expr (pe_bm PySem.F.plainAttrs_list PySem.F.slot_list_append PySem.F.type_list_append mt_append (pv 2) (pa_cons (pe_told (k := 6) (t := fun E => tM (He.ga K "Caller") "change" (spChange K) E (tVar 0) (tCons (tVar 1) (tCons (tC (.str "A")) tNil))) T TB rfl mem uq hr (fun _ _ _ _ _ _ _ hr2 => pe_m (m_change T) hr2 (by decide) TrL.lamC_pass (pv 0) (pa_cons (pv 1) (pa_cons pe_str pa_nil)))) pa_nil)))
      (pss_one (ps_ret (pe_cmpR (op_eqD hr.units) (pv 2) (pe_op op_rep (pe_lst (pa_cons (pe_tup (pa_cons pe_str (pa_cons pe_str pa_nil))) pa_nil)) pe_int) (nomark _)))))))))), ?_⟩
  have no : ∀ (i : Nat) (q : Cal), x = .int ((1 + i : Nat) : Int) → S.calls[i]? = some q → False := fun i q e hq => by
    rw [e, isC_atT (List.getElem?_eq_some_iff.mp hq).1] at ix
    cases ix
  have f0 : Fw Tb H H := Fw.refl hT
  refine ⟨hT, fun H0a x0 t0 => ?_⟩
  have rp0 := r.ext (f0.ext x0 t0).e
  obtain ⟨dx0, hp0⟩ := id rp0.ins
  refine ⟨_, rfl, p, dx0, _, rfl, hp0, rfl, _, rfl, p, L, S, x, rfl, rp0, tx _, fun _ => ⟨"BadCall", hBC, rfl, rfl, T_word T hBC, fun H0b u0 s0 _ eu0 => ?_⟩, fun i q e hq => (no i q e hq).elim⟩
  refine ⟨by show 1 ≤ sizeLine; decide, fun D hD => ?_⟩
  have rf0 := Rf.first ((f0.ext x0 t0).same s0) hD eu0
  generalize upd H0b D (.lst [.ref u0]) = J0 at rf0 ⊢
  refine ⟨_, rfl, .inl ⟨rfl, _, sqL rf0.hD⟩, rf0.fw.t, fun H1a x1 t1 => ?_⟩
  have f1 := rf0.fw
  have rp1 := r.ext (f1.ext x1 t1).e
  obtain ⟨dx1, hp1⟩ := id rp1.ins
  refine ⟨_, rfl, p, dx1, _, rfl, hp1, rfl, _, rfl, p, L, S, x, rfl, rp1, tx _, fun _ => ⟨"BadCall", hBC, rfl, rfl, T_word T hBC, fun H1b u1 s1 _ eu1 => ?_⟩, fun i q e hq => (no i q e hq).elim⟩
  have q1 := (rf0.ext x1 t1).same s1
  refine ⟨D, _, _, rfl, rfl, q1.hD, by show 1 < sizeLine; decide, ?_⟩
  have rf1 := q1.add eu1
  generalize upd H1b D (.lst (List.map V.ref ([u0]) ++ [.ref u1])) = J1 at rf1 ⊢
  refine ⟨_, rfl, .inl ⟨rfl, _, sqL rf1.hD⟩, rf1.fw.t, fun H2a x2 t2 => ?_⟩
  have f2 := rf1.fw
  have rp2 := r.ext (f2.ext x2 t2).e
  obtain ⟨dx2, hp2⟩ := id rp2.ins
  refine ⟨_, rfl, p, dx2, _, rfl, hp2, rfl, _, rfl, p, L, S, x, rfl, rp2, tx _, fun _ => ⟨"BadCall", hBC, rfl, rfl, T_word T hBC, fun H2b u2 s2 _ eu2 => ?_⟩, fun i q e hq => (no i q e hq).elim⟩
  have q2 := (rf1.ext x2 t2).same s2
  refine ⟨D, _, _, rfl, rfl, q2.hD, by show 2 < sizeLine; decide, ?_⟩
  have rf2 := q2.add eu2
  generalize upd H2b D (.lst (List.map V.ref ([u0] ++ [u1]) ++ [.ref u2])) = J2 at rf2 ⊢
  refine ⟨_, rfl, .inl ⟨rfl, _, sqL rf2.hD⟩, rf2.fw.t, fun H3a x3 t3 => ?_⟩
  have f3 := rf2.fw
  have rp3 := r.ext (f3.ext x3 t3).e
  obtain ⟨dx3, hp3⟩ := id rp3.ins
  refine ⟨_, rfl, p, dx3, _, rfl, hp3, rfl, _, rfl, p, L, S, x, .str "good", rfl, rp3, wf, Nat.le_trans lg (by decide), tx _, .str _, fun _ => ⟨"BadCall", hBC, rfl, rfl, T_word T hBC, fun H3b u3 s3 _ eu3 => ?_⟩, fun i q z e hq => (no i q e hq).elim⟩
  have q3 := (rf2.ext x3 t3).same s3
  refine ⟨D, _, _, rfl, rfl, q3.hD, by show 3 < sizeLine; decide, ?_⟩
  have rf3 := q3.add eu3
  generalize upd H3b D (.lst (List.map V.ref ([u0] ++ [u1] ++ [u2]) ++ [.ref u3])) = J3 at rf3 ⊢
  refine ⟨_, rfl, .inl ⟨rfl, _, sqL rf3.hD⟩, rf3.fw.t, fun H4a x4 t4 => ?_⟩
  have f4 := rf3.fw
  have rp4 := r.ext (f4.ext x4 t4).e
  obtain ⟨dx4, hp4⟩ := id rp4.ins
  refine ⟨_, rfl, p, dx4, _, rfl, hp4, rfl, _, rfl, p, L, S, x, rfl, rp4, Nat.le_trans lg (by decide), tx _, fun _ H4c z4 => ⟨"BadCall", hBC, rfl, rfl, T_word T hBC, fun H4b u4 s4' _ eu4 => ?_⟩, fun i q e hq => (no i q e hq).elim⟩
  have s4 := z4.trans s4'
  have q4 := (rf3.ext x4 t4).same s4
  refine ⟨D, _, _, rfl, rfl, q4.hD, by show 4 < sizeLine; decide, ?_⟩
  have rf4 := q4.add eu4
  generalize upd H4b D (.lst (List.map V.ref ([u0] ++ [u1] ++ [u2] ++ [u3]) ++ [.ref u4])) = J4 at rf4 ⊢
  refine ⟨_, rfl, .inl ⟨rfl, _, sqL rf4.hD⟩, rf4.fw.t, fun H5a x5 t5 => ?_⟩
  have f5 := rf4.fw
  have rp5 := r.ext (f5.ext x5 t5).e
  obtain ⟨dx5, hp5⟩ := id rp5.ins
  refine ⟨_, rfl, p, dx5, _, rfl, hp5, rfl, _, rfl, p, L, S, x, rfl, rp5, Nat.le_trans lg (by decide), tx _, fun _ H5c z5 => ⟨"BadCall", hBC, rfl, rfl, T_word T hBC, fun H5b u5 s5' _ eu5 => ?_⟩, fun i q e hq => (no i q e hq).elim⟩
  have s5 := z5.trans s5'
  have q5 := (rf4.ext x5 t5).same s5
  refine ⟨D, _, _, rfl, rfl, q5.hD, by show 5 < sizeLine; decide, ?_⟩
  have rf5 := q5.add eu5
  generalize upd H5b D (.lst (List.map V.ref ([u0] ++ [u1] ++ [u2] ++ [u3] ++ [u4]) ++ [.ref u5])) = J5 at rf5 ⊢
  refine ⟨_, rfl, .inl ⟨rfl, _, sqL rf5.hD⟩, rf5.fw.t, fun H6a x6 t6 => ?_⟩
  have f6 := rf5.fw
  have rp6 := r.ext (f6.ext x6 t6).e
  obtain ⟨dx6, hp6⟩ := id rp6.ins
  refine ⟨_, rfl, p, dx6, _, rfl, hp6, rfl, _, rfl, p, L, S, x, .str "A", rfl, rp6, tx _, .str _, (by show ("A" : Str).length ≤ 100000; decide), fun _ H6c z6 => ⟨"BadCall", hBC, rfl, rfl, T_word T hBC, fun H6b u6 s6' _ eu6 => ?_⟩, fun z => (by rw [ix] at z; cases z), fun i q e hq => (no i q e hq).elim, fun i q g e hq => (no i q e hq).elim⟩
  have s6 := z6.trans s6'
  have q6 := (rf5.ext x6 t6).same s6
  refine ⟨D, _, _, rfl, rfl, q6.hD, by show 6 < sizeLine; decide, ?_⟩
  have rf6 := q6.add eu6
  generalize upd H6b D (.lst (List.map V.ref ([u0] ++ [u1] ++ [u2] ++ [u3] ++ [u4] ++ [u5]) ++ [.ref u6])) = J6 at rf6 ⊢
  refine ⟨_, rfl, by show 2 ≤ sizeLine; decide, fun t ht => ⟨by show 1 ≤ sizeLine; decide, fun B hB => ⟨B, 7, _, rfl, rfl, upd_same, by decide, by decide, by show 1 * 7 ≤ sizeLine; decide, fun C hC => ?_⟩⟩⟩
  have z1 := same_new (o := HO.tup [.str "refused", .str "BadCall"]) ht
  have z2 := same_new (o := HO.lst [.ref t]) hB
  have z3 := same_new (o := HO.lst (List.replicate (7 : Int).toNat [V.ref t]).flatten) hC
  have rz := rf6.same ((z1.trans z2).trans z3)
  exact eq_self rz.dp (dp_rep (k := 7) upd_same (z3 _ _ (z2 _ _ upd_same))) (sh_rfs (by decide +kernel) 7) (fin _ rz.fw.e rz.fw.t)
end
end T
end
section
namespace T
open PySem PySem.Spec PyProof.Rows L2 Tr LamX
abbrev els1 : List V := [.str "", .str "A", .str "abcde", .non, .int 5]
abbrev els2 (b : Addr) : List V := [.str (Txt.mul "a" 21), .str "a\n", .non, .int 5, .ref b]
theorem els2_bad {K : PySem.W.Frag} {b : Addr} {y : V} (h : y ∈ els2 b) : isTx y = false ∧ Short y ∧ ∀ H : Hp, H b = some (.lst [.str "a"]) → Thing K H y := by
  simp only [els2, List.mem_cons, List.not_mem_nil, or_false] at h
  rcases h with rfl | rfl | rfl | rfl | rfl
  · exact ⟨by decide +kernel, by show (Txt.mul "a" 21).length ≤ 100000; decide +kernel, fun _ _ => .str _⟩
  · exact ⟨by decide +kernel, by show ("a\n" : Str).length ≤ 100000; decide +kernel, fun _ _ => .str _⟩
  · exact ⟨rfl, trivial, fun _ _ => .non⟩
  · exact ⟨rfl, trivial, fun _ _ => .int _⟩
  · exact ⟨rfl, trivial, fun _ e => .lst e⟩
section
variable {P : Program} {w : World} {K : PySem.W.Frag} {mg : Str → Option Value} {base : Heap}
def spSent (K : PySem.W.Frag) (Tb : List (Addr × Str)) : Sp := fun vs H Q _ => ∃ (p : Addr) (L : Lay) (S : St), vs = [.ref p] ∧ Rep K H p L S ∧ Wf S ∧ S.log.length ≤ 9000000 ∧ inRoads S (.str "home") = true ∧ Tabs Tb H ∧ ∀ H', ExtN H H' → Tabs Tb H' → Q (.bl true) H'
theorem els1_bad {y : V} (h : y ∈ els1) : isNm y = false ∧ Short y ∧ (∀ H, Thing K H y) ∧ ∀ S : St, inRoads S y = false := by
  have hs : ∀ (s : Str) (S : St), nameOk s = false → inRoads S (.str s) = false := fun s S h => by
    show (nameOk s && _) = false
    rw [h]
    rfl
  simp only [els1, List.mem_cons, List.not_mem_nil, or_false] at h
  rcases h with rfl | rfl | rfl | rfl | rfl
  · exact ⟨by decide +kernel, by show ("" : Str).length ≤ 100000; decide +kernel, fun _ => .str _, fun S => hs _ S (by decide +kernel)⟩
  · exact ⟨by decide +kernel, by show ("A" : Str).length ≤ 100000; decide +kernel, fun _ => .str _, fun S => hs _ S (by decide +kernel)⟩
  · exact ⟨by decide +kernel, by show ("abcde" : Str).length ≤ 100000; decide +kernel, fun _ => .str _, fun S => hs _ S (by decide +kernel)⟩
  · exact ⟨rfl, trivial, fun _ => .non, fun S => rfl⟩
  · exact ⟨rfl, trivial, fun _ => .int _, fun S => rfl⟩
theorem k_l_sent_right (T : Txt K mg) {c Pt : Addr} {fd : FuncData} (F : FunD K "_law_sent_right" "_law_sent_right" (defArgs s_l_sent_right) (defBody s_l_sent_right) (defScope s_l_sent_right) [] [] (He.ga K "_law_sent_right") fd) (hc : fd.code = .ref c) (TB : TabB base mg c Pt)
    {Tb : List (Addr × Str)} (mem : (Pt, sentQ) ∈ Tb) (uq : ∀ p ∈ Tb, p.1 = Pt → p.2 = sentQ) : Kal P w K mg base (NX P w) 9 "_law_sent_right" (spSent K Tb) := by
  obtain ⟨oc, od, dV, kV, doc, pm, an, cdv, ct, osl, rfl, lk, hcd, _, _⟩ := id F.ex
  obtain rfl : cdv = .ref c := hc
  refine ⟨_, _, ["_law_caller"], fn_of lk hcd sc_l_sent_right (fun vs H Q E ⟨_, _, _, e, _⟩ => by rw [e] <;> rfl) fun A outer s H vs Q E hr ⟨p, L, S, e, r, wf, lg, hm, hT, fin⟩ => ?_, T.g_l_sent_right, F.kp, F.bindsN (fun _ _ _ _ _ _ us hl => match us, hl with | [_], _ => rfl)⟩
  subst e
  have nd := sc_l_sent_right.nd
  have hBN : ("BadName" : Str) ∈ cls := by decide
  have hBT : ("BadText" : Str) ∈ cls := by decide
  refine ⟨_, pss_cons (ps_set (i := 1) nd rfl (Or.inl rfl) (pe_lst pa_nil))
      (pss_cons (ps_for (by exact passes_of rfl) rfl (pi_list (pe_lst (pa_cons pe_str (pa_cons pe_str (pa_cons pe_str (pa_cons pe_non (pa_cons pe_int pa_nil))))))) (pg_name (i := 2) nd rfl (Or.inr rfl))
      (pss_cons (ps_expr (pe_bm PySem.F.plainAttrs_list PySem.F.slot_list_append PySem.F.type_list_append mt_append (pv 1) (pa_cons (pe_told (k := 6) (t := fun E => tM (He.ga K "Caller") "send" (spSend K) E (tVar 0) (tCons (tVar 2) (tCons (tC (.str "zz")) (tCons (tC .non) tNil)))) T TB rfl mem uq hr (fun _ _ _ _ _ _ _ hr2 => pe_m (m_send T) hr2 (by decide) TrL.lamC_pass (pv 0) (pa_cons (pv 2) (pa_cons pe_str (pa_cons pe_non pa_nil))))) pa_nil)))
      (pss_cons (ps_expr (pe_bm PySem.F.plainAttrs_list PySem.F.slot_list_append PySem.F.type_list_append mt_append (pv 1) (pa_cons (pe_told (k := 6) (t := fun E => tM (He.ga K "Caller") "send" (spSend K) E (tVar 0) (tCons (tC (.str "k")) (tCons (tVar 2) (tCons (tC .non) tNil)))) T TB rfl mem uq hr (fun _ _ _ _ _ _ _ hr2 => pe_m (m_send T) hr2 (by decide) TrL.lamC_pass (pv 0) (pa_cons pe_str (pa_cons (pv 2) (pa_cons pe_non pa_nil))))) pa_nil)))
      (pss_one (ps_expr (pe_bm PySem.F.plainAttrs_list PySem.F.slot_list_append PySem.F.type_list_append mt_append (pv 1) (pa_cons (pe_told (k := 6) (t := fun E => tM (He.ga K "Caller") "add_address" (spAddAddr K) E (tVar 0) (tCons (tVar 2) tNil)) T TB rfl mem uq hr (fun _ _ _ _ _ _ _ hr2 => pe_m (m_add_address T) hr2 (by decide) TrL.lamC_pass (pv 0) (pa_cons (pv 2) pa_nil))) pa_nil)))))))
      (pss_cons (ps_if (pt_cmpR (op_neD hr.units) (pv 1) (pe_op op_rep (pe_lst (pa_cons (pe_tup (pa_cons pe_str (pa_cons pe_str pa_nil))) pa_nil)) pe_int) (nomark _)) (pss_one (ps_ret pe_bl)) pss_nil)
      (pss_cons (ps_set (i := 1) nd rfl (Or.inl rfl) (pe_lst pa_nil))
      (pss_cons (ps_for (by exact passes_of rfl) rfl (pi_list (pe_lst (pa_cons (pe_op op_mulS pe_str pe_int) (pa_cons pe_str (pa_cons pe_non (pa_cons pe_int (pa_cons (pe_lst (pa_cons pe_str pa_nil)) pa_nil))))))) (pg_name (i := 2) nd rfl (Or.inr rfl))
      (pss_one (ps_expr (pe_bm PySem.F.plainAttrs_list PySem.F.slot_list_append PySem.F.type_list_append mt_append (pv 1) (pa_cons (pe_told (k := 6) (t := fun E => tM (He.ga K "Caller") "send" (spSend K) E (tVar 0) (tCons (tC (.str "k")) (tCons (tC (.str "home")) (tCons (tVar 2) tNil)))) T TB rfl mem uq hr (fun _ _ _ _ _ _ _ hr2 => pe_m (m_send T) hr2 (by decide) TrL.lamC_pass (pv 0) (pa_cons pe_str (pa_cons pe_str (pa_cons (pv 2) pa_nil))))) pa_nil)))))
      (pss_one (ps_ret (pe_cmpR (op_eqD hr.units) (pv 1) (pe_op op_rep (pe_lst (pa_cons (pe_tup (pa_cons pe_str (pa_cons pe_str pa_nil))) pa_nil)) pe_int) (nomark _)))))))), ?_⟩
  refine ⟨by show 0 ≤ sizeLine; decide, fun D hD => ?_⟩
  have rf0 : Rf Tb H _ D "BadName" [] := Rf.none (Fw.refl hT) hD
  generalize upd H D (.lst []) = J0 at rf0 ⊢
  refine ⟨by show 5 ≤ sizeLine; decide, fun B hB => ?_⟩
  have rf1 := rf0.same (same_new (o := HO.lst els1) hB)
  have eB : upd J0 B (.lst els1) B = some (.lst els1) := upd_same
  have nBD : B ≠ D := Ne.symm (ne_of_none rf0.hD hB)
  generalize upd J0 B (.lst els1) = J1 at rf1 eB ⊢
  refine ⟨B, rfl, ⟨_, sqL eB⟩, ?_⟩
  refine for_it (walk_list (xs := els1)) (fun j σ H' => ∃ ts, Rf Tb H H' D "BadName" ts ∧ ts.length = 3 * j ∧ H' B = some (.lst els1) ∧ ∃ o2, σ = [some (.ref p), some (.ref D), o2])
    ⟨[], rf1, rfl, eB, _, rfl⟩ (fun _ _ _ _ ⟨_, _, _, h, _⟩ => sqL h) ?_ ?_
  · clear rf0 rf1 eB hB
    rintro j y σ J2' J2 hj ⟨ts, rf2, lt, eB, o2, rfl⟩ ⟨rfl, hy⟩
    have hj : j < 5 := hj
    obtain ⟨bn, sy, ty, br⟩ := els1_bad (K := K) (List.mem_of_getElem? hy)
    have br := br S
    refine ⟨_, rfl, .inl ⟨rfl, _, sqL rf2.hD⟩, rf2.fw.t, fun K0a x0 t0 => ?_⟩
    have rp0 := r.ext (rf2.fw.ext x0 t0).e
    obtain ⟨dx0, hp0⟩ := id rp0.ins
    refine ⟨_, rfl, p, dx0, _, rfl, hp0, rfl, _, rfl, p, L, S, y, .str "zz", .non, rfl, rp0, ty _, .str _, .non, sy, (by show ("zz" : Str).length ≤ 100000; decide), trivial, wf.l30, Nat.le_trans lg (by decide), fun _ K0c z0 => ⟨"BadName", hBN, rfl, rfl, T_word T hBN, fun K0b u0 s0' _ eu0 => ?_⟩, fun z => (by rw [bn] at z; cases z), fun z => (by rw [bn] at z; cases z), fun k g t _ _ _ z => (by rw [bn] at z; cases z)⟩
    have s0 := z0.trans s0'
    have q0 := (rf2.ext x0 t0).same s0
    refine ⟨D, _, _, rfl, rfl, q0.hD, sz1 (by simp only [List.length_map, List.length_append, List.length_cons, List.length_nil]; omega), ?_⟩
    have rg0 := q0.add eu0
    have eB : upd K0b D (.lst (List.map V.ref (ts) ++ [.ref u0])) B = some (.lst els1) := by rw [upd_ne nBD]; exact s0 _ _ (ext_lst x0 eB)
    generalize upd K0b D (.lst (List.map V.ref (ts) ++ [.ref u0])) = M0 at rg0 eB ⊢
    refine ⟨_, rfl, .inl ⟨rfl, _, sqL rg0.hD⟩, rg0.fw.t, fun K1a x1 t1 => ?_⟩
    have rp1 := r.ext (rg0.fw.ext x1 t1).e
    obtain ⟨dx1, hp1⟩ := id rp1.ins
    refine ⟨_, rfl, p, dx1, _, rfl, hp1, rfl, _, rfl, p, L, S, .str "k", y, .non, rfl, rp1, .str _, ty _, .non, (by show ("k" : Str).length ≤ 100000; decide), sy, trivial, wf.l30, Nat.le_trans lg (by decide), fun _ K1c z1 => ⟨"BadName", hBN, rfl, rfl, T_word T hBN, fun K1b u1 s1' _ eu1 => ?_⟩, fun _ z => (by rw [br] at z; cases z), fun _ z => (by rw [br] at z; cases z), fun k g t _ _ _ _ z => (by rw [br] at z; cases z)⟩
    have s1 := z1.trans s1'
    have q1 := (rg0.ext x1 t1).same s1
    refine ⟨D, _, _, rfl, rfl, q1.hD, sz1 (by simp only [List.length_map, List.length_append, List.length_cons, List.length_nil]; omega), ?_⟩
    have rg1 := q1.add eu1
    have eB : upd K1b D (.lst (List.map V.ref (ts ++ [u0]) ++ [.ref u1])) B = some (.lst els1) := by rw [upd_ne nBD]; exact s1 _ _ (ext_lst x1 eB)
    generalize upd K1b D (.lst (List.map V.ref (ts ++ [u0]) ++ [.ref u1])) = M1 at rg1 eB ⊢
    refine ⟨_, rfl, .inl ⟨rfl, _, sqL rg1.hD⟩, rg1.fw.t, fun K2a x2 t2 => ?_⟩
    have rp2 := r.ext (rg1.fw.ext x2 t2).e
    obtain ⟨dx2, hp2⟩ := id rp2.ins
    refine ⟨_, rfl, p, dx2, _, rfl, hp2, rfl, _, rfl, p, L, S, y, rfl, rp2, ty _, sy, wf.l5, fun _ K2c z2 => ⟨"BadName", hBN, rfl, rfl, T_word T hBN, fun K2b u2 s2' _ eu2 => ?_⟩, fun a ea z => (by rw [ea] at bn; rw [show isNm (.str a) = nameOk a from rfl, z] at bn; cases bn)⟩
    have s2 := z2.trans s2'
    have q2 := (rg1.ext x2 t2).same s2
    refine ⟨D, _, _, rfl, rfl, q2.hD, sz1 (by simp only [List.length_map, List.length_append, List.length_cons, List.length_nil]; omega), ?_⟩
    have rg2 := q2.add eu2
    have eB : upd K2b D (.lst (List.map V.ref (ts ++ [u0] ++ [u1]) ++ [.ref u2])) B = some (.lst els1) := by rw [upd_ne nBD]; exact s2 _ _ (ext_lst x2 eB)
    generalize upd K2b D (.lst (List.map V.ref (ts ++ [u0] ++ [u1]) ++ [.ref u2])) = M2 at rg2 eB ⊢
    exact ⟨_, rg2, by simp only [List.length_append, List.length_cons, List.length_nil]; omega, eB, _, rfl⟩
  clear rf0 rf1 eB hB nBD
  rintro σ J2 ⟨ts, rf2, lt, eB, o2, rfl⟩
  have lt : ts.length = 15 := lt
  dsimp only
  refine ⟨_, rfl, by show 2 ≤ sizeLine; decide, fun t ht => ⟨by show 1 ≤ sizeLine; decide, fun B2 hB2 => ⟨B2, 15, _, rfl, rfl, upd_same, by decide, by decide, by show 1 * 15 ≤ sizeLine; decide, fun C hC => ?_⟩⟩⟩
  have z1 := same_new (o := HO.tup [.str "refused", .str "BadName"]) ht
  have z2 := same_new (o := HO.lst [.ref t]) hB2
  have z3 := same_new (o := HO.lst (List.replicate (15 : Int).toNat [V.ref t]).flatten) hC
  have rz := rf2.same ((z1.trans z2).trans z3)
  have dz := rz.dp (K := K)
  rw [lt] at dz
  refine ne_self dz (dp_rep (k := 15) upd_same (z3 _ _ (z2 _ _ upd_same))) (sh_rfs (by decide +kernel) 15) ⟨false, rfl, ?_⟩
  have fw := rz.fw
  generalize upd (upd (upd J2 t (.tup [.str "refused", .str "BadName"])) B2 (.lst [.ref t])) C (.lst (List.replicate (15 : Int).toNat [V.ref t]).flatten) = J3 at fw ⊢
  clear dz rz z1 z2 z3 ht hB2 hC rf2 eB lt hD
  dsimp only
  refine ⟨by show 0 ≤ sizeLine; decide, fun D2 hD2 => ?_⟩
  have rf0 : Rf Tb H _ D2 "BadText" [] := Rf.none fw hD2
  generalize upd J3 D2 (.lst []) = J4 at rf0 ⊢
  refine ⟨"a", 21, rfl, rfl, by unfold MulOk; decide, by show 1 ≤ sizeLine; decide, fun b1 hb1 => ⟨by show 5 ≤ sizeLine; decide, fun B hB => ?_⟩⟩
  have rf1 := (rf0.same (same_new (o := HO.lst [.str "a"]) hb1)).same (same_new (o := HO.lst (els2 b1)) hB)
  have n1D : b1 ≠ D2 := Ne.symm (ne_of_none rf0.hD hb1)
  have nBD : B ≠ D2 := Ne.symm (ne_of_none ((same_new (o := HO.lst [.str "a"]) hb1) _ _ rf0.hD) hB)
  have eb1 : upd (upd J4 b1 (.lst [.str "a"])) B (.lst (els2 b1)) b1 = some (.lst [.str "a"]) := (same_new hB) _ _ upd_same
  have eB : upd (upd J4 b1 (.lst [.str "a"])) B (.lst (els2 b1)) B = some (.lst (els2 b1)) := upd_same
  refine ⟨B, rfl, ⟨_, sqL eB⟩, ?_⟩
  refine for_it (walk_list (xs := els2 b1)) (fun j σ H' => ∃ ts, Rf Tb H H' D2 "BadText" ts ∧ ts.length = j ∧ H' B = some (.lst (els2 b1)) ∧ H' b1 = some (.lst [.str "a"]) ∧ ∃ o2, σ = [some (.ref p), some (.ref D2), o2])
    ⟨[], rf1, rfl, eB, eb1, _, rfl⟩ (fun _ _ _ _ ⟨_, _, _, h, _⟩ => sqL h) ?_ ?_
  · clear rf0 rf1 eB eb1 hB hb1
    rintro j y σ M2' M2 hj ⟨ts, rf2, lt, eB, eb1, o2, rfl⟩ ⟨rfl, hy⟩
    have hj : j < 5 := hj
    obtain ⟨bt, sy, ty⟩ := els2_bad (K := K) (List.mem_of_getElem? hy)
    refine ⟨_, rfl, .inl ⟨rfl, _, sqL rf2.hD⟩, rf2.fw.t, fun Ka x0 t0 => ?_⟩
    have rp0 := r.ext (rf2.fw.ext x0 t0).e
    obtain ⟨dx0, hp0⟩ := id rp0.ins
    refine ⟨_, rfl, p, dx0, _, rfl, hp0, rfl, _, rfl, p, L, S, .str "k", .str "home", y, rfl, rp0, .str _, .str _, ty _ (ext_lst x0 eb1), (by show ("k" : Str).length ≤ 100000; decide +kernel), (by show ("home" : Str).length ≤ 100000; decide +kernel), sy, wf.l30, Nat.le_trans lg (by decide), fun z => ?_, fun _ _ _ Kc z0 => ⟨"BadText", hBT, rfl, rfl, T_word T hBT, fun Kb u s' _ eu => ?_⟩, fun _ _ z => (by rw [bt] at z; cases z), fun k g t _ _ _ _ _ z => (by rw [bt] at z; cases z)⟩
    · exfalso
      rcases z with z | z
      · exact absurd z (by decide +kernel)
      · rw [hm] at z
        cases z
    have s0 := z0.trans s'
    have q0 := (rf2.ext x0 t0).same s0
    refine ⟨D2, _, _, rfl, rfl, q0.hD, sz1 (by rw [List.length_map]; omega), ?_⟩
    refine ⟨ts ++ [u], q0.add eu, by rw [List.length_append, lt]; rfl, by rw [upd_ne nBD]; exact s0 _ _ (ext_lst x0 eB), by rw [upd_ne n1D]; exact s0 _ _ (ext_lst x0 eb1), _, rfl⟩
  clear rf0 rf1 eB eb1 hB hb1 nBD n1D
  rintro σ M2 ⟨ts, rf2, lt, eB, eb1, o2, rfl⟩
  have lt : ts.length = 5 := lt
  refine ⟨_, rfl, by show 2 ≤ sizeLine; decide, fun t ht => ⟨by show 1 ≤ sizeLine; decide, fun B2 hB2 => ⟨B2, 5, _, rfl, rfl, upd_same, by decide, by decide, by show 1 * 5 ≤ sizeLine; decide, fun C hC => ?_⟩⟩⟩
  have z1 := same_new (o := HO.tup [.str "refused", .str "BadText"]) ht
  have z2 := same_new (o := HO.lst [.ref t]) hB2
  have z3 := same_new (o := HO.lst (List.replicate (5 : Int).toNat [V.ref t]).flatten) hC
  have rz := rf2.same ((z1.trans z2).trans z3)
  have dz := rz.dp (K := K)
  rw [lt] at dz
  exact eq_self dz (dp_rep (k := 5) upd_same (z3 _ _ (z2 _ _ upd_same))) (sh_rfs (by decide +kernel) 5) (fin _ rz.fw.e rz.fw.t)
end
end T
end
section
namespace T
open PySem PySem.Spec PyProof.Rows L2 Tr LamX
theorem init_reads {H3 : Hp} {p dx C ra : Addr} {u : HO} (hp : H3 p = none) (hdx : H3 dx = none) (e3 : H3 ra = some u) : upd (upd H3 dx (.own p)) p (.ins C dx []) ra = some u := by
  rw [upd_ne (ne_of_none e3 hp), upd_ne (ne_of_none e3 hdx)]
  exact e3
/-! ### addresses: what stays, what never comes -/
theorem act_roads (S : St) (i : Nat) (q : Cal) (x g : Str) : (actS S i q x g).roads = S.roads := by
  unfold actS
  split
  · rfl
  · split
    · rfl
    · split
      · rfl
      · unfold answerS failS
        split
        · split <;> rfl
        · rfl
theorem roads_do {S : St} (l30 : S.calls.length ≤ 30) (D : Deed) : (doS S D).1.roads = S.roads ∨ ∃ a b, (doS S D).1.roads = putT S.roads a b ∧ ((getT S.roads a).isSome = true ∨ D = .add a) := by
  cases D with
  | send k g t =>
    refine .inl ?_
    show (sendR S k g t).1.roads = _
    unfold sendR
    split
    · split <;> rfl
    · rfl
  | try_ =>
    refine .inl ?_
    show (tryR S).1.roads = _
    unfold tryR
    split
    · rfl
    · split <;> rfl
  | hand x n g =>
    refine .inl ?_
    show (handS S x n g).1.roads = _
    unfold handS
    split
    · split
      · split
        · rfl
        · split
          · exact act_roads _ _ _ _ _
          · rfl
      · rfl
    · rfl
  | tick n => exact .inl (keeps_tickN l30 n).1.roads
  | lead a b =>
    by_cases h : (getT S.roads a).isSome = true ∧ (getT S.roads b).isSome = true ∧ leadOk S.roads a b
    · refine .inr ⟨a, b, ?_, .inl h.1⟩
      show (leadS S a b).1.roads = _
      rw [leadS_yes h]
    · refine .inl ?_
      show (leadS S a b).1.roads = _
      rw [leadS_no h]
  | add a =>
    by_cases h : (getT S.roads a).isSome = true ∨ S.roads.length = 5
    · refine .inl ?_
      show (addR S a).1.roads = _
      unfold addR
      rw [if_pos h]
    · refine .inr ⟨a, a, ?_, .inr rfl⟩
      show (addR S a).1.roads = _
      unfold addR
      rw [if_neg h]
theorem home_do {S : St} (l30 : S.calls.length ≤ 30) {D : Deed} {x : Str} (h : (getT S.roads x).isSome = true) : (getT (doS S D).1.roads x).isSome = true := by
  rcases roads_do l30 D with e | ⟨a, b, e, _⟩
  · rw [e]
    exact h
  · rw [e]
    exact put_in h
theorem zz_do {S : St} (l30 : S.calls.length ≤ 30) {D : Deed} {x : Str} (h : (getT S.roads x).isSome = false) (n : ∀ a, D = .add a → a ≠ x) : (getT (doS S D).1.roads x).isSome = false := by
  rcases roads_do l30 D with e | ⟨a, b, e, c⟩
  · rw [e]
    exact h
  · have ne : a ≠ x := by
      rcases c with c | c
      · intro z
        rw [z, h] at c
        cases c
      · exact n a c
    rw [e, getT_put]
    split
    · rename_i z
      exact absurd z.symm (by first | exact ne | exact fun w => ne w.symm)
    · exact h
end T
end
section
namespace T
open PySem PySem.Spec PyProof.Rows L2 Tr LamX
abbrev lawQ : Str := (("law" : Str) ++ (".<locals>." : Str)) ++ ("<lambda>" : Str)
abbrev tb24 (P1 P2 P3 P4 : Addr) : List (Addr × Str) := [(P1, doesQ), (P2, numQ), (P3, sentQ), (P4, lawQ)]
abbrev rAddI : R2 := fun x y H Q => ∃ i k, x = .int i ∧ y = .int k ∧ Q (.int (i + k)) H
abbrev rMulS : R2 := fun x y H Q => ∃ (a : Str) (n : Int), x = .str a ∧ y = .int n ∧ MulOk a n ∧ Q (.str (Txt.mul a n)) H
abbrev els3 (b : Addr) : List V := [.str "ok", .str "", .non, .int 5, .ref b]
theorem els3_bad {K : PySem.W.Frag} {b : Addr} {y : V} (h : y ∈ els3 b) : isWord y = false ∧ ∀ H : Hp, H b = some (.lst [.str "good"]) → Thing K H y := by
  simp only [els3, List.mem_cons, List.not_mem_nil, or_false] at h
  rcases h with rfl | rfl | rfl | rfl | rfl
  · exact ⟨by decide, fun _ _ => .str _⟩
  · exact ⟨by decide, fun _ _ => .str _⟩
  · exact ⟨rfl, fun _ _ => .non⟩
  · exact ⟨rfl, fun _ _ => .int _⟩
  · exact ⟨rfl, fun _ e => .lst e⟩
structure Four (P1 P2 P3 P4 : Addr) : Prop where
  a : P1 ≠ P2
  b : P1 ≠ P3
  c : P1 ≠ P4
  d : P2 ≠ P3
  e : P2 ≠ P4
  f : P3 ≠ P4
theorem uq_of {P1 P2 P3 P4 : Addr} (n : Four P1 P2 P3 P4) : (∀ p ∈ tb24 P1 P2 P3 P4, p.1 = P1 → p.2 = doesQ) ∧ (∀ p ∈ tb24 P1 P2 P3 P4, p.1 = P2 → p.2 = numQ) ∧ (∀ p ∈ tb24 P1 P2 P3 P4, p.1 = P3 → p.2 = sentQ) ∧ ∀ p ∈ tb24 P1 P2 P3 P4, p.1 = P4 → p.2 = lawQ := by
  obtain ⟨a, b, c, d, e, f⟩ := n
  refine ⟨fun p hp z => ?_, fun p hp z => ?_, fun p hp z => ?_, fun p hp z => ?_⟩ <;>
    (simp only [tb24, List.mem_cons, List.not_mem_nil, or_false] at hp; rcases hp with rfl | rfl | rfl | rfl)
  · rfl
  · exact absurd z.symm a
  · exact absurd z.symm b
  · exact absurd z.symm c
  · exact absurd z a
  · rfl
  · exact absurd z.symm d
  · exact absurd z.symm e
  · exact absurd z b
  · exact absurd z d
  · rfl
  · exact absurd z.symm f
  · exact absurd z c
  · exact absurd z e
  · exact absurd z f
  · rfl
section
variable {P : Program} {w : World} {K : PySem.W.Frag} {mg : Str → Option Value} {base : Heap}
def spLaw (K : PySem.W.Frag) (Tb : List (Addr × Str)) : Sp := fun vs H Q _ => ∃ (a : Addr) (ns : List Int), vs = [.ref a] ∧ SqL K H a (ns.map V.int) ∧ ns.length ≤ 63 ∧ Tabs Tb H ∧ ∀ H', Q (.bl true) H'
theorem law_ok (T : Txt K mg) {es : Array DictEntry} {en : Nat} (KD : TrK.KD K w (He.ga K "WORDS_papers") signL es en)
    {c1 P1 : Addr} {fd1 : FuncData} (F1 : FunD K "_law_does" "_law_does" (defArgs s_l_does) (defBody s_l_does) (defScope s_l_does) [] [] (He.ga K "_law_does") fd1) (hc1 : fd1.code = .ref c1) (TB1 : TabB base mg c1 P1)
    {c2 P2 : Addr} {fd2 : FuncData} (F2 : FunD K "_law_numbers_right" "_law_numbers_right" (defArgs s_l_numbers_right) (defBody s_l_numbers_right) (defScope s_l_numbers_right) [] [] (He.ga K "_law_numbers_right") fd2) (hc2 : fd2.code = .ref c2) (TB2 : TabB base mg c2 P2)
    {c3 P3 : Addr} {fd3 : FuncData} (F3 : FunD K "_law_sent_right" "_law_sent_right" (defArgs s_l_sent_right) (defBody s_l_sent_right) (defScope s_l_sent_right) [] [] (He.ga K "_law_sent_right") fd3) (hc3 : fd3.code = .ref c3) (TB3 : TabB base mg c3 P3)
    {c4 P4 : Addr} {fd : FuncData} (F : FunD K "law" "law" (defArgs s_law) (defBody s_law) (defScope s_law) [] [] (He.ga K "law") fd) (hc4 : fd.code = .ref c4) (TB4 : TabB base mg c4 P4) (nP : Four P1 P2 P3 P4) : FnOk P w K mg base (NX P w) 10 (He.ga K "law") fd ["_law_script"] (spLaw K (tb24 P1 P2 P3 P4)) := by
  obtain ⟨oc, od, dV, kV, doc, pm, an, cdv, ct, osl, rfl, lk, hcd, _, _⟩ := id F.ex
  obtain rfl : cdv = .ref c4 := hc4
  refine fn_of lk hcd sc_law (fun vs H Q E ⟨a, ns, e, _⟩ => by rw [e] <;> rfl) fun A outer s H vs Q E hr ⟨a, ns, e, hS, hl, hT, q⟩ => ?_
  subst e
  have nd := sc_law.nd
  have hu := hu_of hr
  have mem1 : (P1, doesQ) ∈ tb24 P1 P2 P3 P4 := List.mem_cons_self
  have mem2 : (P2, numQ) ∈ tb24 P1 P2 P3 P4 := List.mem_cons_of_mem _ List.mem_cons_self
  have mem3 : (P3, sentQ) ∈ tb24 P1 P2 P3 P4 := List.mem_cons_of_mem _ (List.mem_cons_of_mem _ List.mem_cons_self)
  have mem4 : (P4, lawQ) ∈ tb24 P1 P2 P3 P4 := List.mem_cons_of_mem _ (List.mem_cons_of_mem _ (List.mem_cons_of_mem _ List.mem_cons_self))
  obtain ⟨uq1, uq2, uq3, uq4⟩ := uq_of nP
  have kdoes := k_l_does (P := P) (w := w) (base := base) T F1 hc1 TB1 mem1 uq1
  have knum := k_l_numbers_right (P := P) (w := w) (base := base) T F2 hc2 TB2 mem2 uq2
  have ksent := k_l_sent_right (P := P) (w := w) (base := base) T F3 hc3 TB3 mem3 uq3
  have kwr := k_written (P := P) (base := base) T KD
  have hBC : ("BadCall" : Str) ∈ cls := by decide
  have hBN : ("BadName" : Str) ∈ cls := by decide
  have hBT : ("BadTime" : Str) ∈ cls := by decide
  have hBR : ("BadRule" : Str) ∈ cls := by decide
  refine ⟨_, pss_cons (ps_for (by exact passes_of rfl) rfl (pi_range1 (by rfl) T.n_range (pa_cons (b_max2 rfl T.n_max (pa_cons pe_int (pa_cons (b_min2 rfl T.n_min (pa_cons pe_int (pa_cons (b_len T.n_len (pa_cons (pv 0) pa_nil)) pa_nil))) pa_nil))) pa_nil))
      (pg_name (i := 1) nd rfl (Or.inl rfl))
      (pss_cons (ps_set (i := 2) nd rfl (Or.inl rfl) (pe_k (E := E0) (k_l_drawn T) hr (by decide) pass0 (pa_cons (pe_k (E := E0) (k_l_cell T) hr (by decide) pass0 (pa_cons (pv 0) (pa_cons (pv 1) pa_nil))) (pa_cons (pv 1) pa_nil))))
      (pss_cons (ps_set (i := 3) nd rfl (Or.inl rfl) (pe_k (E := E0) (k_l_rule T) hr (by decide) pass0 (pa_cons (pe_op op_fdiv (pv 2) pe_int) pa_nil)))
      (pss_cons (ps_asg (pe_tup (pa_cons (pe_n (E := E0) (n_Caller T) hr (by decide) passN0 (pa_cons (pv 3) pa_nil)) (pa_cons (pe_k (E := E0) (k_l_own T) hr (by decide) pass0 (pa_cons (pv 3) pa_nil)) pa_nil))) (pg_tup rfl (pgs_cons (pg_name (i := 4) nd rfl (Or.inr rfl)) (pgs_cons (pg_name (i := 5) nd rfl (Or.inl rfl)) pgs_nil))))
      (pss_cons (ps_expr (pe_m (E := E0) (m_add_address T) hr (by decide) passN0 (pv 4) (pa_cons pe_str pa_nil)))
      (pss_cons (ps_dput hu (pe_dget hu (pv 5) pe_str (fun _ _ => rfl)) pe_str pe_str rfl)
      (pss_cons (ps_for (by exact passes_of rfl) rfl (pi_range1 (by rfl) T.n_range (pa_cons (pe_op op_mod (pv 2) pe_int) pa_nil)) (pg_name (i := 6) nd rfl (Or.inl rfl))
      (pss_cons (ps_set (i := 7) nd rfl (Or.inl rfl) (pe_k (E := E0) (k_l_deed T) hr (by decide) pass0 (pa_cons (pe_k (E := E0) (k_l_drawn T) hr (by decide) pass0 (pa_cons (pv 2) (pa_cons (pe_op op_add pe_int (pv 6)) pa_nil))) (pa_cons (pv 5) pa_nil))))
      (pss_cons (ps_expr (pe_k (E := E0) (k_l_own_does T) hr (by decide) pass0 (pa_cons (pv 5) (pa_cons (pv 7) pa_nil))))
      (pss_one (ps_expr (pe_k (E := E0) kdoes hr (by decide) passN0 (pa_cons (pv 4) (pa_cons (pv 7) pa_nil))))))))
      (pss_cons (ps_par (i := 8) (j := 9) (by rfl) nd rfl rfl (by decide) rfl rfl (pa_cons (pe_k (E := E0) kwr hr (by decide) passN0 (pa_cons (pv 4) pa_nil)) (pa_cons (pe_m0 (E := E0) (m_log T) hr (by decide) pass0 (pv 4)) pa_nil)) (by rfl))
      (pss_cons (ps_set (i := 10) nd rfl (Or.inl rfl) (b_len T.n_len (pa_cons (pe_dget hu (pv 5) pe_str (fun _ _ => rfl)) pa_nil)))
      (pss_cons (ps_for (by exact passes_of rfl) rfl (pi_list (pe_lst (pa_cons pe_int (pa_cons (pe_op op_add (pv 10) pe_int) (pa_cons (pe_un un_neg pe_int) (pa_cons pe_non (pa_cons pe_bl (pa_cons pe_str pa_nil)))))))) (pg_name (i := 11) nd rfl (Or.inr rfl))
      (pss_one (ps_if (pt_not (pt_val (pe_k (E := E0) knum hr (by decide) passN0 (pa_cons (pv 4) (pa_cons (pv 11) pa_nil))))) (pss_one (ps_ret pe_bl)) pss_nil)))
      (pss_cons (ps_for (by exact passes_of rfl) rfl (pi_list (pe_lst (pa_cons (pe_un un_neg pe_int) (pa_cons pe_int (pa_cons pe_non (pa_cons pe_bl (pa_cons pe_str pa_nil))))))) (pg_name (i := 11) nd rfl (Or.inr rfl))
      (pss_one (ps_if (pt_cmpR (op_neD hr.units) (pe_told (k := 6) (t := fun E => tM (He.ga K "Caller") "tick" (spTick K) E (tVar 4) (tCons (tVar 11) tNil)) T TB4 rfl mem4 uq4 (hr.mono (by decide)) (fun _ _ _ _ _ _ _ hr2 => pe_m (m_tick T) hr2 (by decide) TrL.lamC_pass (pv 4) (pa_cons (pv 11) pa_nil))) (pe_tup (pa_cons pe_str (pa_cons pe_str pa_nil))) (nomark _)) (pss_one (ps_ret pe_bl)) pss_nil)))
      (pss_cons (ps_if (pt_not (pt_val (pe_k (E := E0) ksent hr (by decide) passN0 (pa_cons (pv 4) pa_nil)))) (pss_one (ps_ret pe_bl)) pss_nil)
      (pss_cons (ps_for (by exact passes_of rfl) rfl (pi_enum (by rfl) T.n_enumerate (pa_cons (pe_dget hu (pv 5) pe_str (fun _ _ => rfl)) pa_nil)) (pg_tup rfl (pgs_cons (pg_name (i := 12) nd rfl (Or.inr rfl)) (pgs_cons (pg_name (i := 13) nd rfl (Or.inl rfl)) pgs_nil)))
      (pss_cons (ps_set (i := 14) nd rfl (Or.inl rfl) (pe_lst pa_nil))
      (pss_cons (ps_for (by exact passes_of rfl) rfl (pi_list (pe_lst (pa_cons pe_str (pa_cons pe_str (pa_cons pe_non (pa_cons pe_int (pa_cons (pe_lst (pa_cons pe_str pa_nil)) pa_nil))))))) (pg_name (i := 11) nd rfl (Or.inr rfl))
      (pss_one (ps_expr (pe_bm PySem.F.plainAttrs_list PySem.F.slot_list_append PySem.F.type_list_append mt_append (pv 14) (pa_cons (pe_told (k := 6) (t := fun E => tM (He.ga K "Caller") "answer" (spAnswer K) E (tVar 4) (tCons (tOp rAddI (tVar 12) (tC (.int 1))) (tCons (tVar 11) tNil))) T TB4 rfl mem4 uq4 (hr.mono (by decide)) (fun _ _ _ _ _ _ _ hr2 => pe_m (m_answer T) hr2 (by decide) TrL.lamC_pass (pv 4) (pa_cons (pe_op op_add (pv 12) pe_int) (pa_cons (pv 11) pa_nil)))) pa_nil)))))
      (pss_cons (ps_if (pt_cmpR (op_neD hr.units) (pv 14) (pe_op op_rep (pe_lst (pa_cons (pe_tup (pa_cons pe_str (pa_cons pe_str pa_nil))) pa_nil)) pe_int) (nomark _)) (pss_one (ps_ret pe_bl)) pss_nil)
      (pss_one (ps_if (pt_cmpR (op_neD hr.units) (pe_told (k := 6) (t := fun E => tM (He.ga K "Caller") "change" (spChange K) E (tVar 4) (tCons (tOp rAddI (tVar 12) (tC (.int 1))) (tCons (tC (.str "zz")) tNil))) T TB4 rfl mem4 uq4 (hr.mono (by decide)) (fun _ _ _ _ _ _ _ hr2 => pe_m (m_change T) hr2 (by decide) TrL.lamC_pass (pv 4) (pa_cons (pe_op op_add (pv 12) pe_int) (pa_cons pe_str pa_nil)))) (pe_tup (pa_cons pe_str (pa_cons pe_str pa_nil))) (nomark _)) (pss_one (ps_ret pe_bl)) pss_nil))))))
      (pss_cons (ps_if (PW.pt (pw_or (pt_cmpR op_ne (pe_k (E := E0) kwr hr (by decide) passN0 (pa_cons (pv 4) pa_nil)) (pv 8) (nomark _)) (pw_or1 (pt_cmpR (op_neD hr.units) (pe_m0 (E := E0) (m_log T) hr (by decide) pass0 (pv 4)) (pv 9) (nomark _))))) (pss_one (ps_ret pe_bl)) pss_nil)
      (pss_cons (ps_if (PW.pt (pw_and (pt_cmpR op_lt (pv 10) pe_int (nomark _)) (pw_and1 (pt_cmpR (op_neD hr.units) (pe_told (k := 6) (t := fun E => tM (He.ga K "Caller") "send" (spSend K) E (tVar 4) (tCons (tC (.str "abcd")) (tCons (tC (.str "home")) (tCons (tOp rMulS (tC (.str "~")) (tC (.int 20))) tNil)))) T TB4 rfl mem4 uq4 (hr.mono (by decide)) (fun _ _ _ _ _ _ _ hr2 => pe_m (m_send T) hr2 (by decide) TrL.lamC_pass (pv 4) (pa_cons pe_str (pa_cons pe_str (pa_cons (pe_op op_mulS pe_str pe_int) pa_nil))))) (pe_op op_add (pv 10) pe_int) (nomark _))))) (pss_one (ps_ret pe_bl)) pss_nil)
      (pss_one (ps_for (by exact passes_of rfl) rfl (pi_list (pe_lst (pa_cons pe_non (pa_cons (pe_tup (pa_cons pe_int (pa_cons pe_int (pa_cons pe_int (pa_cons pe_int (pa_cons pe_int pa_nil)))))) (pa_cons (pe_tup (pa_cons pe_int (pa_cons pe_int (pa_cons pe_int (pa_cons pe_int (pa_cons pe_int (pa_cons pe_int pa_nil))))))) pa_nil))))) (pg_name (i := 11) nd rfl (Or.inr rfl))
      (pss_one (ps_if (pt_cmpR (op_neD hr.units) (pe_told (k := 6) (t := fun E => tN (He.ga K "Caller") (spInit K) E (tCons (tVar 11) tNil)) T TB4 rfl mem4 uq4 (hr.mono (by decide)) (fun _ _ _ _ _ _ _ hr2 => pe_n (n_Caller T) hr2 (by decide) TrL.lamC_pass (pa_cons (pv 11) pa_nil))) (pe_tup (pa_cons pe_str (pa_cons pe_str pa_nil))) (nomark _)) (pss_one (ps_ret pe_bl)) pss_nil)))))))))))))))))))
    (pss_one (ps_ret pe_bl)), ?_⟩
  refine r_seq ⟨_, rfl, _, _, rfl, .inl ⟨_, hS, rfl⟩, _, _, rfl, _, _, rfl, _, rfl, by omega, by omega, ?_⟩
  refine for_it walk_range (fun i σ H' => Fw (tb24 P1 P2 P3 P4) H H' ∧ ∃ o1 o2 o3 o4 o5 o6 o7 o8 o9 o10 o11 o12 o13 o14, σ = [some (.ref a), o1, o2, o3, o4, o5, o6, o7, o8, o9, o10, o11, o12, o13, o14]) ⟨Fw.refl hT, _, _, _, _, _, _, _, _, _, _, _, _, _, _, rfl⟩ (fun _ _ _ _ _ => trivial) ?_ ?_
  · rintro i x σ H1 H1' hi ⟨f1, o1, o2, o3, o4, o5, o6, o7, o8, o9, o10, o11, o12, o13, o14, rfl⟩ ⟨rfl, rfl⟩
    refine ⟨_, rfl, _, rfl, a, ns, _, rfl, ext_l f1.e hS, hl, by omega, by omega, fun cl H2 s2 => ⟨_, rfl, cl, _, rfl, by omega, by omega, fun d d0 d1 => ?_⟩⟩
    refine ⟨_, rfl, _, _, rfl, rfl, ⟨by decide, by decide⟩, _, rfl, fun r ra H3 ok s3 _ e3 => ?_⟩
    have f3 := (f1.same s2).same s3
    refine ⟨_, rfl, fun p dx hp hdx hne => ⟨p, dx, .ref ra, true, rfl, upd_same, rule_is ok (init_reads hp hdx e3), fun z => Bool.noConfusion z, fun _ => ⟨ra, r, rfl, init_reads hp hdx e3, fun H4 L rp4 fr4 nw4 => ⟨rfl, ?_⟩⟩⟩⟩
    have e4 : H4 ra = some (.tup r.vs) := fr4 _ _ (init_reads hp hdx e3) (ne_of_none e3 hp)
    refine ⟨_, rfl, ra, r, rfl, e4, fun H5 o M ro5 s5 hn5 => ⟨by show 2 ≤ sizeLine; decide, fun t ht => ⟨_, _, rfl, sqT upd_same, rfl, _, _, rfl, _, _, rfl, rfl, ?_⟩⟩⟩
    obtain ⟨lx5, _⟩ := LX.new f3 hp hdx hne rp4 fr4 nw4 ro5 s5 hn5
    have lx6 := lx5.same (same_new (o := HO.tup [.ref p, .ref o]) ht)
    generalize upd H5 t (.tup [.ref p, .ref o]) = H6 at lx6 ⊢
    have g0 := good_new ok
    clear lx5 ht ro5 s5 hn5 e4 rp4 fr4 nw4 hp hdx hne f3 e3 s3 s2
    dsimp only
    -- home
    obtain ⟨dx6, hp6⟩ := id lx6.rp.ins
    have nm : nameOk "home" = true := by decide +kernel
    refine r_seq ⟨_, rfl, p, dx6, _, rfl, hp6, rfl, p, L, _, .str "home", rfl, lx6.rp, .str _, name_short nm, by show 0 ≤ 5; decide, fun z => ?_, fun b eb _ _ _ H7 rp7 st7 => ?_⟩
    · exfalso
      rcases z with z | z | z
      · exact absurd z (by decide +kernel)
      · have z : inRoads ⟨r, 0, [], [], []⟩ (.str "home") = true := z
        rw [Wf.inS nm] at z
        cases z
      · exact absurd (show (0 : Nat) = 5 from z) (by decide)
    cases eb
    have lx7 := lx6.step st7 rp7
    refine r_seq ⟨_, rfl, o, _, rfl, lx7.ro.fld rfl, M.dr, _, rfl, DPut.k (k := Sum.inr "home") lx7.ro.hdr (by show 0 < sizeLine; decide), ?_⟩
    have lx8 := lx7.ostep (ostep_road (Same.refl _)) (lx7.ro.road "home" "home")
    have gA : Good ⟨r, 0, putT [] "home" "home", [], []⟩ := by
      have z := (led_add g0 (a := "home") nm).good
      unfold addR at z
      rw [if_neg fun y => by
        rcases y with y | y
        · cases y
        · exact absurd (show (0 : Nat) = 5 from y) (by decide)] at z
      exact z
    have wr0 : Wr5 (4000 * ((0 : Nat) : Int)) ⟨r, 0, putT [] "home" "home", [], []⟩ := ⟨⟨Int.le_refl _, Int.le_refl _⟩, fun q hq => by cases hq⟩
    show tSeq _ _ _ _ (upd H7 M.dr (.dK (kvT (putT [] "home" "home"))))
    generalize upd H7 M.dr (.dK (kvT (putT [] "home" "home"))) = H8 at lx8 ⊢
    clear lx6 lx7 hp6 rp7 st7 g0
    -- the deeds
    have n0 := Int.emod_nonneg d (show (41 : Int) ≠ 0 by decide)
    have n41 := Int.emod_lt_of_pos d (show (0 : Int) < 41 by decide)
    refine r_seq ⟨_, rfl, _, _, rfl, rfl, (by show (0 : Int) < 41; decide), _, rfl, by omega, by omega, ?_⟩
    refine for_it (walk_range (lo := 0) (n := (d % 41).toNat)) (fun j σ H' => ∃ L M S, LX K (tb24 P1 P2 P3 P4) H H' p L o M S S ∧ Good S ∧ Wr5 (4000 * (j : Int)) S ∧ S.log.length ≤ 3000 * j ∧ (getT S.roads "home").isSome = true ∧ (getT S.roads "zz").isSome = false ∧ ∃ o6 o7, σ = [some (.ref a), some (.int (0 + (i : Nat))), some (.int d), some (.ref ra), some (.ref p), some (.ref o), o6, o7, o8, o9, o10, o11, o12, o13, o14])
      ⟨_, M, _, lx8, gA, wr0, Nat.le_refl _, rfl, rfl, _, _, rfl⟩ (fun _ _ _ _ _ => trivial) ?_ ?_
    · clear lx8 gA wr0
      rintro j y σ H9' H9 hj ⟨L, M, S, lx9, g9, w9, lg9, hm9, zz9, o6, o7, rfl⟩ ⟨rfl, rfl⟩
      have hj : j < 41 := by omega
      refine ⟨_, rfl, _, rfl, _, _, rfl, rfl, d, _, rfl, by omega, by omega, fun d2 _ _ => ⟨_, rfl, d2, o, M, S, rfl, lx9.ro, g9.wf.l30, fun D t H10 okD nzD s10 et => ?_⟩⟩
      have lx10 := lx9.same s10
      refine ⟨_, rfl, _, rfl, o, M, S, t, D, rfl, lx10.ro, g9.wf, g9.sane, by omega, et, okD, fun H11 M11 v1 r11 st11 _ => ?_⟩
      have et11 := st11.tups lx10.ro _ _ et
      have lx11 := lx10.ostep st11 r11
      refine ⟨_, rfl, _, rfl, p, L, S, t, D, rfl, lx11.rp, g9.wf, by omega, et11, okD, lx11.fw.t, fun H12 H13 L13 v2 x12 t12 r13 st13 _ => ?_⟩
      have lx13 := (lx11.ext x12 t12).step st13 r13
      have ld := led_do g9 okD
      refine ⟨L13, M11, _, lx13, ld.good, (wr_do w9 g9 okD).mono (by omega), by have := ld.log; omega, home_do g9.wf.l30 hm9, zz_do g9.wf.l30 zz9 (fun a e => ?_), _, _, rfl⟩
      intro z
      have hs := nzD a e
      rw [z] at hs
      exact absurd hs (by decide +kernel)
    clear lx8 gA wr0
    rintro σ H9 ⟨L, M, S, lx9, g9, w9, lg9, hm9, zz9, o6, o7, rfl⟩
    have lgS : S.log.length ≤ 200000 := by omega
    have wb : 4000 * (((d % 41).toNat : Nat) : Int) < 900000000 := by omega
    generalize 4000 * (((d % 41).toNat : Nat) : Int) = bd at w9 wb
    clear lg9
    -- as it is
    obtain ⟨dx9, hp9⟩ := id lx9.rp.ins
    refine r_seq ⟨_, rfl, p, L, S, bd, rfl, lx9.rp, g9.wf, w9, wb, fun H10 tx s10 wo => ⟨_, rfl, p, dx9, _, rfl, s10 _ _ hp9, rfl, p, L, S, rfl, lx9.rp.same s10, fun H11 lgB s11 _ elg => ⟨_, _, rfl, ?_⟩⟩⟩
    have lx11 := (lx9.same s10).same s11
    clear lx9 s10 s11 hp9
    dsimp only
    have lc : (M.cs.map V.ref).length = S.calls.length := by rw [List.length_map, lx11.ro.cl]
    refine r_seq ⟨_, rfl, o, _, rfl, lx11.ro.fld rfl, _, _, rfl, .inl ⟨_, sqL lx11.ro.hlc, rfl⟩, ?_⟩
    dsimp only
    rw [lc]
    have l30 := g9.wf.l30
    have wf := g9.wf
    have lg9 : S.log.length ≤ 9000000 := by omega
    have fb := lx11.fw
    have rb := lx11.rp
    -- numbers that are none
    refine r_seq ⟨_, rfl, _, _, rfl, rfl, _, rfl, by show 6 ≤ sizeLine; decide, fun B hB => ?_⟩
    have eB : upd H11 B (.lst [.int 0, .int ((S.calls.length : Int) + 1), .int (-1), .non, .bl true, .str "1"]) B = some (.lst [.int 0, .int ((S.calls.length : Int) + 1), .int (-1), .non, .bl true, .str "1"]) := upd_same
    have fB := (Fw.refl (Tb := tb24 P1 P2 P3 P4) fb.t).new (o := .lst [.int 0, .int ((S.calls.length : Int) + 1), .int (-1), .non, .bl true, .str "1"]) hB
    generalize upd H11 B (.lst [.int 0, .int ((S.calls.length : Int) + 1), .int (-1), .non, .bl true, .str "1"]) = H12 at eB fB ⊢
    refine ⟨B, rfl, ⟨_, sqL eB⟩, ?_⟩
    refine for_it (walk_list (xs := [V.int 0, .int ((S.calls.length : Int) + 1), .int (-1), .non, .bl true, .str "1"])) (fun j σ H' => Fw (tb24 P1 P2 P3 P4) H11 H' ∧ H' B = some (.lst [.int 0, .int ((S.calls.length : Int) + 1), .int (-1), .non, .bl true, .str "1"]) ∧ ∃ o11, σ = [some (.ref a), some (.int (0 + (i : Nat))), some (.int d), some (.ref ra), some (.ref p), some (.ref o), o6, o7, some (.str tx), some (.ref lgB), some (.int (S.calls.length : Int)), o11, o12, o13, o14])
      ⟨fB, eB, _, rfl⟩ (fun _ _ _ _ h => sqL h.2.1) ?_ ?_
    · clear eB fB hB
      rintro j y σ K1' K1 hj ⟨f, eB, o11, rfl⟩ ⟨rfl, hy⟩
      have hy := List.mem_of_getElem? hy
      have ix : isC y 1 (S.calls.length : Int) = false := by
        simp only [List.mem_cons, List.not_mem_nil, or_false] at hy
        rcases hy with rfl | rfl | rfl | rfl | rfl | rfl
        · rfl
        · simp [isC]
          omega
        · rfl
        · rfl
        · rfl
        · rfl
      have ty : ∀ H, Thing K H y := fun H => by
        simp only [List.mem_cons, List.not_mem_nil, or_false] at hy
        rcases hy with rfl | rfl | rfl | rfl | rfl | rfl
        · exact .int _
        · exact .int _
        · exact .int _
        · exact .non
        · exact .bl _
        · exact .str _
      exact ⟨_, rfl, _, rfl, p, L, S, y, rfl, rb.ext f.e, wf, lg9, ty, ix, f.t, fun K2 e2 t2 => ⟨_, rfl, f.ext e2 t2, ext_lst e2 eB, _, rfl⟩⟩
    clear eB fB hB
    rintro σ K1 ⟨f, _, o11, rfl⟩
    dsimp only
    -- times that are none
    refine r_seq ⟨_, rfl, by show 5 ≤ sizeLine; decide, fun B hB => ?_⟩
    have eB : upd K1 B (.lst [.int (-1), .int 101, .non, .bl true, .str "1"]) B = some (.lst [.int (-1), .int 101, .non, .bl true, .str "1"]) := upd_same
    have fB := f.new (o := .lst [.int (-1), .int 101, .non, .bl true, .str "1"]) hB
    generalize upd K1 B (.lst [V.int (-1), .int 101, .non, .bl true, .str "1"]) = K2 at eB fB ⊢
    refine ⟨B, rfl, ⟨_, sqL eB⟩, ?_⟩
    refine for_it (walk_list (xs := [V.int (-1), .int 101, .non, .bl true, .str "1"])) (fun j σ H' => Fw (tb24 P1 P2 P3 P4) H11 H' ∧ H' B = some (.lst [V.int (-1), .int 101, .non, .bl true, .str "1"]) ∧ ∃ o11, σ = [some (.ref a), some (.int (0 + (i : Nat))), some (.int d), some (.ref ra), some (.ref p), some (.ref o), o6, o7, some (.str tx), some (.ref lgB), some (.int (S.calls.length : Int)), o11, o12, o13, o14])
      ⟨fB, eB, _, rfl⟩ (fun _ _ _ _ h => sqL h.2.1) ?_ ?_
    · clear eB fB hB f
      rintro j y σ K3' K3 hj ⟨f, eB, o11, rfl⟩ ⟨rfl, hy⟩
      have hy := List.mem_of_getElem? hy
      have ix : isC y 0 100 = false := by
        simp only [List.mem_cons, List.not_mem_nil, or_false] at hy
        rcases hy with rfl | rfl | rfl | rfl | rfl <;> rfl
      have ty : ∀ H, Thing K H y := fun H => by
        simp only [List.mem_cons, List.not_mem_nil, or_false] at hy
        rcases hy with rfl | rfl | rfl | rfl | rfl
        · exact .int _
        · exact .int _
        · exact .non
        · exact .bl _
        · exact .str _
      refine ⟨f.t, fun K4 x4 t4 => ?_⟩
      have f4 := f.ext x4 t4
      have rp4 := rb.ext f4.e
      obtain ⟨dx4, hp4⟩ := id rp4.ins
      refine ⟨_, rfl, p, dx4, _, rfl, hp4, rfl, _, rfl, p, L, S, y, rfl, rp4, wf, lg9, ty _, fun _ => ⟨"BadTime", hBT, rfl, rfl, T_word T hBT, fun K5 u s5 _ eu => ?_⟩, fun n en hn => ?_⟩
      · refine ⟨by show 2 ≤ sizeLine; decide, fun t2 ht2 => ne_self (dp_rf ((same_new ht2) _ _ eu)) (dp_rf upd_same) (sh_rf (by decide +kernel)) ⟨false, rfl, ?_⟩⟩
        exact ⟨(f4.same s5).new ht2, (same_new ht2) _ _ (s5 _ _ (ext_lst x4 eB)), _, rfl⟩
      · exfalso
        rw [en] at ix
        simp [isC] at ix
        omega
    clear eB fB hB f
    rintro σ K3 ⟨f, _, o11, rfl⟩
    dsimp only
    -- what can't be sent
    have hmI : inRoads S (.str "home") = true := by rw [Wf.inS nm]; exact hm9
    have zzI : inRoads S (.str "zz") = false := by
      show (nameOk "zz" && (getT S.roads "zz").isSome) = false
      rw [zz9, Bool.and_false]
    refine r_seq ⟨_, rfl, p, L, S, rfl, rb.ext f.e, wf, lg9, hmI, f.t, fun K4 e4 t4 => ⟨_, rfl, r_no (r_next ?_)⟩⟩
    replace f := f.ext e4 t4
    clear e4 t4
    dsimp only
    -- answers that are none
    have ro4 := lx11.ro.ext f.e
    refine r_seq ⟨_, rfl, o, _, rfl, ro4.fld rfl, _, _, rfl, sqL ro4.hlc, ?_⟩
    refine for_it (walk_enum (xs := M.cs.map V.ref)) (fun j σ H' => Fw (tb24 P1 P2 P3 P4) H11 H' ∧ ∃ o11 o12 o13 o14, σ = [some (.ref a), some (.int (0 + (i : Nat))), some (.int d), some (.ref ra), some (.ref p), some (.ref o), o6, o7, some (.str tx), some (.ref lgB), some (.int (S.calls.length : Int)), o11, o12, o13, o14])
      ⟨f, _, _, _, _, rfl⟩ (fun _ _ _ _ h => sqL (ext_lst h.1.e lx11.ro.hlc)) ?_ ?_
    · clear f ro4
      rintro j y σ K5' K5 hj ⟨f, o11, o12, o13, o14, rfl⟩ ⟨T1, u, v, rfl, hT1, rfl, hu1, hv1⟩
      have hj : j < S.calls.length := by rw [lc] at hj; exact hj
      have hu1 : some (V.int (j : Int)) = some u := hu1
      cases hu1
      have f6 := f.new (o := .tup [.int (j : Nat), v]) hT1
      have eT : upd K5' T1 (.tup [.int (j : Nat), v]) T1 = some (.tup [.int (j : Nat), v]) := upd_same
      generalize upd K5' T1 (.tup [.int (j : Nat), v]) = K6 at f6 eT ⊢
      have eT : K6 T1 = some (.tup [.int (j : Nat), v]) := eT
      refine ⟨_, _, rfl, sqT eT, rfl, _, _, rfl, _, _, rfl, rfl, ?_⟩
      dsimp only
      refine r_seq ⟨by show 0 ≤ sizeLine; decide, fun D hD => ?_⟩
      have rf0 : Rf (tb24 P1 P2 P3 P4) H11 _ D "BadCall" [] := Rf.none f6 hD
      generalize upd K6 D (.lst []) = K7 at rf0 ⊢
      dsimp only
      refine r_seq ⟨by show 1 ≤ sizeLine; decide, fun b1 hb1 => ⟨by show 5 ≤ sizeLine; decide, fun B hB => ?_⟩⟩
      have rf1 := (rf0.same (same_new (o := HO.lst [.str "good"]) hb1)).same (same_new (o := HO.lst (els3 b1)) hB)
      have n1D : b1 ≠ D := Ne.symm (ne_of_none rf0.hD hb1)
      have nBD : B ≠ D := Ne.symm (ne_of_none ((same_new (o := HO.lst [.str "good"]) hb1) _ _ rf0.hD) hB)
      have eb1 : upd (upd K7 b1 (.lst [.str "good"])) B (.lst (els3 b1)) b1 = some (.lst [.str "good"]) := (same_new hB) _ _ upd_same
      have eB : upd (upd K7 b1 (.lst [.str "good"])) B (.lst (els3 b1)) B = some (.lst (els3 b1)) := upd_same
      refine ⟨B, rfl, ⟨_, sqL eB⟩, ?_⟩
      refine for_it (walk_list (xs := els3 b1)) (fun m σ H' => ∃ ts, Rf (tb24 P1 P2 P3 P4) H11 H' D "BadCall" ts ∧ ts.length = m ∧ H' B = some (.lst (els3 b1)) ∧ H' b1 = some (.lst [.str "good"]) ∧ ∃ o11, σ = [some (.ref a), some (.int (0 + (i : Nat))), some (.int d), some (.ref ra), some (.ref p), some (.ref o), o6, o7, some (.str tx), some (.ref lgB), some (.int (S.calls.length : Int)), o11, some (.int (j : Nat)), some v, some (.ref D)])
        ⟨[], rf1, rfl, eB, eb1, _, rfl⟩ (fun _ _ _ _ ⟨_, _, _, h, _⟩ => sqL h) ?_ ?_
      · clear rf0 rf1 eB eb1 hB hb1 f6 eT hD
        rintro m y σ M2' M2 hm ⟨ts, rf2, lt, eB, eb1, o11, rfl⟩ ⟨rfl, hy⟩
        have hm : m < 5 := hm
        obtain ⟨bw, ty⟩ := els3_bad (K := K) (List.mem_of_getElem? hy)
        refine ⟨_, rfl, .inl ⟨rfl, _, sqL rf2.hD⟩, rf2.fw.t, fun Ka x0 t0 => ?_⟩
        have rp0 := rb.ext (rf2.fw.ext x0 t0).e
        obtain ⟨dx0, hp0⟩ := id rp0.ins
        refine ⟨_, rfl, p, dx0, _, rfl, hp0, rfl, _, rfl, _, _, rfl, rfl, _, rfl, p, L, S, .int ((j : Int) + 1), y, rfl, rp0, wf, Nat.le_trans lg9 (by decide), .int _, ty _ (ext_lst x0 eb1), fun _ => ⟨"BadCall", hBC, rfl, rfl, T_word T hBC, fun Kb u s0 _ eu => ?_⟩, fun i2 q z e hq ez hw => (by rw [bw] at hw; cases hw)⟩
        have q0 := (rf2.ext x0 t0).same s0
        refine ⟨D, _, _, rfl, rfl, q0.hD, sz1 (by rw [List.length_map]; omega), ?_⟩
        exact ⟨ts ++ [u], q0.add eu, by rw [List.length_append, lt]; rfl, by rw [upd_ne nBD]; exact s0 _ _ (ext_lst x0 eB), by rw [upd_ne n1D]; exact s0 _ _ (ext_lst x0 eb1), _, rfl⟩
      clear rf0 rf1 eB eb1 hB hb1 nBD n1D f6 eT hD
      rintro σ M2 ⟨ts, rf2, lt, eB, eb1, o11, rfl⟩
      have lt : ts.length = 5 := lt
      dsimp only
      refine r_seq ⟨_, rfl, by show 2 ≤ sizeLine; decide, fun t ht => ⟨by show 1 ≤ sizeLine; decide, fun B2 hB2 => ⟨B2, 5, _, rfl, rfl, upd_same, by decide, by decide, by show 1 * 5 ≤ sizeLine; decide, fun C hC => ?_⟩⟩⟩
      have z1 := same_new (o := HO.tup [.str "refused", .str "BadCall"]) ht
      have z2 := same_new (o := HO.lst [.ref t]) hB2
      have z3 := same_new (o := HO.lst (List.replicate (5 : Int).toNat [V.ref t]).flatten) hC
      have rz := rf2.same ((z1.trans z2).trans z3)
      have dz := rz.dp (K := K)
      rw [lt] at dz
      refine ne_self dz (dp_rep (k := 5) upd_same (z3 _ _ (z2 _ _ upd_same))) (sh_rfs (by decide +kernel) 5) ⟨false, rfl, r_no (r_next ?_)⟩
      have f8 := rz.fw
      generalize upd (upd (upd M2 t (.tup [.str "refused", .str "BadCall"])) B2 (.lst [.ref t])) C (.lst (List.replicate (5 : Int).toNat [V.ref t]).flatten) = K8 at f8 ⊢
      clear dz rz z1 z2 z3 ht hB2 hC rf2 eB eb1 lt
      dsimp only
      refine ⟨f8.t, fun Ka x0 t0 => ?_⟩
      have f9 := f8.ext x0 t0
      have rp0 := rb.ext f9.e
      obtain ⟨dx0, hp0⟩ := id rp0.ins
      have ic : isC (.int ((j : Int) + 1)) 1 (S.calls.length : Int) = true := by
        show (decide ((1 : Int) ≤ (j : Int) + 1) && decide ((j : Int) + 1 ≤ (S.calls.length : Int))) = true
        rw [decide_eq_true (by omega), decide_eq_true (by omega)]
        rfl
      refine ⟨_, rfl, p, dx0, _, rfl, hp0, rfl, _, rfl, _, _, rfl, rfl, p, L, S, .int ((j : Int) + 1), .str "zz", rfl, rp0, .int _, .str _, (by show ("zz" : Str).length ≤ 100000; decide +kernel), fun z => (by rw [ic] at z; cases z), fun _ _ Kc z0 => ⟨"BadName", hBN, rfl, rfl, T_word T hBN, fun Kb u s0 _ eu => ?_⟩, fun i2 q _ _ z => (by rw [zzI] at z; cases z), fun i2 q g _ _ _ z => (by rw [zzI] at z; cases z)⟩
      refine ⟨by show 2 ≤ sizeLine; decide, fun t2 ht2 => ne_self (dp_rf ((same_new ht2) _ _ eu)) (dp_rf upd_same) (sh_rf (by decide +kernel)) ⟨false, rfl, ?_⟩⟩
      exact ⟨((f9.same z0).same s0).new ht2, _, _, _, _, rfl⟩
    clear f ro4
    rintro σ K5 ⟨f, o11, o12, o13, o14, rfl⟩
    dsimp only
    -- it is as it was
    refine r_seq ⟨_, rfl, p, L, S, bd, rfl, rb.ext f.e, wf, w9, wb, fun K6 tx2 s6 wo2 => ⟨_, rfl, rfl, false, congrArg (fun b => V.bl (!b)) (decide_eq_true (congrArg V.str (wo2.det wo))), ?_⟩⟩
    have f6 := f.same s6
    have rp6 := rb.ext f6.e
    obtain ⟨dx6, hp6⟩ := id rp6.ins
    refine ⟨_, rfl, p, dx6, _, rfl, hp6, rfl, p, L, S, rfl, rp6, fun K7 B7 s7 _ e7 => ⟨_, rfl, ?_⟩⟩
    have f7 := f6.same s7
    have rp7 := rb.ext f7.e
    refine ne_self (.lst (sqL e7) (dp_rows rp7.tl rp7.ht)) (.lst (sqL (ext_lst f7.e elg)) (dp_rows rp7.tl rp7.ht)) (sh_rows g9.lok) ⟨false, rfl, r_no (r_next ?_)⟩
    clear e7 s7 s6 f6 rp6 hp6 f wo2
    dsimp only
    -- one more
    refine r_seq (r_if (good := fun σ' H' => Fw (tb24 P1 P2 P3 P4) H H' ∧ σ' = [some (.ref a), some (.int (0 + (i : Nat))), some (.int d), some (.ref ra), some (.ref p), some (.ref o), o6, o7, some (.str tx), some (.ref lgB), some (.int (S.calls.length : Int)), o11, o12, o13, o14]) ?_ fun rr => ?_)
    case refine_2 =>
      refine ⟨_, rfl, _, _, rfl, rfl, _, rfl, ?_⟩
      refine itd (fun hlt => ?_) fun _ => rr _ _ ⟨fb.trans f7, rfl⟩
      refine ⟨f7.t, fun Ka x0 t0 => ?_⟩
      have f9 := f7.ext x0 t0
      have rp0 := rb.ext f9.e
      obtain ⟨dx0, hp0⟩ := id rp0.ins
      have n1 : isNm (.str "abcd") = true := by decide +kernel
      have n2 : isTx (.str (Txt.mul "~" 20)) = true := by decide +kernel
      have hlt : S.calls.length < 30 := by omega
      refine ⟨_, rfl, p, dx0, _, rfl, hp0, rfl, "~", 20, rfl, rfl, by unfold MulOk; decide, p, L, S, .str "abcd", .str "home", .str (Txt.mul "~" 20), rfl, rp0, .str _, .str _, .str _, (by show ("abcd" : Str).length ≤ 100000; decide +kernel), (by show ("home" : Str).length ≤ 100000; decide +kernel), (by show (Txt.mul "~" 20).length ≤ 100000; decide +kernel), l30, Nat.le_trans lg9 (by decide), fun z => ?_, fun _ _ z => (by rw [n2] at z; cases z), fun _ _ _ z => (by omega), fun k g t ek eg et _ _ _ _ Kb Lb rb2 stb => ?_⟩
      · exfalso
        rcases z with z | z
        · rw [n1] at z
          cases z
        · rw [hmI] at z
          cases z
      · refine ⟨_, rfl, _, _, rfl, rfl, ne_self (.int _) (.int _) (sh_int _) ⟨false, rfl, r_no (rr _ _ ⟨?_, rfl⟩)⟩⟩
        exact (fb.trans f9).fr lx11.np rp0.pl stb.fr
    clear rp7 f7
    rintro σ K8 ⟨f, rfl⟩
    dsimp only
    -- rules that are none
    refine ⟨by show 5 ≤ sizeLine; decide, fun t5 h5 => ⟨by show 6 ≤ sizeLine; decide, fun t6 h6 => ⟨by show 3 ≤ sizeLine; decide, fun B hB => ?_⟩⟩⟩
    have z5 := same_new (o := HO.tup [.int 1, .int 1, .int 1, .int 1, .int 1]) h5
    have z6 := same_new (o := HO.tup [.int 0, .int 1, .int 1, .int 1, .int 1, .int 1]) h6
    have zB := same_new (o := HO.lst [V.non, .ref t5, .ref t6]) hB
    have f8 := f.same ((z5.trans z6).trans zB)
    have e5 := zB _ _ (z6 _ _ (upd_same (H := K8) (a := t5) (o := HO.tup [.int 1, .int 1, .int 1, .int 1, .int 1])))
    have e6 := zB _ _ (upd_same (H := upd K8 t5 (.tup [.int 1, .int 1, .int 1, .int 1, .int 1])) (a := t6) (o := HO.tup [.int 0, .int 1, .int 1, .int 1, .int 1, .int 1]))
    have eB : upd (upd (upd K8 t5 (.tup [.int 1, .int 1, .int 1, .int 1, .int 1])) t6 (.tup [.int 0, .int 1, .int 1, .int 1, .int 1, .int 1])) B (.lst [V.non, .ref t5, .ref t6]) B = some (.lst [V.non, .ref t5, .ref t6]) := upd_same
    refine ⟨B, rfl, ⟨_, sqL eB⟩, ?_⟩
    refine for_it (walk_list (xs := [V.non, .ref t5, .ref t6])) (fun m σ H' => Fw (tb24 P1 P2 P3 P4) H H' ∧ H' B = some (.lst [V.non, .ref t5, .ref t6]) ∧ H' t5 = some (.tup [.int 1, .int 1, .int 1, .int 1, .int 1]) ∧ H' t6 = some (.tup [.int 0, .int 1, .int 1, .int 1, .int 1, .int 1]) ∧ ∃ o11, σ = [some (.ref a), some (.int (0 + (i : Nat))), some (.int d), some (.ref ra), some (.ref p), some (.ref o), o6, o7, some (.str tx), some (.ref lgB), some (.int (S.calls.length : Int)), o11, o12, o13, o14])
      ⟨f8, eB, e5, e6, _, rfl⟩ (fun _ _ _ _ h => sqL h.2.1) ?_ ?_
    · clear f8 eB e5 e6 z5 z6 zB h5 h6 hB
      rintro m y σ M1' M1 hm ⟨f, eB, e5, e6, o11, rfl⟩ ⟨rfl, hy⟩
      have hy := List.mem_of_getElem? hy
      refine ⟨f.t, fun Ka x0 t0 => ?_⟩
      have f9 := f.ext x0 t0
      have e5 := ext_tup x0 e5
      have e6 := ext_tup x0 e6
      have eB := ext_lst x0 eB
      refine ⟨_, rfl, fun p' dx' hp' hdx' hne' => ?_⟩
      have sn : Same Ka (upd (upd Ka dx' (.own p')) p' (.ins (He.ga K "Caller") dx' [])) := (same_new hdx').trans (same_new (by rw [upd_ne hne'.symm]; exact hp'))
      refine ⟨p', dx', y, false, rfl, upd_same, ?_, fun _ Kc z0 => ⟨"BadRule", hBR, rfl, rfl, T_word T hBR, fun Kb u s0 _ eu => ?_⟩, fun z => by cases z⟩
      · simp only [List.mem_cons, List.not_mem_nil, or_false] at hy
        rcases hy with rfl | rfl | rfl
        · exact .non
        · exact RuleIs.tup (K := K) (sn _ _ e5) fun y hy => (by simp only [List.mem_cons, List.not_mem_nil, or_false] at hy; rcases hy with rfl | rfl | rfl | rfl | rfl <;> exact .int _)
        · exact RuleIs.tup (K := K) (sn _ _ e6) fun y hy => (by simp only [List.mem_cons, List.not_mem_nil, or_false] at hy; rcases hy with rfl | rfl | rfl | rfl | rfl | rfl <;> exact .int _)
      · have sa := (sn.trans z0).trans s0
        refine ⟨by show 2 ≤ sizeLine; decide, fun t2 ht2 => ne_self (dp_rf ((same_new ht2) _ _ eu)) (dp_rf upd_same) (sh_rf (by decide +kernel)) ⟨false, rfl, ?_⟩⟩
        have sb := sa.trans (same_new (o := HO.tup [.str "refused", .str "BadRule"]) ht2)
        exact ⟨f9.same sb, sb _ _ eB, sb _ _ e5, sb _ _ e6, _, rfl⟩
    · rintro σ M1 ⟨f, _, _, _, o11, rfl⟩
      exact ⟨f, _, _, _, _, _, _, _, _, _, _, _, _, _, _, rfl⟩
  · rintro σ H1 ⟨f1, o1, o2, o3, o4, o5, o6, o7, o8, o9, o10, o11, o12, o13, o14, rfl⟩
    exact q H1
end
end T
end
section
namespace T
open PySem PySem.Spec PyProof.Rows L2 Tr LamX
abbrev hk : PySem.W.Hook := He.hookX 4 fa fn ts tf ex
def ob (s : PySem.W.SharedT) : He.AlX := He.obsX 4 fa fn ts tf ex (HandSHeadRun.getT s)
theorem ob_eq (s : PySem.W.SharedT) : ob s = hk.obs s.abs := He.obsX_eq (HandSHeadRun.getT_eq s)
abbrev lawK : Nat := 10
abbrev c1C (K : PySem.W.Frag) : Addr × Addr := He.cT K ("_law_does", none)
abbrev c2C (K : PySem.W.Frag) : Addr × Addr := He.cT K ("_law_numbers_right", none)
abbrev c3C (K : PySem.W.Frag) : Addr × Addr := He.cT K ("_law_sent_right", none)
abbrev c4C (K : PySem.W.Frag) : Addr × Addr := He.cT K ("law", none)
theorem four_of {K : PySem.W.Frag} (h : difB K = true) : Four (c1C K).2 (c2C K).2 (c3C K).2 (c4C K).2 := by
  obtain ⟨h5, hf⟩ := He.ba h
  obtain ⟨h4, he⟩ := He.ba h5
  obtain ⟨h3, hd⟩ := He.ba h4
  obtain ⟨h2, hc⟩ := He.ba h3
  obtain ⟨ha, hb⟩ := He.ba h2
  exact ⟨(of_decide_eq_true ha).symm, (of_decide_eq_true hb).symm, (of_decide_eq_true hd).symm, (of_decide_eq_true hc).symm, (of_decide_eq_true he).symm, (of_decide_eq_true hf).symm⟩
theorem code_of {K : PySem.W.Frag} {x : Str} {st : Stmt} {fd : FuncData} (F : FunD K x x (defArgs st) (defBody st) (defScope st) [] [] (He.ga K x) fd) : ∃ c, fd.code = .ref c ∧ (He.cT K (x, none)).1 = c := by
  obtain ⟨oc, od, dV, kV, doc, pm, an, cdv, ct, osl, ef, lk, hcd, _, _⟩ := id F.ex
  obtain ⟨c, ec⟩ := He.codeIn_ref hcd
  have efc : fd.code = .ref c := by rw [ef, ec] <;> rfl
  exact ⟨c, efc, He.codeOf_eq lk efc⟩
theorem hc {prog : Program} (w : World) (mg : Str → Option Value) (f : Addr) (h : Heap) (Y : hk.says w h) (G : h.Ns mainGlobals mg) (hm : mg "law" = some (.ref f)) :
    ∃ K : PySem.W.Frag, K.In h ∧ ∃ (fd : FuncData) (cs : List (Addr × Addr)) (sp : Sp), (∀ p ∈ cs, h.get? p.2 = some { cls := .none, data := .fields #[] }) ∧ (∀ p ∈ cs, K.lookup p.2 = none) ∧ (∀ p ∈ cs, PySem.W.CodeHd h p.1 p.2) ∧
      (∀ (s : Shared) (u : Value), BindsTo s fd ⟨[u], []⟩ [("_law_script", u)]) ∧
      (∀ (H : Hp) (a : Addr) (ns : List Int), ns.length ≤ 63 → (∀ z ∈ ns, Builtin.Int.intBits z ≤ 1048576) → (∀ p ∈ cs, H p.2 = some (.tbl #[])) → SqL K H a (ns.map V.int) → sp [.ref a] H (fun v _ => v = .bl true) fun _ _ _ => False) ∧
      ∀ base : Heap, K.In base → base.Ns mainGlobals mg → (∀ p ∈ cs, TabB base mg p.1 p.2) → FnOk prog w K mg base (NX prog w) 10 f fd ["_law_script"] sp := by
  obtain ⟨K, hK, S⟩ := Y
  have T : Txt K mg := ⟨S.t.d, S.more, h, hK, G⟩
  obtain rfl : He.ga K "law" = f := by
    have e := T.g_law
    rw [hm] at e
    exact (Value.ref.inj (Option.some.inj e)).symm
  have eD : He.dicW K (He.ga K "WORDS_papers") = some (He.keysIn w.params signL) := by
    have e : ts.map (fun t => He.dicW K (t.1 K)) = ts.map fun t => some (He.keysIn w.params t.2) := congrArg (fun z : He.AlT => z.2) S.t
    exact (List.cons.inj e).1
  obtain ⟨es, en, KD⟩ := TrK.kd_of eD
  obtain ⟨fd, F⟩ := T.f_law
  obtain ⟨fd1, F1⟩ := T.f_l_does
  obtain ⟨fd2, F2⟩ := T.f_l_numbers_right
  obtain ⟨fd3, F3⟩ := T.f_l_sent_right
  obtain ⟨c1, a1, b1⟩ := code_of F1
  obtain ⟨c2, a2, b2⟩ := code_of F2
  obtain ⟨c3, a3, b3⟩ := code_of F3
  obtain ⟨c4, a4, b4⟩ := code_of F
  have tfm : ∀ p ∈ [c1C K, c2C K, c3C K, c4C K], ∃ d ∈ tf, p = He.cT K d := fun p hp => by
    simp only [List.mem_cons, List.not_mem_nil, or_false] at hp
    rcases hp with rfl | rfl | rfl | rfl
    · exact ⟨_, List.mem_cons_self, rfl⟩
    · exact ⟨_, List.mem_cons_of_mem _ List.mem_cons_self, rfl⟩
    · exact ⟨_, List.mem_cons_of_mem _ (List.mem_cons_of_mem _ List.mem_cons_self), rfl⟩
    · exact ⟨_, List.mem_cons_of_mem _ (List.mem_cons_of_mem _ (List.mem_cons_of_mem _ List.mem_cons_self)), rfl⟩
  have m1 : c1C K ∈ [c1C K, c2C K, c3C K, c4C K] := List.mem_cons_self
  have m2 : c2C K ∈ [c1C K, c2C K, c3C K, c4C K] := List.mem_cons_of_mem _ List.mem_cons_self
  have m3 : c3C K ∈ [c1C K, c2C K, c3C K, c4C K] := List.mem_cons_of_mem _ (List.mem_cons_of_mem _ List.mem_cons_self)
  have m4 : c4C K ∈ [c1C K, c2C K, c3C K, c4C K] := List.mem_cons_of_mem _ (List.mem_cons_of_mem _ (List.mem_cons_of_mem _ List.mem_cons_self))
  refine ⟨K, hK, fd, [c1C K, c2C K, c3C K, c4C K], spLaw K (tb24 (c1C K).2 (c2C K).2 (c3C K).2 (c4C K).2), fun p hp => ?_, fun p hp => ?_, fun p hp => ?_, fun s u => ?_, fun H a ns hl _ ht hS => ?_, fun base hb hns ht => ?_⟩
  · obtain ⟨d, hd, rfl⟩ := tfm p hp
    exact S.empty _ hd
  · obtain ⟨d, hd, rfl⟩ := tfm p hp
    exact S.out _ hd
  · obtain ⟨d, hd, rfl⟩ := tfm p hp
    exact PySem.W.codeHd_of_K hK (S.hd _ hd)
  · exact F.bindsA (ps := ["_law_script"]) (fun _ _ _ _ _ _ us hl => match us, hl with | [_], _ => rfl) s [u] rfl
  · refine ⟨a, ns, rfl, hS, hl, fun p hp => ?_, fun _ => rfl⟩
    simp only [tb24, List.mem_cons, List.not_mem_nil, or_false] at hp
    rcases hp with rfl | rfl | rfl | rfl
    · exact TabS.nil (ht _ m1)
    · exact TabS.nil (ht _ m2)
    · exact TabS.nil (ht _ m3)
    · exact TabS.nil (ht _ m4)
  · refine law_ok T KD F1 a1 ?_ F2 a2 ?_ F3 a3 ?_ F a4 ?_ (four_of (ex4 T.m))
    · rw [← b1]
      exact ht _ m1
    · rw [← b2]
      exact ht _ m2
    · rw [← b3]
      exact ht _ m3
    · rw [← b4]
      exact ht _ m4
end T
end
section
namespace T
open PySem PySem.Spec PyProof.Rows L2
/-- a world, one of its ways told: hashing asks it -/
def wF (w : World) (b : Bool) : World := { w with params := { w.params with followText := fun s => if s = "special-get-raises" then b else w.params.followText s } }
theorem wF_eq (w : World) : w = wF w (w.params.followText "special-get-raises") := by
  have e : w.params.followText = fun s => if s = "special-get-raises" then w.params.followText "special-get-raises" else w.params.followText s := by
    funext s
    by_cases h : s = "special-get-raises"
    · rw [if_pos h, h]
    · rw [if_neg h]
  unfold wF
  rw [← e]
end T
end
section
namespace T
open PySem PySem.Spec PyProof.Rows L2
theorem run (w : World) : HandSHeadRun.RunEq R (PySem.W.view R.prog [lawAt]) hk ob 40000 loose w := by
  have h : ∀ b, HandSHeadRun.RunEq R (PySem.W.view R.prog [lawAt]) hk ob 40000 loose (wF w b) := fun b => by
    cases b with
    | false =>
      intro os
      kernel_rfl
    | true =>
      intro os
      kernel_rfl
  exact Eq.mpr (congrArg (HandSHeadRun.RunEq R (PySem.W.view R.prog [lawAt]) hk ob 40000 loose) (wF_eq w)) (h _)
end T
end
open PySem PySem.W PySem.Calls PyProof.Rows
theorem PySem.Challenge.cw_tryroad_k24_callers_refused_holds : PySem.Challenge.rw_tryroad_k24_callers_refused.Holds := by
  w_on
  o_law
  refine HandSHeadRun.head_any (r := OpenLaw.row PySem.Challenge.rw_tryroad_k24_callers_refused) (q := view (OpenLaw.row PySem.Challenge.rw_tryroad_k24_callers_refused).prog [T.lawAt]) (H := T.hk) (ob := T.ob) (M := 40000) (loose := T.loose) (d := HandSHeadRun.topDef (OpenLaw.row PySem.Challenge.rw_tryroad_k24_callers_refused).prog T.lawAt) (kwd := []) T.ob_eq
    (by kernel_rfl) (fun s => by kernel_rfl) T.run (by kernel_rfl) (by kernel_rfl) (by kernel_rfl) (by rfl) (by first | assumption | decide +kernel) (by decide +kernel) ⟨rfl, rfl, rfl, rfl, rfl, by decide +kernel⟩ ?hw ?hc
  case hw => w_witness2
  case hc => exact LamX.walk_ofTsE (l := PySem.Challenge.rw_tryroad_k24_callers_refused) (n := 63) (k := T.lawK) (x := "_law_script") (CX := fun w => Tr.NX (OpenLaw.row PySem.Challenge.rw_tryroad_k24_callers_refused).prog w) rfl (by decide) rfl ⟨rfl, by decide, by decide⟩ (fun w mg f h Y G hm => T.hc w mg f h Y G hm) fun w H s e s' ⟨_, _, _, _, _, _, _, _, _, _, _, _, z⟩ => z

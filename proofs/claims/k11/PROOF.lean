import PyProof.Rows.All
import Wide.All
import OpenK.AllK
import Wide.FinOn
import PyProof.SumWalkG
import HandS.HotCalls
import HandS.Lambda
import HandS.ExcIs
import HandS.ForMost
import HandS.Walk
import HandS.Zip
import HandS.TupAny
import HandS.Wide
import HandS.IsInst
import HandS.SortInts
import HandS.Flow
import HandS.HeadHook4
import HandS.HeadWalk
import HandS.Defaults
import HandS.Head0
import HandS.Head1
import HandS.Head2
import HandS.HeadEnd
import HandS.Style
import KE.KStateDown
import PySem.Challenge.RW_tryroad_k11_whole_waits_grow
set_option Elab.async false
set_option linter.all false
set_option maxRecDepth 100000
set_option maxHeartbeats 0
section
/-! Lists walked while an exception is handled: the end of a list's iterator, sum of a list, a comprehension of int(x) over a list. -/
namespace TrH
open PySem PySem.Spec PyProof.Rows HotX
section
variable {prog : Program} {w : World} {A : Around} {E : Value → Shared → Prop} {s : Shared}
/-- the end of a list's iterator; the StopIteration is chained to what is handled -/
theorem listEndHot {it l x1 : Addr} {i : Nat} {items : Array Value} {Q : Option Value → Shared → Prop} (hot : HotAt A x1 s.heap) (hit : s.heap.IsListIter it l i)
    (hl : s.heap.IsList l items) (hx : items[i]? = none) (hQ : ∀ h', Heap.ExtBut it s.heap h' → Q none { s with heap := h' }) : wpAny (model prog w) A (pyNext (.ref it)) Q E s := by
  obtain ⟨o, ho, hc, hd⟩ := id hit
  obtain ⟨ol, hol, _, nl, hdl⟩ := hl
  obtain ⟨hh, o1, vs1, h1, d1, c1⟩ := hot
  have nx : x1 ≠ it := fun z => by
    rw [z, ho] at h1
    cases h1
    rw [hd] at d1
    cases d1
    cases c1
  unfold pyNext
  refine wpAny_bind (wpAny_attempt (wpAny_callSpecial?_slot (name := Str.ofString "__next__") hit.typeIs slot_listiter_next
    (wpAny_call_entry slot_listiter_next hit.typeIs entry_listiter_next ?_ (args_listiter_next _))))
  show wpAny _ _ (field (.ref it) 0 >>= _) _ _ s
  refine wpAny_bind (wpAny_field ho hd (x := .ref l) rfl ?_)
  show wpAny _ _ (if (Value.ref l == Value.none) = true then _ else _) _ _ s
  rw [if_neg (show ¬ ((Value.ref l == Value.none) = true) from Bool.false_ne_true)]
  show wpAny _ _ (field (.ref it) 1 >>= _) _ _ s
  refine wpAny_bind (wpAny_field ho hd (x := .int i 0) rfl ?_)
  show wpAny _ _ (seqItems? (.ref l) >>= _) _ _ s
  refine wpAny_bind (wpAny_seqItems hol hdl ?_)
  simp only [Int.toNat_natCast, hx]
  refine wpAny_bind (wpAny_rule (wpAny_bind (wpAny_setField ho hd (by simp) ?_)))
  show wpAny _ _ (newExc (.type "StopIteration") [] >>= _) _ _ _
  refine wpAny_bind ?_
  simp only [newExc, newTuple]
  refine wpAny_bind (wpAny_newObj_type ?_ (by size_fits))
  refine wpAny_bind (m := firstArgMember _ _) (wpAny_of_eq (a := Value.none) (by first | rfl | (simp only [firstArgMember]; rfl)) ?_)
  refine wpAny_newObj_type ?_ (by size_fits)
  have u1 : ∀ g, (s.heap.update it g).get? x1 = some o1 := fun g => by
    rw [Heap.get?_update_other _ _ (Ne.symm nx)]
    exact h1
  refine raiseNew_hot ⟨hh, o1, vs1, Heap.get?_push_of_some _ (Heap.get?_push_of_some _ (u1 _)), d1, c1⟩ (Nat.ne_of_lt (Heap.lt_size (Heap.get?_push_of_some _ (u1 _)))) (Heap.get?_push_size _ rfl) rfl (by first | (simp; done) | (simp; omega) | (simp only [Array.size_append]; simp; omega)) ?_
  refine wpAny_bind (wpAny_isInstance (T := "StopIteration") (b := true) ⟨_, Heap.get?_update_self _ (Heap.get?_push_size _ rfl) rfl, rfl⟩ isSubtype_stop ?_)
  refine wpAny_pure (hQ _ fun b o hb e => ?_)
  have e1 : (s.heap.update it (Obj.mapFields fun x => x.setIfInBounds 0 .none)).get? b = some o := by
    rw [Heap.get?_update_other _ _ (Ne.symm hb)]
    exact e
  rw [Heap.get?_update_other _ _ (Nat.ne_of_gt (Heap.lt_size (Heap.get?_push_of_some _ e1)))]
  exact Heap.get?_push_of_some _ (Heap.get?_push_of_some _ e1)
/-- the walk of a list there -/
theorem walksHot (I ax x1 : Addr) (hne : ax ≠ I) (nx : x1 ≠ I) (items : Array Value) (hh : A.handled = some (.ref x1)) :
    Walks prog w A I [I, ax, x1] [I] items.size (fun i v => items[i]? = some v) (fun i h => h.IsListIter I ax i ∧ h.IsList ax items ∧ HotAt A x1 h) where
  sub := fun b hb => by simp at hb; simp [hb]
  frame := fun i h h' st hk => ⟨st.1.at fun o e => hk I (by simp) o e, st.2.1.at fun o e => hk ax (by simp) o e, st.2.2.1, by
    obtain ⟨_, o, vs, e1, e2, e3⟩ := st.2.2
    exact ⟨o, vs, hk x1 (by simp) o e1, e2, e3⟩⟩
  item := fun i s Q E hi st hQ => by
    obtain ⟨st1, st2, hx, o, vs, e1, e2, e3⟩ := st
    refine wpAny_pyNext_list_item st1 st2 (x := items[i]) (by simp [hi]) fun h' hit' hs' => ?_
    exact hQ _ h' s.toks (by simp [hi]) ⟨hit', st2.extBut hs'.extBut hne, hx, o, vs, hs'.extBut x1 o nx e1, e2, e3⟩ fun b o hb e => hs'.extBut b o (fun h => hb (by simp [h])) e
  done := fun s Q E st hQ => listEndHot st.2.2 st.1 st.2.1 (by simp) fun h' he' => hQ h' s.toks fun b o hb e => he' b o (fun h => hb (by simp [h])) e
  self := fun _ _ _ _ st hQ => wpAny_pyIter_listiter st.1 hQ
end

theorem preSum_get (ns : List Int) : ∀ j, PySem.preSum (fun i => ns.getD i 0) j = (ns.take j).sum
  | 0 => by simp [PySem.preSum]
  | j + 1 => by
    rw [PySem.preSum, preSum_get ns j]
    by_cases h : j < ns.length
    · rw [List.take_succ_eq_append_getElem h, List.sum_append]
      simp [List.getD_eq_getElem?_getD, List.getElem?_eq_getElem h]
    · rw [List.take_of_length_le (by omega : ns.length ≤ j), List.take_of_length_le (by omega : ns.length ≤ j + 1)]
      simp [List.getD_eq_getElem?_getD, List.getElem?_eq_none (by omega : ns.length ≤ j)]
section
open L2 L2H
variable {X : Cx}
theorem hotNe {A : Around} {x1 : Addr} {h : Heap} (hot : HotAt A x1 h) : x1 < h.objs.size := by
  obtain ⟨_, o, _, e, _⟩ := hot
  exact Heap.lt_size e
theorem crSumH (hc : HotC X) : CallR X (.builtin "sum") (rSum X.K) := by
  intro pins s σ H vs us Q I r h
  obtain ⟨a, ns, rfl, hs, q⟩ := h
  obtain ⟨its, rv, hl, _⟩ := I.list hs
  rw [Vals.ref1 r]
  obtain ⟨x1, hot⟩ := hc.at I
  obtain ⟨hh, o1, vs1, e1, e2, e3⟩ := id hot
  have hl' := hl.isList
  have la : a < s.heap.objs.size := by
    obtain ⟨o, ho, _⟩ := hl'
    exact Heap.lt_size ho
  have lx := hotNe hot
  have len : ns.length = its.length := by have := rv.length; rwa [List.length_map] at this
  refine call_sum_walkG (wpAny_pyIter_list hl' ?_)
  refine ⟨s.heap.objs.size, _, _, its.toArray.size, _, _, fun i => ns.getD i 0, rfl, walksHot (A := X.A.in1) s.heap.objs.size a x1 (Nat.ne_of_lt la) (Nat.ne_of_lt lx) its.toArray hh,
    ⟨⟨_, Heap.get?_push_size _ rfl, rfl, rfl⟩, hl'.at fun o e => Heap.get?_push_of_some _ e, hh, o1, vs1, Heap.get?_push_of_some _ e1, e2, e3⟩, fun b hb => ?_, fun i v hv => ?_, fun h' tk t' hk => ?_⟩
  · have hb' : b = s.heap.objs.size ∨ b = a ∨ b = x1 := by simpa using hb
    show b < (s.heap.push _).objs.size
    rw [Heap.size_push]
    rcases hb' with z | z | z <;> rw [z] <;> first | exact Nat.lt_succ_self _ | exact Nat.lt_succ_of_lt la | exact Nat.lt_succ_of_lt lx
  · have hv' : its[i]? = some v := by simpa using hv
    have hi : i < ns.length := by
      have := (List.getElem?_eq_some_iff.mp hv').1
      omega
    obtain ⟨u, hu, ru⟩ := rv.get (i := i) (x := .int ns[i]) (by rw [List.getElem?_map, List.getElem?_eq_getElem hi]; rfl)
    rw [hv'] at hu
    cases hu
    obtain ⟨t, e⟩ := ru
    refine ⟨t, ?_⟩
    rw [e]
    simp [List.getD_eq_getElem?_getD, List.getElem?_eq_getElem hi]
  · rw [preSum_get, List.take_of_length_le (by simp; omega)]
    refine ⟨.int ns.sum, H, ?_, ⟨_, rfl⟩, q⟩
    refine I.kept (h' := h') (t' := tk) fun b o e => ?_
    refine hk b o (fun z => ?_) (Heap.get?_push_of_some _ e)
    have z' : b = s.heap.objs.size := by simpa using z
    exact Nat.lt_irrefl _ (z' ▸ Heap.lt_size e)
/-- a new object where nothing stood -/
theorem laidAt {pins : List (Addr × Obj)} {σ : L2.St} {H : Hp} {s : Shared} {h' : Heap} {a : Addr} {o : HO} {t' : Nat} (I : Inv X pins σ H s) (k : ∀ b u, s.heap.get? b = some u → h'.get? b = some u) (hp : s.heap.get? a = none) (new : ObjOk X.prog X.w (upd H a o) h' a o) :
    Inv X pins σ (upd H a o) { s with heap := h', toks := t' } := by
  have hn := I.hok.gone hp
  have ne : ∀ b u, s.heap.get? b = some u → b ≠ a := fun b u e z => by rw [z, hp] at e; cases e
  refine I.un ⟨fun b u q _ _ _ => k b u q, fun b u q _ _ _ => ⟨u.slots, k b u q⟩, fun b u q n _ => by rw [upd_ne (ne b u q)]; exact n, fun b u q _ => ⟨u, k b u q⟩, fun b xs q => by rw [upd_ne (ne_of_none q hn)]; exact q,
    fun b u xs q => by rw [upd_ne (ne_of_none q hn)]; exact q, fun b ps q => ⟨#[], by rw [upd_ne (ne_of_none q hn), q]; simp⟩⟩ fun b u e => ?_
  by_cases hb : b = a
  · subst hb
    rw [upd_same] at e
    cases e
    exact new
  · rw [upd_ne hb] at e
    exact (I.hok b u e).stay (fun c v _ q => k c v q) (fun c q => by rw [upd_ne (ne_of_none q hn)]; exact q) fun c xs q => by rw [upd_ne (ne_of_none q hn)]; exact q
/-- [int(x) for x in l], l a list of truth values -/
def tInts (K : PySem.W.Frag) (tl : TE) : TE := fun σ H Q => tl σ H fun v H1 => ∃ (a : Addr) (bs : List Bool), v = .ref a ∧ SqL K H1 a (bs.map V.bl) ∧ ∀ D, H1 D = none → Q (.ref D) (upd H1 D (.lst (bs.map fun b => V.int (if b then 1 else 0))))
structure IntsScope (scope : Scope) (x : Str) : Prop where
  kind : scope.kind = .function
  cell : ∀ y ∈ scope.names, y.2 ≠ .cell ∧ y.2 ≠ .free
  names : ∀ y ∈ scope.names, y.2 = .local → scope.names.lookup y.1 = some .local
  hx : scope.names.lookup x = some .local
  hi : scope.names.lookup ("int" : Str) = some .globalImplicit
theorem peIntsH (hc : HotC X) {x : Str} {px p1 p2 pc pos : Pos} {scope : Scope} {l : Expr} {tl : TE} (hl : PE X l tl) (S : IntsScope scope x) (hm : X.mg "int" = none) (hs : ∀ y, foldedSetIterable l X.env y = pure y := by intro _; rfl)
    (hd : (x == ("__debug__" : Str)) = false := by decide) : PE X (.ListComp (.Call (.Name "int" p1) [.Name x p2] [] pc) [⟨.Name x px, l, [], 0⟩] scope pos) (tInts X.K tl) := by
  refine ⟨fun pins s σ H Q I h => ?_⟩
  refine wpAny_ListComp_free (cl := cloFrom X.env.cells scope.names []) (fun _ => true) (fun v y => ∃ b t, v = .bool b ∧ y = .int (if b then 1 else 0) t) (closure_ok fun y hy e => absurd e (S.cell y hy).2) (fun y hy => (S.cell y hy).1) S.kind S.names S.hx
    (thn (hl.run pins s σ H _ I h) fun v s1 ⟨vv, H1, I1, r1, a, bs, e, hS, q⟩ => ?_) hs
  subst e
  cases r1
  obtain ⟨its, rv, hl1, hz⟩ := I1.list hS
  obtain ⟨x1, hot⟩ := hc.at I1
  obtain ⟨hh, o1, vs1, e1, e2, e3⟩ := id hot
  have hl' := hl1.isList
  have la : a < s1.heap.objs.size := by
    obtain ⟨o, ho, _⟩ := hl'
    exact Heap.lt_size ho
  have lx := hotNe hot
  have len : bs.length = its.length := by have := rv.length; rwa [List.length_map] at this
  rw [List.length_map] at hz
  have boolAt : ∀ (i : Nat) (v : Value), its[i]? = some v → ∃ b, bs[i]? = some b ∧ v = .bool b := fun i v hv => by
    have hi : i < bs.length := by
      have := (List.getElem?_eq_some_iff.mp hv).1
      omega
    obtain ⟨u, hu, ru⟩ := rv.get (i := i) (x := .bl bs[i]) (by rw [List.getElem?_map, List.getElem?_eq_getElem hi]; rfl)
    rw [hv] at hu
    cases hu
    exact ⟨bs[i], List.getElem?_eq_getElem hi, ru⟩
  refine wpAny_pyIter_list hl' ?_
  refine ⟨s1.heap.objs.size, _, _, its.toArray.size, _, _, rfl, walksHot (A := X.A) s1.heap.objs.size a x1 (Nat.ne_of_lt la) (Nat.ne_of_lt lx) its.toArray hh, by rw [List.size_toArray]; omega,
    ⟨⟨_, Heap.get?_push_size _ rfl, rfl, rfl⟩, hl'.at fun o e => Heap.get?_push_of_some _ e, hh, o1, vs1, Heap.get?_push_of_some _ e1, e2, e3⟩, fun b hb => ?_, ⟨?_, ?_⟩, ?_⟩
  · have hb' : b = s1.heap.objs.size ∨ b = a ∨ b = x1 := by simpa using hb
    show b < (s1.heap.push _).objs.size
    rw [Heap.size_push]
    rcases hb' with z | z | z <;> rw [z] <;> first | exact Nat.lt_succ_self _ | exact Nat.lt_succ_of_lt la | exact Nat.lt_succ_of_lt lx
  · intro C i v s₃ m₃ E' _ _ _ _ _ _
    exact wpAny_tests_nil ⟨rfl, s₃.heap, s₃.toks, rfl, fun _ _ e => e⟩
  · intro C i v s₃ m₃ E' hC hP _ hns hmx hk _
    obtain ⟨b, _, rfl⟩ := boolAt i v (by simpa using hP)
    obtain ⟨mb, n1, n2⟩ := I1.mod.blt
    have kp : ∀ c o, X.base.get? c = some o → s₃.heap.get? c = some o := fun c o e => by
      have e' := I1.bk c o e
      refine hk c o (fun z => ?_) (Heap.get?_push_of_some _ e')
      have z' : c = s1.heap.objs.size := by simpa using z
      exact Nat.lt_irrefl _ (z' ▸ Heap.lt_size e')
    have kd : (compEnvC scope (cloFrom X.env.cells scope.names []) C X.env).kindOf "int" = some .globalImplicit := lookup_relS_keep (sc := X.env.scope) (by decide) S.hi
    have kx : (compEnvC scope (cloFrom X.env.cells scope.names []) C X.env).kindOf x = some .local := lookup_relS_keep (sc := X.env.scope) (by decide) S.hx
    refine Call_ (Calls.Name_function_global S.kind kd (Calls.loadGlobal_builtin (mg := X.mg) (mb := mb) (v := .type "int") ?_ hm ?_ ((n2 "int" (by decide)).trans (by decide +kernel)) ?_))
    · show s₃.heap.Ns X.env.globals X.mg
      rw [I1.ok.glob]
      exact I1.mod.glob.keeps kp
    · show s₃.heap.Ns X.env.builtins mb
      rw [I1.ok.blt]
      exact n1.keeps kp
    · refine PyProof.Rows.callWith_type1 (Calls.spliced_cons (wpAny_Name (wpAny_loadName_local S.kind kx hns hmx (Calls.spliced_nil ?_)) hd)) rfl rfl
      exact call_int_bool ⟨⟨b, _, rfl, rfl⟩, _, _, rfl, fun _ _ e => e⟩
  · intro D h' tk ys vs hD hl2 hpl hlen hP hF hk
    have kp : ∀ b o, s1.heap.get? b = some o → h'.get? b = some o := fun b o e => by
      refine hk b o (fun z => ?_) (Heap.get?_push_of_some _ e)
      have z' : b = s1.heap.objs.size := by simpa using z
      exact Nat.lt_irrefl _ (z' ▸ Heap.lt_size e)
    have hDn : s1.heap.get? D = none := by
      cases q2 : s1.heap.get? D with
      | none => rfl
      | some o =>
        have z : (s1.heap.push { cls := .type "list_iterator", data := .fields #[.ref a, .int 0 0] }).get? D = none := hD
        rw [Heap.get?_push_of_some _ q2] at z
        cases z
    obtain ⟨n, hDo⟩ := hpl
    have I2 := laidAt (h' := h') (o := .lst (bs.map fun b => V.int (if b then 1 else 0))) (t' := tk) I1 kp hDn
    refine ⟨.ref D, _, I2 ⟨by rw [List.length_map]; exact hz, ys.toList, n, ?_, by rw [hDo]⟩, rfl, q D (I1.hok.gone hDn)⟩
    have flt : vs.filter (fun _ => true) = vs := List.filter_eq_self.mpr fun _ _ => rfl
    rw [flt] at hF
    have sizes : vs.length = bs.length := by rw [hlen, List.size_toArray, len]
    clear hs q kp
    have go : ∀ (vs : List Value) (zs : List Value) (bs : List Bool), Paired (fun v y => ∃ b t, v = Value.bool b ∧ y = Value.int (if b then 1 else 0) t) vs zs → vs.length = bs.length → (∀ (j : Nat) (v : Value), vs[j]? = some v → ∃ b, bs[j]? = some b ∧ v = .bool b) → Vals (bs.map fun b => V.int (if b then 1 else 0)) zs := by
      intro vs zs bs hF
      induction hF generalizing bs with
      | nil =>
        intro hl _
        cases bs with
        | nil => exact .nil
        | cons _ _ => cases hl
      | cons r _ ih =>
        intro hl hp
        cases bs with
        | nil => cases hl
        | cons b bs =>
          obtain ⟨b1, t, e1, e2⟩ := r
          obtain ⟨b2, e3, e4⟩ := hp 0 _ rfl
          cases e3
          rw [e1] at e4
          cases e4
          exact .cons ⟨t, e2⟩ (ih bs (by simpa using hl) fun j v hv => hp (j + 1) v (by simpa using hv))
    refine go vs ys.toList bs hF sizes fun j v hv => boolAt j v ?_
    have := hP j v hv
    simpa using this
end
end TrH
end
section
/-! A lambda handed to a def that calls it in a try and answers an own error by another def. -/
namespace TrL
open PySem PySem.Spec PyProof.Rows L2 LamX HotX L2H
/-! ### the lambda's body, exceptions by L2N -/
def lamC (X : Cx) (A : Around) (outer : List Env) (s : Shared) (H : Hp) (E : XK) (scope : Scope) (f c' : Addr) : Cx :=
  { lamCx X A outer s H E scope f c' with
    xe := fun e t => wpAny (model X.prog X.w) (A.deeper (lamEnv X scope s.heap.objs.size f c')) (leaving (lamEnv X scope s.heap.objs.size f c') e)
      (fun _ t' => L2N.CX X.prog X.w outer H s E e t') (fun e' t' => L2N.CX X.prog X.w outer H s E e' t') t }
section
variable {X : Cx} {pins : List (Addr × Obj)} {σ : L2.St} {H HZ : Hp} {s s1 : Shared}
/-- what leaves the lambda's body is what its caller wishes -/
theorem lamC_takes {A : Around} {outer : List Env} {E : XK} {scope : Scope} {f c' : Addr} : L2N.Takes (lamC X A outer s H E scope f c') (fun cls d _ H => E cls d H) := L2N.takes_of rfl rfl rfl rfl
theorem lamC_pass {A : Around} {outer : List Env} {E : XK} {scope : Scope} {f c' : Addr} : Passes (L2N.CX (lamC X A outer s H E scope f c').prog (lamC X A outer s H E scope f c').w) (lamC X A outer s H E scope f c') E := L2N.passes_call lamC_takes fun _ _ _ _ h => h
theorem actN {CXg : CXT} {Eg : XK} {Ng : List Str} {qg : Str} {sg : Scope} {g f c' : Addr} {cdg pm ctv : Value} {params : Arguments} {body : Expr} {scope : Scope} {k i : Nat} {a : Str} {pn : List (Addr × Obj)} {xe : Value → Shared → Prop} {W : WX} {E : XK} {tb : TE} {p1 p2 : Pos}
    (I : Inv X pins σ H s) (L : LamS X.env.scope scope) (hf : s.heap.get? f = some (PySem.W.kla_obj "<lambda>" (X.env.qual ++ "<lambda>") params body scope (cloFrom X.env.cells scope.names []) pm c' ctv)) (hfn : H f = none) (hfr : f ∉ frs X.stack)
    (hbind : bindArgs (PySem.W.kla_fn "<lambda>" (X.env.qual ++ "<lambda>") params body scope (cloFrom X.env.cells scope.names []) pm (.ref c') ctv) ⟨[], []⟩ = pure [])
    (tk : L2N.Takes ((cxOf CXg X.prog X.w X.K X.mg X.base Ng qg sg g cdg X.A X.stack s H Eg).tr pn xe) W) (hW : ∀ cls d σ' H', E cls d H' → W cls d σ' H')
    (hr : Room (k + 1) (X.A.deeper (envOfC qg sg s.heap.objs.size g cdg)))
    (hbody : ∀ (A : Around) (outer : List Env) (s : Shared) (H : Hp), Room k (A.deeper (lamEnv X scope s.heap.objs.size f c')) → PE (lamC X A outer s H E scope f c') body tb)
    (hN : Ng[i]? = some a) (hv : Vis sg a) (hd : (a == ("__debug__" : Str)) = false := by decide) (hcd : (a == ("__classdict__" : Str)) = false := by decide) :
    PE ((cxOf CXg X.prog X.w X.K X.mg X.base Ng qg sg g cdg X.A X.stack s H Eg).tr pn xe) (.Call (.Name a p1) [] [] p2)
      (fun σZ HZ Q => σZ[i]? = some (some (.ref f)) ∧ HZ c' = some (CodeO c' (X.env.qual ++ "<lambda>")) ∧ tb σ HZ Q) := by
  refine ⟨fun pZ sZ σZ HZ Q IZ ⟨hs, hc, ht⟩ => ?_⟩
  refine wpAny_Call_Name_kw (thn ((pe_var (pos := p1) (i := i) hN hv hd hcd).run pZ sZ σZ HZ (fun v H1 => v = .ref f ∧ H1 = HZ) IZ ⟨.ref f, hs, rfl, rfl⟩) fun u s1 ⟨v, H1, I1, r1, ev, eH⟩ => ?_)
  subst ev eH
  obtain rfl : u = Value.ref f := r1
  have of1 := I1.base.keep f _ hf hfn hfr (fun z => nomatch (show f ∈ ([] : List Addr) from z))
  refine PySem.W.callWith_F0 ⟨_, _, _, _, of1⟩ ?_
  have un : Un (frs X.stack) [] H H1 s.heap s1.heap := I1.base
  obtain ⟨⟨oc, vs, t, hoc, hdc, hvc⟩, _, _⟩ := I1.hok c' _ hc
  have rc : codeAny (model X.prog X.w) (X.A.deeper (envOfC qg sg s.heap.objs.size g cdg)) (.call (.ref f) ⟨[], []⟩) (CR (L2N.CX X.prog X.w) (envOfC qg sg s.heap.objs.size g cdg :: X.stack) X.prog X.w H1 s1 Q E) s1 := by
    refine PySem.W.kla_callFunE hr.depth of1 rfl L.co L.gen rfl ⟨c', oc, vs, t, rfl, hoc, hdc, hvc⟩ ?_
    rw [hbind]
    refine wpAny_pure (wpAny_newFunctionEnv (fun y hy => (L.own y hy).2) (fun y hy => absurd hy (by simp)) (fun h₁ hns hsb => ⟨I1.nolimit.fresh _ hsb, ?_⟩) L.kind)
    show codeAny _ _ (.expr body (lamEnv X scope s1.heap.objs.size f c')) _ _
    have kp : ∀ b o, s1.heap.get? b = some o → h₁.get? b = some o := fun b o e => hsb.extBut b o (Nat.ne_of_lt (Heap.lt_size e)) (Heap.get?_push_of_some _ e)
    have J0 := lam_start2 (E := E) (f := f) (c' := c') (tk := s1.toks + ([] : List (Str × Value)).length) I L I1.env0 hr.hd un hns kp
    have J : Inv (lamC X (X.A.deeper (envOfC qg sg s.heap.objs.size g cdg)) (envOfC qg sg s.heap.objs.size g cdg :: X.stack) s1 H1 E scope f c') [] σ H1 { s1 with heap := h₁, toks := s1.toks + ([] : List (Str × Value)).length } := J0.toTry _
    refine PySem.W.kla_codeExpr (wpAny_mono ((hbody _ _ s1 H1 (hr.deeper _)).run [] _ _ H1 Q J ht) (fun v t' hq => ?_) fun e t' hq => hq)
    obtain ⟨w', H', J', rv, q⟩ := hq
    exact ⟨w', H', J'.os, J'.bare, J'.base, J'.hok, rv, q⟩
  refine wpAny_call (codeAny_mono rc fun r t' hq => ?_)
  cases r with
  | error e => exact L2N.passes_call tk hW pZ σZ H1 s1 e t' I1 hq
  | ok fl =>
    cases fl with
    | ret u => exact I1.after hq
    | next => exact False.elim hq
    | brk => exact False.elim hq
    | cont => exact False.elim hq
end
/-- what the def that gets the lambda makes of its reading -/
def Gives (X : Cx) (Ng : List Str) (x : Str) (sg : Scope) (g : Addr) (cdg : Value) (bg : List Stmt) (a q : Str) (k : Nat) (TT : (XK → Hp → VK → Prop) → Hp → VK → Prop) : Prop :=
  ∀ (f c' : Addr) (s : Shared) (H : Hp) (Q : VK) (tl : XK → Hp → VK → Prop), Room (k + 1) (X.A.deeper (envOfC x sg s.heap.objs.size g cdg)) →
    (∀ (W : WX) (pn : List (Addr × Obj)) (xe : Value → Shared → Prop) (E : XK) (p1 p2 : Pos), L2N.Takes ((cxOf C8.CX0 X.prog X.w X.K X.mg X.base Ng x sg g cdg X.A X.stack s H C8.E0).tr pn xe) W → (∀ cls d σ' H', E cls d H' → W cls d σ' H') →
      PE ((cxOf C8.CX0 X.prog X.w X.K X.mg X.base Ng x sg g cdg X.A X.stack s H C8.E0).tr pn xe) (.Call (.Name a p1) [] [] p2) (fun σZ HZ Q => σZ[0]? = some (some (.ref f)) ∧ HZ c' = some (CodeO c' q) ∧ tl E HZ Q)) →
    H c' = some (CodeO c' q) → TT tl H Q →
    ∃ t, PSs (cxOf C8.CX0 X.prog X.w X.K X.mg X.base Ng x sg g cdg X.A X.stack s H C8.E0).nox bg t ∧ t { nx := fun _ H' => Q .non H', rt := Q } (L2.start Ng [.ref f]) H
section
variable {X : Cx}
/-- x(lambda: body) -/
theorem lamcallN {T : List (Addr × Str)} {TT : (XK → Hp → VK → Prop) → Hp → VK → Prop} {x a : Str} {g c P : Addr} {k : Nat} {pg : Arguments} {bg : List Stmt} {sg : Scope} {dV kV doc pm cdv ct oc : Value} {an od : Option Addr} {osl : Array (Option Value)} {Ng : List Str}
    {params : Arguments} {body : Expr} {scope : Scope} {t : XK → TE} {p lpos pos : Pos} (hg : Gl X x) (hm : X.mg x = some (.ref g)) (hk : PySem.W.keepIn X.K (.ref g) = true)
    (lk : X.K.lookup g = some ⟨oc, od, .func (PySem.W.fnOf x x pg bg sg dV kV doc pm an cdv ct), osl⟩) (hcg : PySem.W.codeIn X.K cdv x = true) (hb : L2.Binds X.K (PySem.W.fnOf x x pg bg sg dV kV doc pm an cdv ct) [a] [])
    (Sg : FnScope Ng [a] sg) (hNg : Ng[0]? = some a) (hva : Vis sg a) (hG : Gives X Ng x sg g cdv bg a (X.env.qual ++ "<lambda>") k TT)
    (TB : TabB X.base X.mg c P) (hcode : X.env.code = .ref c) (hmT : (P, X.env.qual ++ "<lambda>") ∈ T) (hu : ∀ p ∈ T, p.1 = P → p.2 = X.env.qual ++ "<lambda>") (hr : Room (k + 2) X.A) (L : LamS X.env.scope scope) (hdef : defaultsOf params X.env = ([], []))
    (hbind : ∀ (q : Str) (cl : List (Str × Addr)) (pm cv ctv : Value), bindArgs (PySem.W.kla_fn "<lambda>" q params body scope cl pm cv ctv) ⟨[], []⟩ = pure [])
    (hbody : ∀ (A : Around) (outer : List Env) (s : Shared) (H : Hp) (E : XK) (f c' : Addr), Room k (A.deeper (lamEnv X scope s.heap.objs.size f c')) → PE (lamC X A outer s H E scope f c') body (t E))
    (hdb : (x == ("__debug__" : Str)) = false := by decide) (hd : (a == ("__debug__" : Str)) = false := by decide) (hcd : (a == ("__classdict__" : Str)) = false := by decide) :
    PE X (.Call (.Name x p) [.Lambda params body scope lpos] [] pos) (tLam T TT t) := by
  refine ⟨fun pins s σ H Q I ⟨hT, h⟩ => ?_⟩
  refine wpAny_Call_Name_kw (ld_glob I hg hm ?_ hdb)
  refine PySem.W.callWith_K (h₀ := X.base) I.ok.mod.kin hk ?_ (by rfl) (by rfl)
  show wpAny _ _ (spliced ((false, eval (.Lambda params body scope lpos) X.env) :: backTo pos (starEach [] X.env))) _ _ s
  refine Calls.spliced_cons (lam_make2 I TB hcode hmT hu hT hdef (L.has I.ok) fun f c' pm' ctv H1 t1 I1 eN T1 hf hfn hfr hco => ?_)
  refine Calls.spliced_nil ⟨I1.kIn, ?_⟩
  have rc : codeAny (model X.prog X.w) X.A (.call (.ref g) ⟨[.ref f], []⟩) (CR C8.CX0 X.stack X.prog X.w H1 t1 Q C8.E0) t1 := by
    refine run_ofS (N := Ng) (ps := [a]) (us := [.ref f]) (vs := [.ref f]) lk hcg Sg hr I1.env0 (hb t1 [.ref f] I1.kIn rfl) (.cons rfl .nil) rfl fun hr' => ?_
    obtain ⟨t', ht', hq'⟩ := hG f c' t1 H1 Q (fun E H' Q' => t E σ H' Q') hr' (fun W pn xe E p1 p2 tk hW => actN (i := 0) I1 L hf hfn hfr (hbind _ _ _ _ _) tk hW hr' (fun A outer s H hr2 => hbody A outer s H E f c' hr2) hNg hva hd hcd) hco (h H1 eN T1)
    exact ⟨t', ht'.nox, hq'⟩
  refine wpAny_call (codeAny_mono rc fun r t2 hq => ?_)
  cases r with
  | error e => exact (show False from hq).elim
  | ok fl =>
    cases fl with
    | ret u => exact I1.after hq
    | next => exact False.elim hq
    | brk => exact False.elim hq
    | cont => exact False.elim hq
end
/-! ### isinstance of a pinned exception -/
theorem callIsP {X : Cx} {a D : Addr} {oe : Obj} (hp : (a, oe) ∈ X.pn) (C : ExcC X.K D) (hz : Zc (.ref D) none oe) (hf : ∃ vs, oe.data = .fields vs) : CallR X (.builtin "isinstance") (rIsE X.K D a) := by
  rintro pins s σ H xs us Q I r ⟨c, cv, b, rfl, hcv, e, q⟩
  cases r with
  | cons rx rr =>
    cases rr with
    | cons rt rr =>
      cases rr
      cases rx
      obtain rfl := hcv _ rt
      obtain ⟨hget, _⟩ := I.pin (a, oe) (List.mem_append_left _ hp)
      obtain ⟨vs, hv⟩ := hf
      have J : PySem.W.InstAt s.heap a oe D none := by
        obtain ⟨oc, od, oda, osl⟩ := oe
        obtain ⟨h1, h2⟩ := hz
        dsimp only at h1 h2 hv
        subst h1 h2 hv
        exact ⟨hget, rfl, rfl, trivial⟩
      exact PySem.W.kia_one (PySem.W.handS_kitx_exc C.hg C.hk C.hs C.hd C.ha C.hn C.ht C.hm) I.kIn J e (fun z => nomatch z) fun tk => ⟨.bl b, H, I.kept (t' := tk) fun _ _ z => z, rfl, q⟩
/-! ### a def called with the exception that is handled -/
structure WordOk (P : Program) (w : World) (K : PySem.W.Frag) (mg : Str → Option Value) (base : Heap) (k : Nat) (f : Addr) (fd : FuncData) (ps : List Str) (sp : Addr × Obj → Hp → VK → Prop) : Prop where
  one : ps.length = 1
  run : ∀ (A : Around) (outer : List Env) (s : Shared) (H : Hp) (args : Args) (p : Addr × Obj) (Q : VK), RoomH k A → Hot1 A p → PinOk outer H s p → Env0 P w K mg base A outer s H → BindsTo s fd args (ps.zip [.ref p.1]) → sp p H Q →
    codeAny (model P w) A (.call (.ref f) args) (CR C8.CX0 outer P w H s Q C8.E0) s
theorem wordOk {P : Program} {w : World} {K : PySem.W.Frag} {mg : Str → Option Value} {base : Heap} {k : Nat} {f : Addr} {name qual : Str} {params : Arguments} {body : List Stmt} {scope : Scope} {dV kV doc pm cdv ct oc : Value} {an od : Option Addr} {osl : Array (Option Value)} {N : List Str} {x : Str}
    {sp : Addr × Obj → Hp → VK → Prop} (lk : K.lookup f = some ⟨oc, od, .func (PySem.W.fnOf name qual params body scope dV kV doc pm an cdv ct), osl⟩) (hcd : PySem.W.codeIn K cdv qual = true) (S : FnScope N [x] scope)
    (hbody : ∀ (A : Around) (outer : List Env) (s : Shared) (H : Hp) (Q : VK) (p : Addr × Obj), Hot1 A p → RoomH k (A.deeper (envOfC qual scope s.heap.objs.size f cdv)) → sp p H Q →
      ∃ t, PSs (cxH C8.CX0 P w K mg base N qual scope f cdv A outer s H C8.E0 p) body t ∧ t { nx := fun _ H' => Q .non H', rt := Q } (L2.start N [.ref p.1]) H) :
    WordOk P w K mg base (k + 1) f (PySem.W.fnOf name qual params body scope dV kV doc pm an cdv ct) [x] sp := by
  refine ⟨rfl, fun A outer s H args p Q hr hot hpin e0 hb hsp => ?_⟩
  have KX : K.In s.heap := e0.mod.kin.keeps fun b o e => (e0.bs b o e).1
  have lim : s.heap.NoLimit := e0.mod.nolimit.keeps fun b o e => (e0.bs b o e).1
  have hkind : ∀ y ∈ ([x] : List Str).zip [Value.ref p.1], scope.names.lookup y.1 = some .local ∨ (scope.names.lookup y.1 = some .cell ∧ ((cellsFrom (s.heap.objs.size + 1) scope.names []).lookup y.1).isSome = true) := fun ⟨n, v⟩ hy =>
    (S.par n (List.of_mem_zip hy).1).imp id fun q => ⟨q, PySem.W.cellsFrom_some _ _ _ (.inl q)⟩
  refine codeAny_call_function hr.depth (KX _ _ lk) rfl S.co S.gen rfl (PySem.W.codeRec_of KX hcd) (hb _ _ _ _ ?_)
  refine wpAny_newFunctionEnv_cells S.kind hkind fun env he s1 xx => ?_
  subst he
  refine ⟨lim.keeps xx.toInCall.keep, codeAny_func ?_⟩
  obtain ⟨t, ht, hq⟩ := hbody A outer s H Q p hot (hr.deeper _) hsp
  have I := inv_startH (CX := C8.CX0) (E := C8.E0) (vs := [.ref p.1]) S hpin e0 rfl (.cons rfl .nil) xx
  refine wpAny_mono (ht.run [] s1 _ H _ I hq) (fun fl t' hs => ?_) fun e t' hs => hs
  cases fl with
  | ret u =>
    obtain ⟨v, σ', H', J, rv, q⟩ := hs
    exact ⟨v, H', J.os, J.bare, J.base, J.hok, rv, q⟩
  | next =>
    obtain ⟨σ', H', J, q⟩ := hs
    exact ⟨.non, H', J.os, J.bare, J.base, J.hok, rfl, q⟩
  | brk =>
    obtain ⟨_, _, _, q⟩ := hs
    exact q.elim
  | cont =>
    obtain ⟨_, _, _, q⟩ := hs
    exact q.elim
section
variable {X : Cx}
/-- f(e), e a name that holds the exception of the suite -/
theorem peWord {k i : Nat} {f : Addr} {fd : FuncData} {ps : List Str} {sp : Addr × Obj → Hp → VK → Prop} {x n : Str} {p0 : Addr × Obj} {q1 q2 pos : Pos} (F : WordOk X.prog X.w X.K X.mg X.base k f fd ps sp) (hr : RoomH k X.A) (hot : Hot1 X.A p0) (hp : p0 ∈ X.pn) (hg : Gl X x) (hm : X.mg x = some (.ref f))
    (hk : PySem.W.keepIn X.K (.ref f) = true) (hb : L2.Binds X.K fd ps []) (hn : PE X (.Name n q2) (tVar i)) (hdb : (x == ("__debug__" : Str)) = false := by decide) :
    PE X (.Call (.Name x q1) [.Name n q2] [] pos) (fun σ H Q => σ[i]? = some (some (.ref p0.1)) ∧ sp p0 H Q) := by
  refine ⟨fun pins s σ H Q I ⟨h1, h2⟩ => ?_⟩
  refine wpAny_Call_Name_kw (ld_glob I hg hm ?_ hdb)
  have ha : PA X [.Name n q2] (tCons (tVar i) tNil) := pa_cons hn pa_nil
  refine PySem.W.callWith_K (h₀ := X.base) I.ok.mod.kin hk (thn (ha.run pos pins s σ H (fun vs H1 => vs = [V.ref p0.1] ∧ H = H1) I ⟨.ref p0.1, h1, rfl, rfl⟩) fun us s1 ⟨vs, H1, I1, r, ev, eH⟩ => ?_)
  subst ev eH
  refine ⟨I1.kIn, ?_⟩
  obtain rfl := Vals.ref1 r
  have b := hb s1 [.ref p0.1] I1.kIn (by rw [F.one]; rfl)
  rw [List.append_nil] at b
  have P1 := I1.pin p0 (List.mem_append_left _ hp)
  have hpin : PinOk X.stack H s1 p0 := ⟨P1.1, P1.2.1, fun hm => (List.mem_cons.mp (I1.stkSub p0.1 hm)).elim P1.2.2.1 P1.2.2.2.1, P1.2.2.2.2⟩
  refine wpAny_call (codeAny_mono (F.run X.A X.stack s1 H ⟨[.ref p0.1], []⟩ p0 Q hr hot hpin I1.env0 b h2) fun r t' hq => ?_)
  cases r with
  | error e => exact (show False from hq).elim
  | ok fl =>
    cases fl with
    | ret u => exact I1.after hq
    | next => exact False.elim hq
    | brk => exact False.elim hq
    | cont => exact False.elim hq
end
end TrL
end
section
/-! What every law of tryroad uses: defs by name, comprehensions that only add, things handed in. -/
namespace Tr
open PySem PySem.Spec PyProof.Rows L2
abbrev NX (P : Program) (w : World) : CXT := L2N.CX P w
/-! ### a def by its name -/
structure Kal (P : Program) (w : World) (K : PySem.W.Frag) (mg : Str → Option Value) (base : Heap) (CX : CXT) (k : Nat) (x : Str) (sp : Sp) : Prop where
  ex : ∃ (f : Addr) (fd : FuncData) (ps : List Str), FnOk P w K mg base CX k f fd ps sp ∧ mg x = some (.ref f) ∧ PySem.W.keepIn K (.ref f) = true ∧ Binds K fd ps []
structure Mal (P : Program) (w : World) (K : PySem.W.Frag) (mg : Str → Option Value) (base : Heap) (CX : CXT) (k : Nat) (C : Addr) (m : Str) (sp : Sp) : Prop where
  ex : ∃ (f : Addr) (fd : FuncData) (ps : List Str), FnOk P w K mg base CX k f fd ps sp ∧ Cls K C ∧ Meth K C m f ∧ Binds K fd ps []
structure Nal (P : Program) (w : World) (K : PySem.W.Frag) (mg : Str → Option Value) (base : Heap) (CX : CXT) (k : Nat) (x : Str) (C : Addr) (sp : Sp) : Prop where
  ex : ∃ (f : Addr) (fd : FuncData) (ps : List Str), FnOk P w K mg base CX k f fd ps sp ∧ Mk K C f ∧ mg x = some (.ref C) ∧ Binds K fd ps []
def tK (sp : Sp) (E : XK) (t : TA) : TE := fun σ H Q => t σ H fun vs H1 => sp vs H1 Q E
def tM (C : Addr) (m : Str) (sp : Sp) (E : XK) (ta : TE) (t : TA) : TE := fun σ H Q => ta σ H fun x H1 => ∃ a dx fs, x = .ref a ∧ H1 a = some (.ins C dx fs) ∧ fs.lookup m = none ∧ t σ H1 fun vs H2 => sp (x :: vs) H2 Q E
def tN (C : Addr) (sp : Sp) (E : XK) (t : TA) : TE := fun σ H Q => t σ H fun vs H1 => ∀ x dx, H1 x = none → H1 dx = none → dx ≠ x →
  sp (.ref x :: vs) (upd (upd H1 dx (.own x)) x (.ins C dx [])) (fun v H2 => v = .non ∧ Q (.ref x) H2) E
section
variable {X : Cx} {CX : CXT} {k j : Nat} {x m : Str} {C : Addr} {sp : Sp} {E : XK} {t : TA} {ta : TE} {e o : Expr} {es : List Expr} {p pos apos : Pos}
theorem pe_imp {t u : TE} (h : PE X e t) (i : ∀ σ H Q, u σ H Q → t σ H Q) : PE X e u := ⟨fun pins s σ H Q I q => h.run pins s σ H Q I (i σ H Q q)⟩
theorem pa_imp {t u : TA} (h : PA X es t) (i : ∀ σ H Q, u σ H Q → t σ H Q) : PA X es u := ⟨fun pos pins s σ H Q I q => h.run pos pins s σ H Q I (i σ H Q q)⟩
theorem pe_k (c : Kal X.prog X.w X.K X.mg X.base CX k x sp) (hr : Room j X.A) (hk : k ≤ j) (hx : Passes CX X E) (ha : PA X (e :: es) t) (hg : Gl X x := by rfl) (hdb : (x == ("__debug__" : Str)) = false := by decide)
    (he : starEach (e :: es) X.env = (false, eval e X.env) :: starEach es X.env := by rfl) (hpl : (backTo pos (starEach es X.env)).any (·.1) = false := by rfl) :
    PE X (.Call (.Name x p) (e :: es) [] pos) (tK sp E t) := by
  obtain ⟨f, fd, ps, F, hm, hkp, hb⟩ := c.ex
  refine pe_imp (pe_call F (hr.mono hk) hg hm hkp hb .nil hx ha hdb he hpl) fun σ H Q q => ?_
  show t σ H fun vs H1 => sp (vs ++ []) H1 Q E
  simp only [List.append_nil]
  exact q
theorem pe_k0 (c : Kal X.prog X.w X.K X.mg X.base CX k x sp) (hr : Room j X.A) (hk : k ≤ j) (hx : Passes CX X E) (hg : Gl X x := by rfl) (hdb : (x == ("__debug__" : Str)) = false := by decide) :
    PE X (.Call (.Name x p) [] [] pos) (tK sp E tNil) := by
  obtain ⟨f, fd, ps, F, hm, hkp, hb⟩ := c.ex
  exact pe_imp (pe_call0 F (hr.mono hk) hg hm hkp hb .nil hx hdb) fun σ H Q q => q
theorem pe_m (c : Mal X.prog X.w X.K X.mg X.base CX k C m sp) (hr : Room j X.A) (hk : k ≤ j) (hx : Passes CX X E) (ho : PE X o ta) (ha : PA X (e :: es) t) {pl : Sem Bool}
    (hst : starEach (e :: es) X.env = (false, eval e X.env) :: starEach es X.env := by rfl) (hpl : (backTo pos (starEach es X.env)).any (·.1) = false := by rfl)
    (ht : eval (.Call (.Attribute o m apos) (e :: es) [] pos) X.env = (do
      let ov ← eval o X.env
      standAt apos.atName
      let (f, first) ← holding [ov] (getMethod ov m pl)
      callWith pos f first (backTo pos (starEach (e :: es) X.env)) (backToKw pos (keywordEach [] X.env))) := by rfl) :
    PE X (.Call (.Attribute o m apos) (e :: es) [] pos) (tM C m sp E ta t) := by
  obtain ⟨f, fd, ps, F, cl, hm, hb⟩ := c.ex
  refine pe_imp (pe_meth (pl := pl) ho cl hm F (hr.mono hk) hb .nil hx ha hst hpl ht) fun σ H Q q => ?_
  show ta σ H fun x H1 => ∃ a dx fs, x = .ref a ∧ H1 a = some (.ins C dx fs) ∧ fs.lookup m = none ∧ t σ H1 fun vs H2 => sp (x :: (vs ++ [])) H2 Q E
  simp only [List.append_nil]
  exact q
theorem pe_m0 (c : Mal X.prog X.w X.K X.mg X.base CX k C m sp) (hr : Room j X.A) (hk : k ≤ j) (hx : Passes CX X E) (ho : PE X o ta) {pl : Sem Bool}
    (ht : eval (.Call (.Attribute o m apos) [] [] pos) X.env = (do
      let ov ← eval o X.env
      standAt apos.atName
      let (f, first) ← holding [ov] (getMethod ov m pl)
      callWith pos f first (backTo pos (starEach [] X.env)) (backToKw pos (keywordEach [] X.env))) := by rfl) :
    PE X (.Call (.Attribute o m apos) [] [] pos) (tM C m sp E ta tNil) := by
  obtain ⟨f, fd, ps, F, cl, hm, hb⟩ := c.ex
  exact pe_imp (pe_meth0 (pl := pl) ho cl hm F (hr.mono hk) hb .nil hx ht) fun σ H Q q => q
theorem pe_n (c : Nal X.prog X.w X.K X.mg X.base CX k x C sp) (hr : Room j X.A) (hk : k + 1 ≤ j) (hx : Passes CX X E) (ha : PA X (e :: es) t) (hg : Gl X x := by rfl) (hdb : (x == ("__debug__" : Str)) = false := by decide)
    (he : starEach (e :: es) X.env = (false, eval e X.env) :: starEach es X.env := by rfl) (hpl : (backTo pos (starEach es X.env)).any (·.1) = false := by rfl) :
    PE X (.Call (.Name x p) (e :: es) [] pos) (tN C sp E t) := by
  obtain ⟨f, fd, ps, F, M, hm, hb⟩ := c.ex
  refine pe_imp (pe_make M F (hr.mono hk) hg hm hb .nil hx ha hdb he hpl) fun σ H Q q => ?_
  show t σ H fun vs H1 => ∀ x dx, H1 x = none → H1 dx = none → dx ≠ x → sp (.ref x :: (vs ++ [])) (upd (upd H1 dx (.own x)) x (.ins C dx [])) (fun v H2 => v = .non ∧ Q (.ref x) H2) E
  simp only [List.append_nil]
  exact q
theorem pe_n0 (c : Nal X.prog X.w X.K X.mg X.base CX k x C sp) (hr : Room j X.A) (hk : k + 1 ≤ j) (hx : Passes CX X E) (hg : Gl X x := by rfl) (hdb : (x == ("__debug__" : Str)) = false := by decide) :
    PE X (.Call (.Name x p) [] [] pos) (tN C sp E tNil) := by
  obtain ⟨f, fd, ps, F, M, hm, hb⟩ := c.ex
  exact pe_imp (pe_make0 M F (hr.mono hk) hg hm hb .nil hx hdb) fun σ H Q q => q
end
theorem Kal.mono {P : Program} {w : World} {K : PySem.W.Frag} {mg : Str → Option Value} {base : Heap} {CX : CXT} {j k : Nat} {x : Str} {sp : Sp} (c : Kal P w K mg base CX j x sp) (h : j ≤ k) : Kal P w K mg base CX k x sp := by
  obtain ⟨f, fd, ps, F, r⟩ := c.ex
  exact ⟨f, fd, ps, F.mono h, r⟩
/-! ### heaps that only grow -/
theorem same_new {H : Hp} {p : Addr} {o : HO} (h : H p = none) : Same H (upd H p o) := fun a u e => by
  rw [upd_ne (ne_of_none e h)]
  exact e
theorem same_mut {H H' : Hp} {p : Addr} {o : HO} (e : Same H H') (h : H p = none) : Same H (upd H' p o) := fun a u ha => by
  rw [upd_ne (ne_of_none ha h)]
  exact e a u ha
theorem same_t {K : PySem.W.Frag} {H H' : Hp} {a : Addr} {xs : List V} (e : Same H H') (h : SqT K H a xs) : SqT K H' a xs := by
  rcases h with (h | ⟨o, h⟩) | h
  · exact .inl (.inl (e _ _ h))
  · exact .inl (.inr ⟨o, e _ _ h⟩)
  · exact .inr h
theorem sqL {K : PySem.W.Frag} {H : Hp} {a : Addr} {xs : List V} (h : H a = some (.lst xs)) : SqL K H a xs := .inl (.inl h)
theorem sqT {K : PySem.W.Frag} {H : Hp} {a : Addr} {xs : List V} (h : H a = some (.tup xs)) : SqT K H a xs := .inl (.inl h)
theorem sz {n : Nat} (h : n ≤ 100000) : n ≤ sizeLine := Nat.le_trans h (by decide)
theorem sz1 {n : Nat} (h : n < 100000) : n < sizeLine := Nat.lt_of_lt_of_le h (by decide)
mutual
theorem same_dp {K : PySem.W.Frag} {H H' : Hp} (e : Same H H') : ∀ {v : V} {d : PyData}, Dp K H v d → Dp K H' v d
  | _, _, .non => .non
  | _, _, .bl b => .bl b
  | _, _, .int i => .int i
  | _, _, .str x => .str x
  | _, _, .lst h a => .lst (e.seq h) (same_dps e a)
  | _, _, .tup h a => .tup (same_t e h) (same_dps e a)
theorem same_dps {K : PySem.W.Frag} {H H' : Hp} (e : Same H H') : ∀ {vs : List V} {ds : List PyData}, DpAll K H vs ds → DpAll K H' vs ds
  | _, _, .nil => .nil
  | _, _, .cons h a => .cons (same_dp e h) (same_dps e a)
end
/-! ### a comprehension that only adds: acc by a word P of the turn and the items so far -/
theorem lc_adds {J : It} {n : Nat} {G : Hp → Prop} {Y : Nat → Hp → V → Hp → Prop} (w : Walk J n G Y) {g : TG} {tt : TT} {te : TE} {vs : List Nat} {σ : L2.St} {H1 : Hp} {D : Addr} {Qd : Hp → Prop} (P : Nat → List V → Prop)
    (hD : H1 D = none) (hn : n ≤ 90000) (h0 : P 0 []) (hl : ∀ i acc, P i acc → acc.length ≤ i) (hG : ∀ H, Same H1 H → G H)
    (hs : ∀ (T : VK) (N : Hp → Prop) i acc x H H', (∀ y H4, Same H H4 → P (i + 1) (acc ++ [y]) → T y H4) → (∀ H3, Same H H3 → P (i + 1) acc → N H3) → i < n → Same H1 H → P i acc → Y i H x H' →
      g x (wipe σ vs) H' fun σ2 H2 => wipe σ2 vs = wipe σ vs ∧ tt σ2 H2 fun b H3 => if b = true then te σ2 H3 T else N H3)
    (hd : ∀ acc H, Same H1 H → H D = some (.lst acc) → P n acc → Qd H) :
    ∃ W : Nat → Nat → Hp → Prop, (∃ m, W 0 m (upd H1 D (.lst []))) ∧ ∀ i m H, W i m H →
      (J.stop i H ∧ Qd H) ∨ (J.go i H ∧ ∃ Nx : Hp → Prop, (∀ H', Nx H' → ∃ m', m' < m ∧ W (i + 1) m' H') ∧ ∀ x H', J.yld i H x H' → g x (wipe σ vs) H' fun σ2 H2 => wipe σ2 vs = wipe σ vs ∧ tt σ2 H2 fun b H3 =>
        if b = true then te σ2 H3 fun y H4 => ∃ acc, H4 D = some (.lst acc) ∧ acc.length < sizeLine ∧ Nx (upd H4 D (.lst (acc ++ [y]))) else Nx H3) := by
  refine lc_it w (fun i H => ∃ acc, Same H1 H ∧ H D = some (.lst acc) ∧ P i acc) ⟨[], same_new hD, upd_same, h0⟩ (fun i H _ ⟨_, s, _⟩ => hG H s) ?_ fun H ⟨acc, s, h, p⟩ => hd acc H s h p
  rintro i x H H' hi ⟨acc, s, hDa, p⟩ y
  exact hs _ _ i acc x H H' (fun v H4 s4 p4 => ⟨acc, s4 _ _ hDa, sz1 (by have := hl i acc p; omega), acc ++ [v], same_mut (s.trans s4) hD, upd_same, p4⟩) (fun H3 s3 p3 => ⟨acc, s.trans s3, s3 _ _ hDa, p3⟩) hi s p y
/-! ### things that are handed in -/
/-- flat things, tuples, lists -/
inductive Thing (K : PySem.W.Frag) (H : Hp) : V → Prop
  | non : Thing K H .non
  | bl (b : Bool) : Thing K H (.bl b)
  | int (i : Int) : Thing K H (.int i)
  | str (x : Str) : Thing K H (.str x)
  | lst {a : Addr} {xs : List V} (e : H a = some (.lst xs)) : Thing K H (.ref a)
  | tup {a : Addr} {xs : List V} (e : H a = some (.tup xs)) : Thing K H (.ref a)
theorem Thing.same {K : PySem.W.Frag} {H H' : Hp} {v : V} (h : Thing K H v) (e : Same H H') : Thing K H' v := by
  cases h with
  | non => exact .non
  | bl b => exact .bl b
  | int i => exact .int i
  | str x => exact .str x
  | lst q => exact .lst (e _ _ q)
  | tup q => exact .tup (e _ _ q)
/-- isinstance of a thing, by the class's name -/
inductive IsOf (K : PySem.W.Frag) (H : Hp) (v : V) : String → Bool → Prop
  | mk {n c : String} {b : Bool} (t : TyX K H v (.type n)) (e : PySem.W.kitOne K (.type n) (.type c) = some b) : IsOf K H v c b
/-! ### the classes of refusals, as the top has written them -/
def excCB (K : PySem.W.Frag) (D : Addr) : Bool := He.eqO (PySem.W.findIn K (.ref D) "__getattribute__") (some (some (.builtin "BaseException.__getattribute__"))) && (He.eqO (PySem.W.findIn K (.ref D) "__getattr__") (some none) &&
  (decide (PySem.W.subIn K (.ref D) (.type "BaseException") = some true) && (PySem.W.hasDictIn K D && (He.eqO (PySem.W.findIn K (.ref D) "__class__") (some (some (.builtin "object.__class__"))) &&
  (He.eqO (PySem.W.specialIn K (.builtin "object.__class__") "__get__") (some (some (.builtin "getset_descriptor.__get__"))) && (decide (PySem.W.takesIn K (.builtin "object.__class__") = some true) && decide (PySem.W.mroIn K D (.type "object") = some true)))))))
theorem excC_of {K : PySem.W.Frag} {D : Addr} (h : excCB K D = true) : ExcC K D := by
  obtain ⟨h1, h⟩ := He.ba h
  obtain ⟨h2, h⟩ := He.ba h
  obtain ⟨h3, h⟩ := He.ba h
  obtain ⟨h4, h⟩ := He.ba h
  obtain ⟨h5, h⟩ := He.ba h
  obtain ⟨h6, h⟩ := He.ba h
  obtain ⟨h7, h8⟩ := He.ba h
  exact ⟨He.eqO_ok h1, He.eqO_ok h2, of_decide_eq_true h3, h4, He.eqO_ok h5, He.eqO_ok h6, of_decide_eq_true h7, of_decide_eq_true h8⟩
def wordB (K : PySem.W.Frag) (cs : List Str) : Bool := cs.all fun d => excCB K (He.ga K d) && (decide (PySem.W.exmOne K (.ref (He.ga K d)) (.ref (He.ga K "TryError")) = some true) && (decide (PySem.W.kitOne K (.ref (He.ga K d)) (.type "ValueError") = some true) &&
  cs.all fun c => decide (PySem.W.kitOne K (.ref (He.ga K d)) (.ref (He.ga K c)) = some (decide (d = c)))))
structure Word (K : PySem.W.Frag) (cs : List Str) (d : Str) : Prop where
  exc : ExcC K (He.ga K d)
  exm : PySem.W.exmOne K (.ref (He.ga K d)) (.ref (He.ga K "TryError")) = some true
  val : PySem.W.kitOne K (.ref (He.ga K d)) (.type "ValueError") = some true
  kit : ∀ c ∈ cs, PySem.W.kitOne K (.ref (He.ga K d)) (.ref (He.ga K c)) = some (decide (d = c))
theorem word_of {K : PySem.W.Frag} {cs : List Str} (h : wordB K cs = true) {d : Str} (hd : d ∈ cs) : Word K cs d := by
  obtain ⟨h1, h⟩ := He.ba (List.all_eq_true.mp h d hd)
  obtain ⟨h2, h⟩ := He.ba h
  obtain ⟨h3, h4⟩ := He.ba h
  exact ⟨excC_of h1, of_decide_eq_true h2, of_decide_eq_true h3, fun c hc => of_decide_eq_true (List.all_eq_true.mp h4 c hc)⟩
/-! ### tuples that the top has written -/
def itemA (K : PySem.W.Frag) (x : Str) (i : Nat) : Addr := match K.lookup (He.ga K x) with
  | some ⟨_, _, .seq its _, _⟩ => (match its.toList[i]? with
    | some (.ref a) => a
    | _ => 0)
  | _ => 0
def tupAt (K : PySem.W.Frag) (a : Addr) (vs : List V) : Bool := match K.lookup a with
  | some ⟨.type c, _, .seq its _, _⟩ => decide (c = "tuple") && (decide (its.size ≤ sizeLine) && He.relAll vs its.toList)
  | _ => false
theorem tupAt_ok {K : PySem.W.Frag} {a : Addr} {vs : List V} (h : tupAt K a vs = true) (H : Hp) : SqT K H a vs := by
  unfold tupAt at h
  cases q : K.lookup a with
  | none =>
    rw [q] at h
    cases h
  | some o =>
    obtain ⟨oc, od, dt, osl⟩ := o
    rw [q] at h
    cases oc with
    | type c =>
      cases dt with
      | seq its n =>
        obtain ⟨h1, h2⟩ := He.ba (show (decide (c = "tuple") && (decide (its.size ≤ sizeLine) && He.relAll vs its.toList)) = true from h)
        obtain ⟨h3, h4⟩ := He.ba h2
        exact .inr ⟨_, its, n, q, congrArg Value.type (of_decide_eq_true h1), rfl, of_decide_eq_true h3, He.relAll_ok h4⟩
      | _ => cases h
    | _ => cases dt <;> cases h
/-! ### a def as the head tells it -/
theorem kal_of {P : Program} {w : World} {K : PySem.W.Frag} {mg : Str → Option Value} {base : Heap} {CX : CXT} {N ps : List Str} {k : Nat} {x : Str} {st : Stmt} {f : Addr} {sp : Sp} (F : ∃ fd, FunD K x x (defArgs st) (defBody st) (defScope st) [] [] f fd) (hm : mg x = some (.ref f)) (S : FnScope N ps (defScope st))
    (hb : ∀ (kV doc pm : Value) (an : Option Addr) (cdv ct : Value) (us : List Value), us.length = ps.length → bindArgs (PySem.W.fnOf x x (defArgs st) (defBody st) (defScope st) .none kV doc pm an cdv ct) ⟨us, []⟩ = pure (ps.zip us))
    (len : ∀ vs H Q E, sp vs H Q E → vs.length = ps.length)
    (hbody : ∀ (cdv : Value) (A : Around) (outer : List Env) (s : Shared) (H : Hp) (vs : List V) (Q : VK) (E : XK), Room k (A.deeper (envOfC x (defScope st) s.heap.objs.size f cdv)) → sp vs H Q E →
      ∃ t, PSs (cxOf CX P w K mg base N x (defScope st) f cdv A outer s H E) (defBody st) t ∧ t { nx := fun _ H' => Q .non H', rt := Q } (L2.start N vs) H) : Kal P w K mg base CX (k + 1) x sp := by
  obtain ⟨fd, F⟩ := F
  exact ⟨f, fd, ps, F.ok S len hbody, hm, F.kp, F.bindsN hb⟩
theorem mal_of {P : Program} {w : World} {K : PySem.W.Frag} {mg : Str → Option Value} {base : Heap} {CX : CXT} {N ps : List Str} {k : Nat} {m q : Str} {st : Stmt} {C f : Addr} {sp : Sp} (F : ∃ fd, FunD K m q (defArgs st) (defBody st) (defScope st) [] [] f fd) (c : Cls K C) (hm : Meth K C m f) (S : FnScope N ps (defScope st))
    (hb : ∀ (kV doc pm : Value) (an : Option Addr) (cdv ct : Value) (us : List Value), us.length = ps.length → bindArgs (PySem.W.fnOf m q (defArgs st) (defBody st) (defScope st) .none kV doc pm an cdv ct) ⟨us, []⟩ = pure (ps.zip us))
    (len : ∀ vs H Q E, sp vs H Q E → vs.length = ps.length)
    (hbody : ∀ (cdv : Value) (A : Around) (outer : List Env) (s : Shared) (H : Hp) (vs : List V) (Q : VK) (E : XK), Room k (A.deeper (envOfC q (defScope st) s.heap.objs.size f cdv)) → sp vs H Q E →
      ∃ t, PSs (cxOf CX P w K mg base N q (defScope st) f cdv A outer s H E) (defBody st) t ∧ t { nx := fun _ H' => Q .non H', rt := Q } (L2.start N vs) H) : Mal P w K mg base CX (k + 1) C m sp := by
  obtain ⟨fd, F⟩ := F
  exact ⟨f, fd, ps, F.ok S len hbody, c, hm, F.bindsN hb⟩
theorem nal_of {P : Program} {w : World} {K : PySem.W.Frag} {mg : Str → Option Value} {base : Heap} {CX : CXT} {N ps : List Str} {k : Nat} {x q : Str} {st : Stmt} {C f : Addr} {sp : Sp} (F : ∃ fd, FunD K "__init__" q (defArgs st) (defBody st) (defScope st) [] [] f fd) (M : Mk K C f) (hm : mg x = some (.ref C)) (S : FnScope N ps (defScope st))
    (hb : ∀ (kV doc pm : Value) (an : Option Addr) (cdv ct : Value) (us : List Value), us.length = ps.length → bindArgs (PySem.W.fnOf "__init__" q (defArgs st) (defBody st) (defScope st) .none kV doc pm an cdv ct) ⟨us, []⟩ = pure (ps.zip us))
    (len : ∀ vs H Q E, sp vs H Q E → vs.length = ps.length)
    (hbody : ∀ (cdv : Value) (A : Around) (outer : List Env) (s : Shared) (H : Hp) (vs : List V) (Q : VK) (E : XK), Room k (A.deeper (envOfC q (defScope st) s.heap.objs.size f cdv)) → sp vs H Q E →
      ∃ t, PSs (cxOf CX P w K mg base N q (defScope st) f cdv A outer s H E) (defBody st) t ∧ t { nx := fun _ H' => Q .non H', rt := Q } (L2.start N vs) H) : Nal P w K mg base CX (k + 1) x C sp := by
  obtain ⟨fd, F⟩ := F
  exact ⟨f, fd, ps, F.ok S len hbody, M, hm, F.bindsN hb⟩
/-! ### built-ins by their names -/
section
variable {X : Cx} {t : TA} {e : Expr} {es : List Expr} {p pos : Pos}
theorem b_isi (hm : X.mg "isinstance" = none) (ha : PA X (e :: es) t) (hg : Gl X "isinstance" := by rfl)
    (he : starEach (e :: es) X.env = (false, eval e X.env) :: starEach es X.env := by rfl) (hpl : (backTo pos (starEach es X.env)).any (·.1) = false := by rfl) : PE X (.Call (.Name "isinstance" p) (e :: es) [] pos) (tCB (rIsi X.K) t) :=
  pe_callB call_isi hg hm (by decide +kernel) ha (he := he) (hpl := hpl)
theorem b_len (hm : X.mg "len" = none) (ha : PA X (e :: es) t) (hg : Gl X "len" := by rfl)
    (he : starEach (e :: es) X.env = (false, eval e X.env) :: starEach es X.env := by rfl) (hpl : (backTo pos (starEach es X.env)).any (·.1) = false := by rfl) : PE X (.Call (.Name "len" p) (e :: es) [] pos) (tCB (fun xs H Q => ∃ x n, xs = [x] ∧ LenV X.K x H n ∧ Q (.int n) H) t) :=
  pe_callB call_len hg hm (by decide +kernel) ha (he := he) (hpl := hpl)
theorem b_all (hc : X.calm = true) (hm : X.mg "all" = none) (ha : PA X (e :: es) t) (hg : Gl X "all" := by rfl)
    (he : starEach (e :: es) X.env = (false, eval e X.env) :: starEach es X.env := by rfl) (hpl : (backTo pos (starEach es X.env)).any (·.1) = false := by rfl) : PE X (.Call (.Name "all" p) (e :: es) [] pos) (tCB (rAll X.K) t) :=
  pe_callB (cr_all hc) hg hm (by decide +kernel) ha (he := he) (hpl := hpl)
theorem b_sum (hc : X.calm = true) (hm : X.mg "sum" = none) (ha : PA X (e :: es) t) (hg : Gl X "sum" := by rfl)
    (he : starEach (e :: es) X.env = (false, eval e X.env) :: starEach es X.env := by rfl) (hpl : (backTo pos (starEach es X.env)).any (·.1) = false := by rfl) : PE X (.Call (.Name "sum" p) (e :: es) [] pos) (tCB (rSum X.K) t) :=
  pe_callB (cr_sum hc) hg hm (by decide +kernel) ha (he := he) (hpl := hpl)
theorem b_min2 (hc : X.calm = true) (hm : X.mg "min" = none) (ha : PA X (e :: es) t) (hg : Gl X "min" := by rfl)
    (he : starEach (e :: es) X.env = (false, eval e X.env) :: starEach es X.env := by rfl) (hpl : (backTo pos (starEach es X.env)).any (·.1) = false := by rfl) : PE X (.Call (.Name "min" p) (e :: es) [] pos) (tCB (fun xs H Q => ∃ i j, xs = [.int i, .int j] ∧ Q (.int (if j < i then j else i)) H) t) :=
  pe_callB (call_min2 hc) hg hm (by decide +kernel) ha (he := he) (hpl := hpl)
theorem b_max2 (hc : X.calm = true) (hm : X.mg "max" = none) (ha : PA X (e :: es) t) (hg : Gl X "max" := by rfl)
    (he : starEach (e :: es) X.env = (false, eval e X.env) :: starEach es X.env := by rfl) (hpl : (backTo pos (starEach es X.env)).any (·.1) = false := by rfl) : PE X (.Call (.Name "max" p) (e :: es) [] pos) (tCB (fun xs H Q => ∃ i j, xs = [.int i, .int j] ∧ Q (.int (if j > i then j else i)) H) t) :=
  pe_callB (call_max2 hc) hg hm (by decide +kernel) ha (he := he) (hpl := hpl)
theorem b_int (hm : X.mg "int" = none) (ha : PA X (e :: es) t) (hg : Gl X "int" := by rfl)
    (he : starEach (e :: es) X.env = (false, eval e X.env) :: starEach es X.env := by rfl) (hpl : (backTo pos (starEach es X.env)).any (·.1) = false := by rfl) : PE X (.Call (.Name "int" p) (e :: es) [] pos) (tCB (fun xs H Q => (∃ i, xs = [.int i] ∧ Q (.int i) H) ∨ ∃ k, xs = [.bl k] ∧ Q (.int (if k then 1 else 0)) H) t) :=
  pe_callTy call_int1 hg hm (by decide +kernel) ha (he := he) (hpl := hpl)
theorem b_str (hm : X.mg "str" = none) (ha : PA X (e :: es) t) (hg : Gl X "str" := by rfl)
    (he : starEach (e :: es) X.env = (false, eval e X.env) :: starEach es X.env := by rfl) (hpl : (backTo pos (starEach es X.env)).any (·.1) = false := by rfl) : PE X (.Call (.Name "str" p) (e :: es) [] pos) (tCB (fun xs H Q => ∃ i, xs = [.int i] ∧ i.natAbs.log2 < 1920 ∧ Q (.str (toString i)) H) t) :=
  pe_callTy call_str_int hg hm (by decide +kernel) ha (he := he) (hpl := hpl)
theorem b_list (hm : X.mg "list" = none) (ha : PA X (e :: es) t) (hg : Gl X "list" := by rfl)
    (he : starEach (e :: es) X.env = (false, eval e X.env) :: starEach es X.env := by rfl) (hpl : (backTo pos (starEach es X.env)).any (·.1) = false := by rfl) : PE X (.Call (.Name "list" p) (e :: es) [] pos) (tCB (fun xs H Q => ∃ p ys, xs = [.ref p] ∧ (SqL X.K H p ys ∨ SqT X.K H p ys) ∧ ∀ l, H l = none → Q (.ref l) (upd H l (.lst ys))) t) :=
  pe_callTy call_list_of hg hm (by decide +kernel) ha (he := he) (hpl := hpl)
theorem b_tuple (hm : X.mg "tuple" = none) (ha : PA X (e :: es) t) (hg : Gl X "tuple" := by rfl)
    (he : starEach (e :: es) X.env = (false, eval e X.env) :: starEach es X.env := by rfl) (hpl : (backTo pos (starEach es X.env)).any (·.1) = false := by rfl) : PE X (.Call (.Name "tuple" p) (e :: es) [] pos) (tCB (fun xs H Q => ∃ p ys, xs = [.ref p] ∧ ((SqL X.K H p ys ∧ ∀ l, H l = none → Q (.ref l) (upd H l (.tup ys))) ∨ (SqT X.K H p ys ∧ Q (.ref p) H))) t) :=
  pe_callTy call_tuple_of hg hm (by decide +kernel) ha (he := he) (hpl := hpl)
theorem b_sortedI (hm : X.mg "sorted" = none) (ha : PA X (e :: es) t) (hg : Gl X "sorted" := by rfl)
    (he : starEach (e :: es) X.env = (false, eval e X.env) :: starEach es X.env := by rfl) (hpl : (backTo pos (starEach es X.env)).any (·.1) = false := by rfl) : PE X (.Call (.Name "sorted" p) (e :: es) [] pos) (tCB (rSortedI X.K) t) :=
  pe_callB cr_sortedI hg hm (by decide +kernel) ha (he := he) (hpl := hpl)
end
/-! ### data: no dict, not deep -/
def Sh (n : Nat) (d : PyData) : Prop := d.canLay0 = true ∧ d.depth ≤ n
theorem sh_all {n : Nat} : ∀ {ds : List PyData}, (∀ d ∈ ds, Sh n d) → PyData.canLayAll0 ds = true ∧ PyData.depthAll ds ≤ n
  | [], _ => ⟨rfl, Nat.zero_le _⟩
  | d :: ds, h => by
    have h1 := h d List.mem_cons_self
    have h2 := sh_all (ds := ds) fun x hx => h x (List.mem_cons_of_mem _ hx)
    refine ⟨?_, ?_⟩
    · show (d.canLay0 && PyData.canLayAll0 ds) = true
      rw [h1.1, h2.1]
      rfl
    · show max d.depth (PyData.depthAll ds) ≤ n
      exact Nat.max_le.mpr ⟨h1.2, h2.2⟩
theorem sh_lst {n : Nat} {ds : List PyData} (h : ∀ d ∈ ds, Sh n d) : Sh (n + 1) (.list ds) := ⟨(sh_all h).1, Nat.succ_le_succ (sh_all h).2⟩
theorem sh_tup {n : Nat} {ds : List PyData} (h : ∀ d ∈ ds, Sh n d) : Sh (n + 1) (.tuple ds) := ⟨(sh_all h).1, Nat.succ_le_succ (sh_all h).2⟩
theorem sh_non : Sh 0 .none := ⟨rfl, Nat.le_refl _⟩
theorem sh_int (i : Int) : Sh 0 (.int i) := ⟨rfl, Nat.le_refl _⟩
theorem sh_bl (b : Bool) : Sh 0 (.bool b) := ⟨rfl, Nat.le_refl _⟩
theorem Sh.mono {n m : Nat} {d : PyData} (h : Sh n d) (l : n ≤ m) : Sh m d := ⟨h.1, Nat.le_trans h.2 l⟩
theorem Sh.shaped {n : Nat} {d : PyData} (h : Sh n d) (l : n ≤ 64 := by decide) : SeqAt.shaped d = true := by
  unfold SeqAt.shaped
  rw [h.1, decide_eq_true (Nat.le_trans h.2 l)]
  rfl
theorem Sh.self {n : Nat} {d : PyData} (h : Sh n d) : PyData.eqv d d = true := SeqAt.eqv_refl d h.1
theorem dp_ints {K : PySem.W.Frag} {H : Hp} : ∀ ns : List Int, DpAll K H (ns.map V.int) (ns.map PyData.int)
  | [] => .nil
  | n :: ns => .cons (.int n) (dp_ints ns)
theorem sh_ints (ns : List Int) : Sh 1 (.list (ns.map PyData.int)) := sh_lst fun d hd => by
  obtain ⟨i, _, rfl⟩ := List.mem_map.mp hd
  exact sh_int i
theorem eqv_nil (ns : List Int) : PyData.eqv (.list (ns.map PyData.int)) (.list []) = ns.isEmpty := by
  cases ns with
  | nil => rfl
  | cons _ _ => rfl
theorem eqv_ints : ∀ ns ms : List Int, PyData.eqv (.list (ns.map PyData.int)) (.list (ms.map PyData.int)) = decide (ns = ms)
  | [], [] => rfl
  | [], _ :: _ => rfl
  | _ :: _, [] => rfl
  | n :: ns, m :: ms => by
    have ih := eqv_ints ns ms
    have ih2 : PyData.eqvAll (ns.map PyData.int) (ms.map PyData.int) = decide (ns = ms) := by rw [← ih, PyData.eqv]
    show PyData.eqv (.list (PyData.int n :: ns.map PyData.int)) (.list (PyData.int m :: ms.map PyData.int)) = _
    rw [PyData.eqv, PyData.eqvAll, ih2, PyData.eqv]
    by_cases h1 : n = m <;> by_cases h2 : ns = ms <;> simp [h1, h2]
/-- a test that is decided: both ways -/
theorem itd {c A B : Prop} [Decidable c] (h1 : c → A) (h2 : ¬ c → B) : if decide c = true then A else B := by
  by_cases h : c
  · rw [decide_eq_true h]
    exact h1 h
  · rw [decide_eq_false h]
    exact h2 h
theorem itb {b : Bool} {A B : Prop} (h1 : b = true → A) (h2 : b = false → B) : if b = true then A else B := by
  cases b with
  | true => exact h1 rfl
  | false => exact h2 rfl
theorem itnd {c A B : Prop} [Decidable c] (h1 : ¬ c → A) (h2 : c → B) : if (!decide c) = true then A else B := by
  by_cases h : c
  · rw [decide_eq_true h]
    exact h2 h
  · rw [decide_eq_false h]
    exact h1 h
/-! ### readings opened one by one -/
theorem r_seq {t u : TS} {D : Ends} {σ : L2.St} {H : Hp} (h : t { D with nx := u D } σ H) : tSeq t u D σ H := h
theorem r_asg {te : TE} {g : TG} {D : Ends} {σ : L2.St} {H : Hp} (h : te σ H fun x H1 => g x σ H1 D.nx) : tAsg te g D σ H := h
theorem r_lst {t : TA} {σ : L2.St} {H : Hp} {Q : VK} (h : t σ H fun xs H1 => xs.length ≤ sizeLine ∧ ∀ p, H1 p = none → Q (.ref p) (upd H1 p (.lst xs))) : tLst t σ H Q := h
/-! ### tuples cut and joined, what stands there told -/
theorem rd_cat {K : PySem.W.Frag} {H : Hp} {a b : Addr} {xs ys : List V} {Q : VK} (ha : H a = some (.tup xs)) (hb : H b = some (.tup ys)) (hz : xs.length + ys.length ≤ 100000)
    (h : ∀ (t : Addr) (H' : Hp), Same H H' → H' t = some (.tup (xs ++ ys)) → Q (.ref t) H') : rCatA K (.ref a) (.ref b) H Q := by
  refine ⟨a, b, xs, ys, rfl, rfl, sqT ha, sqT hb, sz hz, fun e => ?_, fun _ e => ?_, fun _ _ p hp => h p _ (same_new hp) upd_same⟩
  · subst e
    exact h b H (Same.refl H) hb
  · subst e
    exact h a H (Same.refl H) (by rw [List.append_nil]; exact ha)
theorem rd_cut {K : PySem.W.Frag} {H : Hp} {a : Addr} {xs : List V} {lo hi : Option Int} {Q : VK} (ha : H a = some (.tup xs))
    (h : ∀ (t : Addr) (H' : Hp), Same H H' → H' t = some (.tup (cutV xs lo hi)) → Q (.ref t) H') : rSlA K (.ref a) lo hi H Q := by
  refine ⟨a, xs, rfl, sqT ha, fun ⟨e1, e2⟩ => ?_, fun _ p hp => h p _ (same_new hp) upd_same⟩
  refine h a H (Same.refl H) ?_
  have e : cutV xs lo hi = xs := by
    unfold cutV
    rw [e1, e2]
    simp
  rw [e]
  exact ha
theorem cut_to {xs : List V} {j : Nat} (h : j ≤ xs.length) : cutV xs none (some (j : Int)) = xs.take j := by
  unfold cutV
  rw [HT.sIx_none, HT.sIx_nat, Nat.min_eq_left h]
  simp
theorem cut_from {xs : List V} {j : Nat} (h : j ≤ xs.length) : cutV xs (some (j : Int)) none = xs.drop j := by
  unfold cutV
  rw [HT.sIx_none, HT.sIx_nat, Nat.min_eq_left h]
  rw [List.take_of_length_le (by rw [List.length_drop]; omega)]
/-! ### what grows but for the tables -/
theorem ext_of {H H' : Hp} (s : Same H H') : LamX.ExtN H H' := fun b o e _ => s b o e
theorem ext_l {K : PySem.W.Frag} {H H' : Hp} {a : Addr} {xs : List V} (e : LamX.ExtN H H') (h : SqL K H a xs) : SqL K H' a xs := by
  rcases h with (h | ⟨o, h⟩) | h
  · exact .inl (.inl (e _ _ h (fun _ z => by cases z)))
  · exact .inl (.inr ⟨o, e _ _ h (fun _ z => by cases z)⟩)
  · exact .inr h
theorem ext_t {K : PySem.W.Frag} {H H' : Hp} {a : Addr} {xs : List V} (e : LamX.ExtN H H') (h : SqT K H a xs) : SqT K H' a xs := by
  rcases h with (h | ⟨o, h⟩) | h
  · exact .inl (.inl (e _ _ h (fun _ z => by cases z)))
  · exact .inl (.inr ⟨o, e _ _ h (fun _ z => by cases z)⟩)
  · exact .inr h
theorem ext_tup {H H' : Hp} {a : Addr} {xs : List V} (e : LamX.ExtN H H') (h : H a = some (.tup xs)) : H' a = some (.tup xs) := e _ _ h (fun _ z => by cases z)
theorem ext_lst {H H' : Hp} {a : Addr} {xs : List V} (e : LamX.ExtN H H') (h : H a = some (.lst xs)) : H' a = some (.lst xs) := e _ _ h (fun _ z => by cases z)
theorem ext_mut {H H' : Hp} {p : Addr} {o : HO} (e : LamX.ExtN H H') (h : H p = none) : LamX.ExtN H (upd H' p o) := fun a u ha hn => by
  rw [upd_ne (ne_of_none ha h)]
  exact e a u ha hn
mutual
theorem ext_dp {K : PySem.W.Frag} {H H' : Hp} (e : LamX.ExtN H H') : ∀ {v : V} {d : PyData}, Dp K H v d → Dp K H' v d
  | _, _, .non => .non
  | _, _, .bl b => .bl b
  | _, _, .int i => .int i
  | _, _, .str x => .str x
  | _, _, .lst h a => .lst (ext_l e h) (ext_dps e a)
  | _, _, .tup h a => .tup (ext_t e h) (ext_dps e a)
theorem ext_dps {K : PySem.W.Frag} {H H' : Hp} (e : LamX.ExtN H H') : ∀ {vs : List V} {ds : List PyData}, DpAll K H vs ds → DpAll K H' vs ds
  | _, _, .nil => .nil
  | _, _, .cons h a => .cons (ext_dp e h) (ext_dps e a)
end
theorem Thing.ext {K : PySem.W.Frag} {H H' : Hp} {v : V} (h : Thing K H v) (e : LamX.ExtN H H') : Thing K H' v := by
  cases h with
  | non => exact .non
  | bl b => exact .bl b
  | int i => exact .int i
  | str x => exact .str x
  | lst q => exact .lst (ext_lst e q)
  | tup q => exact .tup (ext_tup e q)
/-- ("refused", n) as data -/
def rfD (n : Str) : PyData := .tuple [.str "refused", .str n]
theorem dp_rf {K : PySem.W.Frag} {H : Hp} {t : Addr} {n : Str} (h : H t = some (.tup [.str "refused", .str n])) : Dp K H (.ref t) (rfD n) := .tup (sqT h) (.cons (.str _) (.cons (.str _) .nil))
end Tr
end
section
namespace Tr
open PySem PySem.Spec PyProof.Rows L2 LamX
/-! ### what grows while lambdas are made: tables may be written, all else stays -/
structure Fw (Tb : List (Addr × Str)) (H H' : Hp) : Prop where
  e : ExtN H H'
  t : Tabs Tb H'
theorem Fw.ext {Tb : List (Addr × Str)} {H H1 H2 : Hp} (a : Fw Tb H H1) (e : ExtN H1 H2) (t : Tabs Tb H2) : Fw Tb H H2 := ⟨a.e.trans e, t⟩
theorem Fw.trans {Tb : List (Addr × Str)} {H H1 H2 : Hp} (a : Fw Tb H H1) (b : Fw Tb H1 H2) : Fw Tb H H2 := ⟨a.e.trans b.e, b.t⟩
theorem Fw.same {Tb : List (Addr × Str)} {H H1 H2 : Hp} (a : Fw Tb H H1) (s : Same H1 H2) : Fw Tb H H2 := ⟨a.e.trans (ext_of s), a.t.ext s⟩
theorem tabs_mut {Tb : List (Addr × Str)} {H : Hp} {D : Addr} {xs ys : List V} (h : Tabs Tb H) (hD : H D = some (.lst xs)) : Tabs Tb (upd H D (.lst ys)) := by
  have ne : ∀ b o, H b = some o → o ≠ .lst xs → b ≠ D := fun b o hb no z => by
    rw [z, hD] at hb
    exact no (Option.some.inj hb).symm
  rintro p hp
  obtain ⟨ps, h1, h2, h3⟩ := h p hp
  refine ⟨ps, by rw [upd_ne (ne _ _ h1 (fun z => by cases z))]; exact h1, h2, fun pos cv hc => ?_⟩
  obtain ⟨c, e1, e2⟩ := h3 pos cv hc
  exact ⟨c, e1, by rw [upd_ne (ne _ _ e2 (fun z => by cases z))]; exact e2⟩
/-- nothing stands at D but maybe a table -/
def NT (H : Hp) (D : Addr) : Prop := ∀ o, H D = some o → ∃ ps, o = .tbl ps
theorem nt_of {H : Hp} {D : Addr} (h : H D = none) : NT H D := fun o e => by
  rw [h] at e
  cases e
theorem Fw.nt {Tb : List (Addr × Str)} {H H1 : Hp} {D : Addr} (a : Fw Tb H H1) (h : H1 D = none) : NT H D := fun o e => by
  by_cases z : ∃ ps, o = .tbl ps
  · exact z
  · have q := a.e _ _ e fun ps w => z ⟨ps, w⟩
    rw [h] at q
    cases q
theorem Fw.mut {Tb : List (Addr × Str)} {H H1 : Hp} {D : Addr} {xs ys : List V} (a : Fw Tb H H1) (hn : NT H D) (hD : H1 D = some (.lst xs)) : Fw Tb H (upd H1 D (.lst ys)) := by
  refine ⟨fun b o hb no => ?_, tabs_mut a.t hD⟩
  rw [upd_ne fun z => ?_]
  · exact a.e _ _ hb no
  · rw [z] at hb
    obtain ⟨ps, e⟩ := hn o hb
    exact no ps e
/-- a thing stays one while a list is written -/
theorem Thing.mut {K : PySem.W.Frag} {H : Hp} {v : V} {D : Addr} {xs ys : List V} (h : Thing K H v) (hD : H D = some (.lst xs)) : Thing K (upd H D (.lst ys)) v := by
  cases h with
  | non => exact .non
  | bl b => exact .bl b
  | int i => exact .int i
  | str x => exact .str x
  | @lst a zs q =>
    by_cases z : a = D
    · rw [z]
      exact .lst upd_same
    · exact .lst (by rw [upd_ne z]; exact q)
  | @tup a zs q => exact .tup (by rw [upd_ne fun z => by rw [z, hD] at q; cases q]; exact q)
theorem Fw.new {Tb : List (Addr × Str)} {H H1 : Hp} {D : Addr} {o : HO} (a : Fw Tb H H1) (hn : H1 D = none) : Fw Tb H (upd H1 D o) := a.same (same_new hn)
theorem Fw.refl {Tb : List (Addr × Str)} {H : Hp} (t : Tabs Tb H) : Fw Tb H H := ⟨ExtN.refl H, t⟩
/-- a comprehension that only adds, lambdas made on the way: acc by a word P of the turn and the items so far -/
theorem lcn_adds {Tb : List (Addr × Str)} {J : It} {n : Nat} {G : Hp → Prop} {Y : Nat → Hp → V → Hp → Prop} (w : Walk J n G Y) {g : TG} {tt : TT} {te : TE} {vs : List Nat} {σ : L2.St} {H1 : Hp} {D : Addr} {Qd : Hp → Prop} (P : Nat → List V → Prop)
    (hD : H1 D = none) (ht : Tabs Tb H1) (hn : n ≤ 90000) (h0 : P 0 []) (hl : ∀ i acc, P i acc → acc.length ≤ i) (hG : ∀ H, Fw Tb H1 H → G H)
    (hs : ∀ (T : VK) (N : Hp → Prop) i acc x H H', (∀ y H4, Fw Tb H H4 → P (i + 1) (acc ++ [y]) → T y H4) → (∀ H3, Fw Tb H H3 → P (i + 1) acc → N H3) → i < n → Fw Tb H1 H → P i acc → Y i H x H' →
      g x (wipe σ vs) H' fun σ2 H2 => wipe σ2 vs = wipe σ vs ∧ tt σ2 H2 fun b H3 => if b = true then te σ2 H3 T else N H3)
    (hd : ∀ acc H, Fw Tb H1 H → H D = some (.lst acc) → P n acc → Qd H) :
    ∃ W : Nat → Nat → Hp → Prop, (∃ m, W 0 m (upd H1 D (.lst []))) ∧ ∀ i m H, W i m H →
      (J.stop i H ∧ Qd H) ∨ (J.go i H ∧ ∃ Nx : Hp → Prop, (∀ H', Nx H' → ∃ m', m' < m ∧ W (i + 1) m' H') ∧ ∀ x H', J.yld i H x H' → g x (wipe σ vs) H' fun σ2 H2 => wipe σ2 vs = wipe σ vs ∧ tt σ2 H2 fun b H3 =>
        if b = true then te σ2 H3 fun y H4 => ∃ acc, H4 D = some (.lst acc) ∧ acc.length < sizeLine ∧ Nx (upd H4 D (.lst (acc ++ [y]))) else Nx H3) := by
  refine lc_it w (fun i H => ∃ acc, Fw Tb H1 H ∧ H D = some (.lst acc) ∧ P i acc) ⟨[], (Fw.refl ht).new hD, upd_same, h0⟩ (fun i H _ ⟨_, s, _⟩ => hG H s) ?_ fun H ⟨acc, s, h, p⟩ => hd acc H s h p
  rintro i x H H' hi ⟨acc, s, hDa, p⟩ y
  exact hs _ _ i acc x H H' (fun v H4 s4 p4 => ⟨acc, ext_lst s4.e hDa, sz1 (by have := hl i acc p; omega), acc ++ [v], (s.trans s4).mut (nt_of hD) (ext_lst s4.e hDa), upd_same, p4⟩) (fun H3 s3 p3 => ⟨acc, s.trans s3, ext_lst s3.e hDa, p3⟩) hi s p y
/-- both ways of a test lead on to one place (revert the heap and what is known of it first) -/
theorem both {c : Bool} {A R Pre : Hp → Prop} (good : Hp → Prop) (h2 : ∀ H, Pre H → good H) (h1 : ∀ H, Pre H → c = true → (∀ H', good H' → R H') → A H) (h : ∀ H', good H' → R H') : ∀ H, Pre H → if c = true then A H else R H := by
  intro H p
  cases c with
  | true => exact h1 H p rfl h
  | false => exact h H (h2 H p)
/-- a callee that lets nothing out, by what it promises -/
theorem passN0 {X : Cx} {P : Program} {w : World} : Passes (NX P w) X E0 := fun _ _ _ _ _ _ _ ⟨_, _, _, _, _, _, _, _, _, _, _, _, z⟩ => z.elim
theorem r_nopart {σ : L2.St} {H : Hp} {Q : Option Int → Hp → Prop} (h : Q none H) : tNoPart σ H Q := h
/-- one and the same data: not unlike -/
theorem ne_self {K : PySem.W.Frag} {H : Hp} {x y : V} {d : PyData} {n : Nat} {Q : VK} (hx : Dp K H x d) (hy : Dp K H y d) (hs : Sh n d) (hq : Q (.bl false) H) (hn : n ≤ 64 := by decide) : rNeD K x y H Q :=
  ⟨d, d, hx, hy, hs.shaped hn, hs.shaped hn, by rw [hs.self]; exact hq⟩
theorem eq_self {K : PySem.W.Frag} {H : Hp} {x y : V} {d : PyData} {n : Nat} {Q : VK} (hx : Dp K H x d) (hy : Dp K H y d) (hs : Sh n d) (hq : Q (.bl true) H) (hn : n ≤ 64 := by decide) : rEqD K x y H Q :=
  ⟨d, d, hx, hy, hs.shaped hn, hs.shaped hn, by rw [hs.self]; exact hq⟩
theorem dp_lints {K : PySem.W.Frag} {H : Hp} {a : Addr} {ns : List Int} (h : H a = some (.lst (ns.map V.int))) : Dp K H (.ref a) (.list (ns.map PyData.int)) := .lst (sqL h) (dp_ints ns)
theorem sh_str {x : Str} (h : (PyData.str x).canLay0 = true) : Sh 0 (.str x) := ⟨h, Nat.le_refl _⟩
theorem sh_rf {n : Str} (h : (PyData.str n).canLay0 = true) : Sh 1 (rfD n) := sh_tup fun d hd => by
  simp only [List.mem_cons, List.not_mem_nil, or_false] at hd
  rcases hd with rfl | rfl
  · exact sh_str (by decide +kernel)
  · exact sh_str h
/-- as many refusals of one kind, as data -/
theorem dp_rfs {K : PySem.W.Frag} {H : Hp} {n : Str} : ∀ {ts : List Addr}, (∀ t ∈ ts, H t = some (.tup [.str "refused", .str n])) → DpAll K H (ts.map V.ref) (List.replicate ts.length (rfD n))
  | [], _ => .nil
  | t :: ts, h => .cons (dp_rf (h t List.mem_cons_self)) (dp_rfs fun u hu => h u (List.mem_cons_of_mem _ hu))
theorem sh_rfs {n : Str} (h : (PyData.str n).canLay0 = true) (k : Nat) : Sh 2 (.list (List.replicate k (rfD n))) := sh_lst fun d hd => by
  rw [List.eq_of_mem_replicate hd]
  exact sh_rf h
end Tr
end
section
namespace T
open PySem PySem.Spec PyProof.Rows L2
def top (i : Nat) : Stmt := PySem.Challenge.pw_tryroad_k11_whole_waits_grow.main.body.getD i (.Pass ⟨0, 0, 0, 0⟩)
abbrev s_is_count : Stmt := top 13
abbrev s_need_rule : Stmt := top 14
abbrev s_wait_of : Stmt := top 15
abbrev s_wait : Stmt := top 16
abbrev s_waits : Stmt := top 17
abbrev s_l_cell : Stmt := top 19
abbrev s_l_drawn : Stmt := top 20
abbrev s_l_word : Stmt := top 21
abbrev s_l_told : Stmt := top 22
abbrev s_law : Stmt := top 23
def d_is_count : He.DefD := ⟨("is_count", none), "is_count", "is_count", defArgs s_is_count, defBody s_is_count, defScope s_is_count, [], []⟩
def d_need_rule : He.DefD := ⟨("need_rule", none), "need_rule", "need_rule", defArgs s_need_rule, defBody s_need_rule, defScope s_need_rule, [], []⟩
def d_wait_of : He.DefD := ⟨("wait_of", none), "wait_of", "wait_of", defArgs s_wait_of, defBody s_wait_of, defScope s_wait_of, [], []⟩
def d_wait : He.DefD := ⟨("wait", none), "wait", "wait", defArgs s_wait, defBody s_wait, defScope s_wait, [], []⟩
def d_waits : He.DefD := ⟨("waits", none), "waits", "waits", defArgs s_waits, defBody s_waits, defScope s_waits, [], []⟩
def d_l_cell : He.DefD := ⟨("_law_cell", none), "_law_cell", "_law_cell", defArgs s_l_cell, defBody s_l_cell, defScope s_l_cell, [], []⟩
def d_l_drawn : He.DefD := ⟨("_law_drawn", none), "_law_drawn", "_law_drawn", defArgs s_l_drawn, defBody s_l_drawn, defScope s_l_drawn, [], []⟩
def d_l_word : He.DefD := ⟨("_law_word", none), "_law_word", "_law_word", defArgs s_l_word, defBody s_l_word, defScope s_l_word, [], []⟩
def d_l_told : He.DefD := ⟨("_law_told", none), "_law_told", "_law_told", defArgs s_l_told, defBody s_l_told, defScope s_l_told, [], []⟩
def d_law : He.DefD := ⟨("law", none), "law", "law", defArgs s_law, defBody s_law, defScope s_law, [], []⟩
def fn : List He.DefD := [d_is_count, d_need_rule, d_wait_of, d_wait, d_waits, d_l_cell, d_l_drawn, d_l_word, d_l_told, d_law]
def fa : List He.Fa := [.glo "is_count", .glo "need_rule", .glo "wait_of", .glo "wait", .glo "waits", .glo "_law_cell", .glo "_law_drawn", .glo "_law_word", .glo "_law_told", .glo "law", .glo "TryError", .glo "BadRule", .glo "BadName", .glo "BadText", .glo "BadTime", .glo "BadCall", .glo "Full", .glo "BadPlan", .glo "BadLog", .free "ValueError", .free "all", .free "bool", .free "int", .free "isinstance", .free "len", .free "max", .free "min", .free "range", .free "sum", .free "tuple", .free "zip", .glo "BOUNDS", .int "MOST_FAILS" 5, .exc "TryError", .exc "BadRule", .exc "BadName", .exc "BadText", .exc "BadTime", .exc "BadCall", .exc "Full", .exc "BadPlan", .exc "BadLog"]
def cls : List Str := ["BadCall", "BadLog", "BadName", "BadPlan", "BadRule", "BadText", "BadTime", "Full"]
def bnds : List (Int × Int) := [(1, 9), (1, 3), (1, 60), (1, 5), (1, 20), (1, 3)]
def boundsB (K : PySem.W.Frag) : Bool := Tr.tupAt K (He.ga K "BOUNDS") ((List.range 6).map fun i => V.ref (Tr.itemA K "BOUNDS" i)) && (List.range 6).all fun i => Tr.tupAt K (Tr.itemA K "BOUNDS" i) [.int (bnds.getD i (0, 0)).1, .int (bnds.getD i (0, 0)).2]
def ex (K : PySem.W.Frag) : Bool := Tr.wordB K cls && boundsB K
def tf : List He.Defn := [("law", none)]
def loose0 : List PySem.Str := ["TryError", "BadRule", "BadName", "BadText", "BadTime", "BadCall", "Full", "BadPlan", "BadLog", "BOUNDS", "MOST_FAILS", "is_count", "need_rule", "wait_of", "wait"]
def loose1 : List PySem.Str := ["waits", "_law_cell", "_law_drawn", "_law_word", "_law_told"]
def loose : List PySem.Str := loose0 ++ loose1
def topS (i : Nat) : Stmt := top i
abbrev lawAt : Nat := 23
abbrev R : PySem.W.OpenRow := PySem.W.OpenLaw.row PySem.Challenge.rw_tryroad_k11_whole_waits_grow
/-- what the top has written -/
structure Txt (K : PySem.W.Frag) (mg : Str → Option Value) : Prop where
  c : He.SaysD fa fn K
  m : ex K = true
  x : ∃ h : Heap, K.In h ∧ h.Ns mainGlobals mg
section
variable {K : PySem.W.Frag} {mg : Str → Option Value}
theorem Txt.g_is_count (T : Txt K mg) : mg "is_count" = some (.ref (He.ga K "is_count")) := let ⟨_, X, G⟩ := T.x; He.glo_ok X G (T.c.fact 0 (f := .glo "is_count") rfl)
theorem Txt.g_need_rule (T : Txt K mg) : mg "need_rule" = some (.ref (He.ga K "need_rule")) := let ⟨_, X, G⟩ := T.x; He.glo_ok X G (T.c.fact 1 (f := .glo "need_rule") rfl)
theorem Txt.g_wait_of (T : Txt K mg) : mg "wait_of" = some (.ref (He.ga K "wait_of")) := let ⟨_, X, G⟩ := T.x; He.glo_ok X G (T.c.fact 2 (f := .glo "wait_of") rfl)
theorem Txt.g_wait (T : Txt K mg) : mg "wait" = some (.ref (He.ga K "wait")) := let ⟨_, X, G⟩ := T.x; He.glo_ok X G (T.c.fact 3 (f := .glo "wait") rfl)
theorem Txt.g_waits (T : Txt K mg) : mg "waits" = some (.ref (He.ga K "waits")) := let ⟨_, X, G⟩ := T.x; He.glo_ok X G (T.c.fact 4 (f := .glo "waits") rfl)
theorem Txt.g_l_cell (T : Txt K mg) : mg "_law_cell" = some (.ref (He.ga K "_law_cell")) := let ⟨_, X, G⟩ := T.x; He.glo_ok X G (T.c.fact 5 (f := .glo "_law_cell") rfl)
theorem Txt.g_l_drawn (T : Txt K mg) : mg "_law_drawn" = some (.ref (He.ga K "_law_drawn")) := let ⟨_, X, G⟩ := T.x; He.glo_ok X G (T.c.fact 6 (f := .glo "_law_drawn") rfl)
theorem Txt.g_l_word (T : Txt K mg) : mg "_law_word" = some (.ref (He.ga K "_law_word")) := let ⟨_, X, G⟩ := T.x; He.glo_ok X G (T.c.fact 7 (f := .glo "_law_word") rfl)
theorem Txt.g_l_told (T : Txt K mg) : mg "_law_told" = some (.ref (He.ga K "_law_told")) := let ⟨_, X, G⟩ := T.x; He.glo_ok X G (T.c.fact 8 (f := .glo "_law_told") rfl)
theorem Txt.g_law (T : Txt K mg) : mg "law" = some (.ref (He.ga K "law")) := let ⟨_, X, G⟩ := T.x; He.glo_ok X G (T.c.fact 9 (f := .glo "law") rfl)
theorem Txt.g_TryError (T : Txt K mg) : mg "TryError" = some (.ref (He.ga K "TryError")) := let ⟨_, X, G⟩ := T.x; He.glo_ok X G (T.c.fact 10 (f := .glo "TryError") rfl)
theorem Txt.g_BadRule (T : Txt K mg) : mg "BadRule" = some (.ref (He.ga K "BadRule")) := let ⟨_, X, G⟩ := T.x; He.glo_ok X G (T.c.fact 11 (f := .glo "BadRule") rfl)
theorem Txt.g_BadName (T : Txt K mg) : mg "BadName" = some (.ref (He.ga K "BadName")) := let ⟨_, X, G⟩ := T.x; He.glo_ok X G (T.c.fact 12 (f := .glo "BadName") rfl)
theorem Txt.g_BadText (T : Txt K mg) : mg "BadText" = some (.ref (He.ga K "BadText")) := let ⟨_, X, G⟩ := T.x; He.glo_ok X G (T.c.fact 13 (f := .glo "BadText") rfl)
theorem Txt.g_BadTime (T : Txt K mg) : mg "BadTime" = some (.ref (He.ga K "BadTime")) := let ⟨_, X, G⟩ := T.x; He.glo_ok X G (T.c.fact 14 (f := .glo "BadTime") rfl)
theorem Txt.g_BadCall (T : Txt K mg) : mg "BadCall" = some (.ref (He.ga K "BadCall")) := let ⟨_, X, G⟩ := T.x; He.glo_ok X G (T.c.fact 15 (f := .glo "BadCall") rfl)
theorem Txt.g_Full (T : Txt K mg) : mg "Full" = some (.ref (He.ga K "Full")) := let ⟨_, X, G⟩ := T.x; He.glo_ok X G (T.c.fact 16 (f := .glo "Full") rfl)
theorem Txt.g_BadPlan (T : Txt K mg) : mg "BadPlan" = some (.ref (He.ga K "BadPlan")) := let ⟨_, X, G⟩ := T.x; He.glo_ok X G (T.c.fact 17 (f := .glo "BadPlan") rfl)
theorem Txt.g_BadLog (T : Txt K mg) : mg "BadLog" = some (.ref (He.ga K "BadLog")) := let ⟨_, X, G⟩ := T.x; He.glo_ok X G (T.c.fact 18 (f := .glo "BadLog") rfl)
theorem Txt.n_ValueError (T : Txt K mg) : mg "ValueError" = none := let ⟨_, X, G⟩ := T.x; He.free_ok X G (T.c.fact 19 (f := .free "ValueError") rfl)
theorem Txt.n_all (T : Txt K mg) : mg "all" = none := let ⟨_, X, G⟩ := T.x; He.free_ok X G (T.c.fact 20 (f := .free "all") rfl)
theorem Txt.n_bool (T : Txt K mg) : mg "bool" = none := let ⟨_, X, G⟩ := T.x; He.free_ok X G (T.c.fact 21 (f := .free "bool") rfl)
theorem Txt.n_int (T : Txt K mg) : mg "int" = none := let ⟨_, X, G⟩ := T.x; He.free_ok X G (T.c.fact 22 (f := .free "int") rfl)
theorem Txt.n_isinstance (T : Txt K mg) : mg "isinstance" = none := let ⟨_, X, G⟩ := T.x; He.free_ok X G (T.c.fact 23 (f := .free "isinstance") rfl)
theorem Txt.n_len (T : Txt K mg) : mg "len" = none := let ⟨_, X, G⟩ := T.x; He.free_ok X G (T.c.fact 24 (f := .free "len") rfl)
theorem Txt.n_max (T : Txt K mg) : mg "max" = none := let ⟨_, X, G⟩ := T.x; He.free_ok X G (T.c.fact 25 (f := .free "max") rfl)
theorem Txt.n_min (T : Txt K mg) : mg "min" = none := let ⟨_, X, G⟩ := T.x; He.free_ok X G (T.c.fact 26 (f := .free "min") rfl)
theorem Txt.n_range (T : Txt K mg) : mg "range" = none := let ⟨_, X, G⟩ := T.x; He.free_ok X G (T.c.fact 27 (f := .free "range") rfl)
theorem Txt.n_sum (T : Txt K mg) : mg "sum" = none := let ⟨_, X, G⟩ := T.x; He.free_ok X G (T.c.fact 28 (f := .free "sum") rfl)
theorem Txt.n_tuple (T : Txt K mg) : mg "tuple" = none := let ⟨_, X, G⟩ := T.x; He.free_ok X G (T.c.fact 29 (f := .free "tuple") rfl)
theorem Txt.n_zip (T : Txt K mg) : mg "zip" = none := let ⟨_, X, G⟩ := T.x; He.free_ok X G (T.c.fact 30 (f := .free "zip") rfl)
theorem Txt.g_BOUNDS (T : Txt K mg) : mg "BOUNDS" = some (.ref (He.ga K "BOUNDS")) := let ⟨_, X, G⟩ := T.x; He.glo_ok X G (T.c.fact 31 (f := .glo "BOUNDS") rfl)
theorem Txt.i_MOST_FAILS (T : Txt K mg) : ∃ u, mg "MOST_FAILS" = some u ∧ RelV (.int 5) u := let ⟨_, X, G⟩ := T.x; let ⟨t, e⟩ := He.int_ok X G (T.c.fact 32 (f := .int "MOST_FAILS" 5) rfl); ⟨_, e, t, rfl⟩
theorem Txt.e_TryError (T : Txt K mg) : (He.Fa.exc "TryError").ok K = true := T.c.fact 33 (f := .exc "TryError") rfl
theorem Txt.e_BadRule (T : Txt K mg) : (He.Fa.exc "BadRule").ok K = true := T.c.fact 34 (f := .exc "BadRule") rfl
theorem Txt.e_BadName (T : Txt K mg) : (He.Fa.exc "BadName").ok K = true := T.c.fact 35 (f := .exc "BadName") rfl
theorem Txt.e_BadText (T : Txt K mg) : (He.Fa.exc "BadText").ok K = true := T.c.fact 36 (f := .exc "BadText") rfl
theorem Txt.e_BadTime (T : Txt K mg) : (He.Fa.exc "BadTime").ok K = true := T.c.fact 37 (f := .exc "BadTime") rfl
theorem Txt.e_BadCall (T : Txt K mg) : (He.Fa.exc "BadCall").ok K = true := T.c.fact 38 (f := .exc "BadCall") rfl
theorem Txt.e_Full (T : Txt K mg) : (He.Fa.exc "Full").ok K = true := T.c.fact 39 (f := .exc "Full") rfl
theorem Txt.e_BadPlan (T : Txt K mg) : (He.Fa.exc "BadPlan").ok K = true := T.c.fact 40 (f := .exc "BadPlan") rfl
theorem Txt.e_BadLog (T : Txt K mg) : (He.Fa.exc "BadLog").ok K = true := T.c.fact 41 (f := .exc "BadLog") rfl
theorem Txt.f_is_count (T : Txt K mg) : ∃ fd, FunD K "is_count" "is_count" (defArgs s_is_count) (defBody s_is_count) (defScope s_is_count) [] [] (He.ga K "is_count") fd := T.c.def_ 0 (d := d_is_count) rfl
theorem Txt.f_need_rule (T : Txt K mg) : ∃ fd, FunD K "need_rule" "need_rule" (defArgs s_need_rule) (defBody s_need_rule) (defScope s_need_rule) [] [] (He.ga K "need_rule") fd := T.c.def_ 1 (d := d_need_rule) rfl
theorem Txt.f_wait_of (T : Txt K mg) : ∃ fd, FunD K "wait_of" "wait_of" (defArgs s_wait_of) (defBody s_wait_of) (defScope s_wait_of) [] [] (He.ga K "wait_of") fd := T.c.def_ 2 (d := d_wait_of) rfl
theorem Txt.f_wait (T : Txt K mg) : ∃ fd, FunD K "wait" "wait" (defArgs s_wait) (defBody s_wait) (defScope s_wait) [] [] (He.ga K "wait") fd := T.c.def_ 3 (d := d_wait) rfl
theorem Txt.f_waits (T : Txt K mg) : ∃ fd, FunD K "waits" "waits" (defArgs s_waits) (defBody s_waits) (defScope s_waits) [] [] (He.ga K "waits") fd := T.c.def_ 4 (d := d_waits) rfl
theorem Txt.f_l_cell (T : Txt K mg) : ∃ fd, FunD K "_law_cell" "_law_cell" (defArgs s_l_cell) (defBody s_l_cell) (defScope s_l_cell) [] [] (He.ga K "_law_cell") fd := T.c.def_ 5 (d := d_l_cell) rfl
theorem Txt.f_l_drawn (T : Txt K mg) : ∃ fd, FunD K "_law_drawn" "_law_drawn" (defArgs s_l_drawn) (defBody s_l_drawn) (defScope s_l_drawn) [] [] (He.ga K "_law_drawn") fd := T.c.def_ 6 (d := d_l_drawn) rfl
theorem Txt.f_l_word (T : Txt K mg) : ∃ fd, FunD K "_law_word" "_law_word" (defArgs s_l_word) (defBody s_l_word) (defScope s_l_word) [] [] (He.ga K "_law_word") fd := T.c.def_ 7 (d := d_l_word) rfl
theorem Txt.f_l_told (T : Txt K mg) : ∃ fd, FunD K "_law_told" "_law_told" (defArgs s_l_told) (defBody s_l_told) (defScope s_l_told) [] [] (He.ga K "_law_told") fd := T.c.def_ 8 (d := d_l_told) rfl
theorem Txt.f_law (T : Txt K mg) : ∃ fd, FunD K "law" "law" (defArgs s_law) (defBody s_law) (defScope s_law) [] [] (He.ga K "law") fd := T.c.def_ 9 (d := d_law) rfl
end
theorem sc_is_count : FnScope ["thing", "low", "high"] ["thing", "low", "high"] (defScope s_is_count) := ⟨rfl, rfl, rfl, by decide +kernel, rfl, by decide +kernel, by decide +kernel⟩
theorem sc_need_rule : FnScope ["rule", "good", "one", "low", "high"] ["rule"] (defScope s_need_rule) := ⟨rfl, rfl, rfl, by decide +kernel, rfl, by decide +kernel, by decide +kernel⟩
theorem sc_wait_of : FnScope ["rule", "fails", "found", "turn"] ["rule", "fails"] (defScope s_wait_of) := ⟨rfl, rfl, rfl, by decide +kernel, rfl, by decide +kernel, by decide +kernel⟩
theorem sc_wait : FnScope ["rule", "fails"] ["rule", "fails"] (defScope s_wait) := ⟨rfl, rfl, rfl, by decide +kernel, rfl, by decide +kernel, by decide +kernel⟩
theorem sc_waits : FnScope ["rule", "fails"] ["rule"] (defScope s_waits) := ⟨rfl, rfl, rfl, by decide +kernel, rfl, by decide +kernel, by decide +kernel⟩
theorem sc_l_cell : FnScope ["_law_script", "_law_k"] ["_law_script", "_law_k"] (defScope s_l_cell) := ⟨rfl, rfl, rfl, by decide +kernel, rfl, by decide +kernel, by decide +kernel⟩
theorem sc_l_drawn : FnScope ["_law_cell_here", "_law_k", "_law_more"] ["_law_cell_here", "_law_k"] (defScope s_l_drawn) := ⟨rfl, rfl, rfl, by decide +kernel, rfl, by decide +kernel, by decide +kernel⟩
theorem sc_l_word : FnScope ["_law_e", "_law_flags", "_law_flag", "_law_some"] ["_law_e"] (defScope s_l_word) := ⟨rfl, rfl, rfl, by decide +kernel, rfl, by decide +kernel, by decide +kernel⟩
theorem sc_l_told : FnScope ["_law_deed", "_law_e"] ["_law_deed"] (defScope s_l_told) := ⟨rfl, rfl, rfl, by decide +kernel, rfl, by decide +kernel, by decide +kernel⟩
theorem sc_law : FnScope ["_law_script", "_law_k", "_law_more", "_law_j", "_law_here", "_law_base", "_law_factor", "_law_top", "_law_rule", "_law_rows", "_law_fails", "_law_one", "_law_other", "_law_bad", "_law_at", "_law_worse", "_law_told_here"] ["_law_script"] (defScope s_law) := ⟨rfl, rfl, rfl, by decide +kernel, rfl, by decide +kernel, by decide +kernel⟩
end T
end
section
local macro_rules | `(tactic| walk_at "ev") => `(tactic| repeat (first | refine ⟨_, rfl, ?_⟩ | refine ⟨_, _, rfl, rfl, ?_⟩ | refine ⟨rfl, ?_⟩))
namespace T
open PySem PySem.Spec PyProof.Rows L2 Tr
section
variable {P : Program} {w : World} {K : PySem.W.Frag} {mg : Str → Option Value} {base : Heap}
/-- is_count's answer -/
def isC : V → Int → Int → Bool
  | .int i, lo, hi => decide (lo ≤ i) && decide (i ≤ hi)
  | _, _, _ => false
def spCount (K : PySem.W.Frag) : Sp := fun vs H Q _ => ∃ (x : V) (lo hi : Int), vs = [x, .int lo, .int hi] ∧ Thing K H x ∧ Q (.bl (isC x lo hi)) H
theorem k_is_count (T : Txt K mg) : Kal P w K mg base CX0 1 "is_count" (spCount K) := by
  refine kal_of T.f_is_count T.g_is_count sc_is_count (fun _ _ _ _ _ _ us hl => match us, hl with | [_, _, _], _ => rfl) (fun vs H Q E ⟨_, _, _, h, _⟩ => by rw [h] <;> rfl) fun cdv A outer s H vs Q E hr ⟨x, lo, hi, e, hx, q⟩ => ?_
  subst e
  refine ⟨_, pss_one (ps_ret (pe_and (b_isi T.n_isinstance (pa_cons (pv 0) (pa_cons (pe_bltn (v := .ty "int") (by rfl) T.n_int (by decide +kernel) rfl) pa_nil)))
    (pe_and (pe_not (b_isi T.n_isinstance (pa_cons (pv 0) (pa_cons (pe_bltn (v := .ty "bool") (by rfl) T.n_bool (by decide +kernel) rfl) pa_nil))))
      (pe_one (pe_chain op_le op_le (pv 1) (pv 0) (pv 2)))))), ?_⟩
  refine ⟨_, rfl, ?_⟩
  cases hx with
  | non => exact ⟨_, _, _, _, false, rfl, .ty "int", .base .non, kit_ty (by decide +kernel), _, rfl, q⟩
  | str y => exact ⟨_, _, _, _, false, rfl, .ty "int", .base (.str y), kit_ty (by decide +kernel), _, rfl, q⟩
  | lst e => exact ⟨_, _, _, _, false, rfl, .ty "int", .base (.lst e), kit_ty (by decide +kernel), _, rfl, q⟩
  | tup e => exact ⟨_, _, _, _, false, rfl, .ty "int", .base (.tup e), kit_ty (by decide +kernel), _, rfl, q⟩
  | bl y => exact ⟨_, _, _, _, true, rfl, .ty "int", .base (.bl y), kit_ty (by decide +kernel), _, rfl, _, rfl, _, _, _, _, true, rfl, .ty "bool", .base (.bl y), kit_ty (by decide +kernel), _, rfl, _, rfl, q⟩
  | int i =>
    refine ⟨_, _, _, _, true, rfl, .ty "int", .base (.int i), kit_ty (by decide +kernel), _, rfl, _, rfl, _, _, _, _, false, rfl, .ty "bool", .base (.int i), kit_ty (by decide +kernel), _, rfl, _, rfl, ?_⟩
    refine ⟨_, rfl, _, rfl, _, _, rfl, rfl, _, rfl, ?_⟩
    by_cases h : lo ≤ i
    · rw [decide_eq_true h]
      refine ⟨_, rfl, _, _, rfl, rfl, ?_⟩
      have e : isC (.int i) lo hi = decide (i ≤ hi) := by simp [isC, h]
      rw [e] at q
      exact q
    · rw [decide_eq_false h]
      have e : isC (.int i) lo hi = false := by simp [isC, h]
      rw [e] at q
      exact q
/-! ### rules -/
theorem walk_zipT {a b : Addr} {xs ys : List V} (hn : xs.length = ys.length) : Walk (RZ.ItzT K a b) ys.length (fun H => SqT K H a xs ∧ SqT K H b ys) (YPair (fun i => xs[i]?) (fun i => ys[i]?)) :=
  ⟨fun i _ hi q => ⟨xs, ys, xs[i]'(by omega), ys[i], q.1, q.2, by simp [hn, hi], by simp [hi]⟩, fun _ q => ⟨xs, ys, q.1, q.2, .inr (Nat.le_refl _)⟩,
    fun _ _ _ _ _ q ⟨T, x, y, e1, e2, e3, e4, e5⟩ => ⟨T, x, y, e1, e2, e3, e4 _ q.1, e5 _ q.2⟩⟩
theorem T_word (T : Txt K mg) {d : Str} (hd : d ∈ cls) : Word K cls d := word_of (He.ba T.m).1 hd
theorem T_bounds (T : Txt K mg) (H : Hp) : SqT K H (He.ga K "BOUNDS") ((List.range 6).map fun i => V.ref (itemA K "BOUNDS" i)) ∧ ∀ i, i < 6 → SqT K H (itemA K "BOUNDS" i) [.int (bnds.getD i (0, 0)).1, .int (bnds.getD i (0, 0)).2] := by
  obtain ⟨h1, h2⟩ := He.ba (He.ba T.m).2
  exact ⟨tupAt_ok h1 H, fun i hi => tupAt_ok (List.all_eq_true.mp h2 i (List.mem_range.mpr hi)) H⟩
/-- the i-th of xs is within the i-th bounds -/
def itC (xs : List V) (i : Nat) : Bool := isC (xs.getD i .non) (bnds.getD i (0, 0)).1 (bnds.getD i (0, 0)).2
def okItems (xs : List V) : Bool := decide (xs.length = 6) && (List.range 6).all (itC xs)
/-- whether x is a rule -/
inductive RuleIs (K : PySem.W.Frag) (H : Hp) : V → Bool → Prop
  | tup {a : Addr} {xs : List V} (e : H a = some (.tup xs)) (hx : ∀ y ∈ xs, Thing K H y) : RuleIs K H (.ref a) (okItems xs)
  | non : RuleIs K H .non false
  | bl (b : Bool) : RuleIs K H (.bl b) false
  | int (i : Int) : RuleIs K H (.int i) false
  | str (x : Str) : RuleIs K H (.str x) false
  | lst {a : Addr} {xs : List V} (e : H a = some (.lst xs)) : RuleIs K H (.ref a) false
def spNeed (K : PySem.W.Frag) : Sp := fun vs H Q E => ∃ (x : V) (ok : Bool), vs = [x] ∧ RuleIs K H x ok ∧ (ok = true → ∀ H', Same H H' → Q .non H') ∧ (ok = false → ∀ H', Same H H' → E (.ref (He.ga K "BadRule")) none H')
theorem all_range (f : Nat → Bool) : ∀ n, ((List.range n).map f).all id = (List.range n).all f := fun n => by
  rw [List.all_map]
  rfl
theorem k_need_rule (T : Txt K mg) : Kal P w K mg base (NX P w) 2 "need_rule" (spNeed K) := by
  refine kal_of T.f_need_rule T.g_need_rule sc_need_rule (fun _ _ _ _ _ _ us hl => match us, hl with | [_], _ => rfl) (fun vs H Q E ⟨_, _, h, _⟩ => by rw [h] <;> rfl) fun cdv A outer s H vs Q E hr ⟨x, ok, e, hx, q1, q2⟩ => ?_
  subst e
  obtain ⟨x1, x2, x3, x4⟩ := He.exc_ok T.e_BadRule
  refine ⟨_, pss_cons (ps_set (i := 1) sc_need_rule.nd rfl (Or.inl rfl) (pe_and (b_isi T.n_isinstance (pa_cons (pv 0) (pa_cons (pe_bltn (v := .ty "tuple") (by rfl) T.n_tuple (by decide +kernel) rfl) pa_nil)))
      (pe_one (pe_cmpR op_eq (b_len T.n_len (pa_cons (pv 0) pa_nil)) (b_len T.n_len (pa_cons (pe_glob (v := .ref (He.ga K "BOUNDS")) (by rfl) T.g_BOUNDS rfl) pa_nil)) (nomark _)))))
    (pss_one (ps_if (PW.pt (pw_or (pt_not (pt_val (pv 1))) (pw_or1 (pt_not (pt_val (b_all rfl T.n_all (pa_cons
        (pe_lc (own := [("one", 2), ("low", 3), ("high", 4)]) (g := gTup K 2 (gCons (gName 2) (gCons (gTup K 2 (gCons (gName 3) (gCons (gName 4) gNil))) gNil))) (tt := tYes) rfl sc_need_rule.nd
          (RZ.pi_zipA (by rfl) T.n_zip (pa_cons (pv 0) (pa_cons (pe_glob (v := .ref (He.ga K "BOUNDS")) (by rfl) T.g_BOUNDS rfl) pa_nil))) (blkOk_by (N := ["rule", "good", "one", "low", "high"]) (sc := defScope s_need_rule) (by decide +kernel))
          (fun _ _ _ _ _ => pg_tup rfl (pgs_cons (pg_name (i := 2) sc_need_rule.nd rfl (Or.inl rfl)) (pgs_cons (pg_tup rfl (pgs_cons (pg_name (i := 3) sc_need_rule.nd rfl (Or.inl rfl)) (pgs_cons (pg_name (i := 4) sc_need_rule.nd rfl (Or.inl rfl)) pgs_nil))) pgs_nil)))
          (fun _ _ _ _ _ => pts_nil) (fun _ _ _ _ _ => pe_k (E := E0) (k_is_count T) hr (by decide) pass0 (pa_cons (pv 2) (pa_cons (pv 3) (pa_cons (pv 4) pa_nil)))))
        pa_nil)))))))
      (pss_one (L2N.ps_raise rfl (L2N.takes_of rfl rfl rfl rfl) (L2N.pmk_own PySem.F.excBase_ValueError x1 T.g_BadRule x2 (raises_own x3 x4) (by rfl)))) pss_nil)), ?_⟩
  refine ⟨_, rfl, ?_⟩
  cases hx with
  | non => exact ⟨_, _, _, _, false, rfl, .ty "tuple", .base .non, kit_ty (by decide +kernel), _, rfl, _, rfl, _, rfl, q2 rfl H (Same.refl H)⟩
  | bl b => exact ⟨_, _, _, _, false, rfl, .ty "tuple", .base (.bl b), kit_ty (by decide +kernel), _, rfl, _, rfl, _, rfl, q2 rfl H (Same.refl H)⟩
  | int b => exact ⟨_, _, _, _, false, rfl, .ty "tuple", .base (.int b), kit_ty (by decide +kernel), _, rfl, _, rfl, _, rfl, q2 rfl H (Same.refl H)⟩
  | str b => exact ⟨_, _, _, _, false, rfl, .ty "tuple", .base (.str b), kit_ty (by decide +kernel), _, rfl, _, rfl, _, rfl, q2 rfl H (Same.refl H)⟩
  | lst e => exact ⟨_, _, _, _, false, rfl, .ty "tuple", .base (.lst e), kit_ty (by decide +kernel), _, rfl, _, rfl, _, rfl, q2 rfl H (Same.refl H)⟩
  | @tup a xs e ht =>
    obtain ⟨B1, B2⟩ := T_bounds T H
    refine ⟨_, _, _, _, true, rfl, .ty "tuple", .base (.tup e), kit_ty (by decide +kernel), _, rfl, _, rfl, _, xs.length, rfl, .inr ⟨_, sqT e, rfl⟩, _, 6, rfl, .inr ⟨_, B1, rfl⟩, rfl, ?_⟩
    by_cases hl : xs.length = 6
    · refine ⟨_, rfl, true, congrArg V.bl (decide_eq_true (by rw [hl] <;> rfl)), ?_⟩
      refine ⟨_, rfl, a, _, xs, _, rfl, .inr ⟨sqT e, B1, fun D hD => ?_⟩⟩
      refine lc_adds (walk_zipT hl) (fun i acc => acc = (List.range i).map fun j => V.bl (itC xs j)) hD (by show 6 ≤ 90000; decide) rfl (fun i acc h => by rw [h]; simp) (fun H' s' => ⟨sqT (s' _ _ e), (T_bounds T H').1⟩) ?_ ?_
      · rintro Tq N i acc y H1 H2 yes no hi s1 p ⟨T1, u, v, rfl, hT, rfl, hu, hv⟩
        have hi : i < 6 := hi
        have hv : ((List.range 6).map fun i => V.ref (itemA K "BOUNDS" i))[i]? = some v := hv
        have hu : xs[i]? = some u := hu
        have ev : v = .ref (itemA K "BOUNDS" i) := by
          rw [List.getElem?_map, List.getElem?_range hi] at hv
          exact (Option.some.inj hv).symm
        subst ev
        have hu' : xs.getD i .non = u := by rw [List.getD_eq_getElem?_getD, hu] <;> rfl
        refine ⟨_, _, rfl, sqT upd_same, rfl, _, _, rfl, _, _, rfl, ⟨_, _, rfl, (T_bounds T _).2 i hi, rfl, _, _, rfl, _, _, rfl, ?_⟩⟩
        refine ⟨rfl, rfl, rfl, _, rfl, _, rfl, _, rfl, u, _, _, rfl, (ht u (List.mem_of_getElem? hu)).same (s1.trans (same_new hT)), yes _ _ (same_new hT) ?_⟩
        rw [p, List.range_succ, List.map_append]
        show _ = _ ++ [V.bl (itC xs i)]
        unfold itC
        rw [hu']
      · rintro acc H1 s1 hDa rfl
        refine ⟨D, (List.range 6).map (itC xs), rfl, sqL (by rw [hDa, List.map_map] <;> rfl), _, rfl, ?_⟩
        have eo : okItems xs = ((List.range 6).map (itC xs)).all id := by
          unfold okItems
          rw [decide_eq_true hl, all_range, Bool.true_and]
        cases ea : ((List.range 6).map (itC xs)).all id with
        | true => exact q1 (by rw [eo, ea]) H1 s1
        | false => exact q2 (by rw [eo, ea]) H1 s1
    · refine ⟨_, rfl, false, congrArg V.bl (decide_eq_false (fun z => hl (by have := V.int.inj z; omega))), ?_⟩
      exact q2 (by unfold okItems; rw [decide_eq_false hl] <;> rfl) H (Same.refl H)
end
end T
end
section
local macro_rules | `(tactic| walk_at "ev") => `(tactic| repeat (first | refine ⟨_, rfl, ?_⟩ | refine ⟨_, _, rfl, rfl, ?_⟩ | refine ⟨rfl, ?_⟩))
namespace T
open PySem PySem.Spec PyProof.Rows L2 Tr
/-- min(i, j) as Python's two-place min tells it -/
def mn (i j : Int) : Int := if j < i then j else i
theorem mn_eq (i j : Int) : mn i j = min i j := by
  unfold mn
  split <;> omega
structure Rule where
  b : Int
  f : Int
  t : Int
  m : Int
  p : Int
  o : Int
def Rule.vs (r : Rule) : List V := [.int r.b, .int r.f, .int r.t, .int r.m, .int r.p, .int r.o]
structure Rule.Ok (r : Rule) : Prop where
  b : 1 ≤ r.b ∧ r.b ≤ 9
  f : 1 ≤ r.f ∧ r.f ≤ 3
  t : 1 ≤ r.t ∧ r.t ≤ 60
  m : 1 ≤ r.m ∧ r.m ≤ 5
  p : 1 ≤ r.p ∧ r.p ≤ 20
  o : 1 ≤ r.o ∧ r.o ≤ 3
theorem Rule.items {r : Rule} (h : r.Ok) : okItems r.vs = true := by
  obtain ⟨⟨a1, a2⟩, ⟨b1, b2⟩, ⟨c1, c2⟩, ⟨d1, d2⟩, ⟨e1, e2⟩, f1, f2⟩ := h
  simp [okItems, Rule.vs, itC, isC, bnds, List.range, List.range.loop, a1, a2, b1, b2, c1, c2, d1, d2, e1, e2, f1, f2]
def wfold (r : Rule) : Nat → Int
  | 0 => r.b
  | n + 1 => mn r.t (wfold r n * r.f)
def waitOf (r : Rule) (n : Int) : Int := mn r.t (wfold r (n - 1).toNat)
theorem wfold_bd {r : Rule} (h : r.Ok) : ∀ n, 1 ≤ wfold r n ∧ wfold r n ≤ 60
  | 0 => ⟨h.b.1, by have := h.b.2; show r.b ≤ 60; omega⟩
  | n + 1 => by
    have ih := wfold_bd h n
    have h1 := h.f.1
    have h2 := h.t
    show 1 ≤ mn r.t (wfold r n * r.f) ∧ mn r.t (wfold r n * r.f) ≤ 60
    have h3 : 1 * 1 ≤ wfold r n * r.f := Int.mul_le_mul ih.1 h1 (by decide) (by omega)
    rw [mn_eq]
    omega
section
variable {P : Program} {w : World} {K : PySem.W.Frag} {mg : Str → Option Value} {base : Heap}
def spWaitOf : Sp := fun vs H Q _ => ∃ (a : Addr) (r : Rule) (n : Int), vs = [.ref a, .int n] ∧ H a = some (.tup r.vs) ∧ r.Ok ∧ 1 ≤ n ∧ n ≤ 5 ∧ Q (.int (waitOf r n)) H
theorem k_wait_of (T : Txt K mg) : Kal P w K mg base CX0 1 "wait_of" spWaitOf := by
  refine kal_of T.f_wait_of T.g_wait_of sc_wait_of (fun _ _ _ _ _ _ us hl => match us, hl with | [_, _], _ => rfl) (fun vs H Q E ⟨_, _, _, h, _⟩ => by rw [h] <;> rfl) fun cdv A outer s H vs Q E hr ⟨a, r, n, e, ha, ok, n1, n5, q⟩ => ?_
  subst e
  refine ⟨_, PSs.nox (pss_cons (ps_set (i := 2) sc_wait_of.nd rfl (Or.inl rfl) (pe_ix ix_tup (pv 0) pe_int (fun _ _ => rfl)))
    (pss_cons (ps_for PassesOwn.never rfl (pi_range1 (by rfl) T.n_range (pa_cons (pe_op op_sub (pv 1) pe_int) pa_nil)) (pg_name (i := 3) sc_wait_of.nd rfl (Or.inl rfl))
      (pss_one (ps_set (i := 2) sc_wait_of.nd rfl (Or.inl rfl) (b_min2 rfl T.n_min (pa_cons (pe_ix ix_tup (pv 0) pe_int (fun _ _ => rfl)) (pa_cons (pe_op op_mul (pv 2) (pe_ix ix_tup (pv 0) pe_int (fun _ _ => rfl))) pa_nil))))))
    (pss_one (ps_ret (b_min2 rfl T.n_min (pa_cons (pe_ix ix_tup (pv 0) pe_int (fun _ _ => rfl)) (pa_cons (pv 2) pa_nil))))))), ?_⟩
  refine ⟨_, rfl, _, _, _, _, rfl, rfl, sqT ha, rfl, ?_⟩
  refine ⟨_, rfl, _, _, rfl, rfl, _, rfl, by omega, by omega, ?_⟩
  refine for_it walk_range (fun i σ H' => H' = H ∧ ∃ v, σ = [some (.ref a), some (.int n), some (.int (wfold r i)), v]) ⟨rfl, _, rfl⟩ (fun _ _ _ _ _ => trivial) ?_ ?_
  · rintro i x σ H1 H' hi ⟨rfl, v, rfl⟩ ⟨rfl, rfl⟩
    have b := wfold_bd ok i
    refine ⟨_, rfl, _, _, _, _, rfl, rfl, sqT ha, rfl, _, rfl, _, rfl, _, _, _, _, rfl, rfl, sqT ha, rfl, _, _, rfl, rfl, .inl ⟨by omega, by omega⟩, _, _, rfl, ?_⟩
    exact ⟨rfl, _, rfl⟩
  · rintro σ H1 ⟨rfl, v, rfl⟩
    refine ⟨_, rfl, _, _, _, _, rfl, rfl, sqT ha, rfl, _, rfl, _, _, rfl, ?_⟩
    exact q
/-- a rule is handed in, or what is none; a number of fails, or what is none -/
def spWait (K : PySem.W.Frag) : Sp := fun vs H Q E => ∃ (x y : V) (ok : Bool), vs = [x, y] ∧ RuleIs K H x ok ∧ Thing K H y ∧
  (ok = false → ∀ H', Same H H' → E (.ref (He.ga K "BadRule")) none H') ∧
  (ok = true → isC y 1 5 = false → ∀ H', Same H H' → E (.ref (He.ga K "BadTime")) none H') ∧
  (ok = true → ∀ n, y = .int n → 1 ≤ n → n ≤ 5 → ∃ a r, x = .ref a ∧ H a = some (.tup r.vs) ∧ Rule.Ok r ∧ ∀ H', Same H H' → Q (.int (waitOf r n)) H')
theorem k_wait (T : Txt K mg) : Kal P w K mg base (NX P w) 3 "wait" (spWait K) := by
  refine kal_of T.f_wait T.g_wait sc_wait (fun _ _ _ _ _ _ us hl => match us, hl with | [_, _], _ => rfl) (fun vs H Q E ⟨_, _, _, h, _⟩ => by rw [h] <;> rfl) fun cdv A outer s H vs Q E hr ⟨x, y, ok, e, hx, hy, q1, q2, q3⟩ => ?_
  subst e
  obtain ⟨x1, x2, x3, x4⟩ := He.exc_ok T.e_BadTime
  obtain ⟨u5, g5, r5⟩ := T.i_MOST_FAILS
  refine ⟨_, pss_cons (ps_expr (pe_k (E := E) (k_need_rule T) hr (by decide) (L2N.passes_call (L2N.takes_of rfl rfl rfl rfl) fun _ _ _ _ h => h) (pa_cons (pv 0) pa_nil)))
    (pss_cons (ps_if (pt_not (pt_val (pe_k (E := E0) (k_is_count T) hr (by decide) pass0 (pa_cons (pv 1) (pa_cons pe_int (pa_cons (pe_glob (by rfl) g5 r5) pa_nil))))))
      (pss_one (L2N.ps_raise rfl (L2N.takes_of rfl rfl rfl rfl) (L2N.pmk_own PySem.F.excBase_ValueError x1 T.g_BadTime x2 (raises_own x3 x4) (by rfl)))) pss_nil)
    (pss_one (ps_ret (pe_k (E := E0) (k_wait_of T) hr (by decide) pass0 (pa_cons (pv 0) (pa_cons (pv 1) pa_nil)))))), ?_⟩
  refine ⟨_, rfl, x, ok, rfl, hx, fun eo H1 s1 => ?_, fun eo H1 s1 => q1 eo H1 s1⟩
  refine ⟨_, rfl, y, 1, 5, rfl, hy.same s1, _, rfl, ?_⟩
  cases ec : isC y 1 5 with
  | false => exact q2 eo ec H1 s1
  | true =>
    cases y with
    | int n =>
      have b : 1 ≤ n ∧ n ≤ 5 := by simpa [isC] using ec
      obtain ⟨a, r, rfl, ha, ok', q⟩ := q3 eo n rfl b.1 b.2
      exact ⟨_, rfl, _, rfl, a, r, n, rfl, s1 _ _ ha, ok', b.1, b.2, q H1 s1⟩
    | _ => cases ec
def wts (r : Rule) : List Int := (List.range (r.m - 1).toNat).map fun (i : Nat) => waitOf r (1 + (i : Int))
def spWaits (K : PySem.W.Frag) : Sp := fun vs H Q E => ∃ (x : V) (ok : Bool), vs = [x] ∧ RuleIs K H x ok ∧
  (ok = false → ∀ H', Same H H' → E (.ref (He.ga K "BadRule")) none H') ∧
  (ok = true → ∃ a r, x = .ref a ∧ H a = some (.tup r.vs) ∧ Rule.Ok r ∧ ∀ H' p, Same H H' → H p = none → H' p = some (.lst ((wts r).map V.int)) → Q (.ref p) H')
theorem k_waits (T : Txt K mg) : Kal P w K mg base (NX P w) 3 "waits" (spWaits K) := by
  refine kal_of T.f_waits T.g_waits sc_waits (fun _ _ _ _ _ _ us hl => match us, hl with | [_], _ => rfl) (fun vs H Q E ⟨_, _, h, _⟩ => by rw [h] <;> rfl) fun cdv A outer s H vs Q E hr ⟨x, ok, e, hx, q1, q2⟩ => ?_
  subst e
  refine ⟨_, pss_cons (ps_expr (pe_k (E := E) (k_need_rule T) hr (by decide) (L2N.passes_call (L2N.takes_of rfl rfl rfl rfl) fun _ _ _ _ h => h) (pa_cons (pv 0) pa_nil)))
    (pss_one (ps_ret (pe_lc (own := [("fails", 1)]) (g := gName 1) (tt := tYes) rfl sc_waits.nd (pi_range2 (by rfl) T.n_range (pa_cons pe_int (pa_cons (pe_ix ix_tup (pv 0) pe_int (fun _ _ => rfl)) pa_nil)))
      (blkOk_by (N := ["rule", "fails"]) (sc := defScope s_waits) (by decide +kernel)) (fun _ _ _ _ _ => pg_name (i := 1) sc_waits.nd rfl (Or.inl rfl)) (fun _ _ _ _ _ => pts_nil)
      (fun _ _ _ _ _ => pe_k (E := E0) (k_wait_of T) hr (by decide) pass0 (pa_cons (pv 0) (pa_cons (pv 1) pa_nil)))))), ?_⟩
  refine ⟨_, rfl, x, ok, rfl, hx, fun eo H1 s1 => ?_, fun eo H1 s1 => q1 eo H1 s1⟩
  obtain ⟨a, r, rfl, ha, ok', q⟩ := q2 eo
  have ha1 := s1 _ _ ha
  have m1 := ok'.m
  refine ⟨_, rfl, _, _, _, _, rfl, rfl, sqT ha1, rfl, _, _, rfl, ⟨by omega, by omega, by omega, by omega⟩, fun D hD => ?_⟩
  refine lc_adds (walk_range (lo := 1) (n := (r.m - 1).toNat)) (fun i acc => acc = (List.range i).map fun (j : Nat) => V.int (waitOf r (1 + (j : Int)))) hD (by omega) rfl (fun i acc h => by rw [h]; simp) (fun _ _ => trivial) ?_ ?_
  · rintro Tq N i acc y H2 H3 yes no hi s2 p ⟨rfl, rfl⟩
    refine ⟨rfl, _, rfl, _, rfl, a, r, _, rfl, s2 _ _ ha1, ok', by omega, by omega, yes _ _ (Same.refl _) ?_⟩
    rw [p, List.range_succ, List.map_append]
    rfl
  · rintro acc H2 s2 hDa rfl
    refine q H2 D (s1.trans s2) (s1.free hD) ?_
    rw [hDa]
    unfold wts
    rw [List.map_map]
    rfl
end
end T
end
section
local macro_rules | `(tactic| walk_at "ev") => `(tactic| repeat (first | refine ⟨_, rfl, ?_⟩ | refine ⟨_, _, rfl, rfl, ?_⟩ | refine ⟨rfl, ?_⟩))
namespace T
open PySem PySem.Spec PyProof.Rows L2 Tr
section
variable {P : Program} {w : World} {K : PySem.W.Frag} {mg : Str → Option Value} {base : Heap}
/-- a cell of the script: some whole number -/
def spCell (K : PySem.W.Frag) : Sp := fun vs H Q _ => ∃ (a : Addr) (ns : List Int) (k : Int), vs = [.ref a, .int k] ∧ SqL K H a (ns.map V.int) ∧ ns.length ≤ 63 ∧ 0 ≤ k ∧ k ≤ 1000 ∧ ∀ (c : Int) (H' : Hp), Same H H' → Q (.int c) H'
theorem k_l_cell (T : Txt K mg) : Kal P w K mg base CX0 1 "_law_cell" (spCell K) := by
  refine kal_of T.f_l_cell T.g_l_cell sc_l_cell (fun _ _ _ _ _ _ us hl => match us, hl with | [_, _], _ => rfl) (fun vs H Q E ⟨_, _, _, h, _⟩ => by rw [h] <;> rfl) fun cdv A outer s H vs Q E hr ⟨a, ns, k, e, hS, hl, k0, k1, q⟩ => ?_
  subst e
  refine ⟨_, pss_cons (ps_if (pt_cmpR (op_eqD hr.units) (pv 0) (pe_lst pa_nil) (nomark _)) (pss_one (ps_ret (pe_op op_mul (pv 1) pe_int))) pss_nil)
    (pss_one (ps_ret (pe_op op_add (pe_ix ix_list (pv 0) (pe_op op_mod (pv 1) (b_len T.n_len (pa_cons (pv 0) pa_nil))) (fun _ _ => rfl))
      (pe_op op_mul (pe_op op_fdiv (pv 1) (b_len T.n_len (pa_cons (pv 0) pa_nil))) pe_int)))), ?_⟩
  refine ⟨_, rfl, by show 0 ≤ sizeLine; decide, fun p hp => ?_⟩
  have s1 := same_new (o := HO.lst []) hp
  have hS1 := s1.seq hS
  refine ⟨_, _, .lst hS1 (dp_ints ns), .lst (sqL upd_same) .nil, (sh_ints ns).shaped, (sh_ints []).shaped, _, rfl, ?_⟩
  have hL : LenV K (.ref a) (upd H p (.lst [])) (ns.map V.int).length := .inl ⟨_, hS1, rfl⟩
  rw [eqv_nil]
  cases ns with
  | nil =>
    refine ⟨_, rfl, _, _, rfl, rfl, .inr ⟨by decide, by decide⟩, ?_⟩
    exact q _ _ s1
  | cons n ns =>
    have hn : (n :: ns).length = ns.length + 1 := rfl
    have hm : (((n :: ns).map V.int).length : Int) = ns.length + 1 := by simp
    have hl' : ns.length + 1 ≤ 63 := hl
    have p1 := Int.emod_nonneg k (show (((n :: ns).map V.int).length : Int) ≠ 0 by rw [hm]; omega)
    have p2 := Int.emod_lt_of_pos k (show 0 < (((n :: ns).map V.int).length : Int) by rw [hm]; omega)
    have hj : (k % (((n :: ns).map V.int).length : Int)).toNat < (n :: ns).length := by rw [hn]; rw [hm] at p2 p1 ⊢; omega
    refine ⟨_, rfl, _, rfl, _, rfl, _, _, rfl, hL, _, _, rfl, rfl, by rw [hm]; omega, _, _, _, V.int ((n :: ns)[(k % (((n :: ns).map V.int).length : Int)).toNat]), rfl, rfl, hS1, ?_, ?_⟩
    · have e := atI_nat (xs := (n :: ns).map V.int) (j := (k % (((n :: ns).map V.int).length : Int)).toNat) (v := V.int ((n :: ns)[(k % (((n :: ns).map V.int).length : Int)).toNat])) (by rw [List.getElem?_map, List.getElem?_eq_getElem hj] <;> rfl)
      rw [Int.toNat_of_nonneg p1] at e
      exact e
    · refine ⟨_, rfl, _, rfl, _, _, rfl, hL, _, _, rfl, rfl, ⟨by rw [hm]; omega, by rw [hm]; omega⟩, _, _, rfl, rfl, .inr ⟨by decide, by decide⟩, _, _, rfl, rfl, ?_⟩
      exact q _ _ s1
theorem md1 (x : Int) : (x % 340282366920938463463374607431768211507).natAbs < 2 ^ 129 := by
  have h1 := Int.emod_nonneg x (show (340282366920938463463374607431768211507 : Int) ≠ 0 by decide)
  have h2 := Int.emod_lt_of_pos x (show (0 : Int) < 340282366920938463463374607431768211507 by decide)
  have h3 : (2 : Nat) ^ 129 = 680564733841876926926749214863536422912 := by decide
  omega
theorem md2 (x : Int) : (x % 340282366920938463463374607431768211297).natAbs < 2 ^ 129 := by
  have h1 := Int.emod_nonneg x (show (340282366920938463463374607431768211297 : Int) ≠ 0 by decide)
  have h2 := Int.emod_lt_of_pos x (show (0 : Int) < 340282366920938463463374607431768211297 by decide)
  have h3 : (2 : Nat) ^ 129 = 680564733841876926926749214863536422912 := by decide
  omega
theorem md3 (x : Int) : (x % 18446744073709551557 + 1).natAbs < 2 ^ 65 := by
  have h3 : (2 : Nat) ^ 65 = 36893488147419103232 := by decide
  omega
theorem md4 (x : Int) : (x % 340282366920938463463374607431768211297 / 18446744073709551557 + 1).natAbs < 2 ^ 66 := by
  have h1 := Int.emod_nonneg x (show (340282366920938463463374607431768211297 : Int) ≠ 0 by decide)
  have h2 := Int.emod_lt_of_pos x (show (0 : Int) < 340282366920938463463374607431768211297 by decide)
  have h3 : (2 : Nat) ^ 66 = 73786976294838206464 := by decide
  omega
/-- a great number -/
def spDrawn : Sp := fun vs H Q _ => ∃ (c k : Int), vs = [.int c, .int k] ∧ 0 ≤ k ∧ k ≤ 1000 ∧ ∀ d : Int, 0 ≤ d → d < 340282366920938463463374607431768211507 → Q (.int d) H
theorem k_l_drawn (T : Txt K mg) : Kal P w K mg base CX0 1 "_law_drawn" spDrawn := by
  refine kal_of T.f_l_drawn T.g_l_drawn sc_l_drawn (fun _ _ _ _ _ _ us hl => match us, hl with | [_, _], _ => rfl) (fun vs H Q E ⟨_, _, h, _⟩ => by rw [h] <;> rfl) fun cdv A outer s H vs Q E hr ⟨c, k, e, k0, k1, q⟩ => ?_
  subst e
  refine ⟨_, pss_cons (ps_set (i := 2) sc_l_drawn.nd rfl (Or.inl rfl) (pe_op op_mod (pe_op op_add (pe_op op_mul (pv 0) pe_int) (pe_op op_mul (pe_op op_add (pv 1) pe_int) pe_int)) pe_int))
    (pss_cons (ps_set (i := 2) sc_l_drawn.nd rfl (Or.inl rfl) (pe_op op_mod (pe_op op_mulW (pv 2) (pv 2)) pe_int))
    (pss_cons (ps_set (i := 2) sc_l_drawn.nd rfl (Or.inl rfl) (pe_op op_mulW (pe_op op_mulW (pe_op op_add (pe_op op_mod (pv 2) pe_int) pe_int) (pe_op op_add (pe_op op_fdivW (pv 2) pe_int) pe_int)) (pv 2)))
    (pss_one (ps_ret (pe_op op_mod (pv 2) pe_int))))), ?_⟩
  refine ⟨_, rfl, _, _, rfl, rfl, .inr ⟨by decide, by decide⟩, _, rfl, _, _, rfl, rfl, _, _, rfl, rfl, .inl ⟨by omega, by omega⟩, _, _, rfl, rfl, _, _, rfl, rfl, (by show (0 : Int) < 340282366920938463463374607431768211507; decide), ?_⟩
  refine ⟨_, rfl, _, rfl, _, _, rfl, rfl, wide_mul (md1 _) (md1 _) (by decide) (by decide) (by decide), _, _, rfl, rfl, (by show (0 : Int) < 340282366920938463463374607431768211297; decide), ?_⟩
  refine ⟨_, rfl, _, _, rfl, rfl, (by show (0 : Int) < 18446744073709551557; decide), _, _, rfl, rfl, _, rfl, _, _, rfl, rfl, wide_div (b := 65) (by decide) (by decide) (by decide) (by decide), _, _, rfl, rfl, _, _, rfl, rfl, wide_mul (md3 _) (md4 _) (by decide) (by decide) (by decide), ?_⟩
  refine ⟨_, rfl, _, _, rfl, rfl, wide_mul (wide_lt (md3 _) (md4 _)) (md2 _) (by decide) (by decide) (by decide), ?_⟩
  refine ⟨_, rfl, _, _, rfl, rfl, (by show (0 : Int) < 340282366920938463463374607431768211507; decide), ?_⟩
  exact q _ (Int.emod_nonneg _ (by decide)) (Int.emod_lt_of_pos _ (by decide))
end
end T
end
section
namespace T
open PySem PySem.Spec PyProof.Rows L2 Tr
section
variable {P : Program} {w : World} {K : PySem.W.Frag} {mg : Str → Option Value} {base : Heap}
/-! ### the word of a refusal -/
/-- ("refused", d), new -/
def spWord (K : PySem.W.Frag) (cs : List Str) : Addr × Obj → Hp → VK → Prop := fun p H Q => ∃ d, d ∈ cs ∧ Zc (.ref (He.ga K d)) none p.2 ∧ (∃ vs, p.2.data = .fields vs) ∧ Word K cs d ∧
  ∀ (H' : Hp) (t : Addr), Same H H' → H t = none → H' t = some (.tup [.str "refused", .str d]) → Q (.ref t) H'
/-- which of the classes it is, counted -/
theorem word_bits (d : Str) (hd : d ∈ cls) : (cls.map fun c => if decide (d = c) then (1 : Int) else 0).sum = 1 ∧
    ∃ j, cls[j]? = some d ∧ (cls.map fun c => decide (d = c))[j]? = some true ∧ ∀ (m : Nat) (b : Bool), m < j → (cls.map fun c => decide (d = c))[m]? = some b → b = false := by
  have hd' : d = "BadCall" ∨ d = "BadLog" ∨ d = "BadName" ∨ d = "BadPlan" ∨ d = "BadRule" ∨ d = "BadText" ∨ d = "BadTime" ∨ d = "Full" := by simpa [cls] using hd
  have nd : ∀ (j m : Nat) (b : Bool), cls[j]? = some d → m < j → (cls.map fun c => decide (d = c))[m]? = some b → b = false := by
    intro j m b h1 h2 h3
    rw [List.getElem?_map] at h3
    have hN : cls.Nodup := by decide +kernel
    have hj := (List.getElem?_eq_some_iff.mp h1).1
    have hm : m < cls.length := by omega
    rw [List.getElem?_eq_getElem hm] at h3
    have e : decide (d = cls[m]) = b := Option.some.inj h3
    rw [← e]
    refine decide_eq_false fun z => ?_
    have e1 : cls[j] = d := Option.some.inj ((List.getElem?_eq_getElem hj).symm.trans h1)
    exact (List.pairwise_iff_getElem.mp hN) m j hm hj h2 (z.symm.trans e1.symm)
  rcases hd' with rfl | rfl | rfl | rfl | rfl | rfl | rfl | rfl
  · exact ⟨by decide +kernel, 0, rfl, by decide +kernel, fun m b h e => nd 0 m b rfl h e⟩
  · exact ⟨by decide +kernel, 1, rfl, by decide +kernel, fun m b h e => nd 1 m b rfl h e⟩
  · exact ⟨by decide +kernel, 2, rfl, by decide +kernel, fun m b h e => nd 2 m b rfl h e⟩
  · exact ⟨by decide +kernel, 3, rfl, by decide +kernel, fun m b h e => nd 3 m b rfl h e⟩
  · exact ⟨by decide +kernel, 4, rfl, by decide +kernel, fun m b h e => nd 4 m b rfl h e⟩
  · exact ⟨by decide +kernel, 5, rfl, by decide +kernel, fun m b h e => nd 5 m b rfl h e⟩
  · exact ⟨by decide +kernel, 6, rfl, by decide +kernel, fun m b h e => nd 6 m b rfl h e⟩
  · exact ⟨by decide +kernel, 7, rfl, by decide +kernel, fun m b h e => nd 7 m b rfl h e⟩
theorem k_l_word (T : Txt K mg) : ∃ (f : Addr) (fd : FuncData), TrL.WordOk P w K mg base 1 f fd ["_law_e"] (spWord K cls) ∧ mg "_law_word" = some (.ref f) ∧ PySem.W.keepIn K (.ref f) = true ∧ Binds K fd ["_law_e"] [] := by
  obtain ⟨fd, F⟩ := T.f_l_word
  obtain ⟨oc, od, dV, kV, doc, pm, an, cdv, ct, osl, rfl, lk, hcd, _, _⟩ := id F.ex
  refine ⟨_, _, TrL.wordOk lk hcd sc_l_word fun A outer s H Q p hot hr ⟨d, hd, hz, hf, W, q⟩ => ?_, T.g_l_word, F.kp, F.bindsN fun _ _ _ _ _ _ us hl => match us, hl with | [_], _ => rfl⟩
  have nd := sc_l_word.nd
  have mem : (p.1, p.2) ∈ [p] := List.mem_singleton.mpr rfl
  have hc : L2H.HotC (L2H.cxH C8.CX0 P w K mg base ["_law_e", "_law_flags", "_law_flag", "_law_some"] "_law_word" (defScope s_l_word) (He.ga K "_law_word") cdv A outer s H C8.E0 p) := ⟨p, ⟨hot.1, hot.2⟩, List.mem_singleton.mpr rfl⟩
  refine ⟨_, pss_cons (ps_set (i := 1) nd rfl (Or.inl rfl) (pe_lst
      (pa_cons (pe_callB (TrL.callIsP mem W.exc hz hf) (by rfl) T.n_isinstance boot_isinstance (pa_cons (pv 0) (pa_cons (pe_glob (v := .ref (He.ga K "BadCall")) (by rfl) T.g_BadCall rfl) pa_nil)))
      (pa_cons (pe_callB (TrL.callIsP mem W.exc hz hf) (by rfl) T.n_isinstance boot_isinstance (pa_cons (pv 0) (pa_cons (pe_glob (v := .ref (He.ga K "BadLog")) (by rfl) T.g_BadLog rfl) pa_nil)))
      (pa_cons (pe_callB (TrL.callIsP mem W.exc hz hf) (by rfl) T.n_isinstance boot_isinstance (pa_cons (pv 0) (pa_cons (pe_glob (v := .ref (He.ga K "BadName")) (by rfl) T.g_BadName rfl) pa_nil)))
      (pa_cons (pe_callB (TrL.callIsP mem W.exc hz hf) (by rfl) T.n_isinstance boot_isinstance (pa_cons (pv 0) (pa_cons (pe_glob (v := .ref (He.ga K "BadPlan")) (by rfl) T.g_BadPlan rfl) pa_nil))) pa_nil))))))
    (pss_cons (ps_set (i := 1) nd rfl (Or.inl rfl) (pe_op op_cat (pv 1) (pe_lst
      (pa_cons (pe_callB (TrL.callIsP mem W.exc hz hf) (by rfl) T.n_isinstance boot_isinstance (pa_cons (pv 0) (pa_cons (pe_glob (v := .ref (He.ga K "BadRule")) (by rfl) T.g_BadRule rfl) pa_nil)))
      (pa_cons (pe_callB (TrL.callIsP mem W.exc hz hf) (by rfl) T.n_isinstance boot_isinstance (pa_cons (pv 0) (pa_cons (pe_glob (v := .ref (He.ga K "BadText")) (by rfl) T.g_BadText rfl) pa_nil)))
      (pa_cons (pe_callB (TrL.callIsP mem W.exc hz hf) (by rfl) T.n_isinstance boot_isinstance (pa_cons (pv 0) (pa_cons (pe_glob (v := .ref (He.ga K "BadTime")) (by rfl) T.g_BadTime rfl) pa_nil)))
      (pa_cons (pe_callB (TrL.callIsP mem W.exc hz hf) (by rfl) T.n_isinstance boot_isinstance (pa_cons (pv 0) (pa_cons (pe_glob (v := .ref (He.ga K "Full")) (by rfl) T.g_Full rfl) pa_nil))) pa_nil)))))))
    (pss_cons (ps_if (PW.pt (pw_or (pt_cmpR op_ne (pe_callB (TrH.crSumH hc) (by rfl) T.n_sum boot_sum (pa_cons (TrH.peIntsH hc (pv 1) (by exact ⟨rfl, by decide +kernel, by decide +kernel, rfl, rfl⟩) T.n_int) pa_nil)) pe_int (nomark _))
        (pw_or1 (pt_not (pt_val (pe_callB (TrL.callIsP mem W.exc hz hf) (by rfl) T.n_isinstance boot_isinstance (pa_cons (pv 0) (pa_cons (pe_bltn (v := .ty "ValueError") (by rfl) T.n_ValueError (by decide +kernel) rfl) pa_nil))))))))
      (pss_one (ps_ret (pe_tup (pa_cons pe_str (pa_cons pe_str pa_nil))))) pss_nil)
    (pss_cons (ps_set (i := 3) nd rfl (Or.inl rfl) (pe_lst (pa_cons pe_str (pa_cons pe_str (pa_cons pe_str (pa_cons pe_str (pa_cons pe_str (pa_cons pe_str (pa_cons pe_str (pa_cons pe_str pa_nil))))))))))
    (pss_one (ps_ret (pe_tup (pa_cons pe_str (pa_cons (pe_ix ix_list (pv 3)
      (pe_bm PySem.F.plainAttrs_list PySem.F.slot_list_index PySem.F.type_list_index mt_index (pv 1) (pa_cons pe_bl pa_nil)) (fun _ _ => rfl)) pa_nil)))))))), ?_⟩
  obtain ⟨hs, j, hj, hj2, hj3⟩ := word_bits d hd
  have kit : ∀ c, c ∈ cls → PySem.W.kitOne K (.ref (He.ga K d)) (.ref (He.ga K c)) = some (decide (d = c)) := W.kit
  refine ⟨_, rfl, _, _, _, rfl, (fun _ r => r), kit "BadCall" (by decide +kernel), _, rfl, _, _, _, rfl, (fun _ r => r), kit "BadLog" (by decide +kernel), _, rfl, _, _, _, rfl, (fun _ r => r), kit "BadName" (by decide +kernel), _, rfl, _, _, _, rfl, (fun _ r => r), kit "BadPlan" (by decide +kernel), by show 4 ≤ sizeLine; decide, fun l1 h1 => ?_⟩
  refine ⟨_, rfl, _, rfl, _, _, _, rfl, (fun _ r => r), kit "BadRule" (by decide +kernel), _, rfl, _, _, _, rfl, (fun _ r => r), kit "BadText" (by decide +kernel), _, rfl, _, _, _, rfl, (fun _ r => r), kit "BadTime" (by decide +kernel), _, rfl, _, _, _, rfl, (fun _ r => r), kit "Full" (by decide +kernel), by show 4 ≤ sizeLine; decide, fun l2 h2 => ?_⟩
  have n12 : l1 ≠ l2 := ne_of_none upd_same h2
  refine ⟨l1, l2, _, _, rfl, rfl, by rw [upd_ne n12]; exact upd_same, upd_same, by show 4 + 4 ≤ sizeLine; decide, fun l3 h3 => ?_⟩
  generalize hH3 : upd _ l3 _ = H3
  have s3 : Same H H3 := by
    rw [← hH3]
    exact ((same_new h1).trans (same_new h2)).trans (same_new h3)
  have f3 : H3 l3 = some (.lst ((cls.map fun c => decide (d = c)).map V.bl)) := by
    rw [← hH3, upd_same]
    rfl
  refine ⟨_, rfl, l3, cls.map fun c => decide (d = c), rfl, sqL f3, fun l4 h4 => ?_⟩
  generalize hH4 : upd _ l4 _ = H4
  have s4 : Same H3 H4 := by
    rw [← hH4]
    exact same_new h4
  have f4 : H4 l4 = some (.lst ((cls.map fun c => if decide (d = c) then (1 : Int) else 0).map V.int)) := by
    rw [← hH4, upd_same, List.map_map, List.map_map]
    rfl
  refine ⟨l4, cls.map fun c => if decide (d = c) then (1 : Int) else 0, rfl, sqL f4, rfl, ?_⟩
  rw [hs]
  refine ⟨_, rfl, ?_⟩
  refine ⟨_, rfl, _, _, _, rfl, (fun _ r => r), W.val, _, rfl, ?_⟩
  refine ⟨by show 8 ≤ sizeLine; decide, fun l5 h5 => ?_⟩
  generalize hH5 : upd _ l5 _ = H5
  have s5 : Same H4 H5 := by
    rw [← hH5]
    exact same_new h5
  have e3 : SqL K H5 l3 ((cls.map fun c => decide (d = c)).map V.bl) := sqL (s5 _ _ (s4 _ _ f3))
  have e5 : SqL K H5 l5 (cls.map V.str) := by
    rw [← hH5]
    exact sqL upd_same
  refine ⟨_, rfl, _, rfl, .inl ⟨rfl, _, e3⟩, l3, _, .bl true, j, .bl true, rfl, rfl, e3, rfl, by rw [List.all_map]; exact List.all_eq_true.mpr fun _ _ => rfl, by rw [List.getElem?_map, hj2] <;> rfl, rfl, fun m z hm hz => ?_, ?_⟩
  · rw [List.getElem?_map] at hz
    cases e : (cls.map fun c => decide (d = c))[m]? with
    | none =>
      rw [e] at hz
      cases hz
    | some b =>
      rw [e] at hz
      cases hz
      rw [hj3 m b hm e]
      rfl
  · refine ⟨l5, _, _, _, rfl, rfl, e5, atI_nat (v := .str d) (by rw [List.getElem?_map, hj] <;> rfl), by show 2 ≤ sizeLine; decide, fun t ht => ?_⟩
    exact q _ t (((s3.trans s4).trans s5).trans (same_new ht)) (((s3.trans s4).trans s5).free ht) upd_same
end
end T
end
section
namespace T
open PySem PySem.Spec PyProof.Rows L2 Tr LamX
theorem takes0N {X : Cx} : L2N.Takes X (fun _ _ _ _ => False) := fun _ _ x => by
  obtain ⟨_, _, _, _, _, _, _, _, _, _, _, _, _, _, _, _, z⟩ := x
  exact z.elim
/-- what a refusal is turned into -/
def eTold (K : PySem.W.Frag) (cs : List Str) (Q : VK) : XK := fun c d H' => ∃ n, n ∈ cs ∧ c = .ref (He.ga K n) ∧ d = none ∧ Word K cs n ∧ ∀ (H'' : Hp) (t : Addr), Same H' H'' → H' t = none → H'' t = some (.tup [.str "refused", .str n]) → Q (.ref t) H''
def TTell (K : PySem.W.Frag) (cs : List Str) : (XK → Hp → VK → Prop) → Hp → VK → Prop := fun tl H Q => tl (eTold K cs Q) H Q
theorem told_gives {X : Cx} (T : Txt X.K X.mg) {q : Str} {k : Nat} {cdg : Value} : TrL.Gives X ["_law_deed", "_law_e"] "_law_told" (defScope s_l_told) (He.ga X.K "_law_told") cdg (defBody s_l_told) "_law_deed" q k (TTell X.K cls) := by
  intro f c' s H Q tl hr act hc h
  obtain ⟨fw, fdw, Fw, gw, kw, bw⟩ := k_l_word (P := X.prog) (w := X.w) (base := X.base) T
  have nd := sc_l_told.nd
  refine ⟨_, pss_one (L2N.ps_try_as (X := (cxOf C8.CX0 X.prog X.w X.K X.mg X.base ["_law_deed", "_law_e"] "_law_told" (defScope s_l_told) (He.ga X.K "_law_told") cdg X.A X.stack s H C8.E0).nox) (i := 1) (c := .ref (He.ga X.K "TryError"))
      (tb := fun W D σ H => ∃ Ech : XK, (∀ cls d σ' H', Ech cls d H' → W cls d σ' H') ∧ σ[0]? = some (some (.ref f)) ∧ H c' = some (CodeO c' q) ∧ tl Ech H D.rt)
      (ts := fun a c d D σ H => (∃ σ0 : L2.St, σ = σ0.set 1 (some (.ref a))) ∧ eTold X.K cls D.rt c d H) (Wout := fun _ _ _ _ => False)
      rfl rfl nd rfl rfl ⟨rfl, by decide, .inl T.g_TryError⟩ takes0N (fun W pn xe tk _ => ?_) (fun a oe c d pn hz hf => ?_)), ?_⟩
  · refine ⟨fun pins s' σ H' D I ⟨Ech, hW, h1, h2, h3⟩ => ?_⟩
    exact (pss_one (ps_ret (act W pn xe Ech _ _ tk hW))).run pins s' σ H' D I ⟨h1, h2, h3⟩
  · obtain ⟨vs, hv⟩ := id hf
    have hot : L2H.Hot1 (((cxOf C8.CX0 X.prog X.w X.K X.mg X.base ["_law_deed", "_law_e"] "_law_told" (defScope s_l_told) (He.ga X.K "_law_told") cdg X.A X.stack s H C8.E0).nox).suite a ((a, oe) :: pn)).A (a, oe) := ⟨rfl, vs, hv, hz.2.2 vs hv⟩
    refine ⟨fun pins s' σ H' D I ⟨⟨σ0, h1⟩, n, hn, hc, hd, W, k'⟩ => ?_⟩
    subst hc hd
    have hr1 := hr.mono (Nat.succ_le_succ (Nat.zero_le k))
    have slot : σ[1]? = some (some (.ref a)) := by
      have l : σ.length = 2 := I.len
      rw [h1, List.length_set] at l
      rw [h1, List.getElem?_set_self (by omega)]
    exact (pss_one (ps_ret (TrL.peWord (X := ((cxOf C8.CX0 X.prog X.w X.K X.mg X.base ["_law_deed", "_law_e"] "_law_told" (defScope s_l_told) (He.ga X.K "_law_told") cdg X.A X.stack s H C8.E0).nox).suite a ((a, oe) :: pn)) (p0 := (a, oe)) (i := 1) (n := "_law_e") (x := "_law_word")
      Fw ⟨hr1.dp, hr1.un⟩ hot List.mem_cons_self rfl gw kw bw (pv 1)))).run pins s' σ H' D I ⟨slot, n, hn, hz.zc, hf, W, k'⟩
  · refine ⟨eTold X.K cls Q, fun c d σ' H' ⟨n, hn, hc, hd, W, k'⟩ => ?_, rfl, hc, h⟩
    exact ⟨true, by rw [hc]; exact W.exm, fun _ a ha => ⟨⟨σ', rfl⟩, n, hn, hc, hd, W, k'⟩, fun z => Bool.noConfusion z⟩
/-- _law_told(lambda: body), the body's names captured -/
def tTold (K : PySem.W.Frag) (Tb : List (Addr × Str)) (t : XK → TE) : TE := fun σ H Q => Tabs Tb H ∧ ∀ H1, ExtN H H1 → Tabs Tb H1 → t (eTold K cls Q) σ H1 Q
theorem pe_told {X : Cx} (tx : Txt X.K X.mg) {Tb : List (Addr × Str)} {c Pt : Addr} {k : Nat} {params : Arguments} {body : Expr} {scope : Scope} {t : XK → TE} {p lpos pos : Pos} (TB : TabB X.base X.mg c Pt) (hcode : X.env.code = .ref c) (hmT : (Pt, X.env.qual ++ "<lambda>") ∈ Tb)
    (hu : ∀ p ∈ Tb, p.1 = Pt → p.2 = X.env.qual ++ "<lambda>") (hr : Room (k + 2) X.A)
    (hbody : ∀ (A : Around) (outer : List Env) (s : Shared) (H : Hp) (E : XK) (f c' : Addr), Room k (A.deeper (lamEnv X scope s.heap.objs.size f c')) → PE (TrL.lamC X A outer s H E scope f c') body (t E))
    (hg : Gl X "_law_told" := by rfl) (L : LamS X.env.scope scope := by exact lamS_by (by rfl)) (hdef : defaultsOf params X.env = ([], []) := by rfl)
    (hbind : ∀ (q : Str) (cl : List (Str × Addr)) (pm cv ctv : Value), bindArgs (PySem.W.kla_fn "<lambda>" q params body scope cl pm cv ctv) ⟨[], []⟩ = pure [] := by intros; rfl) :
    PE X (.Call (.Name "_law_told" p) [.Lambda params body scope lpos] [] pos) (tTold X.K Tb t) := by
  obtain ⟨fd, F⟩ := tx.f_l_told
  obtain ⟨oc, od, dV, kV, doc, pm, an, cdv, ct, osl, rfl, lk, hcd, _, _⟩ := id F.ex
  refine pe_imp (TrL.lamcallN (k := k) (Ng := ["_law_deed", "_law_e"]) (a := "_law_deed") hg tx.g_l_told F.kp lk hcd (F.bindsN fun _ _ _ _ _ _ us hl => match us, hl with | [_], _ => rfl) sc_l_told rfl (.inl rfl) (told_gives tx) TB hcode hmT hu hr L hdef hbind hbody) fun σ H Q q => q
end T
end
section
namespace T
open PySem PySem.Spec PyProof.Rows L2 Tr
/-! ### the law's own wait -/
def pw (r : Rule) : Nat → Int
  | 0 => r.b
  | n + 1 => pw r n * r.f
theorem pw_bd {r : Rule} (h : r.Ok) : ∀ n, n ≤ 4 → 1 ≤ pw r n ∧ pw r n ≤ 9 * 3 ^ n
  | 0, _ => ⟨h.b.1, h.b.2⟩
  | n + 1, hn => by
    obtain ⟨a, b⟩ := pw_bd h n (by omega)
    have f1 := h.f
    show 1 ≤ pw r n * r.f ∧ pw r n * r.f ≤ 9 * 3 ^ (n + 1)
    have c : 1 * 1 ≤ pw r n * r.f := Int.mul_le_mul a f1.1 (by decide) (by omega)
    have d : pw r n * r.f ≤ (9 * 3 ^ n) * 3 := Int.mul_le_mul b f1.2 (by omega) (by have : (0 : Int) ≤ 3 ^ n := Int.pow_nonneg (by decide); omega)
    refine ⟨by omega, ?_⟩
    rw [Int.pow_succ]
    omega
theorem pw_small {r : Rule} (h : r.Ok) {n : Nat} (hn : n ≤ 4) : 1 ≤ pw r n ∧ pw r n ≤ 729 := by
  obtain ⟨a, b⟩ := pw_bd h n hn
  refine ⟨a, Int.le_trans b ?_⟩
  match n, hn with
  | 0, _ => decide
  | 1, _ => decide
  | 2, _ => decide
  | 3, _ => decide
  | 4, _ => decide
theorem min_mul {t p f : Int} (hf : 1 ≤ f) (ht : 0 ≤ t) : min t (min t p * f) = min t (p * f) := by
  by_cases h : p ≤ t
  · rw [Int.min_eq_right h]
  · rw [Int.min_eq_left (show t ≤ p by omega)]
    have a : t * 1 ≤ t * f := Int.mul_le_mul_of_nonneg_left hf ht
    have b : t * f ≤ p * f := Int.mul_le_mul_of_nonneg_right (by omega) (by omega)
    rw [Int.min_eq_left (show t ≤ t * f by omega), Int.min_eq_left (show t ≤ p * f by omega)]
theorem wfold_pw {r : Rule} (h : r.Ok) : ∀ n, min r.t (wfold r n) = min r.t (pw r n)
  | 0 => rfl
  | n + 1 => by
    have ih := wfold_pw h n
    show min r.t (mn r.t (wfold r n * r.f)) = min r.t (pw r n * r.f)
    have h1 := h.f.1
    have h2 := h.t.1
    rw [mn_eq, ← min_mul (p := pw r n) h1 (by omega), ← ih, min_mul h1 (by omega)]
    omega
theorem waitOf_pw {r : Rule} (h : r.Ok) (n : Int) : waitOf r n = min r.t (pw r (n - 1).toNat) := by
  unfold waitOf
  rw [mn_eq]
  exact wfold_pw h _
theorem sorted2 {x y : Int} {ns : List Int} (p : ns.Perm [x, y]) (s : ns.Pairwise (· ≤ ·)) : ns[0]? = some (min x y) := by
  have l := p.length_eq
  match ns, l with
  | [a, b], _ =>
    have ab : a ≤ b := by simpa using s
    have m1 : x ∈ [a, b] := p.mem_iff.mpr (by simp)
    have m2 : y ∈ [a, b] := p.mem_iff.mpr (by simp)
    have m3 : a ∈ [x, y] := p.mem_iff.mp (by simp)
    simp only [List.mem_cons, List.not_mem_nil, or_false] at m1 m2 m3
    show some a = some (min x y)
    congr 1
    omega
end T
namespace T
open PySem PySem.Spec PyProof.Rows L2 Tr LamX
/-! ### the five waits -/
def dues (r : Rule) : List Int := (List.range 5).map fun (i : Nat) => waitOf r (1 + (i : Int))
theorem pw_mono {r : Rule} (h : r.Ok) {n : Nat} (hn : n < 4) : pw r n ≤ pw r (n + 1) := by
  have a := (pw_small h (show n ≤ 4 by omega)).1
  have b := h.f.1
  show pw r n ≤ pw r n * r.f
  have c : pw r n * 1 ≤ pw r n * r.f := Int.mul_le_mul_of_nonneg_left b (by omega)
  omega
theorem dues_at (r : Rule) (h : r.Ok) : dues r = [min r.t (pw r 0), min r.t (pw r 1), min r.t (pw r 2), min r.t (pw r 3), min r.t (pw r 4)] := by
  show [waitOf r (1 + (0 : Nat)), waitOf r (1 + (1 : Nat)), waitOf r (1 + (2 : Nat)), waitOf r (1 + (3 : Nat)), waitOf r (1 + (4 : Nat))] = _
  simp only [waitOf_pw h]
  rfl
theorem dues_rise {r : Rule} (h : r.Ok) : (dues r).Pairwise (· ≤ ·) := by
  rw [dues_at r h]
  have a : pw r 0 ≤ pw r 1 := pw_mono h (show 0 < 4 by decide)
  have b : pw r 1 ≤ pw r 2 := pw_mono h (show 1 < 4 by decide)
  have c : pw r 2 ≤ pw r 3 := pw_mono h (show 2 < 4 by decide)
  have d : pw r 3 ≤ pw r 4 := pw_mono h (show 3 < 4 by decide)
  simp only [List.pairwise_cons, List.mem_cons, List.not_mem_nil, or_false, forall_eq_or_imp, forall_eq, List.Pairwise.nil, and_true]
  refine ⟨⟨by omega, by omega, by omega, by omega⟩, ⟨by omega, by omega, by omega⟩, ⟨by omega, by omega⟩, by omega, ?_⟩
  exact fun _ z => z.elim
theorem dues_take {r : Rule} (h : r.Ok) : (dues r).take (r.m - 1).toNat = wts r := by
  unfold dues wts
  rw [← List.map_take, List.take_range, Nat.min_eq_left (by have := h.m.2; omega)]
theorem dues_last {r : Rule} (h : r.Ok) : atI ((dues r).map V.int) (-1) = some (.int (waitOf r 5)) := rfl
theorem due_le {r : Rule} (h : r.Ok) : waitOf r 5 ≤ r.t := by
  rw [waitOf_pw h]
  omega
theorem ok_false {xs : List V} {j : Nat} (hj : j < 6) (h : itC xs j = false) : okItems xs = false := by
  unfold okItems
  rw [show (List.range 6).all (itC xs) = false from List.all_eq_false.mpr ⟨j, List.mem_range.mpr hj, by rw [h]; decide⟩, Bool.and_false]
def odd (j : Nat) : Int := ([10, 4, 61, 6, 21, 4] : List Int).getD j 0
/-- the five that are put in for the j-th -/
def odds (j : Nat) : List V := [.int 0, .int (odd j), .non, .bl true, .str "1"]
theorem put_false {r : Rule} {j : Nat} (hj : j < 6) {y : V} (hy : y ∈ odds j) : okItems (r.vs.take j ++ [y] ++ r.vs.drop (j + 1)) = false := by
  refine ok_false hj ?_
  have e : (r.vs.take j ++ [y] ++ r.vs.drop (j + 1)).getD j .non = y := by
    match j, hj with
    | 0, _ => rfl
    | 1, _ => rfl
    | 2, _ => rfl
    | 3, _ => rfl
    | 4, _ => rfl
    | 5, _ => rfl
  unfold itC
  rw [e]
  simp only [odds, List.mem_cons, List.not_mem_nil, or_false] at hy
  match j, hj with
  | 0, _ => rcases hy with rfl | rfl | rfl | rfl | rfl <;> rfl
  | 1, _ => rcases hy with rfl | rfl | rfl | rfl | rfl <;> rfl
  | 2, _ => rcases hy with rfl | rfl | rfl | rfl | rfl <;> rfl
  | 3, _ => rcases hy with rfl | rfl | rfl | rfl | rfl <;> rfl
  | 4, _ => rcases hy with rfl | rfl | rfl | rfl | rfl <;> rfl
  | 5, _ => rcases hy with rfl | rfl | rfl | rfl | rfl <;> rfl
theorem odds_flat {K : PySem.W.Frag} {H : Hp} {j : Nat} {y : V} (hy : y ∈ odds j) : Thing K H y := by
  simp only [odds, List.mem_cons, List.not_mem_nil, or_false] at hy
  rcases hy with rfl | rfl | rfl | rfl | rfl
  · exact .int _
  · exact .int _
  · exact .non
  · exact .bl _
  · exact .str _
theorem vs_flat {K : PySem.W.Frag} {H : Hp} {r : Rule} {y : V} (hy : y ∈ r.vs) : Thing K H y := by
  simp only [Rule.vs, List.mem_cons, List.not_mem_nil, or_false] at hy
  rcases hy with rfl | rfl | rfl | rfl | rfl | rfl <;> exact .int _
theorem put_flat {K : PySem.W.Frag} {H : Hp} {r : Rule} {j : Nat} {y : V} (hy : y ∈ odds j) : ∀ z ∈ r.vs.take j ++ [y] ++ r.vs.drop (j + 1), Thing K H z := by
  intro z hz
  rcases List.mem_append.mp hz with hz | hz
  · rcases List.mem_append.mp hz with hz | hz
    · exact vs_flat (List.mem_of_mem_take hz)
    · rw [List.mem_singleton.mp hz]
      exact odds_flat hy
  · exact vs_flat (List.mem_of_mem_drop hz)
theorem RuleIs.ext {K : PySem.W.Frag} {H H' : Hp} {x : V} {b : Bool} (h : RuleIs K H x b) (e : ExtN H H') : RuleIs K H' x b := by
  cases h with
  | tup q hx => exact .tup (ext_tup e q) fun y hy => (hx y hy).ext e
  | non => exact .non
  | bl b => exact .bl b
  | int b => exact .int b
  | str b => exact .str b
  | lst q => exact .lst (ext_lst e q)
theorem RuleIs.mut {K : PySem.W.Frag} {H : Hp} {x : V} {b : Bool} {D : Addr} {xs ys : List V} (h : RuleIs K H x b) (hD : H D = some (.lst xs)) : RuleIs K (upd H D (.lst ys)) x b := by
  cases h with
  | @tup a zs q hx => exact .tup (by rw [upd_ne fun z => by rw [z, hD] at q; cases q]; exact q) fun y hy => (hx y hy).mut hD
  | non => exact .non
  | bl b => exact .bl b
  | int b => exact .int b
  | str b => exact .str b
  | @lst a zs q =>
    by_cases z : a = D
    · rw [z]
      exact .lst upd_same
    · exact .lst (by rw [upd_ne z]; exact q)
theorem rule_no {K : PySem.W.Frag} {H : Hp} {p : Addr} {xs : List V} (e : H p = some (.tup xs)) (hx : ∀ y ∈ xs, Thing K H y) (h : okItems xs = false) : RuleIs K H (.ref p) false := by
  have q : RuleIs K H (.ref p) (okItems xs) := .tup e hx
  rw [h] at q
  exact q
theorem odd_at {j : Nat} (hj : j < 6) : atI ([.int 10, .int 4, .int 61, .int 6, .int 21, .int 4] : List V) (j : Nat) = some (.int (odd j)) := by
  match j, hj with
  | 0, _ => rfl
  | 1, _ => rfl
  | 2, _ => rfl
  | 3, _ => rfl
  | 4, _ => rfl
  | 5, _ => rfl
theorem rule_is {K : PySem.W.Frag} {H : Hp} {p : Addr} {r : Rule} (h : r.Ok) (e : H p = some (.tup r.vs)) : RuleIs K H (.ref p) true := by
  have q : RuleIs K H (.ref p) (okItems r.vs) := .tup e fun y hy => vs_flat hy
  rw [Rule.items h] at q
  exact q
theorem vs_len (r : Rule) : r.vs.length = 6 := rfl
theorem same_sorted {l m : List Int} (p : l.Perm m) (hl : l.Pairwise (· ≤ ·)) (hm : m.Pairwise (· ≤ ·)) : l = m := List.Perm.eq_of_pairwise (fun _ _ _ _ a b => Int.le_antisymm a b) hl hm p
def bads : List V := [.int 0, .int 6, .int (-1), .non, .bl true, .str "1"]
theorem bads_flat {K : PySem.W.Frag} {H : Hp} {y : V} (hy : y ∈ bads) : Thing K H y := by
  simp only [bads, List.mem_cons, List.not_mem_nil, or_false] at hy
  rcases hy with rfl | rfl | rfl | rfl | rfl | rfl
  · exact .int _
  · exact .int _
  · exact .int _
  · exact .non
  · exact .bl _
  · exact .str _
theorem bads_no {y : V} (hy : y ∈ bads) : isC y 1 5 = false := by
  simp only [bads, List.mem_cons, List.not_mem_nil, or_false] at hy
  rcases hy with rfl | rfl | rfl | rfl | rfl | rfl <;> rfl
end T
end
section
namespace T
open PySem PySem.Spec PyProof.Rows L2 Tr LamX
/-! ### the law's drawn rule -/
def ruleOf (h : Int) : Rule := ⟨1 + h % 9, 1 + h / 64 % 3, 1 + h / 1024 % 60, 1 + h / 1048576 % 5, 1 + h / 16777216 % 20, 1 + h / 1073741824 % 3⟩
theorem ruleOf_ok (h : Int) : (ruleOf h).Ok := by
  refine ⟨?_, ?_, ?_, ?_, ?_, ?_⟩ <;> simp only [ruleOf] <;> omega
theorem wait_first {r : Rule} (h : r.Ok) : waitOf r 1 = mn r.b r.t := by
  rw [waitOf_pw h, mn_eq, Int.min_comm]
  rfl
theorem wait_next {r : Rule} (h : r.Ok) (n : Nat) : waitOf r (1 + ((n + 1 : Nat) : Int)) = mn r.t (waitOf r (1 + (n : Int)) * r.f) := by
  have e1 : (1 + ((n + 1 : Nat) : Int) - 1).toNat = n + 1 := by omega
  have e2 : (1 + (n : Int) - 1).toNat = n := by omega
  rw [waitOf_pw h, waitOf_pw h, e1, e2, mn_eq, min_mul h.f.1 (by have := h.t.1; omega)]
  rfl
theorem wait_bd {r : Rule} (h : r.Ok) (n : Int) : 1 ≤ waitOf r n ∧ waitOf r n ≤ r.t ∧ waitOf r n ≤ 60 := by
  have b := wfold_bd h (n - 1).toNat
  have t := h.t
  unfold waitOf
  rw [mn_eq]
  omega
theorem wait_grow {r : Rule} (h : r.Ok) (n : Nat) : waitOf r (1 + (n : Int)) ≤ waitOf r (1 + ((n + 1 : Nat) : Int)) := by
  rw [wait_next h, mn_eq]
  have b := wait_bd h (1 + (n : Int))
  have f := h.f.1
  have c : waitOf r (1 + (n : Int)) * 1 ≤ waitOf r (1 + (n : Int)) * r.f := Int.mul_le_mul_of_nonneg_left f (by omega)
  omega
theorem pw_one {r : Rule} (hf : r.f = 1) : ∀ n, pw r n = r.b
  | 0 => rfl
  | n + 1 => by
    show pw r n * r.f = r.b
    rw [pw_one hf n, hf]
    omega
theorem dues_one {r : Rule} (h : r.Ok) (hf : r.f = 1) : dues r = List.replicate 5 (waitOf r 1) := by
  rw [dues_at r h, waitOf_pw h]
  simp only [pw_one hf]
  rfl
def worses : List V := [.int 0, .int 100, .non, .bl true, .str "1"]
theorem worse_false {r : Rule} {j : Nat} (hj : j < 6) {y : V} (hy : y ∈ worses) : okItems (r.vs.take j ++ [y] ++ r.vs.drop (j + 1)) = false := by
  refine ok_false hj ?_
  have e : (r.vs.take j ++ [y] ++ r.vs.drop (j + 1)).getD j .non = y := by
    match j, hj with
    | 0, _ => rfl
    | 1, _ => rfl
    | 2, _ => rfl
    | 3, _ => rfl
    | 4, _ => rfl
    | 5, _ => rfl
  unfold itC
  rw [e]
  simp only [worses, List.mem_cons, List.not_mem_nil, or_false] at hy
  match j, hj with
  | 0, _ => rcases hy with rfl | rfl | rfl | rfl | rfl <;> rfl
  | 1, _ => rcases hy with rfl | rfl | rfl | rfl | rfl <;> rfl
  | 2, _ => rcases hy with rfl | rfl | rfl | rfl | rfl <;> rfl
  | 3, _ => rcases hy with rfl | rfl | rfl | rfl | rfl <;> rfl
  | 4, _ => rcases hy with rfl | rfl | rfl | rfl | rfl <;> rfl
  | 5, _ => rcases hy with rfl | rfl | rfl | rfl | rfl <;> rfl
theorem worse_flat {K : PySem.W.Frag} {H : Hp} {r : Rule} {j : Nat} {y : V} (hy : y ∈ worses) : ∀ z ∈ r.vs.take j ++ [y] ++ r.vs.drop (j + 1), Thing K H z := by
  intro z hz
  rcases List.mem_append.mp hz with hz | hz
  · rcases List.mem_append.mp hz with hz | hz
    · exact vs_flat (List.mem_of_mem_take hz)
    · rw [List.mem_singleton.mp hz]
      simp only [worses, List.mem_cons, List.not_mem_nil, or_false] at hy
      rcases hy with rfl | rfl | rfl | rfl | rfl
      · exact .int _
      · exact .int _
      · exact .non
      · exact .bl _
      · exact .str _
  · exact vs_flat (List.mem_of_mem_drop hz)
abbrev lawQ : Str := (("law" : Str) ++ (".<locals>." : Str)) ++ ("<lambda>" : Str)
section
variable {P : Program} {w : World} {K : PySem.W.Frag} {mg : Str → Option Value} {base : Heap}
abbrev lawN : List Str := ["_law_script", "_law_k", "_law_more", "_law_j", "_law_here", "_law_base", "_law_factor", "_law_top", "_law_rule", "_law_rows", "_law_fails", "_law_one", "_law_other", "_law_bad", "_law_at", "_law_worse", "_law_told_here"]
def spLaw (K : PySem.W.Frag) (Tb : List (Addr × Str)) : Sp := fun vs H Q _ => ∃ (a : Addr) (ns : List Int), vs = [.ref a] ∧ SqL K H a (ns.map V.int) ∧ ns.length ≤ 63 ∧ Tabs Tb H ∧ ∀ H', Q (.bl true) H'
theorem law_ok (T : Txt K mg) {c Pt : Addr} {fd : FuncData} (F : FunD K "law" "law" (defArgs s_law) (defBody s_law) (defScope s_law) [] [] (He.ga K "law") fd) (hc : fd.code = .ref c) (TB : TabB base mg c Pt) : FnOk P w K mg base (NX P w) 6 (He.ga K "law") fd ["_law_script"] (spLaw K [(Pt, lawQ)]) := by
  obtain ⟨oc, od, dV, kV, doc, pm, an, cdv, ct, osl, rfl, lk, hcd, _, _⟩ := id F.ex
  obtain rfl : cdv = .ref c := hc
  refine fn_of lk hcd sc_law (fun vs H Q E ⟨a, ns, e, _⟩ => by rw [e] <;> rfl) fun A outer s H vs Q E hr ⟨a, ns, e, hS, hl, hT, q⟩ => ?_
  subst e
  have nd := sc_law.nd
  have mem : (Pt, lawQ) ∈ [(Pt, lawQ)] := List.mem_singleton.mpr rfl
  have uq : ∀ p ∈ [(Pt, lawQ)], p.1 = Pt → p.2 = lawQ := fun p hp _ => by rw [List.mem_singleton.mp hp]
  have r1 := hr.mono (show 1 ≤ 5 by decide)
  refine ⟨_, pss_cons (ps_for (by exact passes_of rfl) rfl (pi_range1 (by rfl) T.n_range (pa_cons (b_max2 rfl T.n_max (pa_cons pe_int (pa_cons (b_min2 rfl T.n_min (pa_cons pe_int (pa_cons (b_len T.n_len (pa_cons (pv 0) pa_nil)) pa_nil))) pa_nil))) pa_nil))
      (pg_name (i := 1) nd rfl (Or.inl rfl))
      (pss_cons (ps_set (i := 2) nd rfl (Or.inl rfl) (pe_k (E := E0) (k_l_drawn T) hr (by decide) pass0 (pa_cons (pe_k (E := E0) (k_l_cell T) hr (by decide) pass0 (pa_cons (pv 0) (pa_cons (pv 1) pa_nil))) (pa_cons (pv 1) pa_nil))))
      (pss_one (ps_for (by exact passes_of rfl) rfl (pi_range1 (by rfl) T.n_range (pa_cons pe_int pa_nil)) (pg_name (i := 3) nd rfl (Or.inl rfl))
      (pss_cons (ps_set (i := 4) nd rfl (Or.inl rfl) (pe_k (E := E0) (k_l_drawn T) hr (by decide) pass0 (pa_cons (pv 2) (pa_cons (pe_op op_add pe_int (pv 3)) pa_nil))))
      (pss_cons (ps_par3 (i := 5) (j := 6) (l := 7) rfl nd rfl rfl rfl (by decide) (by decide) (by decide) rfl rfl rfl
          (pa_cons (pe_op op_add pe_int (pe_op op_mod (pv 4) pe_int)) (pa_cons (pe_op op_add pe_int (pe_op op_mod (pe_op op_fdiv (pv 4) pe_int) pe_int)) (pa_cons (pe_op op_add pe_int (pe_op op_mod (pe_op op_fdiv (pv 4) pe_int) pe_int)) pa_nil))) rfl)
      (pss_cons (ps_set (i := 8) nd rfl (Or.inr rfl) (pe_tup (pa_cons (pv 5) (pa_cons (pv 6) (pa_cons (pv 7) (pa_cons (pe_op op_add pe_int (pe_op op_mod (pe_op op_fdiv (pv 4) (pe_op op_pow pe_int pe_int)) pe_int)) (pa_cons (pe_op op_add pe_int (pe_op op_mod (pe_op op_fdiv (pv 4) (pe_op op_pow pe_int pe_int)) pe_int))
          (pa_cons (pe_op op_add pe_int (pe_op op_mod (pe_op op_fdivW (pv 4) (pe_op op_pow pe_int pe_int)) pe_int)) pa_nil))))))))
      (pss_cons (ps_if (pt_cmpR op_notN (pe_k (E := E0) (k_need_rule T) hr (by decide) (L2N.passes_call (L2N.takes_of rfl rfl rfl rfl) fun _ _ _ _ h => h.elim) (pa_cons (pv 8) pa_nil)) pe_non (nomark _)) (pss_one (ps_ret pe_bl)) pss_nil)
      (pss_cons (ps_setLc (i := 9) (own := [("_law_fails", 10)]) (g := gName 10) (tt := tYes) rfl nd rfl rfl (sw_true rfl rfl rfl (by decide +kernel)) (pi_range2 (by rfl) T.n_range (pa_cons pe_int (pa_cons pe_int pa_nil)))
          (blkOk_by (N := lawN) (sc := defScope s_law) (by decide +kernel))
          (fun _ _ _ _ _ => pg_name (i := 10) nd rfl (Or.inl rfl)) (fun _ _ _ _ _ => pts_nil) (fun _ _ _ _ _ => pe_k (E := E0) (k_wait T) hr (by decide) passN0 (pa_cons (pv 8) (pa_cons (pv 10) pa_nil))))
      (pss_cons (ps_if (PW.pt (pw_or (pt_cmpR op_ne (pe_ix ix_list (pv 9) pe_int (fun _ _ => rfl)) (b_min2 rfl T.n_min (pa_cons (pv 5) (pa_cons (pv 7) pa_nil))) (nomark _))
          (pw_or1 (pt_cmpR (op_neD hr.units) (pe_k (E := E0) (k_waits T) hr (by decide) (L2N.passes_call (L2N.takes_of rfl rfl rfl rfl) fun _ _ _ _ h => h.elim) (pa_cons (pv 8) pa_nil))
            (pe_slice sl_list (pv 9) po_none (po_some (pe_op op_sub (pe_ix ix_tup (pv 8) pe_int (fun _ _ => rfl)) pe_int))) (nomark _))))) (pss_one (ps_ret pe_bl)) pss_nil)
      (pss_cons (ps_for (by exact passes_of rfl) rfl (pi_zip (by rfl) T.n_zip (pa_cons (pv 9) (pa_cons (pe_slice sl_list (pv 9) (po_some pe_int) po_none) pa_nil)))
          (pg_tup rfl (pgs_cons (pg_name (i := 11) nd rfl (Or.inl rfl)) (pgs_cons (pg_name (i := 12) nd rfl (Or.inl rfl)) pgs_nil)))
          (pss_one (ps_if (PW.pt (pw_or (pt_cmpR op_ne (pv 12) (b_min2 rfl T.n_min (pa_cons (pv 7) (pa_cons (pe_op op_mul (pv 11) (pv 6)) pa_nil))) (nomark _)) (pw_or1 (pt_cmpR op_lt (pv 12) (pv 11) (nomark _))))) (pss_one (ps_ret pe_bl)) pss_nil)))
      (pss_cons (ps_if (PW.pt (pw_and (pt_cmpR op_eq (pv 6) pe_int (nomark _)) (pw_and1 (pt_cmpR (op_neD hr.units) (pv 9) (pe_op op_rep (pe_slice sl_list (pv 9) po_none (po_some pe_int)) pe_int) (nomark _))))) (pss_one (ps_ret pe_bl)) pss_nil)
      (pss_cons (ps_for (by exact passes_of rfl) rfl (pi_list (pe_lst (pa_cons pe_int (pa_cons pe_int (pa_cons (pe_un un_neg pe_int) (pa_cons pe_non (pa_cons pe_bl (pa_cons pe_str pa_nil)))))))) (pg_name (i := 13) nd rfl (Or.inr rfl))
        (pss_one (ps_if (pt_cmpR (op_neD hr.units) (pe_told (k := 3) (t := fun E => tK (spWait K) E (tCons (tVar 8) (tCons (tVar 13) tNil))) T TB rfl mem uq hr (fun _ _ _ _ _ _ _ hr2 => pe_k (k_wait T) hr2 (by decide) TrL.lamC_pass (pa_cons (pv 8) (pa_cons (pv 13) pa_nil)))) (pe_tup (pa_cons pe_str (pa_cons pe_str pa_nil))) (nomark _)) (pss_one (ps_ret pe_bl)) pss_nil)))
      (pss_cons (ps_set (i := 14) nd rfl (Or.inl rfl) (pe_op op_mod (pe_op op_fdivW (pv 4) (pe_op op_pow pe_int pe_int)) pe_int))
      (pss_cons (ps_set (i := 15) nd rfl (Or.inr rfl) (pe_op op_catA (pe_op op_catA (pe_slice sl_tupA (pv 8) po_none (po_some (pv 14)))
          (pe_tup (pa_cons (pe_ix ix_list (pe_lst (pa_cons pe_int (pa_cons pe_int (pa_cons pe_non (pa_cons pe_bl (pa_cons pe_str pa_nil)))))) (pe_op op_mod (pe_op op_fdivW (pv 4) (pe_op op_pow pe_int pe_int)) pe_int) (fun _ _ => rfl)) pa_nil))) (pe_slice sl_tupA (pv 8) (po_some (pe_op op_add (pv 14) pe_int)) po_none)))
      (pss_cons (ps_set (i := 16) nd rfl (Or.inl rfl) (pe_lst (pa_cons (pe_told (k := 3) (t := fun E => tK (spNeed K) E (tCons (tVar 15) tNil)) T TB rfl mem uq hr (fun _ _ _ _ _ _ _ hr2 => pe_k (k_need_rule T) hr2 (by decide) TrL.lamC_pass (pa_cons (pv 15) pa_nil))) pa_nil)))
      (pss_cons (ps_expr (pe_bm PySem.F.plainAttrs_list PySem.F.slot_list_append PySem.F.type_list_append mt_append (pv 16) (pa_cons (pe_told (k := 3) (t := fun E => tK (spWait K) E (tCons (tVar 15) (tCons (tC .non) tNil))) T TB rfl mem uq hr (fun _ _ _ _ _ _ _ hr2 => pe_k (k_wait T) hr2 (by decide) TrL.lamC_pass (pa_cons (pv 15) (pa_cons pe_non pa_nil)))) pa_nil)))
      (pss_cons (ps_expr (pe_bm PySem.F.plainAttrs_list PySem.F.slot_list_append PySem.F.type_list_append mt_append (pv 16) (pa_cons (pe_told (k := 3) (t := fun E => tK (spWaits K) E (tCons (tVar 15) tNil)) T TB rfl mem uq hr (fun _ _ _ _ _ _ _ hr2 => pe_k (k_waits T) hr2 (by decide) TrL.lamC_pass (pa_cons (pv 15) pa_nil))) pa_nil)))
      (pss_one (ps_if (pt_cmpR (op_neD hr.units) (pv 16) (pe_op op_rep (pe_lst (pa_cons (pe_tup (pa_cons pe_str (pa_cons pe_str pa_nil))) pa_nil)) pe_int) (nomark _)) (pss_one (ps_ret pe_bl)) pss_nil))))))))))))))))))))
    (pss_one (ps_ret pe_bl)), ?_⟩
  refine r_seq ⟨_, rfl, _, _, rfl, .inl ⟨_, hS, rfl⟩, _, _, rfl, _, _, rfl, _, rfl, by omega, by omega, ?_⟩
  refine for_it walk_range (fun i σ H' => Fw [(Pt, lawQ)] H H' ∧ ∃ o1 o2 o3 o4 o5 o6 o7 o8 o9 o10 o11 o12 o13 o14 o15 o16, σ = [some (.ref a), o1, o2, o3, o4, o5, o6, o7, o8, o9, o10, o11, o12, o13, o14, o15, o16]) ⟨Fw.refl hT, _, _, _, _, _, _, _, _, _, _, _, _, _, _, _, _, rfl⟩ (fun _ _ _ _ _ => trivial) ?_ ?_
  · rintro i x σ H1 H1' hi ⟨f1, o1, o2, o3, o4, o5, o6, o7, o8, o9, o10, o11, o12, o13, o14, o15, o16, rfl⟩ ⟨rfl, rfl⟩
    refine ⟨_, rfl, _, rfl, a, ns, _, rfl, ext_l f1.e hS, hl, by omega, by omega, fun cl H2 s2 => ⟨_, rfl, cl, _, rfl, by omega, by omega, fun d d0 d1 => ?_⟩⟩
    have f2 := f1.same s2
    refine ⟨_, rfl, by omega, by omega, ?_⟩
    refine for_it (walk_range (n := 6)) (fun j σ H' => Fw [(Pt, lawQ)] H H' ∧ ∃ o3 o4 o5 o6 o7 o8 o9 o10 o11 o12 o13 o14 o15 o16, σ = [some (.ref a), some (.int (0 + (i : Nat))), some (.int d), o3, o4, o5, o6, o7, o8, o9, o10, o11, o12, o13, o14, o15, o16]) ⟨f2, _, _, _, _, _, _, _, _, _, _, _, _, _, _, rfl⟩ (fun _ _ _ _ _ => trivial) ?_ ?_
    · clear f1 f2 s2 o3 o4 o5 o6 o7 o8 o9 o10 o11 o12 o13 o14 o15 o16
      rintro jj x σ H3' H3 hjj ⟨f3, o3, o4, o5, o6, o7, o8, o9, o10, o11, o12, o13, o14, o15, o16, rfl⟩ ⟨rfl, rfl⟩
      refine ⟨_, rfl, _, rfl, _, _, rfl, rfl, d, _, rfl, by omega, by omega, fun h h0 h1 => ?_⟩
      refine ⟨_, rfl, _, _, rfl, rfl, (by show (0 : Int) < 9; decide), _, _, rfl, rfl, _, rfl, _, _, rfl, rfl, ⟨by decide, by decide⟩, _, _, rfl, rfl, (by show (0 : Int) < 3; decide), _, _, rfl, rfl, _, rfl, _, _, rfl, rfl, ⟨by decide, by decide⟩, _, _, rfl, rfl, (by show (0 : Int) < 60; decide), _, _, rfl, rfl, _, _, _, rfl, ?_⟩
      refine ⟨_, rfl, _, rfl, _, rfl, _, rfl, _, _, rfl, rfl, ⟨by decide, by decide, by decide⟩, _, _, rfl, rfl, ⟨by decide, by decide⟩, _, _, rfl, rfl, (by show (0 : Int) < 5; decide), _, _, rfl, rfl, _, rfl, _, _, rfl, rfl, ⟨by decide, by decide, by decide⟩, _, _, rfl, rfl, ⟨by decide, by decide⟩, _, _, rfl, rfl, (by show (0 : Int) < 20; decide), _, _, rfl, rfl, _, rfl, _, _, rfl, rfl, ⟨by decide, by decide, by decide⟩, _, _, rfl, rfl, wide_div (b := 31) (by decide) (by decide) (by decide) (by decide), _, _, rfl, rfl, (by show (0 : Int) < 3; decide), _, _, rfl, rfl, by show 6 ≤ sizeLine; decide, fun p hp => ?_⟩
      have ok := ruleOf_ok h
      generalize hH4 : upd H3 p _ = H4
      have s4 : Same H3 H4 := by rw [← hH4]; exact same_new hp
      have e4 : H4 p = some (.tup (ruleOf h).vs) := by rw [← hH4]; exact upd_same
      have f4 := f3.same s4
      refine ⟨_, rfl, _, true, rfl, rule_is ok e4, fun _ H5 s5 => ?_, fun z => Bool.noConfusion z⟩
      have f5 := f4.same s5
      have e5 := s5 _ _ e4
      refine ⟨rfl, false, rfl, ?_⟩
      refine ⟨_, _, rfl, ⟨by omega, by omega, by omega, by omega⟩, fun D hD => ?_⟩
      refine lc_adds (walk_range (lo := 1) (n := 5)) (fun i acc => acc = (List.range i).map fun (j : Nat) => V.int (waitOf (ruleOf h) (1 + (j : Int)))) hD (by omega) rfl (fun i acc h => by rw [h]; simp) (fun _ _ => trivial) ?_ ?_
      · rintro Tq N i acc y H6 H7 yes no hi s6 p' ⟨rfl, rfl⟩
        refine ⟨rfl, _, rfl, _, rfl, .ref p, .int (1 + (i : Nat)), true, rfl, rule_is ok (s6 _ _ e5), .int _, fun z => Bool.noConfusion z, fun _ z => ?_, fun _ n en n1 n5 => ⟨p, ruleOf h, rfl, s6 _ _ e5, ok, fun H8 s8 => yes _ _ s8 ?_⟩⟩
        · simp [isC] at z
          omega
        · cases en
          rw [p', List.range_succ, List.map_append]
          rfl
      rintro acc H6 s6 eD rfl
      have eD : H6 D = some (.lst ((dues (ruleOf h)).map V.int)) := by rw [eD]; unfold dues; rw [List.map_map]; rfl
      have f6 := f5.same s6
      have e6 := s6 _ _ e5
      refine ⟨_, rfl, _, _, _, _, rfl, rfl, sqL eD, (rfl : atI ((dues (ruleOf h)).map V.int) 0 = some (.int (waitOf (ruleOf h) 1))), _, rfl, _, rfl, _, _, rfl, rfl, false, congrArg (fun b => V.bl (!b)) (decide_eq_true (congrArg V.int (wait_first ok))), ?_⟩
      refine ⟨_, rfl, _, true, rfl, rule_is ok e6, fun z => Bool.noConfusion z, fun _ => ⟨p, ruleOf h, rfl, e6, ok, fun H8 W s8 hW eW => ?_⟩⟩
      have e8 := s8 _ _ e6
      have eD8 := s8 _ _ eD
      have m1 := ok.m
      refine ⟨_, rfl, _, rfl, _, _, _, _, rfl, rfl, sqT e8, rfl, _, _, rfl, rfl, _, rfl, _, _, rfl, sqL eD8, fun D4 hD4 => ?_⟩
      have ecut : cutV ((dues (ruleOf h)).map V.int) none (some ((ruleOf h).m - 1)) = (wts (ruleOf h)).map V.int := by
        have em : (ruleOf h).m - 1 = ((((ruleOf h).m - 1).toNat : Nat) : Int) := by omega
        rw [em, cut_to (by rw [List.length_map]; show ((ruleOf h).m - 1).toNat ≤ 5; omega), ← List.map_take, dues_take ok]
      have s9 := same_new (o := HO.lst (cutV ((dues (ruleOf h)).map V.int) none (some ((ruleOf h).m - 1)))) hD4
      refine ne_self (dp_lints (s9 _ _ eW)) (dp_lints (ns := wts (ruleOf h)) (upd_same.trans (congrArg (fun z => some (HO.lst z)) ecut))) (sh_ints _) ⟨false, rfl, ?_⟩
      have f9 := (f6.same s8).same s9
      have e9 := s9 _ _ e8
      have eD9 := s9 _ _ eD8
      generalize hH9 : upd H8 D4 _ = H9
      have hH9' : upd H8 D4 (HO.lst (cutV ((dues (ruleOf h)).map V.int) none (some ((ruleOf h).m - 1)))) = H9 := hH9
      rw [hH9'] at f9 e9 eD9
      refine ⟨_, rfl, _, rfl, _, rfl, r_nopart ⟨_, _, rfl, sqL eD9, fun D5 hD5 => ?_⟩⟩
      have ec1 : cutV ((dues (ruleOf h)).map V.int) (some 1) none = ((dues (ruleOf h)).drop 1).map V.int := by
        rw [List.map_drop]
        exact cut_from (j := 1) (by rw [List.length_map]; show 1 ≤ 5; omega)
      have s10 := same_new (o := HO.lst (cutV ((dues (ruleOf h)).map V.int) (some 1) none)) hD5
      refine ⟨_, _, _, _, rfl, sqL (s10 _ _ eD9), sqL upd_same, ?_⟩
      have f10 := f9.same s10
      have e10 := s10 _ _ e9
      have eD10 := s10 _ _ eD9
      have eC10 : upd H9 D5 (HO.lst (cutV ((dues (ruleOf h)).map V.int) (some 1) none)) D5 = some (.lst (((dues (ruleOf h)).drop 1).map V.int)) := upd_same.trans (congrArg (fun z => some (HO.lst z)) ec1)
      generalize hH10 : upd H9 D5 _ = H10
      have hH10' : upd H9 D5 (HO.lst (cutV ((dues (ruleOf h)).map V.int) (some 1) none)) = H10 := hH10
      rw [hH10'] at f10 e10 eD10 eC10
      refine for_it (walk_zip (n := 4) (xs := (dues (ruleOf h)).map V.int) (ys := ((dues (ruleOf h)).drop 1).map V.int) rfl) (fun n σ H' => Fw [(Pt, lawQ)] H H' ∧ H' p = some (.tup (ruleOf h).vs) ∧ H' D = some (.lst ((dues (ruleOf h)).map V.int)) ∧ H' D5 = some (.lst (((dues (ruleOf h)).drop 1).map V.int)) ∧
        ∃ o11 o12, σ = [some (.ref a), some (.int (0 + (i : Nat))), some (.int d), some (.int (0 + (jj : Nat))), some (.int h), some (.int (ruleOf h).b), some (.int (ruleOf h).f), some (.int (ruleOf h).t), some (.ref p), some (.ref D), o10, o11, o12, o13, o14, o15, o16])
        ⟨f10, e10, eD10, eC10, _, _, rfl⟩ (fun _ _ _ _ g => ⟨sqL g.2.2.1, sqL g.2.2.2.1⟩) ?_ ?_
      · rintro n y σ H11 H11' hn ⟨f11, e11, eD, eC, o11', o12', rfl⟩ ⟨T1, u, v, rfl, hT, rfl, hu, hv⟩
        have hn : n < 4 := hn
        have hu : ((dues (ruleOf h)).map V.int)[n]? = some u := hu
        have hv : (((dues (ruleOf h)).drop 1).map V.int)[n]? = some v := hv
        obtain rfl : V.int (waitOf (ruleOf h) (1 + (n : Int))) = u := by
          rw [List.getElem?_map] at hu
          unfold dues at hu
          rw [List.getElem?_map, List.getElem?_range (by omega)] at hu
          exact Option.some.inj hu
        obtain rfl : V.int (waitOf (ruleOf h) (1 + ((n + 1 : Nat) : Int))) = v := by
          rw [List.getElem?_map, List.getElem?_drop] at hv
          unfold dues at hv
          rw [List.getElem?_map, List.getElem?_range (by omega), Nat.add_comm 1 n] at hv
          exact Option.some.inj hv
        have sT := same_new (o := HO.tup [V.int (waitOf (ruleOf h) (1 + (n : Int))), V.int (waitOf (ruleOf h) (1 + ((n + 1 : Nat) : Int)))]) hT
        have wb := wait_bd ok (1 + (n : Int))
        have fb := ok.f
        refine ⟨_, _, rfl, sqT upd_same, rfl, _, _, rfl, _, _, rfl, rfl, ?_⟩
        refine ⟨_, rfl, _, rfl, _, rfl, _, rfl, _, _, rfl, rfl, .inl ⟨by omega, by omega⟩, _, _, rfl, rfl, false, congrArg (fun b => V.bl (!b)) (decide_eq_true (congrArg V.int (wait_next ok n))), ?_⟩
        refine ⟨_, rfl, _, rfl, _, _, rfl, rfl, false, congrArg V.bl (decide_eq_false (by have := wait_grow ok n; omega)), ?_⟩
        exact ⟨f11.same sT, sT _ _ e11, sT _ _ eD, sT _ _ eC, _, _, rfl⟩
      clear f10 e10 eD10 eC10
      rintro σ H10 ⟨f10, e10, eD10, eC10, o11', o12', rfl⟩
      refine ⟨_, rfl, rfl, _, rfl, ?_⟩
      have pre := And.intro f10 (And.intro e10 eD10)
      clear f10 e10 eD10 eC10
      revert pre
      revert H10
      refine both (good := fun H' => Fw [(Pt, lawQ)] H H' ∧ H' p = some (.tup (ruleOf h).vs)) (fun H10 g => ⟨g.1, g.2.1⟩) (fun H10 ⟨f10, e10, eD10⟩ hf r => ⟨_, rfl, _, rfl, _, rfl, _, _, rfl, sqL eD10, fun D6 hD6 => ⟨D6, 5, _, rfl, rfl, upd_same, by decide, by decide, by show 5 ≤ sizeLine; decide, fun q6 hq6 => ?_⟩⟩) ?_
      · have hf : (ruleOf h).f = 1 := V.int.inj (of_decide_eq_true hf)
        have s11 := (same_new (o := HO.lst (cutV ((dues (ruleOf h)).map V.int) none (some 1))) hD6)
        have s12 := same_new (o := HO.lst ((List.replicate (5 : Int).toNat (cutV ((dues (ruleOf h)).map V.int) none (some 1))).flatten)) hq6
        have ed := dues_one ok hf
        refine ne_self (dp_lints (s12 _ _ (s11 _ _ eD10))) (dp_lints (ns := dues (ruleOf h)) (upd_same.trans (congrArg (fun z => some (HO.lst z)) ?_))) (sh_ints _) ⟨false, rfl, r _ ⟨(f10.same s11).same s12, s12 _ _ (s11 _ _ e10)⟩⟩
        rw [ed]
        rfl
      rintro H10 ⟨f10, e10⟩
      refine ⟨_, rfl, by show 6 ≤ sizeLine; decide, fun B hB => ⟨_, rfl, ⟨_, sqL upd_same⟩, ?_⟩⟩
      have f11 := f10.new (o := HO.lst bads) hB
      have e11 := (same_new (o := HO.lst bads) hB) _ _ e10
      refine for_it (walk_list (xs := bads)) (fun n σ H' => Fw [(Pt, lawQ)] H H' ∧ H' p = some (.tup (ruleOf h).vs) ∧ H' B = some (.lst bads) ∧
        ∃ o13, σ = [some (.ref a), some (.int (0 + (i : Nat))), some (.int d), some (.int (0 + (jj : Nat))), some (.int h), some (.int (ruleOf h).b), some (.int (ruleOf h).f), some (.int (ruleOf h).t), some (.ref p), some (.ref D), o10, o11', o12', o13, o14, o15, o16])
        ⟨f11, e11, upd_same, _, rfl⟩ (fun _ _ _ _ g => sqL g.2.2.1) ?_ ?_
      · rintro n y σ H11 H11' hn ⟨f11, e11, eB, o13', rfl⟩ ⟨rfl, hy⟩
        have hm : y ∈ bads := List.mem_of_getElem? hy
        have hw : ("BadTime" : Str) ∈ cls := by decide
        refine ⟨f11.t, fun H12 x12 t12 => ⟨_, rfl, _, rfl, _, _, true, rfl, rule_is ok (ext_tup x12 e11), bads_flat hm, fun z => Bool.noConfusion z, fun _ _ H13 s13 => ⟨"BadTime", hw, rfl, rfl, T_word T hw, fun H14 t14 s14 _ et => ?_⟩, fun _ n en n1 n5 => ?_⟩⟩
        · refine ⟨by show 2 ≤ sizeLine; decide, fun t2 ht2 => ne_self (dp_rf ((same_new ht2) _ _ et)) (dp_rf upd_same) (sh_rf (by decide +kernel)) ⟨false, rfl, ?_⟩⟩
          have sx := (s13.trans s14).trans (same_new (o := HO.tup [.str "refused", .str "BadTime"]) ht2)
          exact ⟨((f11.ext x12 t12).same (s13.trans s14)).new ht2, sx _ _ (ext_tup x12 e11), sx _ _ (ext_lst x12 eB), _, rfl⟩
        · have z := bads_no hm
          rw [en] at z
          simp [isC] at z
          omega
      clear f10 e10 f11 e11
      rintro σ H11 ⟨f11, e11, _, o13', rfl⟩
      refine ⟨_, rfl, _, _, rfl, rfl, ⟨by decide, by decide, by decide⟩, _, _, rfl, rfl, wide_div (b := 41) (by decide) (by decide) (by decide) (by decide), _, _, rfl, rfl, (by show (0 : Int) < 6; decide), ?_⟩
      have j0 := Int.emod_nonneg (h / 1099511627776) (show (6 : Int) ≠ 0 by decide)
      have j6 := Int.emod_lt_of_pos (h / 1099511627776) (show (0 : Int) < 6 by decide)
      obtain ⟨j, ej⟩ : ∃ j : Nat, h / 1099511627776 % 6 = (j : Int) := ⟨(h / 1099511627776 % 6).toNat, by omega⟩
      have hj : j < 6 := by omega
      have ej' : h / 2 ^ Int.toNat 40 % 6 = (j : Int) := ej
      have ec1 : cutV (ruleOf h).vs none (some (h / 2 ^ Int.toNat 40 % 6)) = (ruleOf h).vs.take j := by
        rw [ej']
        exact cut_to (by rw [vs_len]; omega)
      have ec2 : cutV (ruleOf h).vs (some (h / 2 ^ Int.toNat 40 % 6 + 1)) none = (ruleOf h).vs.drop (j + 1) := by
        rw [ej']
        exact cut_from (j := j + 1) (by rw [vs_len]; omega)
      obtain ⟨m, em⟩ : ∃ m : Nat, h / 17592186044416 % 5 = (m : Int) := ⟨(h / 17592186044416 % 5).toNat, by omega⟩
      have hm : m < 5 := by omega
      have em' : h / 2 ^ Int.toNat 44 % 5 = (m : Int) := em
      obtain ⟨y, hy, eat⟩ : ∃ y, y ∈ worses ∧ atI worses (h / 2 ^ Int.toNat 44 % 5) = some y := by
        rw [em']
        exact ⟨worses[m]'hm, List.getElem_mem _, atI_nat (List.getElem?_eq_getElem hm)⟩
      refine ⟨_, rfl, _, rfl, _, rfl, rd_cut e11 fun u1 H17 s17 eu1 => ⟨by show 5 ≤ sizeLine; decide, fun L hL => ⟨_, rfl, _, _, rfl, rfl, ⟨by decide, by decide, by decide⟩, _, _, rfl, rfl, wide_div (b := 45) (by decide) (by decide) (by decide) (by decide), _, _, rfl, rfl, (by show (0 : Int) < 5; decide), _, _, _, _, rfl, rfl, sqL upd_same, eat, by show 1 ≤ sizeLine; decide, fun u2 hu2 => ?_⟩⟩⟩
      rw [ec1] at eu1
      have s18 := (same_new (o := HO.lst worses) hL).trans (same_new (o := HO.tup [y]) hu2)
      refine rd_cat (s18 _ _ eu1) upd_same (by rw [List.length_take, vs_len]; show min j 6 + 1 ≤ 100000; omega) fun u3 H18 s19 eu3 => ⟨_, rfl, _, rfl, _, _, rfl, rfl, _, rfl, r_nopart (rd_cut (((s17.trans s18).trans s19) _ _ e11) fun u4 H19 s20 eu4 => ?_)⟩
      have sa := (s17.trans s18).trans s19
      rw [ec2] at eu4
      refine rd_cat (s20 _ _ eu3) eu4 (by rw [List.length_append, List.length_take, List.length_drop, vs_len]; show min j 6 + 1 + _ ≤ 100000; omega) fun u5 H20 s21 eu5 => ?_
      have f17 := (f11.same (sa.trans s20)).same s21
      have Ry : RuleIs K H20 (.ref u5) false := rule_no eu5 (worse_flat hy) (worse_false hj hy)
      have hw : ("BadRule" : Str) ∈ cls := by decide
      clear s17 s18 s19 s20 s21 sa eu1 eu3 eu4
      refine ⟨f17.t, fun H18 x18 t18 => ⟨_, rfl, _, false, rfl, Ry.ext x18, fun z => Bool.noConfusion z, fun _ H19 s19 => ⟨"BadRule", hw, rfl, rfl, T_word T hw, fun H22 u1 s20 _ eu1 => ?_⟩⟩⟩
      have x20 : ExtN H20 H22 := x18.trans (ext_of (s19.trans s20))
      have f20 : Fw [(Pt, lawQ)] H H22 := (f17.ext x18 t18).same (s19.trans s20)
      refine ⟨by show 1 ≤ sizeLine; decide, fun S hS => ?_⟩
      have nS := f20.nt hS
      have s21 := same_new (o := HO.lst [.ref u1]) hS
      have f21 := f20.same s21
      have eS21 : upd H22 S (HO.lst [.ref u1]) S = some (.lst [.ref u1]) := upd_same
      refine ⟨_, rfl, .inl ⟨rfl, _, sqL upd_same⟩, ?_⟩
      refine ⟨f21.t, fun H23 x22 t22 => ⟨_, rfl, _, .non, false, rfl, ((Ry.ext x20).ext (ext_of s21)).ext x22, .non, fun _ H24 s23 => ⟨"BadRule", hw, rfl, rfl, T_word T hw, fun H25 u2 s24 _ eu2 => ?_⟩, fun z => Bool.noConfusion z, fun z => Bool.noConfusion z⟩⟩
      have x24 : ExtN (upd H22 S (.lst [.ref u1])) H25 := x22.trans (ext_of (s23.trans s24))
      have f24 : Fw [(Pt, lawQ)] H H25 := (f21.ext x22 t22).same (s23.trans s24)
      have eS24 := ext_lst x24 eS21
      have R24 := ((Ry.ext x20).ext (ext_of s21)).ext x24
      have eu24 := ext_tup x24 (s21 _ _ eu1)
      refine ⟨S, [.ref u1], _, rfl, rfl, eS24, by show 1 < sizeLine; decide, ?_⟩
      have f25 := f24.mut (ys := [.ref u1] ++ [.ref u2]) nS eS24
      have ne1 : u1 ≠ S := fun z => by rw [z, eS24] at eu24; cases eu24
      have ne2 : u2 ≠ S := fun z => by rw [z, eS24] at eu2; cases eu2
      have eS25 : upd H25 S (.lst ([.ref u1] ++ [.ref u2])) S = some (.lst [.ref u1, .ref u2]) := upd_same
      have eu25 : upd H25 S (.lst ([.ref u1] ++ [.ref u2])) u1 = some (.tup [.str "refused", .str "BadRule"]) := by rw [upd_ne ne1]; exact eu24
      have ev25 : upd H25 S (.lst ([.ref u1] ++ [.ref u2])) u2 = some (.tup [.str "refused", .str "BadRule"]) := by rw [upd_ne ne2]; exact eu2
      have R25 : RuleIs K (upd H25 S (.lst ([.ref u1] ++ [.ref u2]))) (.ref u5) false := R24.mut eS24
      generalize upd H25 S (.lst ([.ref u1] ++ [.ref u2])) = H26 at f25 eS25 eu25 ev25 R25
      refine ⟨_, rfl, .inl ⟨rfl, _, sqL eS25⟩, ?_⟩
      refine ⟨f25.t, fun H27 x26 t26 => ⟨_, rfl, _, false, rfl, R25.ext x26, fun _ H28 s27 => ⟨"BadRule", hw, rfl, rfl, T_word T hw, fun H29 u3 s28 _ eu3 => ?_⟩, fun z => Bool.noConfusion z⟩⟩
      have x28 : ExtN H26 H29 := x26.trans (ext_of (s27.trans s28))
      have f28 : Fw [(Pt, lawQ)] H H29 := (f25.ext x26 t26).same (s27.trans s28)
      have eS28 := ext_lst x28 eS25
      refine ⟨S, [.ref u1, .ref u2], _, rfl, rfl, eS28, by show 2 < sizeLine; decide, ?_⟩
      have f29 := f28.mut (ys := [.ref u1, .ref u2] ++ [.ref u3]) nS eS28
      have ne3 : u3 ≠ S := fun z => by rw [z, eS28] at eu3; cases eu3
      have eS29 : upd H29 S (.lst ([.ref u1, .ref u2] ++ [.ref u3])) S = some (.lst ([u1, u2, u3].map V.ref)) := upd_same
      have et29 : ∀ t ∈ [u1, u2, u3], upd H29 S (.lst ([.ref u1, .ref u2] ++ [.ref u3])) t = some (.tup [.str "refused", .str "BadRule"]) := by
        intro t ht
        simp only [List.mem_cons, List.not_mem_nil, or_false] at ht
        rcases ht with rfl | rfl | rfl
        · rw [upd_ne ne1]
          exact ext_tup x28 eu25
        · rw [upd_ne ne2]
          exact ext_tup x28 ev25
        · rw [upd_ne ne3]
          exact eu3
      generalize upd H29 S (.lst ([.ref u1, .ref u2] ++ [.ref u3])) = H30 at f29 eS29 et29
      refine ⟨_, rfl, by show 2 ≤ sizeLine; decide, fun t4 ht4 => ⟨by show 1 ≤ sizeLine; decide, fun l5 hl5 => ⟨l5, 3, [.ref t4], rfl, rfl, upd_same, by decide, by decide, by show 3 ≤ sizeLine; decide, fun q6 hq6 => ?_⟩⟩⟩
      have sz1 := same_new (o := HO.tup [.str "refused", .str "BadRule"]) ht4
      have sz2 := same_new (o := HO.lst [.ref t4]) hl5
      have sz3 := same_new (o := HO.lst (List.replicate (3 : Int).toNat [V.ref t4]).flatten) hq6
      have sz := (sz1.trans sz2).trans sz3
      refine ne_self (.lst (sqL (sz _ _ eS29)) (dp_rfs fun t ht => sz _ _ (et29 t ht))) (.lst (sqL upd_same) (dp_rfs (ts := [t4, t4, t4]) fun t ht => ?_)) (sh_rfs (by decide +kernel) 3) ⟨false, rfl, ?_⟩
      · simp only [List.mem_cons, List.not_mem_nil, or_false] at ht
        rcases ht with rfl | rfl | rfl <;> exact sz3 _ _ (sz2 _ _ upd_same)
      · exact ⟨f29.same sz, _, _, _, _, _, _, _, _, _, _, _, _, _, _, rfl⟩
    rintro σ H3 ⟨f3, o3, o4, o5, o6, o7, o8, o9, o10, o11, o12, o13, o14, o15, o16, rfl⟩
    exact ⟨f3, _, _, _, _, _, _, _, _, _, _, _, _, _, _, _, _, rfl⟩
  · rintro σ H1 ⟨f1, o1, o2, o3, o4, o5, o6, o7, o8, o9, o10, o11, o12, o13, o14, o15, o16, rfl⟩
    exact q H1
end
end T
end
section
namespace T
open PySem PySem.Spec PyProof.Rows L2 Tr LamX
abbrev hk : PySem.W.Hook := He.hookX 4 fa fn [] tf ex
def ob (s : PySem.W.SharedT) : He.AlX := He.obsX 4 fa fn [] tf ex (HandSHeadRun.getT s)
theorem ob_eq (s : PySem.W.SharedT) : ob s = hk.obs s.abs := He.obsX_eq (HandSHeadRun.getT_eq s)
abbrev lawK : Nat := 6
abbrev lawC (K : PySem.W.Frag) : Addr × Addr := He.cT K ("law", none)
theorem hc {prog : Program} (w : World) (mg : Str → Option Value) (f : Addr) (h : Heap) (Y : hk.says w h) (G : h.Ns mainGlobals mg) (hm : mg "law" = some (.ref f)) :
    ∃ K : PySem.W.Frag, K.In h ∧ ∃ (fd : FuncData) (cs : List (Addr × Addr)) (sp : Sp), (∀ p ∈ cs, h.get? p.2 = some { cls := .none, data := .fields #[] }) ∧ (∀ p ∈ cs, K.lookup p.2 = none) ∧ (∀ p ∈ cs, PySem.W.CodeHd h p.1 p.2) ∧
      (∀ (s : Shared) (u : Value), BindsTo s fd ⟨[u], []⟩ [("_law_script", u)]) ∧
      (∀ (H : Hp) (a : Addr) (ns : List Int), ns.length ≤ 63 → (∀ z ∈ ns, Builtin.Int.intBits z ≤ 1048576) → (∀ p ∈ cs, H p.2 = some (.tbl #[])) → SqL K H a (ns.map V.int) → sp [.ref a] H (fun v _ => v = .bl true) fun _ _ _ => False) ∧
      ∀ base : Heap, K.In base → base.Ns mainGlobals mg → (∀ p ∈ cs, TabB base mg p.1 p.2) → FnOk prog w K mg base (NX prog w) 6 f fd ["_law_script"] sp := by
  obtain ⟨K, hK, S⟩ := Y
  have T : Txt K mg := ⟨S.t.d, S.more, h, hK, G⟩
  obtain rfl : He.ga K "law" = f := by
    have e := T.g_law
    rw [hm] at e
    exact (Value.ref.inj (Option.some.inj e)).symm
  obtain ⟨fd, F⟩ := T.f_law
  obtain ⟨oc, od, dV, kV, doc, pm, an, cdv, ct, osl, ef, lk, hcd, _, _⟩ := id F.ex
  obtain ⟨c, ec⟩ := He.codeIn_ref hcd
  have efc : fd.code = .ref c := by rw [ef, ec] <;> rfl
  have ecc : (lawC K).1 = c := He.codeOf_eq lk efc
  have one : ∀ p ∈ [lawC K], p = lawC K := fun p hp => List.mem_singleton.mp hp
  have tfm : (("law", none) : He.Defn) ∈ tf := List.mem_singleton.mpr rfl
  refine ⟨K, hK, fd, [lawC K], spLaw K [((lawC K).2, lawQ)], fun p hp => ?_, fun p hp => ?_, fun p hp => ?_, fun s u => ?_, fun H a ns hl _ ht hS => ?_, fun base hb hns ht => ?_⟩
  · rw [one p hp]
    exact S.empty _ tfm
  · rw [one p hp]
    exact S.out _ tfm
  · rw [one p hp]
    exact PySem.W.codeHd_of_K hK (S.hd _ tfm)
  · exact F.bindsA (ps := ["_law_script"]) (fun _ _ _ _ _ _ us hl => match us, hl with | [_], _ => rfl) s [u] rfl
  · refine ⟨a, ns, rfl, hS, hl, fun p hp => ?_, fun _ => rfl⟩
    rw [List.mem_singleton.mp hp]
    exact TabS.nil (ht _ (List.mem_singleton.mpr rfl))
  · refine law_ok T F efc ?_
    rw [← ecc]
    exact ht _ (List.mem_singleton.mpr rfl)
end T
end
section
namespace T
open PySem PySem.Spec PyProof.Rows L2
theorem run (w : World) : HandSHeadRun.RunEq R (PySem.W.view R.prog [lawAt]) hk ob 40000 loose w := by
  intro os
  kernel_rfl
end T
end
open PySem PySem.W PySem.Calls PyProof.Rows
theorem PySem.Challenge.cw_tryroad_k11_whole_waits_grow_holds : PySem.Challenge.rw_tryroad_k11_whole_waits_grow.Holds := by
  w_on
  o_law
  refine HandSHeadRun.head_any (r := OpenLaw.row PySem.Challenge.rw_tryroad_k11_whole_waits_grow) (q := view (OpenLaw.row PySem.Challenge.rw_tryroad_k11_whole_waits_grow).prog [T.lawAt]) (H := T.hk) (ob := T.ob) (M := 40000) (loose := T.loose) (d := HandSHeadRun.topDef (OpenLaw.row PySem.Challenge.rw_tryroad_k11_whole_waits_grow).prog T.lawAt) (kwd := []) T.ob_eq
    (by kernel_rfl) (fun s => by kernel_rfl) T.run (by kernel_rfl) (by kernel_rfl) (by kernel_rfl) (by rfl) (by first | assumption | decide +kernel) (by decide +kernel) ⟨rfl, rfl, rfl, rfl, rfl, by decide +kernel⟩ ?hw ?hc
  case hw => w_witness2
  case hc => exact LamX.walk_ofTsE (l := PySem.Challenge.rw_tryroad_k11_whole_waits_grow) (n := 63) (k := T.lawK) (x := "_law_script") (CX := fun w => Tr.NX (OpenLaw.row PySem.Challenge.rw_tryroad_k11_whole_waits_grow).prog w) rfl (by decide) rfl ⟨rfl, by decide, by decide⟩ (fun w mg f h Y G hm => T.hc w mg f h Y G hm) fun w H s e s' ⟨_, _, _, _, _, _, _, _, _, _, _, _, z⟩ => z

import PyProof.Rows.All
import Wide.All
import OpenK.AllK
import Wide.FinOn
import PyProof.SumWalkG
import HandS.HotCalls
import HandS.Lambda
import HandS.ExcIs
import HandS.ForMost
import HandS.Walk
import HandS.Zip
import HandS.TupAny
import HandS.Wide
import HandS.IsInst
import HandS.SortInts
import HandS.Flow
import HandS.HeadHook4
import HandS.HeadWalk
import HandS.Defaults
import PyProof.StrBlock2
import KE.KIntText
import HandS.Head0
import HandS.Head1
import HandS.Head2
import HandS.HeadEnd
import HandS.More
import KE.KStateDown
import PySem.Challenge.RW_tryroad_k30_whole_takers
set_option Elab.async false
set_option linter.all false
set_option maxRecDepth 100000
set_option maxHeartbeats 0
section
/-! Lists walked while an exception is handled: the end of a list's iterator, sum of a list, a comprehension of int(x) over a list. -/
namespace TrH
open PySem PySem.Spec PyProof.Rows HotX
section
variable {prog : Program} {w : World} {A : Around} {E : Value → Shared → Prop} {s : Shared}
/-- the end of a list's iterator; the StopIteration is chained to what is handled -/
theorem listEndHot {it l x1 : Addr} {i : Nat} {items : Array Value} {Q : Option Value → Shared → Prop} (hot : HotAt A x1 s.heap) (hit : s.heap.IsListIter it l i)
    (hl : s.heap.IsList l items) (hx : items[i]? = none) (hQ : ∀ h', Heap.ExtBut it s.heap h' → Q none { s with heap := h' }) : wpAny (model prog w) A (pyNext (.ref it)) Q E s := by
  obtain ⟨o, ho, hc, hd⟩ := id hit
  obtain ⟨ol, hol, _, nl, hdl⟩ := hl
  obtain ⟨hh, o1, vs1, h1, d1, c1⟩ := hot
  have nx : x1 ≠ it := fun z => by
    rw [z, ho] at h1
    cases h1
    rw [hd] at d1
    cases d1
    cases c1
  unfold pyNext
  refine wpAny_bind (wpAny_attempt (wpAny_callSpecial?_slot (name := Str.ofString "__next__") hit.typeIs slot_listiter_next
    (wpAny_call_entry slot_listiter_next hit.typeIs entry_listiter_next ?_ (args_listiter_next _))))
  show wpAny _ _ (field (.ref it) 0 >>= _) _ _ s
  refine wpAny_bind (wpAny_field ho hd (x := .ref l) rfl ?_)
  show wpAny _ _ (if (Value.ref l == Value.none) = true then _ else _) _ _ s
  rw [if_neg (show ¬ ((Value.ref l == Value.none) = true) from Bool.false_ne_true)]
  show wpAny _ _ (field (.ref it) 1 >>= _) _ _ s
  refine wpAny_bind (wpAny_field ho hd (x := .int i 0) rfl ?_)
  show wpAny _ _ (seqItems? (.ref l) >>= _) _ _ s
  refine wpAny_bind (wpAny_seqItems hol hdl ?_)
  simp only [Int.toNat_natCast, hx]
  refine wpAny_bind (wpAny_rule (wpAny_bind (wpAny_setField ho hd (by simp) ?_)))
  show wpAny _ _ (newExc (.type "StopIteration") [] >>= _) _ _ _
  refine wpAny_bind ?_
  simp only [newExc, newTuple]
  refine wpAny_bind (wpAny_newObj_type ?_ (by size_fits))
  refine wpAny_bind (m := firstArgMember _ _) (wpAny_of_eq (a := Value.none) (by first | rfl | (simp only [firstArgMember]; rfl)) ?_)
  refine wpAny_newObj_type ?_ (by size_fits)
  have u1 : ∀ g, (s.heap.update it g).get? x1 = some o1 := fun g => by
    rw [Heap.get?_update_other _ _ (Ne.symm nx)]
    exact h1
  refine raiseNew_hot ⟨hh, o1, vs1, Heap.get?_push_of_some _ (Heap.get?_push_of_some _ (u1 _)), d1, c1⟩ (Nat.ne_of_lt (Heap.lt_size (Heap.get?_push_of_some _ (u1 _)))) (Heap.get?_push_size _ rfl) rfl (by first | (simp; done) | (simp; omega) | (simp only [Array.size_append]; simp; omega)) ?_
  refine wpAny_bind (wpAny_isInstance (T := "StopIteration") (b := true) ⟨_, Heap.get?_update_self _ (Heap.get?_push_size _ rfl) rfl, rfl⟩ isSubtype_stop ?_)
  refine wpAny_pure (hQ _ fun b o hb e => ?_)
  have e1 : (s.heap.update it (Obj.mapFields fun x => x.setIfInBounds 0 .none)).get? b = some o := by
    rw [Heap.get?_update_other _ _ (Ne.symm hb)]
    exact e
  rw [Heap.get?_update_other _ _ (Nat.ne_of_gt (Heap.lt_size (Heap.get?_push_of_some _ e1)))]
  exact Heap.get?_push_of_some _ (Heap.get?_push_of_some _ e1)
/-- the walk of a list there -/
theorem walksHot (I ax x1 : Addr) (hne : ax ≠ I) (nx : x1 ≠ I) (items : Array Value) (hh : A.handled = some (.ref x1)) :
    Walks prog w A I [I, ax, x1] [I] items.size (fun i v => items[i]? = some v) (fun i h => h.IsListIter I ax i ∧ h.IsList ax items ∧ HotAt A x1 h) where
  sub := fun b hb => by simp at hb; simp [hb]
  frame := fun i h h' st hk => ⟨st.1.at fun o e => hk I (by simp) o e, st.2.1.at fun o e => hk ax (by simp) o e, st.2.2.1, by
    obtain ⟨_, o, vs, e1, e2, e3⟩ := st.2.2
    exact ⟨o, vs, hk x1 (by simp) o e1, e2, e3⟩⟩
  item := fun i s Q E hi st hQ => by
    obtain ⟨st1, st2, hx, o, vs, e1, e2, e3⟩ := st
    refine wpAny_pyNext_list_item st1 st2 (x := items[i]) (by simp [hi]) fun h' hit' hs' => ?_
    exact hQ _ h' s.toks (by simp [hi]) ⟨hit', st2.extBut hs'.extBut hne, hx, o, vs, hs'.extBut x1 o nx e1, e2, e3⟩ fun b o hb e => hs'.extBut b o (fun h => hb (by simp [h])) e
  done := fun s Q E st hQ => listEndHot st.2.2 st.1 st.2.1 (by simp) fun h' he' => hQ h' s.toks fun b o hb e => he' b o (fun h => hb (by simp [h])) e
  self := fun _ _ _ _ st hQ => wpAny_pyIter_listiter st.1 hQ
end

theorem preSum_get (ns : List Int) : ∀ j, PySem.preSum (fun i => ns.getD i 0) j = (ns.take j).sum
  | 0 => by simp [PySem.preSum]
  | j + 1 => by
    rw [PySem.preSum, preSum_get ns j]
    by_cases h : j < ns.length
    · rw [List.take_succ_eq_append_getElem h, List.sum_append]
      simp [List.getD_eq_getElem?_getD, List.getElem?_eq_getElem h]
    · rw [List.take_of_length_le (by omega : ns.length ≤ j), List.take_of_length_le (by omega : ns.length ≤ j + 1)]
      simp [List.getD_eq_getElem?_getD, List.getElem?_eq_none (by omega : ns.length ≤ j)]
section
open L2 L2H
variable {X : Cx}
theorem hotNe {A : Around} {x1 : Addr} {h : Heap} (hot : HotAt A x1 h) : x1 < h.objs.size := by
  obtain ⟨_, o, _, e, _⟩ := hot
  exact Heap.lt_size e
theorem crSumH (hc : HotC X) : CallR X (.builtin "sum") (rSum X.K) := by
  intro pins s σ H vs us Q I r h
  obtain ⟨a, ns, rfl, hs, q⟩ := h
  obtain ⟨its, rv, hl, _⟩ := I.list hs
  rw [Vals.ref1 r]
  obtain ⟨x1, hot⟩ := hc.at I
  obtain ⟨hh, o1, vs1, e1, e2, e3⟩ := id hot
  have hl' := hl.isList
  have la : a < s.heap.objs.size := by
    obtain ⟨o, ho, _⟩ := hl'
    exact Heap.lt_size ho
  have lx := hotNe hot
  have len : ns.length = its.length := by have := rv.length; rwa [List.length_map] at this
  refine call_sum_walkG (wpAny_pyIter_list hl' ?_)
  refine ⟨s.heap.objs.size, _, _, its.toArray.size, _, _, fun i => ns.getD i 0, rfl, walksHot (A := X.A.in1) s.heap.objs.size a x1 (Nat.ne_of_lt la) (Nat.ne_of_lt lx) its.toArray hh,
    ⟨⟨_, Heap.get?_push_size _ rfl, rfl, rfl⟩, hl'.at fun o e => Heap.get?_push_of_some _ e, hh, o1, vs1, Heap.get?_push_of_some _ e1, e2, e3⟩, fun b hb => ?_, fun i v hv => ?_, fun h' tk t' hk => ?_⟩
  · have hb' : b = s.heap.objs.size ∨ b = a ∨ b = x1 := by simpa using hb
    show b < (s.heap.push _).objs.size
    rw [Heap.size_push]
    rcases hb' with z | z | z <;> rw [z] <;> first | exact Nat.lt_succ_self _ | exact Nat.lt_succ_of_lt la | exact Nat.lt_succ_of_lt lx
  · have hv' : its[i]? = some v := by simpa using hv
    have hi : i < ns.length := by
      have := (List.getElem?_eq_some_iff.mp hv').1
      omega
    obtain ⟨u, hu, ru⟩ := rv.get (i := i) (x := .int ns[i]) (by rw [List.getElem?_map, List.getElem?_eq_getElem hi]; rfl)
    rw [hv'] at hu
    cases hu
    obtain ⟨t, e⟩ := ru
    refine ⟨t, ?_⟩
    rw [e]
    simp [List.getD_eq_getElem?_getD, List.getElem?_eq_getElem hi]
  · rw [preSum_get, List.take_of_length_le (by simp; omega)]
    refine ⟨.int ns.sum, H, ?_, ⟨_, rfl⟩, q⟩
    refine I.kept (h' := h') (t' := tk) fun b o e => ?_
    refine hk b o (fun z => ?_) (Heap.get?_push_of_some _ e)
    have z' : b = s.heap.objs.size := by simpa using z
    exact Nat.lt_irrefl _ (z' ▸ Heap.lt_size e)
/-- a new object where nothing stood -/
theorem laidAt {pins : List (Addr × Obj)} {σ : L2.St} {H : Hp} {s : Shared} {h' : Heap} {a : Addr} {o : HO} {t' : Nat} (I : Inv X pins σ H s) (k : ∀ b u, s.heap.get? b = some u → h'.get? b = some u) (hp : s.heap.get? a = none) (new : ObjOk X.prog X.w (upd H a o) h' a o) :
    Inv X pins σ (upd H a o) { s with heap := h', toks := t' } := by
  have hn := I.hok.gone hp
  have ne : ∀ b u, s.heap.get? b = some u → b ≠ a := fun b u e z => by rw [z, hp] at e; cases e
  refine I.un ⟨fun b u q _ _ _ => k b u q, fun b u q _ _ _ => ⟨u.slots, k b u q⟩, fun b u q n _ => by rw [upd_ne (ne b u q)]; exact n, fun b u q _ => ⟨u, k b u q⟩, fun b xs q => by rw [upd_ne (ne_of_none q hn)]; exact q,
    fun b u xs q => by rw [upd_ne (ne_of_none q hn)]; exact q, fun b ps q => ⟨#[], by rw [upd_ne (ne_of_none q hn), q]; simp⟩⟩ fun b u e => ?_
  by_cases hb : b = a
  · subst hb
    rw [upd_same] at e
    cases e
    exact new
  · rw [upd_ne hb] at e
    exact (I.hok b u e).stay (fun c v _ q => k c v q) (fun c q => by rw [upd_ne (ne_of_none q hn)]; exact q) fun c xs q => by rw [upd_ne (ne_of_none q hn)]; exact q
/-- [int(x) for x in l], l a list of truth values -/
def tInts (K : PySem.W.Frag) (tl : TE) : TE := fun σ H Q => tl σ H fun v H1 => ∃ (a : Addr) (bs : List Bool), v = .ref a ∧ SqL K H1 a (bs.map V.bl) ∧ ∀ D, H1 D = none → Q (.ref D) (upd H1 D (.lst (bs.map fun b => V.int (if b then 1 else 0))))
structure IntsScope (scope : Scope) (x : Str) : Prop where
  kind : scope.kind = .function
  cell : ∀ y ∈ scope.names, y.2 ≠ .cell ∧ y.2 ≠ .free
  names : ∀ y ∈ scope.names, y.2 = .local → scope.names.lookup y.1 = some .local
  hx : scope.names.lookup x = some .local
  hi : scope.names.lookup ("int" : Str) = some .globalImplicit
theorem peIntsH (hc : HotC X) {x : Str} {px p1 p2 pc pos : Pos} {scope : Scope} {l : Expr} {tl : TE} (hl : PE X l tl) (S : IntsScope scope x) (hm : X.mg "int" = none) (hs : ∀ y, foldedSetIterable l X.env y = pure y := by intro _; rfl)
    (hd : (x == ("__debug__" : Str)) = false := by decide) : PE X (.ListComp (.Call (.Name "int" p1) [.Name x p2] [] pc) [⟨.Name x px, l, [], 0⟩] scope pos) (tInts X.K tl) := by
  refine ⟨fun pins s σ H Q I h => ?_⟩
  refine wpAny_ListComp_free (cl := cloFrom X.env.cells scope.names []) (fun _ => true) (fun v y => ∃ b t, v = .bool b ∧ y = .int (if b then 1 else 0) t) (closure_ok fun y hy e => absurd e (S.cell y hy).2) (fun y hy => (S.cell y hy).1) S.kind S.names S.hx
    (thn (hl.run pins s σ H _ I h) fun v s1 ⟨vv, H1, I1, r1, a, bs, e, hS, q⟩ => ?_) hs
  subst e
  cases r1
  obtain ⟨its, rv, hl1, hz⟩ := I1.list hS
  obtain ⟨x1, hot⟩ := hc.at I1
  obtain ⟨hh, o1, vs1, e1, e2, e3⟩ := id hot
  have hl' := hl1.isList
  have la : a < s1.heap.objs.size := by
    obtain ⟨o, ho, _⟩ := hl'
    exact Heap.lt_size ho
  have lx := hotNe hot
  have len : bs.length = its.length := by have := rv.length; rwa [List.length_map] at this
  rw [List.length_map] at hz
  have boolAt : ∀ (i : Nat) (v : Value), its[i]? = some v → ∃ b, bs[i]? = some b ∧ v = .bool b := fun i v hv => by
    have hi : i < bs.length := by
      have := (List.getElem?_eq_some_iff.mp hv).1
      omega
    obtain ⟨u, hu, ru⟩ := rv.get (i := i) (x := .bl bs[i]) (by rw [List.getElem?_map, List.getElem?_eq_getElem hi]; rfl)
    rw [hv] at hu
    cases hu
    exact ⟨bs[i], List.getElem?_eq_getElem hi, ru⟩
  refine wpAny_pyIter_list hl' ?_
  refine ⟨s1.heap.objs.size, _, _, its.toArray.size, _, _, rfl, walksHot (A := X.A) s1.heap.objs.size a x1 (Nat.ne_of_lt la) (Nat.ne_of_lt lx) its.toArray hh, by rw [List.size_toArray]; omega,
    ⟨⟨_, Heap.get?_push_size _ rfl, rfl, rfl⟩, hl'.at fun o e => Heap.get?_push_of_some _ e, hh, o1, vs1, Heap.get?_push_of_some _ e1, e2, e3⟩, fun b hb => ?_, ⟨?_, ?_⟩, ?_⟩
  · have hb' : b = s1.heap.objs.size ∨ b = a ∨ b = x1 := by simpa using hb
    show b < (s1.heap.push _).objs.size
    rw [Heap.size_push]
    rcases hb' with z | z | z <;> rw [z] <;> first | exact Nat.lt_succ_self _ | exact Nat.lt_succ_of_lt la | exact Nat.lt_succ_of_lt lx
  · intro C i v s₃ m₃ E' _ _ _ _ _ _
    exact wpAny_tests_nil ⟨rfl, s₃.heap, s₃.toks, rfl, fun _ _ e => e⟩
  · intro C i v s₃ m₃ E' hC hP _ hns hmx hk _
    obtain ⟨b, _, rfl⟩ := boolAt i v (by simpa using hP)
    obtain ⟨mb, n1, n2⟩ := I1.mod.blt
    have kp : ∀ c o, X.base.get? c = some o → s₃.heap.get? c = some o := fun c o e => by
      have e' := I1.bk c o e
      refine hk c o (fun z => ?_) (Heap.get?_push_of_some _ e')
      have z' : c = s1.heap.objs.size := by simpa using z
      exact Nat.lt_irrefl _ (z' ▸ Heap.lt_size e')
    have kd : (compEnvC scope (cloFrom X.env.cells scope.names []) C X.env).kindOf "int" = some .globalImplicit := lookup_relS_keep (sc := X.env.scope) (by decide) S.hi
    have kx : (compEnvC scope (cloFrom X.env.cells scope.names []) C X.env).kindOf x = some .local := lookup_relS_keep (sc := X.env.scope) (by decide) S.hx
    refine Call_ (Calls.Name_function_global S.kind kd (Calls.loadGlobal_builtin (mg := X.mg) (mb := mb) (v := .type "int") ?_ hm ?_ ((n2 "int" (by decide)).trans (by decide +kernel)) ?_))
    · show s₃.heap.Ns X.env.globals X.mg
      rw [I1.ok.glob]
      exact I1.mod.glob.keeps kp
    · show s₃.heap.Ns X.env.builtins mb
      rw [I1.ok.blt]
      exact n1.keeps kp
    · refine PyProof.Rows.callWith_type1 (Calls.spliced_cons (wpAny_Name (wpAny_loadName_local S.kind kx hns hmx (Calls.spliced_nil ?_)) hd)) rfl rfl
      exact call_int_bool ⟨⟨b, _, rfl, rfl⟩, _, _, rfl, fun _ _ e => e⟩
  · intro D h' tk ys vs hD hl2 hpl hlen hP hF hk
    have kp : ∀ b o, s1.heap.get? b = some o → h'.get? b = some o := fun b o e => by
      refine hk b o (fun z => ?_) (Heap.get?_push_of_some _ e)
      have z' : b = s1.heap.objs.size := by simpa using z
      exact Nat.lt_irrefl _ (z' ▸ Heap.lt_size e)
    have hDn : s1.heap.get? D = none := by
      cases q2 : s1.heap.get? D with
      | none => rfl
      | some o =>
        have z : (s1.heap.push { cls := .type "list_iterator", data := .fields #[.ref a, .int 0 0] }).get? D = none := hD
        rw [Heap.get?_push_of_some _ q2] at z
        cases z
    obtain ⟨n, hDo⟩ := hpl
    have I2 := laidAt (h' := h') (o := .lst (bs.map fun b => V.int (if b then 1 else 0))) (t' := tk) I1 kp hDn
    refine ⟨.ref D, _, I2 ⟨by rw [List.length_map]; exact hz, ys.toList, n, ?_, by rw [hDo]⟩, rfl, q D (I1.hok.gone hDn)⟩
    have flt : vs.filter (fun _ => true) = vs := List.filter_eq_self.mpr fun _ _ => rfl
    rw [flt] at hF
    have sizes : vs.length = bs.length := by rw [hlen, List.size_toArray, len]
    clear hs q kp
    have go : ∀ (vs : List Value) (zs : List Value) (bs : List Bool), Paired (fun v y => ∃ b t, v = Value.bool b ∧ y = Value.int (if b then 1 else 0) t) vs zs → vs.length = bs.length → (∀ (j : Nat) (v : Value), vs[j]? = some v → ∃ b, bs[j]? = some b ∧ v = .bool b) → Vals (bs.map fun b => V.int (if b then 1 else 0)) zs := by
      intro vs zs bs hF
      induction hF generalizing bs with
      | nil =>
        intro hl _
        cases bs with
        | nil => exact .nil
        | cons _ _ => cases hl
      | cons r _ ih =>
        intro hl hp
        cases bs with
        | nil => cases hl
        | cons b bs =>
          obtain ⟨b1, t, e1, e2⟩ := r
          obtain ⟨b2, e3, e4⟩ := hp 0 _ rfl
          cases e3
          rw [e1] at e4
          cases e4
          exact .cons ⟨t, e2⟩ (ih bs (by simpa using hl) fun j v hv => hp (j + 1) v (by simpa using hv))
    refine go vs ys.toList bs hF sizes fun j v hv => boolAt j v ?_
    have := hP j v hv
    simpa using this
end
end TrH
end
section
/-! A lambda handed to a def that calls it in a try and answers an own error by another def. -/
namespace TrL
open PySem PySem.Spec PyProof.Rows L2 LamX HotX L2H
/-! ### the lambda's body, exceptions by L2N -/
def lamC (X : Cx) (A : Around) (outer : List Env) (s : Shared) (H : Hp) (E : XK) (scope : Scope) (f c' : Addr) : Cx :=
  { lamCx X A outer s H E scope f c' with
    xe := fun e t => wpAny (model X.prog X.w) (A.deeper (lamEnv X scope s.heap.objs.size f c')) (leaving (lamEnv X scope s.heap.objs.size f c') e)
      (fun _ t' => L2N.CX X.prog X.w outer H s E e t') (fun e' t' => L2N.CX X.prog X.w outer H s E e' t') t }
section
variable {X : Cx} {pins : List (Addr × Obj)} {σ : L2.St} {H HZ : Hp} {s s1 : Shared}
/-- what leaves the lambda's body is what its caller wishes -/
theorem lamC_takes {A : Around} {outer : List Env} {E : XK} {scope : Scope} {f c' : Addr} : L2N.Takes (lamC X A outer s H E scope f c') (fun cls d _ H => E cls d H) := L2N.takes_of rfl rfl rfl rfl
theorem lamC_pass {A : Around} {outer : List Env} {E : XK} {scope : Scope} {f c' : Addr} : Passes (L2N.CX (lamC X A outer s H E scope f c').prog (lamC X A outer s H E scope f c').w) (lamC X A outer s H E scope f c') E := L2N.passes_call lamC_takes fun _ _ _ _ h => h
theorem actN {CXg : CXT} {Eg : XK} {Ng : List Str} {qg : Str} {sg : Scope} {g f c' : Addr} {cdg pm ctv : Value} {params : Arguments} {body : Expr} {scope : Scope} {k i : Nat} {a : Str} {pn : List (Addr × Obj)} {xe : Value → Shared → Prop} {W : WX} {E : XK} {tb : TE} {p1 p2 : Pos}
    (I : Inv X pins σ H s) (L : LamS X.env.scope scope) (hf : s.heap.get? f = some (PySem.W.kla_obj "<lambda>" (X.env.qual ++ "<lambda>") params body scope (cloFrom X.env.cells scope.names []) pm c' ctv)) (hfn : H f = none) (hfr : f ∉ frs X.stack)
    (hbind : bindArgs (PySem.W.kla_fn "<lambda>" (X.env.qual ++ "<lambda>") params body scope (cloFrom X.env.cells scope.names []) pm (.ref c') ctv) ⟨[], []⟩ = pure [])
    (tk : L2N.Takes ((cxOf CXg X.prog X.w X.K X.mg X.base Ng qg sg g cdg X.A X.stack s H Eg).tr pn xe) W) (hW : ∀ cls d σ' H', E cls d H' → W cls d σ' H')
    (hr : Room (k + 1) (X.A.deeper (envOfC qg sg s.heap.objs.size g cdg)))
    (hbody : ∀ (A : Around) (outer : List Env) (s : Shared) (H : Hp), Room k (A.deeper (lamEnv X scope s.heap.objs.size f c')) → PE (lamC X A outer s H E scope f c') body tb)
    (hN : Ng[i]? = some a) (hv : Vis sg a) (hd : (a == ("__debug__" : Str)) = false := by decide) (hcd : (a == ("__classdict__" : Str)) = false := by decide) :
    PE ((cxOf CXg X.prog X.w X.K X.mg X.base Ng qg sg g cdg X.A X.stack s H Eg).tr pn xe) (.Call (.Name a p1) [] [] p2)
      (fun σZ HZ Q => σZ[i]? = some (some (.ref f)) ∧ HZ c' = some (CodeO c' (X.env.qual ++ "<lambda>")) ∧ tb σ HZ Q) := by
  refine ⟨fun pZ sZ σZ HZ Q IZ ⟨hs, hc, ht⟩ => ?_⟩
  refine wpAny_Call_Name_kw (thn ((pe_var (pos := p1) (i := i) hN hv hd hcd).run pZ sZ σZ HZ (fun v H1 => v = .ref f ∧ H1 = HZ) IZ ⟨.ref f, hs, rfl, rfl⟩) fun u s1 ⟨v, H1, I1, r1, ev, eH⟩ => ?_)
  subst ev eH
  obtain rfl : u = Value.ref f := r1
  have of1 := I1.base.keep f _ hf hfn hfr (fun z => nomatch (show f ∈ ([] : List Addr) from z))
  refine PySem.W.callWith_F0 ⟨_, _, _, _, of1⟩ ?_
  have un : Un (frs X.stack) [] H H1 s.heap s1.heap := I1.base
  obtain ⟨⟨oc, vs, t, hoc, hdc, hvc⟩, _, _⟩ := I1.hok c' _ hc
  have rc : codeAny (model X.prog X.w) (X.A.deeper (envOfC qg sg s.heap.objs.size g cdg)) (.call (.ref f) ⟨[], []⟩) (CR (L2N.CX X.prog X.w) (envOfC qg sg s.heap.objs.size g cdg :: X.stack) X.prog X.w H1 s1 Q E) s1 := by
    refine PySem.W.kla_callFunE hr.depth of1 rfl L.co L.gen rfl ⟨c', oc, vs, t, rfl, hoc, hdc, hvc⟩ ?_
    rw [hbind]
    refine wpAny_pure (wpAny_newFunctionEnv (fun y hy => (L.own y hy).2) (fun y hy => absurd hy (by simp)) (fun h₁ hns hsb => ⟨I1.nolimit.fresh _ hsb, ?_⟩) L.kind)
    show codeAny _ _ (.expr body (lamEnv X scope s1.heap.objs.size f c')) _ _
    have kp : ∀ b o, s1.heap.get? b = some o → h₁.get? b = some o := fun b o e => hsb.extBut b o (Nat.ne_of_lt (Heap.lt_size e)) (Heap.get?_push_of_some _ e)
    have J0 := lam_start2 (E := E) (f := f) (c' := c') (tk := s1.toks + ([] : List (Str × Value)).length) I L I1.env0 hr.hd un hns kp
    have J : Inv (lamC X (X.A.deeper (envOfC qg sg s.heap.objs.size g cdg)) (envOfC qg sg s.heap.objs.size g cdg :: X.stack) s1 H1 E scope f c') [] σ H1 { s1 with heap := h₁, toks := s1.toks + ([] : List (Str × Value)).length } := J0.toTry _
    refine PySem.W.kla_codeExpr (wpAny_mono ((hbody _ _ s1 H1 (hr.deeper _)).run [] _ _ H1 Q J ht) (fun v t' hq => ?_) fun e t' hq => hq)
    obtain ⟨w', H', J', rv, q⟩ := hq
    exact ⟨w', H', J'.os, J'.bare, J'.base, J'.hok, rv, q⟩
  refine wpAny_call (codeAny_mono rc fun r t' hq => ?_)
  cases r with
  | error e => exact L2N.passes_call tk hW pZ σZ H1 s1 e t' I1 hq
  | ok fl =>
    cases fl with
    | ret u => exact I1.after hq
    | next => exact False.elim hq
    | brk => exact False.elim hq
    | cont => exact False.elim hq
end
/-- what the def that gets the lambda makes of its reading -/
def Gives (X : Cx) (Ng : List Str) (x : Str) (sg : Scope) (g : Addr) (cdg : Value) (bg : List Stmt) (a q : Str) (k : Nat) (TT : (XK → Hp → VK → Prop) → Hp → VK → Prop) : Prop :=
  ∀ (f c' : Addr) (s : Shared) (H : Hp) (Q : VK) (tl : XK → Hp → VK → Prop), Room (k + 1) (X.A.deeper (envOfC x sg s.heap.objs.size g cdg)) →
    (∀ (W : WX) (pn : List (Addr × Obj)) (xe : Value → Shared → Prop) (E : XK) (p1 p2 : Pos), L2N.Takes ((cxOf C8.CX0 X.prog X.w X.K X.mg X.base Ng x sg g cdg X.A X.stack s H C8.E0).tr pn xe) W → (∀ cls d σ' H', E cls d H' → W cls d σ' H') →
      PE ((cxOf C8.CX0 X.prog X.w X.K X.mg X.base Ng x sg g cdg X.A X.stack s H C8.E0).tr pn xe) (.Call (.Name a p1) [] [] p2) (fun σZ HZ Q => σZ[0]? = some (some (.ref f)) ∧ HZ c' = some (CodeO c' q) ∧ tl E HZ Q)) →
    H c' = some (CodeO c' q) → TT tl H Q →
    ∃ t, PSs (cxOf C8.CX0 X.prog X.w X.K X.mg X.base Ng x sg g cdg X.A X.stack s H C8.E0).nox bg t ∧ t { nx := fun _ H' => Q .non H', rt := Q } (L2.start Ng [.ref f]) H
section
variable {X : Cx}
/-- x(lambda: body) -/
theorem lamcallN {T : List (Addr × Str)} {TT : (XK → Hp → VK → Prop) → Hp → VK → Prop} {x a : Str} {g c P : Addr} {k : Nat} {pg : Arguments} {bg : List Stmt} {sg : Scope} {dV kV doc pm cdv ct oc : Value} {an od : Option Addr} {osl : Array (Option Value)} {Ng : List Str}
    {params : Arguments} {body : Expr} {scope : Scope} {t : XK → TE} {p lpos pos : Pos} (hg : Gl X x) (hm : X.mg x = some (.ref g)) (hk : PySem.W.keepIn X.K (.ref g) = true)
    (lk : X.K.lookup g = some ⟨oc, od, .func (PySem.W.fnOf x x pg bg sg dV kV doc pm an cdv ct), osl⟩) (hcg : PySem.W.codeIn X.K cdv x = true) (hb : L2.Binds X.K (PySem.W.fnOf x x pg bg sg dV kV doc pm an cdv ct) [a] [])
    (Sg : FnScope Ng [a] sg) (hNg : Ng[0]? = some a) (hva : Vis sg a) (hG : Gives X Ng x sg g cdv bg a (X.env.qual ++ "<lambda>") k TT)
    (TB : TabB X.base X.mg c P) (hcode : X.env.code = .ref c) (hmT : (P, X.env.qual ++ "<lambda>") ∈ T) (hu : ∀ p ∈ T, p.1 = P → p.2 = X.env.qual ++ "<lambda>") (hr : Room (k + 2) X.A) (L : LamS X.env.scope scope) (hdef : defaultsOf params X.env = ([], []))
    (hbind : ∀ (q : Str) (cl : List (Str × Addr)) (pm cv ctv : Value), bindArgs (PySem.W.kla_fn "<lambda>" q params body scope cl pm cv ctv) ⟨[], []⟩ = pure [])
    (hbody : ∀ (A : Around) (outer : List Env) (s : Shared) (H : Hp) (E : XK) (f c' : Addr), Room k (A.deeper (lamEnv X scope s.heap.objs.size f c')) → PE (lamC X A outer s H E scope f c') body (t E))
    (hdb : (x == ("__debug__" : Str)) = false := by decide) (hd : (a == ("__debug__" : Str)) = false := by decide) (hcd : (a == ("__classdict__" : Str)) = false := by decide) :
    PE X (.Call (.Name x p) [.Lambda params body scope lpos] [] pos) (tLam T TT t) := by
  refine ⟨fun pins s σ H Q I ⟨hT, h⟩ => ?_⟩
  refine wpAny_Call_Name_kw (ld_glob I hg hm ?_ hdb)
  refine PySem.W.callWith_K (h₀ := X.base) I.ok.mod.kin hk ?_ (by rfl) (by rfl)
  show wpAny _ _ (spliced ((false, eval (.Lambda params body scope lpos) X.env) :: backTo pos (starEach [] X.env))) _ _ s
  refine Calls.spliced_cons (lam_make2 I TB hcode hmT hu hT hdef (L.has I.ok) fun f c' pm' ctv H1 t1 I1 eN T1 hf hfn hfr hco => ?_)
  refine Calls.spliced_nil ⟨I1.kIn, ?_⟩
  have rc : codeAny (model X.prog X.w) X.A (.call (.ref g) ⟨[.ref f], []⟩) (CR C8.CX0 X.stack X.prog X.w H1 t1 Q C8.E0) t1 := by
    refine run_ofS (N := Ng) (ps := [a]) (us := [.ref f]) (vs := [.ref f]) lk hcg Sg hr I1.env0 (hb t1 [.ref f] I1.kIn rfl) (.cons rfl .nil) rfl fun hr' => ?_
    obtain ⟨t', ht', hq'⟩ := hG f c' t1 H1 Q (fun E H' Q' => t E σ H' Q') hr' (fun W pn xe E p1 p2 tk hW => actN (i := 0) I1 L hf hfn hfr (hbind _ _ _ _ _) tk hW hr' (fun A outer s H hr2 => hbody A outer s H E f c' hr2) hNg hva hd hcd) hco (h H1 eN T1)
    exact ⟨t', ht'.nox, hq'⟩
  refine wpAny_call (codeAny_mono rc fun r t2 hq => ?_)
  cases r with
  | error e => exact (show False from hq).elim
  | ok fl =>
    cases fl with
    | ret u => exact I1.after hq
    | next => exact False.elim hq
    | brk => exact False.elim hq
    | cont => exact False.elim hq
end
/-! ### isinstance of a pinned exception -/
theorem callIsP {X : Cx} {a D : Addr} {oe : Obj} (hp : (a, oe) ∈ X.pn) (C : ExcC X.K D) (hz : Zc (.ref D) none oe) (hf : ∃ vs, oe.data = .fields vs) : CallR X (.builtin "isinstance") (rIsE X.K D a) := by
  rintro pins s σ H xs us Q I r ⟨c, cv, b, rfl, hcv, e, q⟩
  cases r with
  | cons rx rr =>
    cases rr with
    | cons rt rr =>
      cases rr
      cases rx
      obtain rfl := hcv _ rt
      obtain ⟨hget, _⟩ := I.pin (a, oe) (List.mem_append_left _ hp)
      obtain ⟨vs, hv⟩ := hf
      have J : PySem.W.InstAt s.heap a oe D none := by
        obtain ⟨oc, od, oda, osl⟩ := oe
        obtain ⟨h1, h2⟩ := hz
        dsimp only at h1 h2 hv
        subst h1 h2 hv
        exact ⟨hget, rfl, rfl, trivial⟩
      exact PySem.W.kia_one (PySem.W.handS_kitx_exc C.hg C.hk C.hs C.hd C.ha C.hn C.ht C.hm) I.kIn J e (fun z => nomatch z) fun tk => ⟨.bl b, H, I.kept (t' := tk) fun _ _ z => z, rfl, q⟩
/-! ### a def called with the exception that is handled -/
structure WordOk (P : Program) (w : World) (K : PySem.W.Frag) (mg : Str → Option Value) (base : Heap) (k : Nat) (f : Addr) (fd : FuncData) (ps : List Str) (sp : Addr × Obj → Hp → VK → Prop) : Prop where
  one : ps.length = 1
  run : ∀ (A : Around) (outer : List Env) (s : Shared) (H : Hp) (args : Args) (p : Addr × Obj) (Q : VK), RoomH k A → Hot1 A p → PinOk outer H s p → Env0 P w K mg base A outer s H → BindsTo s fd args (ps.zip [.ref p.1]) → sp p H Q →
    codeAny (model P w) A (.call (.ref f) args) (CR C8.CX0 outer P w H s Q C8.E0) s
theorem wordOk {P : Program} {w : World} {K : PySem.W.Frag} {mg : Str → Option Value} {base : Heap} {k : Nat} {f : Addr} {name qual : Str} {params : Arguments} {body : List Stmt} {scope : Scope} {dV kV doc pm cdv ct oc : Value} {an od : Option Addr} {osl : Array (Option Value)} {N : List Str} {x : Str}
    {sp : Addr × Obj → Hp → VK → Prop} (lk : K.lookup f = some ⟨oc, od, .func (PySem.W.fnOf name qual params body scope dV kV doc pm an cdv ct), osl⟩) (hcd : PySem.W.codeIn K cdv qual = true) (S : FnScope N [x] scope)
    (hbody : ∀ (A : Around) (outer : List Env) (s : Shared) (H : Hp) (Q : VK) (p : Addr × Obj), Hot1 A p → RoomH k (A.deeper (envOfC qual scope s.heap.objs.size f cdv)) → sp p H Q →
      ∃ t, PSs (cxH C8.CX0 P w K mg base N qual scope f cdv A outer s H C8.E0 p) body t ∧ t { nx := fun _ H' => Q .non H', rt := Q } (L2.start N [.ref p.1]) H) :
    WordOk P w K mg base (k + 1) f (PySem.W.fnOf name qual params body scope dV kV doc pm an cdv ct) [x] sp := by
  refine ⟨rfl, fun A outer s H args p Q hr hot hpin e0 hb hsp => ?_⟩
  have KX : K.In s.heap := e0.mod.kin.keeps fun b o e => (e0.bs b o e).1
  have lim : s.heap.NoLimit := e0.mod.nolimit.keeps fun b o e => (e0.bs b o e).1
  have hkind : ∀ y ∈ ([x] : List Str).zip [Value.ref p.1], scope.names.lookup y.1 = some .local ∨ (scope.names.lookup y.1 = some .cell ∧ ((cellsFrom (s.heap.objs.size + 1) scope.names []).lookup y.1).isSome = true) := fun ⟨n, v⟩ hy =>
    (S.par n (List.of_mem_zip hy).1).imp id fun q => ⟨q, PySem.W.cellsFrom_some _ _ _ (.inl q)⟩
  refine codeAny_call_function hr.depth (KX _ _ lk) rfl S.co S.gen rfl (PySem.W.codeRec_of KX hcd) (hb _ _ _ _ ?_)
  refine wpAny_newFunctionEnv_cells S.kind hkind fun env he s1 xx => ?_
  subst he
  refine ⟨lim.keeps xx.toInCall.keep, codeAny_func ?_⟩
  obtain ⟨t, ht, hq⟩ := hbody A outer s H Q p hot (hr.deeper _) hsp
  have I := inv_startH (CX := C8.CX0) (E := C8.E0) (vs := [.ref p.1]) S hpin e0 rfl (.cons rfl .nil) xx
  refine wpAny_mono (ht.run [] s1 _ H _ I hq) (fun fl t' hs => ?_) fun e t' hs => hs
  cases fl with
  | ret u =>
    obtain ⟨v, σ', H', J, rv, q⟩ := hs
    exact ⟨v, H', J.os, J.bare, J.base, J.hok, rv, q⟩
  | next =>
    obtain ⟨σ', H', J, q⟩ := hs
    exact ⟨.non, H', J.os, J.bare, J.base, J.hok, rfl, q⟩
  | brk =>
    obtain ⟨_, _, _, q⟩ := hs
    exact q.elim
  | cont =>
    obtain ⟨_, _, _, q⟩ := hs
    exact q.elim
section
variable {X : Cx}
/-- f(e), e a name that holds the exception of the suite -/
theorem peWord {k i : Nat} {f : Addr} {fd : FuncData} {ps : List Str} {sp : Addr × Obj → Hp → VK → Prop} {x n : Str} {p0 : Addr × Obj} {q1 q2 pos : Pos} (F : WordOk X.prog X.w X.K X.mg X.base k f fd ps sp) (hr : RoomH k X.A) (hot : Hot1 X.A p0) (hp : p0 ∈ X.pn) (hg : Gl X x) (hm : X.mg x = some (.ref f))
    (hk : PySem.W.keepIn X.K (.ref f) = true) (hb : L2.Binds X.K fd ps []) (hn : PE X (.Name n q2) (tVar i)) (hdb : (x == ("__debug__" : Str)) = false := by decide) :
    PE X (.Call (.Name x q1) [.Name n q2] [] pos) (fun σ H Q => σ[i]? = some (some (.ref p0.1)) ∧ sp p0 H Q) := by
  refine ⟨fun pins s σ H Q I ⟨h1, h2⟩ => ?_⟩
  refine wpAny_Call_Name_kw (ld_glob I hg hm ?_ hdb)
  have ha : PA X [.Name n q2] (tCons (tVar i) tNil) := pa_cons hn pa_nil
  refine PySem.W.callWith_K (h₀ := X.base) I.ok.mod.kin hk (thn (ha.run pos pins s σ H (fun vs H1 => vs = [V.ref p0.1] ∧ H = H1) I ⟨.ref p0.1, h1, rfl, rfl⟩) fun us s1 ⟨vs, H1, I1, r, ev, eH⟩ => ?_)
  subst ev eH
  refine ⟨I1.kIn, ?_⟩
  obtain rfl := Vals.ref1 r
  have b := hb s1 [.ref p0.1] I1.kIn (by rw [F.one]; rfl)
  rw [List.append_nil] at b
  have P1 := I1.pin p0 (List.mem_append_left _ hp)
  have hpin : PinOk X.stack H s1 p0 := ⟨P1.1, P1.2.1, fun hm => (List.mem_cons.mp (I1.stkSub p0.1 hm)).elim P1.2.2.1 P1.2.2.2.1, P1.2.2.2.2⟩
  refine wpAny_call (codeAny_mono (F.run X.A X.stack s1 H ⟨[.ref p0.1], []⟩ p0 Q hr hot hpin I1.env0 b h2) fun r t' hq => ?_)
  cases r with
  | error e => exact (show False from hq).elim
  | ok fl =>
    cases fl with
    | ret u => exact I1.after hq
    | next => exact False.elim hq
    | brk => exact False.elim hq
    | cont => exact False.elim hq
end
end TrL
end
section
/-! What every law of tryroad uses: defs by name, comprehensions that only add, things handed in. -/
namespace Tr
open PySem PySem.Spec PyProof.Rows L2
abbrev NX (P : Program) (w : World) : CXT := L2N.CX P w
/-! ### a def by its name -/
structure Kal (P : Program) (w : World) (K : PySem.W.Frag) (mg : Str → Option Value) (base : Heap) (CX : CXT) (k : Nat) (x : Str) (sp : Sp) : Prop where
  ex : ∃ (f : Addr) (fd : FuncData) (ps : List Str), FnOk P w K mg base CX k f fd ps sp ∧ mg x = some (.ref f) ∧ PySem.W.keepIn K (.ref f) = true ∧ Binds K fd ps []
structure Mal (P : Program) (w : World) (K : PySem.W.Frag) (mg : Str → Option Value) (base : Heap) (CX : CXT) (k : Nat) (C : Addr) (m : Str) (sp : Sp) : Prop where
  ex : ∃ (f : Addr) (fd : FuncData) (ps : List Str), FnOk P w K mg base CX k f fd ps sp ∧ Cls K C ∧ Meth K C m f ∧ Binds K fd ps []
structure Nal (P : Program) (w : World) (K : PySem.W.Frag) (mg : Str → Option Value) (base : Heap) (CX : CXT) (k : Nat) (x : Str) (C : Addr) (sp : Sp) : Prop where
  ex : ∃ (f : Addr) (fd : FuncData) (ps : List Str), FnOk P w K mg base CX k f fd ps sp ∧ Mk K C f ∧ mg x = some (.ref C) ∧ Binds K fd ps []
def tK (sp : Sp) (E : XK) (t : TA) : TE := fun σ H Q => t σ H fun vs H1 => sp vs H1 Q E
def tM (C : Addr) (m : Str) (sp : Sp) (E : XK) (ta : TE) (t : TA) : TE := fun σ H Q => ta σ H fun x H1 => ∃ a dx fs, x = .ref a ∧ H1 a = some (.ins C dx fs) ∧ fs.lookup m = none ∧ t σ H1 fun vs H2 => sp (x :: vs) H2 Q E
def tN (C : Addr) (sp : Sp) (E : XK) (t : TA) : TE := fun σ H Q => t σ H fun vs H1 => ∀ x dx, H1 x = none → H1 dx = none → dx ≠ x →
  sp (.ref x :: vs) (upd (upd H1 dx (.own x)) x (.ins C dx [])) (fun v H2 => v = .non ∧ Q (.ref x) H2) E
section
variable {X : Cx} {CX : CXT} {k j : Nat} {x m : Str} {C : Addr} {sp : Sp} {E : XK} {t : TA} {ta : TE} {e o : Expr} {es : List Expr} {p pos apos : Pos}
theorem pe_imp {t u : TE} (h : PE X e t) (i : ∀ σ H Q, u σ H Q → t σ H Q) : PE X e u := ⟨fun pins s σ H Q I q => h.run pins s σ H Q I (i σ H Q q)⟩
theorem pa_imp {t u : TA} (h : PA X es t) (i : ∀ σ H Q, u σ H Q → t σ H Q) : PA X es u := ⟨fun pos pins s σ H Q I q => h.run pos pins s σ H Q I (i σ H Q q)⟩
theorem pe_k (c : Kal X.prog X.w X.K X.mg X.base CX k x sp) (hr : Room j X.A) (hk : k ≤ j) (hx : Passes CX X E) (ha : PA X (e :: es) t) (hg : Gl X x := by rfl) (hdb : (x == ("__debug__" : Str)) = false := by decide)
    (he : starEach (e :: es) X.env = (false, eval e X.env) :: starEach es X.env := by rfl) (hpl : (backTo pos (starEach es X.env)).any (·.1) = false := by rfl) :
    PE X (.Call (.Name x p) (e :: es) [] pos) (tK sp E t) := by
  obtain ⟨f, fd, ps, F, hm, hkp, hb⟩ := c.ex
  refine pe_imp (pe_call F (hr.mono hk) hg hm hkp hb .nil hx ha hdb he hpl) fun σ H Q q => ?_
  show t σ H fun vs H1 => sp (vs ++ []) H1 Q E
  simp only [List.append_nil]
  exact q
theorem pe_k0 (c : Kal X.prog X.w X.K X.mg X.base CX k x sp) (hr : Room j X.A) (hk : k ≤ j) (hx : Passes CX X E) (hg : Gl X x := by rfl) (hdb : (x == ("__debug__" : Str)) = false := by decide) :
    PE X (.Call (.Name x p) [] [] pos) (tK sp E tNil) := by
  obtain ⟨f, fd, ps, F, hm, hkp, hb⟩ := c.ex
  exact pe_imp (pe_call0 F (hr.mono hk) hg hm hkp hb .nil hx hdb) fun σ H Q q => q
theorem pe_m (c : Mal X.prog X.w X.K X.mg X.base CX k C m sp) (hr : Room j X.A) (hk : k ≤ j) (hx : Passes CX X E) (ho : PE X o ta) (ha : PA X (e :: es) t) {pl : Sem Bool}
    (hst : starEach (e :: es) X.env = (false, eval e X.env) :: starEach es X.env := by rfl) (hpl : (backTo pos (starEach es X.env)).any (·.1) = false := by rfl)
    (ht : eval (.Call (.Attribute o m apos) (e :: es) [] pos) X.env = (do
      let ov ← eval o X.env
      standAt apos.atName
      let (f, first) ← holding [ov] (getMethod ov m pl)
      callWith pos f first (backTo pos (starEach (e :: es) X.env)) (backToKw pos (keywordEach [] X.env))) := by rfl) :
    PE X (.Call (.Attribute o m apos) (e :: es) [] pos) (tM C m sp E ta t) := by
  obtain ⟨f, fd, ps, F, cl, hm, hb⟩ := c.ex
  refine pe_imp (pe_meth (pl := pl) ho cl hm F (hr.mono hk) hb .nil hx ha hst hpl ht) fun σ H Q q => ?_
  show ta σ H fun x H1 => ∃ a dx fs, x = .ref a ∧ H1 a = some (.ins C dx fs) ∧ fs.lookup m = none ∧ t σ H1 fun vs H2 => sp (x :: (vs ++ [])) H2 Q E
  simp only [List.append_nil]
  exact q
theorem pe_m0 (c : Mal X.prog X.w X.K X.mg X.base CX k C m sp) (hr : Room j X.A) (hk : k ≤ j) (hx : Passes CX X E) (ho : PE X o ta) {pl : Sem Bool}
    (ht : eval (.Call (.Attribute o m apos) [] [] pos) X.env = (do
      let ov ← eval o X.env
      standAt apos.atName
      let (f, first) ← holding [ov] (getMethod ov m pl)
      callWith pos f first (backTo pos (starEach [] X.env)) (backToKw pos (keywordEach [] X.env))) := by rfl) :
    PE X (.Call (.Attribute o m apos) [] [] pos) (tM C m sp E ta tNil) := by
  obtain ⟨f, fd, ps, F, cl, hm, hb⟩ := c.ex
  exact pe_imp (pe_meth0 (pl := pl) ho cl hm F (hr.mono hk) hb .nil hx ht) fun σ H Q q => q
theorem pe_n (c : Nal X.prog X.w X.K X.mg X.base CX k x C sp) (hr : Room j X.A) (hk : k + 1 ≤ j) (hx : Passes CX X E) (ha : PA X (e :: es) t) (hg : Gl X x := by rfl) (hdb : (x == ("__debug__" : Str)) = false := by decide)
    (he : starEach (e :: es) X.env = (false, eval e X.env) :: starEach es X.env := by rfl) (hpl : (backTo pos (starEach es X.env)).any (·.1) = false := by rfl) :
    PE X (.Call (.Name x p) (e :: es) [] pos) (tN C sp E t) := by
  obtain ⟨f, fd, ps, F, M, hm, hb⟩ := c.ex
  refine pe_imp (pe_make M F (hr.mono hk) hg hm hb .nil hx ha hdb he hpl) fun σ H Q q => ?_
  show t σ H fun vs H1 => ∀ x dx, H1 x = none → H1 dx = none → dx ≠ x → sp (.ref x :: (vs ++ [])) (upd (upd H1 dx (.own x)) x (.ins C dx [])) (fun v H2 => v = .non ∧ Q (.ref x) H2) E
  simp only [List.append_nil]
  exact q
theorem pe_n0 (c : Nal X.prog X.w X.K X.mg X.base CX k x C sp) (hr : Room j X.A) (hk : k + 1 ≤ j) (hx : Passes CX X E) (hg : Gl X x := by rfl) (hdb : (x == ("__debug__" : Str)) = false := by decide) :
    PE X (.Call (.Name x p) [] [] pos) (tN C sp E tNil) := by
  obtain ⟨f, fd, ps, F, M, hm, hb⟩ := c.ex
  exact pe_imp (pe_make0 M F (hr.mono hk) hg hm hb .nil hx hdb) fun σ H Q q => q
end
theorem Kal.mono {P : Program} {w : World} {K : PySem.W.Frag} {mg : Str → Option Value} {base : Heap} {CX : CXT} {j k : Nat} {x : Str} {sp : Sp} (c : Kal P w K mg base CX j x sp) (h : j ≤ k) : Kal P w K mg base CX k x sp := by
  obtain ⟨f, fd, ps, F, r⟩ := c.ex
  exact ⟨f, fd, ps, F.mono h, r⟩
/-! ### heaps that only grow -/
theorem same_new {H : Hp} {p : Addr} {o : HO} (h : H p = none) : Same H (upd H p o) := fun a u e => by
  rw [upd_ne (ne_of_none e h)]
  exact e
theorem same_mut {H H' : Hp} {p : Addr} {o : HO} (e : Same H H') (h : H p = none) : Same H (upd H' p o) := fun a u ha => by
  rw [upd_ne (ne_of_none ha h)]
  exact e a u ha
theorem same_t {K : PySem.W.Frag} {H H' : Hp} {a : Addr} {xs : List V} (e : Same H H') (h : SqT K H a xs) : SqT K H' a xs := by
  rcases h with (h | ⟨o, h⟩) | h
  · exact .inl (.inl (e _ _ h))
  · exact .inl (.inr ⟨o, e _ _ h⟩)
  · exact .inr h
theorem sqL {K : PySem.W.Frag} {H : Hp} {a : Addr} {xs : List V} (h : H a = some (.lst xs)) : SqL K H a xs := .inl (.inl h)
theorem sqT {K : PySem.W.Frag} {H : Hp} {a : Addr} {xs : List V} (h : H a = some (.tup xs)) : SqT K H a xs := .inl (.inl h)
theorem sz {n : Nat} (h : n ≤ 100000) : n ≤ sizeLine := Nat.le_trans h (by decide)
theorem sz1 {n : Nat} (h : n < 100000) : n < sizeLine := Nat.lt_of_lt_of_le h (by decide)
mutual
theorem same_dp {K : PySem.W.Frag} {H H' : Hp} (e : Same H H') : ∀ {v : V} {d : PyData}, Dp K H v d → Dp K H' v d
  | _, _, .non => .non
  | _, _, .bl b => .bl b
  | _, _, .int i => .int i
  | _, _, .str x => .str x
  | _, _, .lst h a => .lst (e.seq h) (same_dps e a)
  | _, _, .tup h a => .tup (same_t e h) (same_dps e a)
theorem same_dps {K : PySem.W.Frag} {H H' : Hp} (e : Same H H') : ∀ {vs : List V} {ds : List PyData}, DpAll K H vs ds → DpAll K H' vs ds
  | _, _, .nil => .nil
  | _, _, .cons h a => .cons (same_dp e h) (same_dps e a)
end
/-! ### a comprehension that only adds: acc by a word P of the turn and the items so far -/
theorem lc_adds {J : It} {n : Nat} {G : Hp → Prop} {Y : Nat → Hp → V → Hp → Prop} (w : Walk J n G Y) {g : TG} {tt : TT} {te : TE} {vs : List Nat} {σ : L2.St} {H1 : Hp} {D : Addr} {Qd : Hp → Prop} (P : Nat → List V → Prop)
    (hD : H1 D = none) (hn : n ≤ 90000) (h0 : P 0 []) (hl : ∀ i acc, P i acc → acc.length ≤ i) (hG : ∀ H, Same H1 H → G H)
    (hs : ∀ (T : VK) (N : Hp → Prop) i acc x H H', (∀ y H4, Same H H4 → P (i + 1) (acc ++ [y]) → T y H4) → (∀ H3, Same H H3 → P (i + 1) acc → N H3) → i < n → Same H1 H → P i acc → Y i H x H' →
      g x (wipe σ vs) H' fun σ2 H2 => wipe σ2 vs = wipe σ vs ∧ tt σ2 H2 fun b H3 => if b = true then te σ2 H3 T else N H3)
    (hd : ∀ acc H, Same H1 H → H D = some (.lst acc) → P n acc → Qd H) :
    ∃ W : Nat → Nat → Hp → Prop, (∃ m, W 0 m (upd H1 D (.lst []))) ∧ ∀ i m H, W i m H →
      (J.stop i H ∧ Qd H) ∨ (J.go i H ∧ ∃ Nx : Hp → Prop, (∀ H', Nx H' → ∃ m', m' < m ∧ W (i + 1) m' H') ∧ ∀ x H', J.yld i H x H' → g x (wipe σ vs) H' fun σ2 H2 => wipe σ2 vs = wipe σ vs ∧ tt σ2 H2 fun b H3 =>
        if b = true then te σ2 H3 fun y H4 => ∃ acc, H4 D = some (.lst acc) ∧ acc.length < sizeLine ∧ Nx (upd H4 D (.lst (acc ++ [y]))) else Nx H3) := by
  refine lc_it w (fun i H => ∃ acc, Same H1 H ∧ H D = some (.lst acc) ∧ P i acc) ⟨[], same_new hD, upd_same, h0⟩ (fun i H _ ⟨_, s, _⟩ => hG H s) ?_ fun H ⟨acc, s, h, p⟩ => hd acc H s h p
  rintro i x H H' hi ⟨acc, s, hDa, p⟩ y
  exact hs _ _ i acc x H H' (fun v H4 s4 p4 => ⟨acc, s4 _ _ hDa, sz1 (by have := hl i acc p; omega), acc ++ [v], same_mut (s.trans s4) hD, upd_same, p4⟩) (fun H3 s3 p3 => ⟨acc, s.trans s3, s3 _ _ hDa, p3⟩) hi s p y
/-! ### things that are handed in -/
/-- flat things, tuples, lists -/
inductive Thing (K : PySem.W.Frag) (H : Hp) : V → Prop
  | non : Thing K H .non
  | bl (b : Bool) : Thing K H (.bl b)
  | int (i : Int) : Thing K H (.int i)
  | str (x : Str) : Thing K H (.str x)
  | lst {a : Addr} {xs : List V} (e : H a = some (.lst xs)) : Thing K H (.ref a)
  | tup {a : Addr} {xs : List V} (e : H a = some (.tup xs)) : Thing K H (.ref a)
theorem Thing.same {K : PySem.W.Frag} {H H' : Hp} {v : V} (h : Thing K H v) (e : Same H H') : Thing K H' v := by
  cases h with
  | non => exact .non
  | bl b => exact .bl b
  | int i => exact .int i
  | str x => exact .str x
  | lst q => exact .lst (e _ _ q)
  | tup q => exact .tup (e _ _ q)
/-- isinstance of a thing, by the class's name -/
inductive IsOf (K : PySem.W.Frag) (H : Hp) (v : V) : String → Bool → Prop
  | mk {n c : String} {b : Bool} (t : TyX K H v (.type n)) (e : PySem.W.kitOne K (.type n) (.type c) = some b) : IsOf K H v c b
/-! ### the classes of refusals, as the top has written them -/
def excCB (K : PySem.W.Frag) (D : Addr) : Bool := He.eqO (PySem.W.findIn K (.ref D) "__getattribute__") (some (some (.builtin "BaseException.__getattribute__"))) && (He.eqO (PySem.W.findIn K (.ref D) "__getattr__") (some none) &&
  (decide (PySem.W.subIn K (.ref D) (.type "BaseException") = some true) && (PySem.W.hasDictIn K D && (He.eqO (PySem.W.findIn K (.ref D) "__class__") (some (some (.builtin "object.__class__"))) &&
  (He.eqO (PySem.W.specialIn K (.builtin "object.__class__") "__get__") (some (some (.builtin "getset_descriptor.__get__"))) && (decide (PySem.W.takesIn K (.builtin "object.__class__") = some true) && decide (PySem.W.mroIn K D (.type "object") = some true)))))))
theorem excC_of {K : PySem.W.Frag} {D : Addr} (h : excCB K D = true) : ExcC K D := by
  obtain ⟨h1, h⟩ := He.ba h
  obtain ⟨h2, h⟩ := He.ba h
  obtain ⟨h3, h⟩ := He.ba h
  obtain ⟨h4, h⟩ := He.ba h
  obtain ⟨h5, h⟩ := He.ba h
  obtain ⟨h6, h⟩ := He.ba h
  obtain ⟨h7, h8⟩ := He.ba h
  exact ⟨He.eqO_ok h1, He.eqO_ok h2, of_decide_eq_true h3, h4, He.eqO_ok h5, He.eqO_ok h6, of_decide_eq_true h7, of_decide_eq_true h8⟩
def wordB (K : PySem.W.Frag) (cs : List Str) : Bool := cs.all fun d => excCB K (He.ga K d) && (decide (PySem.W.exmOne K (.ref (He.ga K d)) (.ref (He.ga K "TryError")) = some true) && (decide (PySem.W.kitOne K (.ref (He.ga K d)) (.type "ValueError") = some true) &&
  cs.all fun c => decide (PySem.W.kitOne K (.ref (He.ga K d)) (.ref (He.ga K c)) = some (decide (d = c)))))
structure Word (K : PySem.W.Frag) (cs : List Str) (d : Str) : Prop where
  exc : ExcC K (He.ga K d)
  exm : PySem.W.exmOne K (.ref (He.ga K d)) (.ref (He.ga K "TryError")) = some true
  val : PySem.W.kitOne K (.ref (He.ga K d)) (.type "ValueError") = some true
  kit : ∀ c ∈ cs, PySem.W.kitOne K (.ref (He.ga K d)) (.ref (He.ga K c)) = some (decide (d = c))
theorem word_of {K : PySem.W.Frag} {cs : List Str} (h : wordB K cs = true) {d : Str} (hd : d ∈ cs) : Word K cs d := by
  obtain ⟨h1, h⟩ := He.ba (List.all_eq_true.mp h d hd)
  obtain ⟨h2, h⟩ := He.ba h
  obtain ⟨h3, h4⟩ := He.ba h
  exact ⟨excC_of h1, of_decide_eq_true h2, of_decide_eq_true h3, fun c hc => of_decide_eq_true (List.all_eq_true.mp h4 c hc)⟩
/-! ### tuples that the top has written -/
def itemA (K : PySem.W.Frag) (x : Str) (i : Nat) : Addr := match K.lookup (He.ga K x) with
  | some ⟨_, _, .seq its _, _⟩ => (match its.toList[i]? with
    | some (.ref a) => a
    | _ => 0)
  | _ => 0
def tupAt (K : PySem.W.Frag) (a : Addr) (vs : List V) : Bool := match K.lookup a with
  | some ⟨.type c, _, .seq its _, _⟩ => decide (c = "tuple") && (decide (its.size ≤ sizeLine) && He.relAll vs its.toList)
  | _ => false
theorem tupAt_ok {K : PySem.W.Frag} {a : Addr} {vs : List V} (h : tupAt K a vs = true) (H : Hp) : SqT K H a vs := by
  unfold tupAt at h
  cases q : K.lookup a with
  | none =>
    rw [q] at h
    cases h
  | some o =>
    obtain ⟨oc, od, dt, osl⟩ := o
    rw [q] at h
    cases oc with
    | type c =>
      cases dt with
      | seq its n =>
        obtain ⟨h1, h2⟩ := He.ba (show (decide (c = "tuple") && (decide (its.size ≤ sizeLine) && He.relAll vs its.toList)) = true from h)
        obtain ⟨h3, h4⟩ := He.ba h2
        exact .inr ⟨_, its, n, q, congrArg Value.type (of_decide_eq_true h1), rfl, of_decide_eq_true h3, He.relAll_ok h4⟩
      | _ => cases h
    | _ => cases dt <;> cases h
/-! ### a def as the head tells it -/
theorem kal_of {P : Program} {w : World} {K : PySem.W.Frag} {mg : Str → Option Value} {base : Heap} {CX : CXT} {N ps : List Str} {k : Nat} {x : Str} {st : Stmt} {f : Addr} {sp : Sp} (F : ∃ fd, FunD K x x (defArgs st) (defBody st) (defScope st) [] [] f fd) (hm : mg x = some (.ref f)) (S : FnScope N ps (defScope st))
    (hb : ∀ (kV doc pm : Value) (an : Option Addr) (cdv ct : Value) (us : List Value), us.length = ps.length → bindArgs (PySem.W.fnOf x x (defArgs st) (defBody st) (defScope st) .none kV doc pm an cdv ct) ⟨us, []⟩ = pure (ps.zip us))
    (len : ∀ vs H Q E, sp vs H Q E → vs.length = ps.length)
    (hbody : ∀ (cdv : Value) (A : Around) (outer : List Env) (s : Shared) (H : Hp) (vs : List V) (Q : VK) (E : XK), Room k (A.deeper (envOfC x (defScope st) s.heap.objs.size f cdv)) → sp vs H Q E →
      ∃ t, PSs (cxOf CX P w K mg base N x (defScope st) f cdv A outer s H E) (defBody st) t ∧ t { nx := fun _ H' => Q .non H', rt := Q } (L2.start N vs) H) : Kal P w K mg base CX (k + 1) x sp := by
  obtain ⟨fd, F⟩ := F
  exact ⟨f, fd, ps, F.ok S len hbody, hm, F.kp, F.bindsN hb⟩
theorem mal_of {P : Program} {w : World} {K : PySem.W.Frag} {mg : Str → Option Value} {base : Heap} {CX : CXT} {N ps : List Str} {k : Nat} {m q : Str} {st : Stmt} {C f : Addr} {sp : Sp} (F : ∃ fd, FunD K m q (defArgs st) (defBody st) (defScope st) [] [] f fd) (c : Cls K C) (hm : Meth K C m f) (S : FnScope N ps (defScope st))
    (hb : ∀ (kV doc pm : Value) (an : Option Addr) (cdv ct : Value) (us : List Value), us.length = ps.length → bindArgs (PySem.W.fnOf m q (defArgs st) (defBody st) (defScope st) .none kV doc pm an cdv ct) ⟨us, []⟩ = pure (ps.zip us))
    (len : ∀ vs H Q E, sp vs H Q E → vs.length = ps.length)
    (hbody : ∀ (cdv : Value) (A : Around) (outer : List Env) (s : Shared) (H : Hp) (vs : List V) (Q : VK) (E : XK), Room k (A.deeper (envOfC q (defScope st) s.heap.objs.size f cdv)) → sp vs H Q E →
      ∃ t, PSs (cxOf CX P w K mg base N q (defScope st) f cdv A outer s H E) (defBody st) t ∧ t { nx := fun _ H' => Q .non H', rt := Q } (L2.start N vs) H) : Mal P w K mg base CX (k + 1) C m sp := by
  obtain ⟨fd, F⟩ := F
  exact ⟨f, fd, ps, F.ok S len hbody, c, hm, F.bindsN hb⟩
theorem nal_of {P : Program} {w : World} {K : PySem.W.Frag} {mg : Str → Option Value} {base : Heap} {CX : CXT} {N ps : List Str} {k : Nat} {x q : Str} {st : Stmt} {C f : Addr} {sp : Sp} (F : ∃ fd, FunD K "__init__" q (defArgs st) (defBody st) (defScope st) [] [] f fd) (M : Mk K C f) (hm : mg x = some (.ref C)) (S : FnScope N ps (defScope st))
    (hb : ∀ (kV doc pm : Value) (an : Option Addr) (cdv ct : Value) (us : List Value), us.length = ps.length → bindArgs (PySem.W.fnOf "__init__" q (defArgs st) (defBody st) (defScope st) .none kV doc pm an cdv ct) ⟨us, []⟩ = pure (ps.zip us))
    (len : ∀ vs H Q E, sp vs H Q E → vs.length = ps.length)
    (hbody : ∀ (cdv : Value) (A : Around) (outer : List Env) (s : Shared) (H : Hp) (vs : List V) (Q : VK) (E : XK), Room k (A.deeper (envOfC q (defScope st) s.heap.objs.size f cdv)) → sp vs H Q E →
      ∃ t, PSs (cxOf CX P w K mg base N q (defScope st) f cdv A outer s H E) (defBody st) t ∧ t { nx := fun _ H' => Q .non H', rt := Q } (L2.start N vs) H) : Nal P w K mg base CX (k + 1) x C sp := by
  obtain ⟨fd, F⟩ := F
  exact ⟨f, fd, ps, F.ok S len hbody, M, hm, F.bindsN hb⟩
/-! ### built-ins by their names -/
section
variable {X : Cx} {t : TA} {e : Expr} {es : List Expr} {p pos : Pos}
theorem b_isi (hm : X.mg "isinstance" = none) (ha : PA X (e :: es) t) (hg : Gl X "isinstance" := by rfl)
    (he : starEach (e :: es) X.env = (false, eval e X.env) :: starEach es X.env := by rfl) (hpl : (backTo pos (starEach es X.env)).any (·.1) = false := by rfl) : PE X (.Call (.Name "isinstance" p) (e :: es) [] pos) (tCB (rIsi X.K) t) :=
  pe_callB call_isi hg hm (by decide +kernel) ha (he := he) (hpl := hpl)
theorem b_len (hm : X.mg "len" = none) (ha : PA X (e :: es) t) (hg : Gl X "len" := by rfl)
    (he : starEach (e :: es) X.env = (false, eval e X.env) :: starEach es X.env := by rfl) (hpl : (backTo pos (starEach es X.env)).any (·.1) = false := by rfl) : PE X (.Call (.Name "len" p) (e :: es) [] pos) (tCB (fun xs H Q => ∃ x n, xs = [x] ∧ LenV X.K x H n ∧ Q (.int n) H) t) :=
  pe_callB call_len hg hm (by decide +kernel) ha (he := he) (hpl := hpl)
theorem b_all (hc : X.calm = true) (hm : X.mg "all" = none) (ha : PA X (e :: es) t) (hg : Gl X "all" := by rfl)
    (he : starEach (e :: es) X.env = (false, eval e X.env) :: starEach es X.env := by rfl) (hpl : (backTo pos (starEach es X.env)).any (·.1) = false := by rfl) : PE X (.Call (.Name "all" p) (e :: es) [] pos) (tCB (rAll X.K) t) :=
  pe_callB (cr_all hc) hg hm (by decide +kernel) ha (he := he) (hpl := hpl)
theorem b_sum (hc : X.calm = true) (hm : X.mg "sum" = none) (ha : PA X (e :: es) t) (hg : Gl X "sum" := by rfl)
    (he : starEach (e :: es) X.env = (false, eval e X.env) :: starEach es X.env := by rfl) (hpl : (backTo pos (starEach es X.env)).any (·.1) = false := by rfl) : PE X (.Call (.Name "sum" p) (e :: es) [] pos) (tCB (rSum X.K) t) :=
  pe_callB (cr_sum hc) hg hm (by decide +kernel) ha (he := he) (hpl := hpl)
theorem b_min2 (hc : X.calm = true) (hm : X.mg "min" = none) (ha : PA X (e :: es) t) (hg : Gl X "min" := by rfl)
    (he : starEach (e :: es) X.env = (false, eval e X.env) :: starEach es X.env := by rfl) (hpl : (backTo pos (starEach es X.env)).any (·.1) = false := by rfl) : PE X (.Call (.Name "min" p) (e :: es) [] pos) (tCB (fun xs H Q => ∃ i j, xs = [.int i, .int j] ∧ Q (.int (if j < i then j else i)) H) t) :=
  pe_callB (call_min2 hc) hg hm (by decide +kernel) ha (he := he) (hpl := hpl)
theorem b_max2 (hc : X.calm = true) (hm : X.mg "max" = none) (ha : PA X (e :: es) t) (hg : Gl X "max" := by rfl)
    (he : starEach (e :: es) X.env = (false, eval e X.env) :: starEach es X.env := by rfl) (hpl : (backTo pos (starEach es X.env)).any (·.1) = false := by rfl) : PE X (.Call (.Name "max" p) (e :: es) [] pos) (tCB (fun xs H Q => ∃ i j, xs = [.int i, .int j] ∧ Q (.int (if j > i then j else i)) H) t) :=
  pe_callB (call_max2 hc) hg hm (by decide +kernel) ha (he := he) (hpl := hpl)
theorem b_int (hm : X.mg "int" = none) (ha : PA X (e :: es) t) (hg : Gl X "int" := by rfl)
    (he : starEach (e :: es) X.env = (false, eval e X.env) :: starEach es X.env := by rfl) (hpl : (backTo pos (starEach es X.env)).any (·.1) = false := by rfl) : PE X (.Call (.Name "int" p) (e :: es) [] pos) (tCB (fun xs H Q => (∃ i, xs = [.int i] ∧ Q (.int i) H) ∨ ∃ k, xs = [.bl k] ∧ Q (.int (if k then 1 else 0)) H) t) :=
  pe_callTy call_int1 hg hm (by decide +kernel) ha (he := he) (hpl := hpl)
theorem b_str (hm : X.mg "str" = none) (ha : PA X (e :: es) t) (hg : Gl X "str" := by rfl)
    (he : starEach (e :: es) X.env = (false, eval e X.env) :: starEach es X.env := by rfl) (hpl : (backTo pos (starEach es X.env)).any (·.1) = false := by rfl) : PE X (.Call (.Name "str" p) (e :: es) [] pos) (tCB (fun xs H Q => ∃ i, xs = [.int i] ∧ i.natAbs.log2 < 1920 ∧ Q (.str (toString i)) H) t) :=
  pe_callTy call_str_int hg hm (by decide +kernel) ha (he := he) (hpl := hpl)
theorem b_list (hm : X.mg "list" = none) (ha : PA X (e :: es) t) (hg : Gl X "list" := by rfl)
    (he : starEach (e :: es) X.env = (false, eval e X.env) :: starEach es X.env := by rfl) (hpl : (backTo pos (starEach es X.env)).any (·.1) = false := by rfl) : PE X (.Call (.Name "list" p) (e :: es) [] pos) (tCB (fun xs H Q => ∃ p ys, xs = [.ref p] ∧ (SqL X.K H p ys ∨ SqT X.K H p ys) ∧ ∀ l, H l = none → Q (.ref l) (upd H l (.lst ys))) t) :=
  pe_callTy call_list_of hg hm (by decide +kernel) ha (he := he) (hpl := hpl)
theorem b_tuple (hm : X.mg "tuple" = none) (ha : PA X (e :: es) t) (hg : Gl X "tuple" := by rfl)
    (he : starEach (e :: es) X.env = (false, eval e X.env) :: starEach es X.env := by rfl) (hpl : (backTo pos (starEach es X.env)).any (·.1) = false := by rfl) : PE X (.Call (.Name "tuple" p) (e :: es) [] pos) (tCB (fun xs H Q => ∃ p ys, xs = [.ref p] ∧ ((SqL X.K H p ys ∧ ∀ l, H l = none → Q (.ref l) (upd H l (.tup ys))) ∨ (SqT X.K H p ys ∧ Q (.ref p) H))) t) :=
  pe_callTy call_tuple_of hg hm (by decide +kernel) ha (he := he) (hpl := hpl)
theorem b_sortedI (hm : X.mg "sorted" = none) (ha : PA X (e :: es) t) (hg : Gl X "sorted" := by rfl)
    (he : starEach (e :: es) X.env = (false, eval e X.env) :: starEach es X.env := by rfl) (hpl : (backTo pos (starEach es X.env)).any (·.1) = false := by rfl) : PE X (.Call (.Name "sorted" p) (e :: es) [] pos) (tCB (rSortedI X.K) t) :=
  pe_callB cr_sortedI hg hm (by decide +kernel) ha (he := he) (hpl := hpl)
end
/-! ### data: no dict, not deep -/
def Sh (n : Nat) (d : PyData) : Prop := d.canLay0 = true ∧ d.depth ≤ n
theorem sh_all {n : Nat} : ∀ {ds : List PyData}, (∀ d ∈ ds, Sh n d) → PyData.canLayAll0 ds = true ∧ PyData.depthAll ds ≤ n
  | [], _ => ⟨rfl, Nat.zero_le _⟩
  | d :: ds, h => by
    have h1 := h d List.mem_cons_self
    have h2 := sh_all (ds := ds) fun x hx => h x (List.mem_cons_of_mem _ hx)
    refine ⟨?_, ?_⟩
    · show (d.canLay0 && PyData.canLayAll0 ds) = true
      rw [h1.1, h2.1]
      rfl
    · show max d.depth (PyData.depthAll ds) ≤ n
      exact Nat.max_le.mpr ⟨h1.2, h2.2⟩
theorem sh_lst {n : Nat} {ds : List PyData} (h : ∀ d ∈ ds, Sh n d) : Sh (n + 1) (.list ds) := ⟨(sh_all h).1, Nat.succ_le_succ (sh_all h).2⟩
theorem sh_tup {n : Nat} {ds : List PyData} (h : ∀ d ∈ ds, Sh n d) : Sh (n + 1) (.tuple ds) := ⟨(sh_all h).1, Nat.succ_le_succ (sh_all h).2⟩
theorem sh_non : Sh 0 .none := ⟨rfl, Nat.le_refl _⟩
theorem sh_int (i : Int) : Sh 0 (.int i) := ⟨rfl, Nat.le_refl _⟩
theorem sh_bl (b : Bool) : Sh 0 (.bool b) := ⟨rfl, Nat.le_refl _⟩
theorem Sh.mono {n m : Nat} {d : PyData} (h : Sh n d) (l : n ≤ m) : Sh m d := ⟨h.1, Nat.le_trans h.2 l⟩
theorem Sh.shaped {n : Nat} {d : PyData} (h : Sh n d) (l : n ≤ 64 := by decide) : SeqAt.shaped d = true := by
  unfold SeqAt.shaped
  rw [h.1, decide_eq_true (Nat.le_trans h.2 l)]
  rfl
theorem Sh.self {n : Nat} {d : PyData} (h : Sh n d) : PyData.eqv d d = true := SeqAt.eqv_refl d h.1
theorem dp_ints {K : PySem.W.Frag} {H : Hp} : ∀ ns : List Int, DpAll K H (ns.map V.int) (ns.map PyData.int)
  | [] => .nil
  | n :: ns => .cons (.int n) (dp_ints ns)
theorem sh_ints (ns : List Int) : Sh 1 (.list (ns.map PyData.int)) := sh_lst fun d hd => by
  obtain ⟨i, _, rfl⟩ := List.mem_map.mp hd
  exact sh_int i
theorem eqv_nil (ns : List Int) : PyData.eqv (.list (ns.map PyData.int)) (.list []) = ns.isEmpty := by
  cases ns with
  | nil => rfl
  | cons _ _ => rfl
theorem eqv_ints : ∀ ns ms : List Int, PyData.eqv (.list (ns.map PyData.int)) (.list (ms.map PyData.int)) = decide (ns = ms)
  | [], [] => rfl
  | [], _ :: _ => rfl
  | _ :: _, [] => rfl
  | n :: ns, m :: ms => by
    have ih := eqv_ints ns ms
    have ih2 : PyData.eqvAll (ns.map PyData.int) (ms.map PyData.int) = decide (ns = ms) := by rw [← ih, PyData.eqv]
    show PyData.eqv (.list (PyData.int n :: ns.map PyData.int)) (.list (PyData.int m :: ms.map PyData.int)) = _
    rw [PyData.eqv, PyData.eqvAll, ih2, PyData.eqv]
    by_cases h1 : n = m <;> by_cases h2 : ns = ms <;> simp [h1, h2]
/-- a test that is decided: both ways -/
theorem itd {c A B : Prop} [Decidable c] (h1 : c → A) (h2 : ¬ c → B) : if decide c = true then A else B := by
  by_cases h : c
  · rw [decide_eq_true h]
    exact h1 h
  · rw [decide_eq_false h]
    exact h2 h
theorem itb {b : Bool} {A B : Prop} (h1 : b = true → A) (h2 : b = false → B) : if b = true then A else B := by
  cases b with
  | true => exact h1 rfl
  | false => exact h2 rfl
theorem itnd {c A B : Prop} [Decidable c] (h1 : ¬ c → A) (h2 : c → B) : if (!decide c) = true then A else B := by
  by_cases h : c
  · rw [decide_eq_true h]
    exact h2 h
  · rw [decide_eq_false h]
    exact h1 h
/-! ### readings opened one by one -/
theorem r_seq {t u : TS} {D : Ends} {σ : L2.St} {H : Hp} (h : t { D with nx := u D } σ H) : tSeq t u D σ H := h
theorem r_asg {te : TE} {g : TG} {D : Ends} {σ : L2.St} {H : Hp} (h : te σ H fun x H1 => g x σ H1 D.nx) : tAsg te g D σ H := h
theorem r_lst {t : TA} {σ : L2.St} {H : Hp} {Q : VK} (h : t σ H fun xs H1 => xs.length ≤ sizeLine ∧ ∀ p, H1 p = none → Q (.ref p) (upd H1 p (.lst xs))) : tLst t σ H Q := h
/-! ### tuples cut and joined, what stands there told -/
theorem rd_cat {K : PySem.W.Frag} {H : Hp} {a b : Addr} {xs ys : List V} {Q : VK} (ha : H a = some (.tup xs)) (hb : H b = some (.tup ys)) (hz : xs.length + ys.length ≤ 100000)
    (h : ∀ (t : Addr) (H' : Hp), Same H H' → H' t = some (.tup (xs ++ ys)) → Q (.ref t) H') : rCatA K (.ref a) (.ref b) H Q := by
  refine ⟨a, b, xs, ys, rfl, rfl, sqT ha, sqT hb, sz hz, fun e => ?_, fun _ e => ?_, fun _ _ p hp => h p _ (same_new hp) upd_same⟩
  · subst e
    exact h b H (Same.refl H) hb
  · subst e
    exact h a H (Same.refl H) (by rw [List.append_nil]; exact ha)
theorem rd_cut {K : PySem.W.Frag} {H : Hp} {a : Addr} {xs : List V} {lo hi : Option Int} {Q : VK} (ha : H a = some (.tup xs))
    (h : ∀ (t : Addr) (H' : Hp), Same H H' → H' t = some (.tup (cutV xs lo hi)) → Q (.ref t) H') : rSlA K (.ref a) lo hi H Q := by
  refine ⟨a, xs, rfl, sqT ha, fun ⟨e1, e2⟩ => ?_, fun _ p hp => h p _ (same_new hp) upd_same⟩
  refine h a H (Same.refl H) ?_
  have e : cutV xs lo hi = xs := by
    unfold cutV
    rw [e1, e2]
    simp
  rw [e]
  exact ha
theorem cut_to {xs : List V} {j : Nat} (h : j ≤ xs.length) : cutV xs none (some (j : Int)) = xs.take j := by
  unfold cutV
  rw [HT.sIx_none, HT.sIx_nat, Nat.min_eq_left h]
  simp
theorem cut_from {xs : List V} {j : Nat} (h : j ≤ xs.length) : cutV xs (some (j : Int)) none = xs.drop j := by
  unfold cutV
  rw [HT.sIx_none, HT.sIx_nat, Nat.min_eq_left h]
  rw [List.take_of_length_le (by rw [List.length_drop]; omega)]
/-! ### what grows but for the tables -/
theorem ext_of {H H' : Hp} (s : Same H H') : LamX.ExtN H H' := fun b o e _ => s b o e
theorem ext_l {K : PySem.W.Frag} {H H' : Hp} {a : Addr} {xs : List V} (e : LamX.ExtN H H') (h : SqL K H a xs) : SqL K H' a xs := by
  rcases h with (h | ⟨o, h⟩) | h
  · exact .inl (.inl (e _ _ h (fun _ z => by cases z)))
  · exact .inl (.inr ⟨o, e _ _ h (fun _ z => by cases z)⟩)
  · exact .inr h
theorem ext_t {K : PySem.W.Frag} {H H' : Hp} {a : Addr} {xs : List V} (e : LamX.ExtN H H') (h : SqT K H a xs) : SqT K H' a xs := by
  rcases h with (h | ⟨o, h⟩) | h
  · exact .inl (.inl (e _ _ h (fun _ z => by cases z)))
  · exact .inl (.inr ⟨o, e _ _ h (fun _ z => by cases z)⟩)
  · exact .inr h
theorem ext_tup {H H' : Hp} {a : Addr} {xs : List V} (e : LamX.ExtN H H') (h : H a = some (.tup xs)) : H' a = some (.tup xs) := e _ _ h (fun _ z => by cases z)
theorem ext_lst {H H' : Hp} {a : Addr} {xs : List V} (e : LamX.ExtN H H') (h : H a = some (.lst xs)) : H' a = some (.lst xs) := e _ _ h (fun _ z => by cases z)
theorem ext_mut {H H' : Hp} {p : Addr} {o : HO} (e : LamX.ExtN H H') (h : H p = none) : LamX.ExtN H (upd H' p o) := fun a u ha hn => by
  rw [upd_ne (ne_of_none ha h)]
  exact e a u ha hn
mutual
theorem ext_dp {K : PySem.W.Frag} {H H' : Hp} (e : LamX.ExtN H H') : ∀ {v : V} {d : PyData}, Dp K H v d → Dp K H' v d
  | _, _, .non => .non
  | _, _, .bl b => .bl b
  | _, _, .int i => .int i
  | _, _, .str x => .str x
  | _, _, .lst h a => .lst (ext_l e h) (ext_dps e a)
  | _, _, .tup h a => .tup (ext_t e h) (ext_dps e a)
theorem ext_dps {K : PySem.W.Frag} {H H' : Hp} (e : LamX.ExtN H H') : ∀ {vs : List V} {ds : List PyData}, DpAll K H vs ds → DpAll K H' vs ds
  | _, _, .nil => .nil
  | _, _, .cons h a => .cons (ext_dp e h) (ext_dps e a)
end
theorem Thing.ext {K : PySem.W.Frag} {H H' : Hp} {v : V} (h : Thing K H v) (e : LamX.ExtN H H') : Thing K H' v := by
  cases h with
  | non => exact .non
  | bl b => exact .bl b
  | int i => exact .int i
  | str x => exact .str x
  | lst q => exact .lst (ext_lst e q)
  | tup q => exact .tup (ext_tup e q)
/-- ("refused", n) as data -/
def rfD (n : Str) : PyData := .tuple [.str "refused", .str n]
theorem dp_rf {K : PySem.W.Frag} {H : Hp} {t : Addr} {n : Str} (h : H t = some (.tup [.str "refused", .str n])) : Dp K H (.ref t) (rfD n) := .tup (sqT h) (.cons (.str _) (.cons (.str _) .nil))
end Tr
end
section
namespace Tr
open PySem PySem.Spec PyProof.Rows L2 LamX
/-! ### what grows while lambdas are made: tables may be written, all else stays -/
structure Fw (Tb : List (Addr × Str)) (H H' : Hp) : Prop where
  e : ExtN H H'
  t : Tabs Tb H'
theorem Fw.ext {Tb : List (Addr × Str)} {H H1 H2 : Hp} (a : Fw Tb H H1) (e : ExtN H1 H2) (t : Tabs Tb H2) : Fw Tb H H2 := ⟨a.e.trans e, t⟩
theorem Fw.trans {Tb : List (Addr × Str)} {H H1 H2 : Hp} (a : Fw Tb H H1) (b : Fw Tb H1 H2) : Fw Tb H H2 := ⟨a.e.trans b.e, b.t⟩
theorem Fw.same {Tb : List (Addr × Str)} {H H1 H2 : Hp} (a : Fw Tb H H1) (s : Same H1 H2) : Fw Tb H H2 := ⟨a.e.trans (ext_of s), a.t.ext s⟩
theorem tabs_mut {Tb : List (Addr × Str)} {H : Hp} {D : Addr} {xs ys : List V} (h : Tabs Tb H) (hD : H D = some (.lst xs)) : Tabs Tb (upd H D (.lst ys)) := by
  have ne : ∀ b o, H b = some o → o ≠ .lst xs → b ≠ D := fun b o hb no z => by
    rw [z, hD] at hb
    exact no (Option.some.inj hb).symm
  rintro p hp
  obtain ⟨ps, h1, h2, h3⟩ := h p hp
  refine ⟨ps, by rw [upd_ne (ne _ _ h1 (fun z => by cases z))]; exact h1, h2, fun pos cv hc => ?_⟩
  obtain ⟨c, e1, e2⟩ := h3 pos cv hc
  exact ⟨c, e1, by rw [upd_ne (ne _ _ e2 (fun z => by cases z))]; exact e2⟩
/-- nothing stands at D but maybe a table -/
def NT (H : Hp) (D : Addr) : Prop := ∀ o, H D = some o → ∃ ps, o = .tbl ps
theorem nt_of {H : Hp} {D : Addr} (h : H D = none) : NT H D := fun o e => by
  rw [h] at e
  cases e
theorem Fw.nt {Tb : List (Addr × Str)} {H H1 : Hp} {D : Addr} (a : Fw Tb H H1) (h : H1 D = none) : NT H D := fun o e => by
  by_cases z : ∃ ps, o = .tbl ps
  · exact z
  · have q := a.e _ _ e fun ps w => z ⟨ps, w⟩
    rw [h] at q
    cases q
theorem Fw.mut {Tb : List (Addr × Str)} {H H1 : Hp} {D : Addr} {xs ys : List V} (a : Fw Tb H H1) (hn : NT H D) (hD : H1 D = some (.lst xs)) : Fw Tb H (upd H1 D (.lst ys)) := by
  refine ⟨fun b o hb no => ?_, tabs_mut a.t hD⟩
  rw [upd_ne fun z => ?_]
  · exact a.e _ _ hb no
  · rw [z] at hb
    obtain ⟨ps, e⟩ := hn o hb
    exact no ps e
/-- a thing stays one while a list is written -/
theorem Thing.mut {K : PySem.W.Frag} {H : Hp} {v : V} {D : Addr} {xs ys : List V} (h : Thing K H v) (hD : H D = some (.lst xs)) : Thing K (upd H D (.lst ys)) v := by
  cases h with
  | non => exact .non
  | bl b => exact .bl b
  | int i => exact .int i
  | str x => exact .str x
  | @lst a zs q =>
    by_cases z : a = D
    · rw [z]
      exact .lst upd_same
    · exact .lst (by rw [upd_ne z]; exact q)
  | @tup a zs q => exact .tup (by rw [upd_ne fun z => by rw [z, hD] at q; cases q]; exact q)
theorem Fw.new {Tb : List (Addr × Str)} {H H1 : Hp} {D : Addr} {o : HO} (a : Fw Tb H H1) (hn : H1 D = none) : Fw Tb H (upd H1 D o) := a.same (same_new hn)
theorem Fw.refl {Tb : List (Addr × Str)} {H : Hp} (t : Tabs Tb H) : Fw Tb H H := ⟨ExtN.refl H, t⟩
/-- a comprehension that only adds, lambdas made on the way: acc by a word P of the turn and the items so far -/
theorem lcn_adds {Tb : List (Addr × Str)} {J : It} {n : Nat} {G : Hp → Prop} {Y : Nat → Hp → V → Hp → Prop} (w : Walk J n G Y) {g : TG} {tt : TT} {te : TE} {vs : List Nat} {σ : L2.St} {H1 : Hp} {D : Addr} {Qd : Hp → Prop} (P : Nat → List V → Prop)
    (hD : H1 D = none) (ht : Tabs Tb H1) (hn : n ≤ 90000) (h0 : P 0 []) (hl : ∀ i acc, P i acc → acc.length ≤ i) (hG : ∀ H, Fw Tb H1 H → G H)
    (hs : ∀ (T : VK) (N : Hp → Prop) i acc x H H', (∀ y H4, Fw Tb H H4 → P (i + 1) (acc ++ [y]) → T y H4) → (∀ H3, Fw Tb H H3 → P (i + 1) acc → N H3) → i < n → Fw Tb H1 H → P i acc → Y i H x H' →
      g x (wipe σ vs) H' fun σ2 H2 => wipe σ2 vs = wipe σ vs ∧ tt σ2 H2 fun b H3 => if b = true then te σ2 H3 T else N H3)
    (hd : ∀ acc H, Fw Tb H1 H → H D = some (.lst acc) → P n acc → Qd H) :
    ∃ W : Nat → Nat → Hp → Prop, (∃ m, W 0 m (upd H1 D (.lst []))) ∧ ∀ i m H, W i m H →
      (J.stop i H ∧ Qd H) ∨ (J.go i H ∧ ∃ Nx : Hp → Prop, (∀ H', Nx H' → ∃ m', m' < m ∧ W (i + 1) m' H') ∧ ∀ x H', J.yld i H x H' → g x (wipe σ vs) H' fun σ2 H2 => wipe σ2 vs = wipe σ vs ∧ tt σ2 H2 fun b H3 =>
        if b = true then te σ2 H3 fun y H4 => ∃ acc, H4 D = some (.lst acc) ∧ acc.length < sizeLine ∧ Nx (upd H4 D (.lst (acc ++ [y]))) else Nx H3) := by
  refine lc_it w (fun i H => ∃ acc, Fw Tb H1 H ∧ H D = some (.lst acc) ∧ P i acc) ⟨[], (Fw.refl ht).new hD, upd_same, h0⟩ (fun i H _ ⟨_, s, _⟩ => hG H s) ?_ fun H ⟨acc, s, h, p⟩ => hd acc H s h p
  rintro i x H H' hi ⟨acc, s, hDa, p⟩ y
  exact hs _ _ i acc x H H' (fun v H4 s4 p4 => ⟨acc, ext_lst s4.e hDa, sz1 (by have := hl i acc p; omega), acc ++ [v], (s.trans s4).mut (nt_of hD) (ext_lst s4.e hDa), upd_same, p4⟩) (fun H3 s3 p3 => ⟨acc, s.trans s3, ext_lst s3.e hDa, p3⟩) hi s p y
/-- both ways of a test lead on to one place (revert the heap and what is known of it first) -/
theorem both {c : Bool} {A R Pre : Hp → Prop} (good : Hp → Prop) (h2 : ∀ H, Pre H → good H) (h1 : ∀ H, Pre H → c = true → (∀ H', good H' → R H') → A H) (h : ∀ H', good H' → R H') : ∀ H, Pre H → if c = true then A H else R H := by
  intro H p
  cases c with
  | true => exact h1 H p rfl h
  | false => exact h H (h2 H p)
/-- a callee that lets nothing out, by what it promises -/
theorem passN0 {X : Cx} {P : Program} {w : World} : Passes (NX P w) X E0 := fun _ _ _ _ _ _ _ ⟨_, _, _, _, _, _, _, _, _, _, _, _, z⟩ => z.elim
theorem at_eq {Q : VK} {v w : V} {H : Hp} (e : v = w) (h : Q w H) : Q v H := by
  rw [e]
  exact h
/-- a text, so many times -/
theorem op_mulS {X : Cx} : OpR X (binaryOp .Mult) (fun x y H Q => ∃ (a : Str) (n : Int), x = .str a ∧ y = .int n ∧ MulOk a n ∧ Q (.str (Txt.mul a n)) H) := by
  intro pins s σ H x y v u Q I rx ry h
  obtain ⟨a, n, rfl, rfl, hz, q⟩ := h
  obtain ⟨t, rfl⟩ := rx
  obtain ⟨t', rfl⟩ := ry
  exact SB.mul hz fun t' k => ⟨.str _, H, I.tok k, ⟨t', rfl⟩, q⟩
theorem r_nopart {σ : L2.St} {H : Hp} {Q : Option Int → Hp → Prop} (h : Q none H) : tNoPart σ H Q := h
/-- one and the same data: not unlike -/
theorem ne_self {K : PySem.W.Frag} {H : Hp} {x y : V} {d : PyData} {n : Nat} {Q : VK} (hx : Dp K H x d) (hy : Dp K H y d) (hs : Sh n d) (hq : Q (.bl false) H) (hn : n ≤ 64 := by decide) : rNeD K x y H Q :=
  ⟨d, d, hx, hy, hs.shaped hn, hs.shaped hn, by rw [hs.self]; exact hq⟩
theorem eq_self {K : PySem.W.Frag} {H : Hp} {x y : V} {d : PyData} {n : Nat} {Q : VK} (hx : Dp K H x d) (hy : Dp K H y d) (hs : Sh n d) (hq : Q (.bl true) H) (hn : n ≤ 64 := by decide) : rEqD K x y H Q :=
  ⟨d, d, hx, hy, hs.shaped hn, hs.shaped hn, by rw [hs.self]; exact hq⟩
theorem dp_lints {K : PySem.W.Frag} {H : Hp} {a : Addr} {ns : List Int} (h : H a = some (.lst (ns.map V.int))) : Dp K H (.ref a) (.list (ns.map PyData.int)) := .lst (sqL h) (dp_ints ns)
theorem sh_str {x : Str} (h : (PyData.str x).canLay0 = true) : Sh 0 (.str x) := ⟨h, Nat.le_refl _⟩
theorem sh_rf {n : Str} (h : (PyData.str n).canLay0 = true) : Sh 1 (rfD n) := sh_tup fun d hd => by
  simp only [List.mem_cons, List.not_mem_nil, or_false] at hd
  rcases hd with rfl | rfl
  · exact sh_str (by decide +kernel)
  · exact sh_str h
/-- as many refusals of one kind, as data -/
theorem dp_rfs {K : PySem.W.Frag} {H : Hp} {n : Str} : ∀ {ts : List Addr}, (∀ t ∈ ts, H t = some (.tup [.str "refused", .str n])) → DpAll K H (ts.map V.ref) (List.replicate ts.length (rfD n))
  | [], _ => .nil
  | t :: ts, h => .cons (dp_rf (h t List.mem_cons_self)) (dp_rfs fun u hu => h u (List.mem_cons_of_mem _ hu))
theorem sh_rfs {n : Str} (h : (PyData.str n).canLay0 = true) (k : Nat) : Sh 2 (.list (List.replicate k (rfD n))) := sh_lst fun d hd => by
  rw [List.eq_of_mem_replicate hd]
  exact sh_rf h
end Tr
end
section
namespace Tr
open PySem PySem.Spec PyProof.Rows L2 LamX
/-! ### sorted texts -/
def leS (a b : Str) : Prop := ltCps b.cps.toList a.cps.toList = false
theorem leS_iff {a b : Str} : leS a b ↔ a.cps.toList ≤ b.cps.toList := by
  unfold leS
  rw [ltCps_eq]
  exact ⟨fun h => List.not_lt.mp (of_decide_eq_false h), fun h => decide_eq_false (List.not_lt.mpr h)⟩
theorem leS_trans {a b c : Str} (h : leS a b) (g : leS b c) : leS a c := leS_iff.mpr (List.le_trans (leS_iff.mp h) (leS_iff.mp g))
theorem leS_anti {a b : Str} (h : leS a b) (g : leS b a) : a = b := by
  have e := List.le_antisymm (leS_iff.mp h) (leS_iff.mp g)
  cases a with
  | mk x =>
    cases b with
    | mk y =>
      exact congrArg Str.mk (Array.toList_inj.mp e)
theorem pw_rising : ∀ (p : Str) (l : List Str), risingS p l = true → (p :: l).Pairwise leS
  | p, [], _ => List.pairwise_singleton _ _
  | p, x :: r, h => by
    have h' : (!ltCps x.cps.toList p.cps.toList && risingS x r) = true := h
    obtain ⟨h1, h2⟩ := Bool.and_eq_true_iff.mp h'
    have ih := pw_rising x r h2
    have hx : leS p x := by
      unfold leS
      cases e : ltCps x.cps.toList p.cps.toList with
      | false => rfl
      | true =>
        rw [e] at h1
        cases h1
    refine List.pairwise_cons.mpr ⟨fun y hy => ?_, ih⟩
    rcases List.mem_cons.mp hy with rfl | hy
    · exact hx
    · exact leS_trans hx ((List.pairwise_cons.mp ih).1 y hy)
theorem pw_sortedS : ∀ l : List Str, sortedS l = true → l.Pairwise leS
  | [], _ => .nil
  | x :: r, h => pw_rising x r h
theorem same_sortedS {l m : List Str} (p : l.Perm m) (hl : sortedS l = true) (hm : sortedS m = true) : l = m :=
  List.Perm.eq_of_pairwise (fun _ _ _ _ a b => leS_anti a b) (pw_sortedS l hl) (pw_sortedS m hm) p
theorem same_sorted2 {l m n : List Str} (p : l.Perm n) (p' : m.Perm n) (hl : sortedS l = true) (hm : sortedS m = true) : l = m := same_sortedS (p.trans p'.symm) hl hm
/-! ### texts as data -/
def sOk (s : Str) : Prop := (PyData.str s).canLay0 = true
theorem dp_strs {K : PySem.W.Frag} {H : Hp} : ∀ ss : List Str, DpAll K H (ss.map V.str) (ss.map PyData.str)
  | [] => .nil
  | s :: ss => .cons (.str s) (dp_strs ss)
theorem dp_lstrs {K : PySem.W.Frag} {H : Hp} {a : Addr} {ss : List Str} (h : H a = some (.lst (ss.map V.str))) : Dp K H (.ref a) (.list (ss.map PyData.str)) := .lst (sqL h) (dp_strs ss)
theorem sh_strs {ss : List Str} (h : ∀ s ∈ ss, sOk s) : Sh 1 (.list (ss.map PyData.str)) := sh_lst fun d hd => by
  obtain ⟨s, hs, rfl⟩ := List.mem_map.mp hd
  exact sh_str (h s hs)
theorem inV_strs (s : Str) (l : List Str) : inV (.str s) (l.map V.str) = decide (s ∈ l) := by
  unfold inV
  rw [List.any_map, Bool.eq_iff_iff, List.any_eq_true, decide_eq_true_iff]
  constructor
  · rintro ⟨x, hx, e⟩
    have e' : eqV (V.str x) (V.str s) = true := e
    have e2 : x = s := by simpa [eqV] using e'
    rw [← e2]
    exact hx
  · intro h
    exact ⟨s, h, by simp [eqV]⟩
theorem flat_strs (l : List Str) : (l.map V.str).all flatV = true := by
  rw [List.all_map]
  exact List.all_eq_true.mpr fun _ _ => rfl
/-! ### a statement if, without else, that leads on to what comes behind -/
/-- a lock taken off: all that stood, stands -/
theorem same_unlock {H0 H1 : Hp} {d : Addr} {u o : HO} (hd : H0 d = some u) (s : Same (upd H0 d o) H1) : Same H0 (upd H1 d u) := fun b v h => by
  by_cases e : b = d
  · rw [e, upd_same]
    rw [e, hd] at h
    exact h
  · rw [upd_ne e]
    exact s b v (by rw [upd_ne e]; exact h)
theorem r_no {A B : Prop} (h : B) : if false = true then A else B := h
theorem r_next {D : Ends} {σ : L2.St} {H : Hp} (h : D.nx σ H) : tNext D σ H := h
theorem r_name {i : Nat} {x : V} {σ : L2.St} {H : Hp} {Q : L2.St → Hp → Prop} (h : Q (σ.set i (some x)) H) : gName i x σ H Q := h
theorem r_if {c : TT} {t : TS} {D : Ends} {σ : L2.St} {H : Hp} (good : L2.St → Hp → Prop) (h : ∀ σ' H', good σ' H' → D.nx σ' H') (hc : (∀ σ' H', good σ' H' → D.nx σ' H') → c σ H fun b H1 => if b = true then t D σ H1 else D.nx σ H1) : tIfS c t tNext D σ H := hc h
/-- two ways of an answer lead on to one place -/
theorem two {c : Prop} {Q : VK} {F G : Hp → Prop} (h : ∀ (b : Bool) (H' : Hp), ((b = false ∧ c ∧ F H') ∨ (b = true ∧ ¬ c ∧ G H')) → Q (.bl b) H') : (c → ∀ H', F H' → Q (.bl false) H') ∧ (¬ c → ∀ H', G H' → Q (.bl true) H') :=
  ⟨fun hc H' f => h false H' (.inl ⟨rfl, hc, f⟩), fun hc H' g => h true H' (.inr ⟨rfl, hc, g⟩)⟩
/-! ### what is written is no table and no code object -/
def Pl (H : Hp) (a : Addr) : Prop := ∀ o, H a = some o → (∀ ps, o ≠ .tbl ps) ∧ ∀ φ, o ≠ .ext φ
theorem pl_none {H : Hp} {a : Addr} (h : H a = none) : Pl H a := fun o e => by
  rw [h] at e
  cases e
theorem pl_of {H : Hp} {a : Addr} {o : HO} (h : H a = some o) (h1 : ∀ ps, o ≠ .tbl ps) (h2 : ∀ φ, o ≠ .ext φ) : Pl H a := fun u e => by
  rw [h] at e
  cases e
  exact ⟨h1, h2⟩
theorem pl_lst {H : Hp} {a : Addr} {xs : List V} (h : H a = some (.lst xs)) : Pl H a := pl_of h (fun _ z => by cases z) fun _ z => by cases z
theorem pl_dK {H : Hp} {a : Addr} {xs : List (Key × V)} (h : H a = some (.dK xs)) : Pl H a := pl_of h (fun _ z => by cases z) fun _ z => by cases z
theorem pl_ins {H : Hp} {a C dx : Addr} {fs : List (Str × V)} (h : H a = some (.ins C dx fs)) : Pl H a := pl_of h (fun _ z => by cases z) fun _ z => by cases z
/-- all but what S tells stays -/
def Fr (S : Addr → Prop) (H H' : Hp) : Prop := ∀ c o, H c = some o → ¬ S c → H' c = some o
theorem tabs_fr {Tb : List (Addr × Str)} {S : Addr → Prop} {H H' : Hp} (t : Tabs Tb H) (hs : ∀ c, S c → Pl H c) (f : Fr S H H') : Tabs Tb H' := by
  rintro p hp
  obtain ⟨ps, h1, h2, h3⟩ := t p hp
  refine ⟨ps, f _ _ h1 fun z => (hs _ z _ h1).1 ps rfl, h2, fun pos cv hc => ?_⟩
  obtain ⟨c, e1, e2⟩ := h3 pos cv hc
  exact ⟨c, e1, f _ _ e2 fun z => (hs _ z _ e2).2 _ rfl⟩
theorem Fw.fr {Tb : List (Addr × Str)} {S : Addr → Prop} {H H1 H2 : Hp} (a : Fw Tb H H1) (hn : ∀ c, S c → NT H c) (hs : ∀ c, S c → Pl H1 c) (f : Fr S H1 H2) : Fw Tb H H2 :=
  ⟨fun b o hb no => f _ _ (a.e b o hb no) fun z => by
    obtain ⟨ps, e⟩ := hn b z o hb
    exact no ps e, tabs_fr a.t hs f⟩
/-! ### numbers as texts -/
def chk (k : Nat) : List Nat → Bool
  | c :: r => decide (c ≠ 48) && ((c :: r).all (fun d => decide (48 ≤ d) && decide (d ≤ 57)) && decide (r.length ≤ k))
  | [] => false
theorem chk_one : (List.range 9).all (fun i => chk 0 ((Nat.toDigits 10 (i + 1)).map Char.toNat)) = true := by decide +kernel
theorem dig_one : (List.range 10).all (fun i => decide (48 ≤ (Nat.digitChar i).toNat) && decide ((Nat.digitChar i).toNat ≤ 57)) = true := by decide +kernel
theorem chk_mono {j k : Nat} (h : j ≤ k) {l : List Nat} (c : chk j l = true) : chk k l = true := by
  cases l with
  | nil => cases c
  | cons a r =>
    simp only [chk, Bool.and_eq_true, decide_eq_true_eq] at c ⊢
    exact ⟨c.1, c.2.1, Nat.le_trans c.2.2 h⟩
theorem chk_num : ∀ (k m : Nat), 1 ≤ m → m < 10 ^ (k + 1) → chk k ((Nat.toDigits 10 m).map Char.toNat) = true
  | k, m, h1, h2 => by
    by_cases hs : m < 10
    · have e := List.all_eq_true.mp chk_one (m - 1) (List.mem_range.mpr (by omega))
      rw [show m - 1 + 1 = m by omega] at e
      exact chk_mono (Nat.zero_le k) e
    · cases k with
      | zero => simp at h2; omega
      | succ k =>
        have ih := chk_num k (m / 10) (by omega) (by rw [Nat.pow_succ] at h2; omega)
        have hd : m % 10 < 10 := Nat.mod_lt _ (by decide)
        have t : Nat.toDigits 10 (m / 10) ++ Nat.toDigits 10 (m % 10) = Nat.toDigits 10 (10 * (m / 10) + m % 10) := Nat.toDigits_append_toDigits (by decide) (by omega) hd
        rw [Nat.div_add_mod] at t
        rw [← t, List.map_append, Nat.toDigits_of_lt_base hd]
        have ed := List.all_eq_true.mp dig_one (m % 10) (List.mem_range.mpr hd)
        generalize (Nat.toDigits 10 (m / 10)).map Char.toNat = l at ih
        cases l with
        | nil => cases ih
        | cons a r =>
          simp only [chk, Bool.and_eq_true, decide_eq_true_eq, List.map_cons, List.map_nil, List.cons_append, List.all_cons, List.all_append, List.all_nil, List.length_append, List.length_cons, List.length_nil] at ih ed ⊢
          refine ⟨ih.1, ⟨ih.2.1.1, ih.2.1.2, ed, trivial⟩, by omega⟩
theorem chk_int {k : Nat} {n : Int} (h1 : 1 ≤ n) (h2 : n < 10 ^ (k + 1)) : chk k (toString n : Str).cps.toList = true := by
  obtain ⟨m, rfl⟩ : ∃ m : Nat, n = (m : Int) := ⟨n.toNat, by omega⟩
  have e : (toString ((m : Nat) : Int) : Str).cps.toList = (Nat.toDigits 10 m).map Char.toNat := PySem.W.KIN.signs_num m
  rw [e]
  exact chk_num k m (by omega) (by exact_mod_cast h2)
end Tr
end
section
namespace T
open PySem PySem.Spec PyProof.Rows L2
def top (i : Nat) : Stmt := PySem.Challenge.pw_tryroad_k30_whole_takers.main.body.getD i (.Pass ⟨0, 0, 0, 0⟩)
abbrev s_is_name : Stmt := top 13
abbrev s_need_name : Stmt := top 14
abbrev s_is_text : Stmt := top 15
abbrev s_need_text : Stmt := top 16
abbrev s_need_mark : Stmt := top 19
abbrev s_TakerX_initX : Stmt := inClass (top 20) 0
abbrev s_Taker_take : Stmt := inClass (top 20) 1
abbrev s_Taker_names : Stmt := inClass (top 20) 2
abbrev s_Taker_row : Stmt := inClass (top 20) 3
abbrev s_l_cell : Stmt := top 22
abbrev s_l_drawn : Stmt := top 23
abbrev s_l_word : Stmt := top 24
abbrev s_l_told : Stmt := top 25
abbrev s_l_any_name : Stmt := top 26
abbrev s_l_any_text : Stmt := top 27
abbrev s_law : Stmt := top 28
def d_is_name : He.DefD := ⟨("is_name", none), "is_name", "is_name", defArgs s_is_name, defBody s_is_name, defScope s_is_name, [], []⟩
def d_need_name : He.DefD := ⟨("need_name", none), "need_name", "need_name", defArgs s_need_name, defBody s_need_name, defScope s_need_name, [], []⟩
def d_is_text : He.DefD := ⟨("is_text", none), "is_text", "is_text", defArgs s_is_text, defBody s_is_text, defScope s_is_text, [], []⟩
def d_need_text : He.DefD := ⟨("need_text", none), "need_text", "need_text", defArgs s_need_text, defBody s_need_text, defScope s_need_text, [], []⟩
def d_need_mark : He.DefD := ⟨("need_mark", none), "need_mark", "need_mark", defArgs s_need_mark, defBody s_need_mark, defScope s_need_mark, [], []⟩
def d_TakerX_initX : He.DefD := ⟨("Taker", some "__init__"), "__init__", "Taker.__init__", defArgs s_TakerX_initX, defBody s_TakerX_initX, defScope s_TakerX_initX, [], []⟩
def d_Taker_take : He.DefD := ⟨("Taker", some "take"), "take", "Taker.take", defArgs s_Taker_take, defBody s_Taker_take, defScope s_Taker_take, [], []⟩
def d_Taker_names : He.DefD := ⟨("Taker", some "names"), "names", "Taker.names", defArgs s_Taker_names, defBody s_Taker_names, defScope s_Taker_names, [], []⟩
def d_Taker_row : He.DefD := ⟨("Taker", some "row"), "row", "Taker.row", defArgs s_Taker_row, defBody s_Taker_row, defScope s_Taker_row, [], []⟩
def d_l_cell : He.DefD := ⟨("_law_cell", none), "_law_cell", "_law_cell", defArgs s_l_cell, defBody s_l_cell, defScope s_l_cell, [], []⟩
def d_l_drawn : He.DefD := ⟨("_law_drawn", none), "_law_drawn", "_law_drawn", defArgs s_l_drawn, defBody s_l_drawn, defScope s_l_drawn, [], []⟩
def d_l_word : He.DefD := ⟨("_law_word", none), "_law_word", "_law_word", defArgs s_l_word, defBody s_l_word, defScope s_l_word, [], []⟩
def d_l_told : He.DefD := ⟨("_law_told", none), "_law_told", "_law_told", defArgs s_l_told, defBody s_l_told, defScope s_l_told, [], []⟩
def d_l_any_name : He.DefD := ⟨("_law_any_name", none), "_law_any_name", "_law_any_name", defArgs s_l_any_name, defBody s_l_any_name, defScope s_l_any_name, [], []⟩
def d_l_any_text : He.DefD := ⟨("_law_any_text", none), "_law_any_text", "_law_any_text", defArgs s_l_any_text, defBody s_l_any_text, defScope s_l_any_text, [], []⟩
def d_law : He.DefD := ⟨("law", none), "law", "law", defArgs s_law, defBody s_law, defScope s_law, [], []⟩
def fn : List He.DefD := [d_is_name, d_need_name, d_is_text, d_need_text, d_need_mark, d_TakerX_initX, d_Taker_take, d_Taker_names, d_Taker_row, d_l_cell, d_l_drawn, d_l_word, d_l_told, d_l_any_name, d_l_any_text, d_law]
def fa : List He.Fa := [.glo "is_name", .glo "need_name", .glo "is_text", .glo "need_text", .glo "need_mark", .glo "_law_cell", .glo "_law_drawn", .glo "_law_word", .glo "_law_told", .glo "_law_any_name", .glo "_law_any_text", .glo "law", .glo "Taker", .glo "TryError", .glo "BadRule", .glo "BadName", .glo "BadText", .glo "BadTime", .glo "BadCall", .glo "Full", .free "ValueError", .free "all", .free "int", .free "isinstance", .free "len", .free "list", .free "max", .free "min", .free "ord", .free "range", .free "sorted", .free "str", .free "sum", .str "SMALL" "abcdefghijklmnopqrstuvwxyz", .int "MOST_NAME" 4, .int "MOST_TEXT" 20, .int "BARRED" 37, .str "FIGURES" "0123456789", .cls "Taker", .mkr "Taker", .noat "Taker" "marks", .noat "Taker" "rows", .meth "Taker" "take", .meth "Taker" "names", .meth "Taker" "row", .exc "TryError", .exc "BadRule", .exc "BadName", .exc "BadText", .exc "BadTime", .exc "BadCall", .exc "Full"]
def cls : List Str := ["BadCall", "BadName", "BadRule", "BadText", "BadTime", "Full"]
def ex (K : PySem.W.Frag) : Bool := Tr.wordB K cls && true
def tf : List He.Defn := [("law", none)]
def loose0 : List PySem.Str := ["TryError", "BadRule", "BadName", "BadText", "BadTime", "BadCall", "Full", "SMALL", "MOST_NAME", "MOST_TEXT", "BARRED", "is_name", "need_name", "is_text", "need_text"]
def loose1 : List PySem.Str := ["FIGURES", "need_mark", "Taker", "_law_cell", "_law_drawn", "_law_word", "_law_told", "_law_any_name", "_law_any_text"]
def loose : List PySem.Str := loose0 ++ loose1
def topS (i : Nat) : Stmt := top i
abbrev lawAt : Nat := 28
abbrev R : PySem.W.OpenRow := PySem.W.OpenLaw.row PySem.Challenge.rw_tryroad_k30_whole_takers
/-- what the top has written -/
structure Txt (K : PySem.W.Frag) (mg : Str → Option Value) : Prop where
  c : He.SaysD fa fn K
  m : ex K = true
  x : ∃ h : Heap, K.In h ∧ h.Ns mainGlobals mg
section
variable {K : PySem.W.Frag} {mg : Str → Option Value}
theorem Txt.g_is_name (T : Txt K mg) : mg "is_name" = some (.ref (He.ga K "is_name")) := let ⟨_, X, G⟩ := T.x; He.glo_ok X G (T.c.fact 0 (f := .glo "is_name") rfl)
theorem Txt.g_need_name (T : Txt K mg) : mg "need_name" = some (.ref (He.ga K "need_name")) := let ⟨_, X, G⟩ := T.x; He.glo_ok X G (T.c.fact 1 (f := .glo "need_name") rfl)
theorem Txt.g_is_text (T : Txt K mg) : mg "is_text" = some (.ref (He.ga K "is_text")) := let ⟨_, X, G⟩ := T.x; He.glo_ok X G (T.c.fact 2 (f := .glo "is_text") rfl)
theorem Txt.g_need_text (T : Txt K mg) : mg "need_text" = some (.ref (He.ga K "need_text")) := let ⟨_, X, G⟩ := T.x; He.glo_ok X G (T.c.fact 3 (f := .glo "need_text") rfl)
theorem Txt.g_need_mark (T : Txt K mg) : mg "need_mark" = some (.ref (He.ga K "need_mark")) := let ⟨_, X, G⟩ := T.x; He.glo_ok X G (T.c.fact 4 (f := .glo "need_mark") rfl)
theorem Txt.g_l_cell (T : Txt K mg) : mg "_law_cell" = some (.ref (He.ga K "_law_cell")) := let ⟨_, X, G⟩ := T.x; He.glo_ok X G (T.c.fact 5 (f := .glo "_law_cell") rfl)
theorem Txt.g_l_drawn (T : Txt K mg) : mg "_law_drawn" = some (.ref (He.ga K "_law_drawn")) := let ⟨_, X, G⟩ := T.x; He.glo_ok X G (T.c.fact 6 (f := .glo "_law_drawn") rfl)
theorem Txt.g_l_word (T : Txt K mg) : mg "_law_word" = some (.ref (He.ga K "_law_word")) := let ⟨_, X, G⟩ := T.x; He.glo_ok X G (T.c.fact 7 (f := .glo "_law_word") rfl)
theorem Txt.g_l_told (T : Txt K mg) : mg "_law_told" = some (.ref (He.ga K "_law_told")) := let ⟨_, X, G⟩ := T.x; He.glo_ok X G (T.c.fact 8 (f := .glo "_law_told") rfl)
theorem Txt.g_l_any_name (T : Txt K mg) : mg "_law_any_name" = some (.ref (He.ga K "_law_any_name")) := let ⟨_, X, G⟩ := T.x; He.glo_ok X G (T.c.fact 9 (f := .glo "_law_any_name") rfl)
theorem Txt.g_l_any_text (T : Txt K mg) : mg "_law_any_text" = some (.ref (He.ga K "_law_any_text")) := let ⟨_, X, G⟩ := T.x; He.glo_ok X G (T.c.fact 10 (f := .glo "_law_any_text") rfl)
theorem Txt.g_law (T : Txt K mg) : mg "law" = some (.ref (He.ga K "law")) := let ⟨_, X, G⟩ := T.x; He.glo_ok X G (T.c.fact 11 (f := .glo "law") rfl)
theorem Txt.g_Taker (T : Txt K mg) : mg "Taker" = some (.ref (He.ga K "Taker")) := let ⟨_, X, G⟩ := T.x; He.glo_ok X G (T.c.fact 12 (f := .glo "Taker") rfl)
theorem Txt.g_TryError (T : Txt K mg) : mg "TryError" = some (.ref (He.ga K "TryError")) := let ⟨_, X, G⟩ := T.x; He.glo_ok X G (T.c.fact 13 (f := .glo "TryError") rfl)
theorem Txt.g_BadRule (T : Txt K mg) : mg "BadRule" = some (.ref (He.ga K "BadRule")) := let ⟨_, X, G⟩ := T.x; He.glo_ok X G (T.c.fact 14 (f := .glo "BadRule") rfl)
theorem Txt.g_BadName (T : Txt K mg) : mg "BadName" = some (.ref (He.ga K "BadName")) := let ⟨_, X, G⟩ := T.x; He.glo_ok X G (T.c.fact 15 (f := .glo "BadName") rfl)
theorem Txt.g_BadText (T : Txt K mg) : mg "BadText" = some (.ref (He.ga K "BadText")) := let ⟨_, X, G⟩ := T.x; He.glo_ok X G (T.c.fact 16 (f := .glo "BadText") rfl)
theorem Txt.g_BadTime (T : Txt K mg) : mg "BadTime" = some (.ref (He.ga K "BadTime")) := let ⟨_, X, G⟩ := T.x; He.glo_ok X G (T.c.fact 17 (f := .glo "BadTime") rfl)
theorem Txt.g_BadCall (T : Txt K mg) : mg "BadCall" = some (.ref (He.ga K "BadCall")) := let ⟨_, X, G⟩ := T.x; He.glo_ok X G (T.c.fact 18 (f := .glo "BadCall") rfl)
theorem Txt.g_Full (T : Txt K mg) : mg "Full" = some (.ref (He.ga K "Full")) := let ⟨_, X, G⟩ := T.x; He.glo_ok X G (T.c.fact 19 (f := .glo "Full") rfl)
theorem Txt.n_ValueError (T : Txt K mg) : mg "ValueError" = none := let ⟨_, X, G⟩ := T.x; He.free_ok X G (T.c.fact 20 (f := .free "ValueError") rfl)
theorem Txt.n_all (T : Txt K mg) : mg "all" = none := let ⟨_, X, G⟩ := T.x; He.free_ok X G (T.c.fact 21 (f := .free "all") rfl)
theorem Txt.n_int (T : Txt K mg) : mg "int" = none := let ⟨_, X, G⟩ := T.x; He.free_ok X G (T.c.fact 22 (f := .free "int") rfl)
theorem Txt.n_isinstance (T : Txt K mg) : mg "isinstance" = none := let ⟨_, X, G⟩ := T.x; He.free_ok X G (T.c.fact 23 (f := .free "isinstance") rfl)
theorem Txt.n_len (T : Txt K mg) : mg "len" = none := let ⟨_, X, G⟩ := T.x; He.free_ok X G (T.c.fact 24 (f := .free "len") rfl)
theorem Txt.n_list (T : Txt K mg) : mg "list" = none := let ⟨_, X, G⟩ := T.x; He.free_ok X G (T.c.fact 25 (f := .free "list") rfl)
theorem Txt.n_max (T : Txt K mg) : mg "max" = none := let ⟨_, X, G⟩ := T.x; He.free_ok X G (T.c.fact 26 (f := .free "max") rfl)
theorem Txt.n_min (T : Txt K mg) : mg "min" = none := let ⟨_, X, G⟩ := T.x; He.free_ok X G (T.c.fact 27 (f := .free "min") rfl)
theorem Txt.n_ord (T : Txt K mg) : mg "ord" = none := let ⟨_, X, G⟩ := T.x; He.free_ok X G (T.c.fact 28 (f := .free "ord") rfl)
theorem Txt.n_range (T : Txt K mg) : mg "range" = none := let ⟨_, X, G⟩ := T.x; He.free_ok X G (T.c.fact 29 (f := .free "range") rfl)
theorem Txt.n_sorted (T : Txt K mg) : mg "sorted" = none := let ⟨_, X, G⟩ := T.x; He.free_ok X G (T.c.fact 30 (f := .free "sorted") rfl)
theorem Txt.n_str (T : Txt K mg) : mg "str" = none := let ⟨_, X, G⟩ := T.x; He.free_ok X G (T.c.fact 31 (f := .free "str") rfl)
theorem Txt.n_sum (T : Txt K mg) : mg "sum" = none := let ⟨_, X, G⟩ := T.x; He.free_ok X G (T.c.fact 32 (f := .free "sum") rfl)
theorem Txt.i_SMALL (T : Txt K mg) : ∃ u, mg "SMALL" = some u ∧ RelV (.str "abcdefghijklmnopqrstuvwxyz") u := let ⟨_, X, G⟩ := T.x; let ⟨t, e⟩ := He.str_ok X G (T.c.fact 33 (f := .str "SMALL" "abcdefghijklmnopqrstuvwxyz") rfl); ⟨_, e, t, rfl⟩
theorem Txt.i_MOST_NAME (T : Txt K mg) : ∃ u, mg "MOST_NAME" = some u ∧ RelV (.int 4) u := let ⟨_, X, G⟩ := T.x; let ⟨t, e⟩ := He.int_ok X G (T.c.fact 34 (f := .int "MOST_NAME" 4) rfl); ⟨_, e, t, rfl⟩
theorem Txt.i_MOST_TEXT (T : Txt K mg) : ∃ u, mg "MOST_TEXT" = some u ∧ RelV (.int 20) u := let ⟨_, X, G⟩ := T.x; let ⟨t, e⟩ := He.int_ok X G (T.c.fact 35 (f := .int "MOST_TEXT" 20) rfl); ⟨_, e, t, rfl⟩
theorem Txt.i_BARRED (T : Txt K mg) : ∃ u, mg "BARRED" = some u ∧ RelV (.int 37) u := let ⟨_, X, G⟩ := T.x; let ⟨t, e⟩ := He.int_ok X G (T.c.fact 36 (f := .int "BARRED" 37) rfl); ⟨_, e, t, rfl⟩
theorem Txt.i_FIGURES (T : Txt K mg) : ∃ u, mg "FIGURES" = some u ∧ RelV (.str "0123456789") u := let ⟨_, X, G⟩ := T.x; let ⟨t, e⟩ := He.str_ok X G (T.c.fact 37 (f := .str "FIGURES" "0123456789") rfl); ⟨_, e, t, rfl⟩
theorem Txt.c_Taker (T : Txt K mg) : Cls K (He.ga K "Taker") := He.cls_ok (T.c.fact 38 (f := .cls "Taker") rfl)
theorem Txt.k_Taker (T : Txt K mg) : Mk K (He.ga K "Taker") (He.ma K (He.ga K "Taker") "__init__") := He.mkr_ok (T.c.fact 39 (f := .mkr "Taker") rfl)
theorem Txt.a_Taker_marks (T : Txt K mg) : NoAttr K (He.ga K "Taker") "marks" := He.noat_ok (T.c.fact 40 (f := .noat "Taker" "marks") rfl)
theorem Txt.a_Taker_rows (T : Txt K mg) : NoAttr K (He.ga K "Taker") "rows" := He.noat_ok (T.c.fact 41 (f := .noat "Taker" "rows") rfl)
theorem Txt.m_Taker_take (T : Txt K mg) : Meth K (He.ga K "Taker") "take" (He.ma K (He.ga K "Taker") "take") := He.meth_ok (T.c.fact 42 (f := .meth "Taker" "take") rfl)
theorem Txt.m_Taker_names (T : Txt K mg) : Meth K (He.ga K "Taker") "names" (He.ma K (He.ga K "Taker") "names") := He.meth_ok (T.c.fact 43 (f := .meth "Taker" "names") rfl)
theorem Txt.m_Taker_row (T : Txt K mg) : Meth K (He.ga K "Taker") "row" (He.ma K (He.ga K "Taker") "row") := He.meth_ok (T.c.fact 44 (f := .meth "Taker" "row") rfl)
theorem Txt.e_TryError (T : Txt K mg) : (He.Fa.exc "TryError").ok K = true := T.c.fact 45 (f := .exc "TryError") rfl
theorem Txt.e_BadRule (T : Txt K mg) : (He.Fa.exc "BadRule").ok K = true := T.c.fact 46 (f := .exc "BadRule") rfl
theorem Txt.e_BadName (T : Txt K mg) : (He.Fa.exc "BadName").ok K = true := T.c.fact 47 (f := .exc "BadName") rfl
theorem Txt.e_BadText (T : Txt K mg) : (He.Fa.exc "BadText").ok K = true := T.c.fact 48 (f := .exc "BadText") rfl
theorem Txt.e_BadTime (T : Txt K mg) : (He.Fa.exc "BadTime").ok K = true := T.c.fact 49 (f := .exc "BadTime") rfl
theorem Txt.e_BadCall (T : Txt K mg) : (He.Fa.exc "BadCall").ok K = true := T.c.fact 50 (f := .exc "BadCall") rfl
theorem Txt.e_Full (T : Txt K mg) : (He.Fa.exc "Full").ok K = true := T.c.fact 51 (f := .exc "Full") rfl
theorem Txt.f_is_name (T : Txt K mg) : ∃ fd, FunD K "is_name" "is_name" (defArgs s_is_name) (defBody s_is_name) (defScope s_is_name) [] [] (He.ga K "is_name") fd := T.c.def_ 0 (d := d_is_name) rfl
theorem Txt.f_need_name (T : Txt K mg) : ∃ fd, FunD K "need_name" "need_name" (defArgs s_need_name) (defBody s_need_name) (defScope s_need_name) [] [] (He.ga K "need_name") fd := T.c.def_ 1 (d := d_need_name) rfl
theorem Txt.f_is_text (T : Txt K mg) : ∃ fd, FunD K "is_text" "is_text" (defArgs s_is_text) (defBody s_is_text) (defScope s_is_text) [] [] (He.ga K "is_text") fd := T.c.def_ 2 (d := d_is_text) rfl
theorem Txt.f_need_text (T : Txt K mg) : ∃ fd, FunD K "need_text" "need_text" (defArgs s_need_text) (defBody s_need_text) (defScope s_need_text) [] [] (He.ga K "need_text") fd := T.c.def_ 3 (d := d_need_text) rfl
theorem Txt.f_need_mark (T : Txt K mg) : ∃ fd, FunD K "need_mark" "need_mark" (defArgs s_need_mark) (defBody s_need_mark) (defScope s_need_mark) [] [] (He.ga K "need_mark") fd := T.c.def_ 4 (d := d_need_mark) rfl
theorem Txt.f_TakerX_initX (T : Txt K mg) : ∃ fd, FunD K "__init__" "Taker.__init__" (defArgs s_TakerX_initX) (defBody s_TakerX_initX) (defScope s_TakerX_initX) [] [] (He.ma K (He.ga K "Taker") "__init__") fd := T.c.def_ 5 (d := d_TakerX_initX) rfl
theorem Txt.f_Taker_take (T : Txt K mg) : ∃ fd, FunD K "take" "Taker.take" (defArgs s_Taker_take) (defBody s_Taker_take) (defScope s_Taker_take) [] [] (He.ma K (He.ga K "Taker") "take") fd := T.c.def_ 6 (d := d_Taker_take) rfl
theorem Txt.f_Taker_names (T : Txt K mg) : ∃ fd, FunD K "names" "Taker.names" (defArgs s_Taker_names) (defBody s_Taker_names) (defScope s_Taker_names) [] [] (He.ma K (He.ga K "Taker") "names") fd := T.c.def_ 7 (d := d_Taker_names) rfl
theorem Txt.f_Taker_row (T : Txt K mg) : ∃ fd, FunD K "row" "Taker.row" (defArgs s_Taker_row) (defBody s_Taker_row) (defScope s_Taker_row) [] [] (He.ma K (He.ga K "Taker") "row") fd := T.c.def_ 8 (d := d_Taker_row) rfl
theorem Txt.f_l_cell (T : Txt K mg) : ∃ fd, FunD K "_law_cell" "_law_cell" (defArgs s_l_cell) (defBody s_l_cell) (defScope s_l_cell) [] [] (He.ga K "_law_cell") fd := T.c.def_ 9 (d := d_l_cell) rfl
theorem Txt.f_l_drawn (T : Txt K mg) : ∃ fd, FunD K "_law_drawn" "_law_drawn" (defArgs s_l_drawn) (defBody s_l_drawn) (defScope s_l_drawn) [] [] (He.ga K "_law_drawn") fd := T.c.def_ 10 (d := d_l_drawn) rfl
theorem Txt.f_l_word (T : Txt K mg) : ∃ fd, FunD K "_law_word" "_law_word" (defArgs s_l_word) (defBody s_l_word) (defScope s_l_word) [] [] (He.ga K "_law_word") fd := T.c.def_ 11 (d := d_l_word) rfl
theorem Txt.f_l_told (T : Txt K mg) : ∃ fd, FunD K "_law_told" "_law_told" (defArgs s_l_told) (defBody s_l_told) (defScope s_l_told) [] [] (He.ga K "_law_told") fd := T.c.def_ 12 (d := d_l_told) rfl
theorem Txt.f_l_any_name (T : Txt K mg) : ∃ fd, FunD K "_law_any_name" "_law_any_name" (defArgs s_l_any_name) (defBody s_l_any_name) (defScope s_l_any_name) [] [] (He.ga K "_law_any_name") fd := T.c.def_ 13 (d := d_l_any_name) rfl
theorem Txt.f_l_any_text (T : Txt K mg) : ∃ fd, FunD K "_law_any_text" "_law_any_text" (defArgs s_l_any_text) (defBody s_l_any_text) (defScope s_l_any_text) [] [] (He.ga K "_law_any_text") fd := T.c.def_ 14 (d := d_l_any_text) rfl
theorem Txt.f_law (T : Txt K mg) : ∃ fd, FunD K "law" "law" (defArgs s_law) (defBody s_law) (defScope s_law) [] [] (He.ga K "law") fd := T.c.def_ 15 (d := d_law) rfl
end
theorem sc_is_name : FnScope ["thing", "sign"] ["thing"] (defScope s_is_name) := ⟨rfl, rfl, rfl, by decide +kernel, rfl, by decide +kernel, by decide +kernel⟩
theorem sc_need_name : FnScope ["thing"] ["thing"] (defScope s_need_name) := ⟨rfl, rfl, rfl, by decide +kernel, rfl, by decide +kernel, by decide +kernel⟩
theorem sc_is_text : FnScope ["thing", "good", "sign"] ["thing"] (defScope s_is_text) := ⟨rfl, rfl, rfl, by decide +kernel, rfl, by decide +kernel, by decide +kernel⟩
theorem sc_need_text : FnScope ["thing"] ["thing"] (defScope s_need_text) := ⟨rfl, rfl, rfl, by decide +kernel, rfl, by decide +kernel, by decide +kernel⟩
theorem sc_need_mark : FnScope ["mark", "good", "sign"] ["mark"] (defScope s_need_mark) := ⟨rfl, rfl, rfl, by decide +kernel, rfl, by decide +kernel, by decide +kernel⟩
theorem sc_TakerX_initX : FnScope ["self"] ["self"] (defScope s_TakerX_initX) := ⟨rfl, rfl, rfl, by decide +kernel, rfl, by decide +kernel, by decide +kernel⟩
theorem sc_Taker_take : FnScope ["self", "mark", "key", "text"] ["self", "mark", "key", "text"] (defScope s_Taker_take) := ⟨rfl, rfl, rfl, by decide +kernel, rfl, by decide +kernel, by decide +kernel⟩
theorem sc_Taker_names : FnScope ["self"] ["self"] (defScope s_Taker_names) := ⟨rfl, rfl, rfl, by decide +kernel, rfl, by decide +kernel, by decide +kernel⟩
theorem sc_Taker_row : FnScope ["self", "key"] ["self", "key"] (defScope s_Taker_row) := ⟨rfl, rfl, rfl, by decide +kernel, rfl, by decide +kernel, by decide +kernel⟩
theorem sc_l_cell : FnScope ["_law_script", "_law_k"] ["_law_script", "_law_k"] (defScope s_l_cell) := ⟨rfl, rfl, rfl, by decide +kernel, rfl, by decide +kernel, by decide +kernel⟩
theorem sc_l_drawn : FnScope ["_law_cell_here", "_law_k", "_law_more"] ["_law_cell_here", "_law_k"] (defScope s_l_drawn) := ⟨rfl, rfl, rfl, by decide +kernel, rfl, by decide +kernel, by decide +kernel⟩
theorem sc_l_word : FnScope ["_law_e", "_law_flags", "_law_flag"] ["_law_e"] (defScope s_l_word) := ⟨rfl, rfl, rfl, by decide +kernel, rfl, by decide +kernel, by decide +kernel⟩
theorem sc_l_told : FnScope ["_law_deed", "_law_e"] ["_law_deed"] (defScope s_l_told) := ⟨rfl, rfl, rfl, by decide +kernel, rfl, by decide +kernel, by decide +kernel⟩
theorem sc_l_any_name : FnScope ["_law_more", "_law_most", "_law_j"] ["_law_more", "_law_most"] (defScope s_l_any_name) := ⟨rfl, rfl, rfl, by decide +kernel, rfl, by decide +kernel, by decide +kernel⟩
theorem sc_l_any_text : FnScope ["_law_more", "_law_most", "_law_signs", "_law_j"] ["_law_more", "_law_most"] (defScope s_l_any_text) := ⟨rfl, rfl, rfl, by decide +kernel, rfl, by decide +kernel, by decide +kernel⟩
theorem sc_law : FnScope ["_law_script", "_law_k", "_law_more", "_law_taker", "_law_marks", "_law_rows", "_law_j", "_law_here", "_law_mark", "_law_key", "_law_text", "_law_one", "_law_bad", "_law_some"] ["_law_script"] (defScope s_law) := ⟨rfl, rfl, rfl, by decide +kernel, rfl, by decide +kernel, by decide +kernel⟩
end T
end
section
local macro_rules | `(tactic| walk_at "ev") => `(tactic| repeat (first | refine ⟨_, rfl, ?_⟩ | refine ⟨_, _, rfl, rfl, ?_⟩ | refine ⟨rfl, ?_⟩))
namespace T
open PySem PySem.Spec PyProof.Rows L2 Tr
section
variable {P : Program} {w : World} {K : PySem.W.Frag} {mg : Str → Option Value} {base : Heap}
/-- a cell of the script: some whole number -/
def spCell (K : PySem.W.Frag) : Sp := fun vs H Q _ => ∃ (a : Addr) (ns : List Int) (k : Int), vs = [.ref a, .int k] ∧ SqL K H a (ns.map V.int) ∧ ns.length ≤ 63 ∧ 0 ≤ k ∧ k ≤ 1000 ∧ ∀ (c : Int) (H' : Hp), Same H H' → Q (.int c) H'
theorem k_l_cell (T : Txt K mg) : Kal P w K mg base CX0 1 "_law_cell" (spCell K) := by
  refine kal_of T.f_l_cell T.g_l_cell sc_l_cell (fun _ _ _ _ _ _ us hl => match us, hl with | [_, _], _ => rfl) (fun vs H Q E ⟨_, _, _, h, _⟩ => by rw [h] <;> rfl) fun cdv A outer s H vs Q E hr ⟨a, ns, k, e, hS, hl, k0, k1, q⟩ => ?_
  subst e
  refine ⟨_, pss_cons (ps_if (pt_cmpR (op_eqD hr.units) (pv 0) (pe_lst pa_nil) (nomark _)) (pss_one (ps_ret (pe_op op_mul (pv 1) pe_int))) pss_nil)
    (pss_one (ps_ret (pe_op op_add (pe_ix ix_list (pv 0) (pe_op op_mod (pv 1) (b_len T.n_len (pa_cons (pv 0) pa_nil))) (fun _ _ => rfl))
      (pe_op op_mul (pe_op op_fdiv (pv 1) (b_len T.n_len (pa_cons (pv 0) pa_nil))) pe_int)))), ?_⟩
  refine ⟨_, rfl, by show 0 ≤ sizeLine; decide, fun p hp => ?_⟩
  have s1 := same_new (o := HO.lst []) hp
  have hS1 := s1.seq hS
  refine ⟨_, _, .lst hS1 (dp_ints ns), .lst (sqL upd_same) .nil, (sh_ints ns).shaped, (sh_ints []).shaped, _, rfl, ?_⟩
  have hL : LenV K (.ref a) (upd H p (.lst [])) (ns.map V.int).length := .inl ⟨_, hS1, rfl⟩
  rw [eqv_nil]
  cases ns with
  | nil =>
    refine ⟨_, rfl, _, _, rfl, rfl, .inr ⟨by decide, by decide⟩, ?_⟩
    exact q _ _ s1
  | cons n ns =>
    have hn : (n :: ns).length = ns.length + 1 := rfl
    have hm : (((n :: ns).map V.int).length : Int) = ns.length + 1 := by simp
    have hl' : ns.length + 1 ≤ 63 := hl
    have p1 := Int.emod_nonneg k (show (((n :: ns).map V.int).length : Int) ≠ 0 by rw [hm]; omega)
    have p2 := Int.emod_lt_of_pos k (show 0 < (((n :: ns).map V.int).length : Int) by rw [hm]; omega)
    have hj : (k % (((n :: ns).map V.int).length : Int)).toNat < (n :: ns).length := by rw [hn]; rw [hm] at p2 p1 ⊢; omega
    refine ⟨_, rfl, _, rfl, _, rfl, _, _, rfl, hL, _, _, rfl, rfl, by rw [hm]; omega, _, _, _, V.int ((n :: ns)[(k % (((n :: ns).map V.int).length : Int)).toNat]), rfl, rfl, hS1, ?_, ?_⟩
    · have e := atI_nat (xs := (n :: ns).map V.int) (j := (k % (((n :: ns).map V.int).length : Int)).toNat) (v := V.int ((n :: ns)[(k % (((n :: ns).map V.int).length : Int)).toNat])) (by rw [List.getElem?_map, List.getElem?_eq_getElem hj] <;> rfl)
      rw [Int.toNat_of_nonneg p1] at e
      exact e
    · refine ⟨_, rfl, _, rfl, _, _, rfl, hL, _, _, rfl, rfl, ⟨by rw [hm]; omega, by rw [hm]; omega⟩, _, _, rfl, rfl, .inr ⟨by decide, by decide⟩, _, _, rfl, rfl, ?_⟩
      exact q _ _ s1
theorem md1 (x : Int) : (x % 340282366920938463463374607431768211507).natAbs < 2 ^ 129 := by
  have h1 := Int.emod_nonneg x (show (340282366920938463463374607431768211507 : Int) ≠ 0 by decide)
  have h2 := Int.emod_lt_of_pos x (show (0 : Int) < 340282366920938463463374607431768211507 by decide)
  have h3 : (2 : Nat) ^ 129 = 680564733841876926926749214863536422912 := by decide
  omega
theorem md2 (x : Int) : (x % 340282366920938463463374607431768211297).natAbs < 2 ^ 129 := by
  have h1 := Int.emod_nonneg x (show (340282366920938463463374607431768211297 : Int) ≠ 0 by decide)
  have h2 := Int.emod_lt_of_pos x (show (0 : Int) < 340282366920938463463374607431768211297 by decide)
  have h3 : (2 : Nat) ^ 129 = 680564733841876926926749214863536422912 := by decide
  omega
theorem md3 (x : Int) : (x % 18446744073709551557 + 1).natAbs < 2 ^ 65 := by
  have h3 : (2 : Nat) ^ 65 = 36893488147419103232 := by decide
  omega
theorem md4 (x : Int) : (x % 340282366920938463463374607431768211297 / 18446744073709551557 + 1).natAbs < 2 ^ 66 := by
  have h1 := Int.emod_nonneg x (show (340282366920938463463374607431768211297 : Int) ≠ 0 by decide)
  have h2 := Int.emod_lt_of_pos x (show (0 : Int) < 340282366920938463463374607431768211297 by decide)
  have h3 : (2 : Nat) ^ 66 = 73786976294838206464 := by decide
  omega
/-- a great number -/
def spDrawn : Sp := fun vs H Q _ => ∃ (c k : Int), vs = [.int c, .int k] ∧ 0 ≤ k ∧ k ≤ 1000 ∧ ∀ d : Int, 0 ≤ d → d < 340282366920938463463374607431768211507 → Q (.int d) H
theorem k_l_drawn (T : Txt K mg) : Kal P w K mg base CX0 1 "_law_drawn" spDrawn := by
  refine kal_of T.f_l_drawn T.g_l_drawn sc_l_drawn (fun _ _ _ _ _ _ us hl => match us, hl with | [_, _], _ => rfl) (fun vs H Q E ⟨_, _, h, _⟩ => by rw [h] <;> rfl) fun cdv A outer s H vs Q E hr ⟨c, k, e, k0, k1, q⟩ => ?_
  subst e
  refine ⟨_, pss_cons (ps_set (i := 2) sc_l_drawn.nd rfl (Or.inl rfl) (pe_op op_mod (pe_op op_add (pe_op op_mul (pv 0) pe_int) (pe_op op_mul (pe_op op_add (pv 1) pe_int) pe_int)) pe_int))
    (pss_cons (ps_set (i := 2) sc_l_drawn.nd rfl (Or.inl rfl) (pe_op op_mod (pe_op op_mulW (pv 2) (pv 2)) pe_int))
    (pss_cons (ps_set (i := 2) sc_l_drawn.nd rfl (Or.inl rfl) (pe_op op_mulW (pe_op op_mulW (pe_op op_add (pe_op op_mod (pv 2) pe_int) pe_int) (pe_op op_add (pe_op op_fdivW (pv 2) pe_int) pe_int)) (pv 2)))
    (pss_one (ps_ret (pe_op op_mod (pv 2) pe_int))))), ?_⟩
  refine ⟨_, rfl, _, _, rfl, rfl, .inr ⟨by decide, by decide⟩, _, rfl, _, _, rfl, rfl, _, _, rfl, rfl, .inl ⟨by omega, by omega⟩, _, _, rfl, rfl, _, _, rfl, rfl, (by show (0 : Int) < 340282366920938463463374607431768211507; decide), ?_⟩
  refine ⟨_, rfl, _, rfl, _, _, rfl, rfl, wide_mul (md1 _) (md1 _) (by decide) (by decide) (by decide), _, _, rfl, rfl, (by show (0 : Int) < 340282366920938463463374607431768211297; decide), ?_⟩
  refine ⟨_, rfl, _, _, rfl, rfl, (by show (0 : Int) < 18446744073709551557; decide), _, _, rfl, rfl, _, rfl, _, _, rfl, rfl, wide_div (b := 65) (by decide) (by decide) (by decide) (by decide), _, _, rfl, rfl, _, _, rfl, rfl, wide_mul (md3 _) (md4 _) (by decide) (by decide) (by decide), ?_⟩
  refine ⟨_, rfl, _, _, rfl, rfl, wide_mul (wide_lt (md3 _) (md4 _)) (md2 _) (by decide) (by decide) (by decide), ?_⟩
  refine ⟨_, rfl, _, _, rfl, rfl, (by show (0 : Int) < 340282366920938463463374607431768211507; decide), ?_⟩
  exact q _ (Int.emod_nonneg _ (by decide)) (Int.emod_lt_of_pos _ (by decide))
end
end T
end
section
namespace T
open PySem PySem.Spec PyProof.Rows L2 Tr
/-! ### names and texts -/
abbrev smallS : Str := "abcdefghijklmnopqrstuvwxyz"
def nmC (c : Nat) : Bool := decide (c ∈ smallS.cps.toList)
def nameOk (s : Str) : Bool := decide (1 ≤ s.length) && (decide (s.length ≤ 4) && s.cps.toList.all nmC)
def isNm : V → Bool
  | .str s => nameOk s
  | _ => false
abbrev blankS : Str := " "
abbrev tildeS : Str := "~"
def txC (c : Nat) : Bool := !decide (([c] : List Nat) < blankS.cps.toList) && (!decide (tildeS.cps.toList < ([c] : List Nat)) && decide (c ≠ 37))
def textOk (s : Str) : Bool := decide (s.length ≤ 20) && s.cps.toList.all txC
def isTx : V → Bool
  | .str s => textOk s
  | _ => false
def Short : V → Prop
  | .str s => s.length ≤ 100000
  | _ => True
theorem range_take {f : Nat → Bool} (l : List Nat) : ∀ i, i ≤ l.length → ((List.range i).map fun j => f (l.getD j 0)) = (l.take i).map f
  | 0, _ => by simp
  | i + 1, h => by
    have hi : i < l.length := by omega
    rw [List.range_succ, List.map_append, range_take l i (by omega), List.take_succ, List.getElem?_eq_getElem hi, List.map_append]
    simp [List.getD_eq_getElem?_getD, List.getElem?_eq_getElem hi]
theorem range_all {f : Nat → Bool} (l : List Nat) (n : Nat) (h : n = l.length) : ((List.range n).map fun j => f (l.getD j 0)) = l.map f := by
  rw [h, range_take l _ (Nat.le_refl _), List.take_length]
section
variable {P : Program} {w : World} {K : PySem.W.Frag} {mg : Str → Option Value} {base : Heap}
/-- a comprehension's sign at turn i -/
theorem sign_at {z : Str} {i : Nat} {c : Nat} (h : z.cps[i]? = some c) : z.cps.toList.getD i 0 = c := by
  rw [List.getD_eq_getElem?_getD, Array.getElem?_toList, h]
  rfl
def spBl (f : V → Bool) (K : PySem.W.Frag) : Sp := fun vs H Q _ => ∃ x : V, vs = [x] ∧ Thing K H x ∧ Short x ∧ ∀ H', Same H H' → Q (.bl (f x)) H'
theorem k_is_name (T : Txt K mg) : Kal P w K mg base CX0 1 "is_name" (spBl isNm K) := by
  refine kal_of T.f_is_name T.g_is_name sc_is_name (fun _ _ _ _ _ _ us hl => match us, hl with | [_], _ => rfl) (fun vs H Q E ⟨_, h, _⟩ => by rw [h] <;> rfl) fun cdv A outer s H vs Q E hr ⟨x, e, hx, hz, q⟩ => ?_
  subst e
  obtain ⟨u4, g4, r4⟩ := T.i_MOST_NAME
  obtain ⟨uS, gS, rS⟩ := T.i_SMALL
  refine ⟨_, pss_one (ps_ret (pe_and (b_isi T.n_isinstance (pa_cons (pv 0) (pa_cons (pe_bltn (v := .ty "str") (by rfl) T.n_str (by decide +kernel) rfl) pa_nil)))
    (pe_and (pe_chain op_le op_le pe_int (b_len T.n_len (pa_cons (pv 0) pa_nil)) (pe_glob (by rfl) g4 r4))
      (pe_one (b_all rfl T.n_all (pa_cons
        (pe_lc (own := [("sign", 1)]) (g := gName 1) (tt := tYes) rfl sc_is_name.nd (pi_str (pv 0)) (blkOk_by (N := ["thing", "sign"]) (sc := defScope s_is_name) (by decide +kernel))
          (fun _ _ _ _ _ => pg_name (i := 1) sc_is_name.nd rfl (Or.inl rfl)) (fun _ _ _ _ _ => pts_nil) (fun _ _ _ _ _ => pe_cmpR op_in_sign (pv 1) (pe_glob (by rfl) gS rS) rfl)) pa_nil)))))), ?_⟩
  refine ⟨_, rfl, ?_⟩
  cases hx with
  | non => exact ⟨_, _, _, _, false, rfl, .ty "str", .base .non, kit_ty (by decide +kernel), _, rfl, q _ (Same.refl H)⟩
  | bl b => exact ⟨_, _, _, _, false, rfl, .ty "str", .base (.bl b), kit_ty (by decide +kernel), _, rfl, q _ (Same.refl H)⟩
  | int b => exact ⟨_, _, _, _, false, rfl, .ty "str", .base (.int b), kit_ty (by decide +kernel), _, rfl, q _ (Same.refl H)⟩
  | lst e => exact ⟨_, _, _, _, false, rfl, .ty "str", .base (.lst e), kit_ty (by decide +kernel), _, rfl, q _ (Same.refl H)⟩
  | tup e => exact ⟨_, _, _, _, false, rfl, .ty "str", .base (.tup e), kit_ty (by decide +kernel), _, rfl, q _ (Same.refl H)⟩
  | str z =>
    have hz : z.length ≤ 100000 := hz
    refine ⟨_, _, _, _, true, rfl, .ty "str", .base (.str z), kit_ty (by decide +kernel), _, rfl, _, rfl, _, z.length, rfl, ⟨sz hz, rfl⟩, ?_⟩
    refine ⟨_, _, rfl, rfl, ?_⟩
    by_cases h1 : 1 ≤ z.length
    · refine ⟨true, congrArg V.bl (decide_eq_true (by omega)), _, _, rfl, rfl, ?_⟩
      by_cases h4 : z.length ≤ 4
      · refine ⟨true, congrArg V.bl (decide_eq_true (by omega)), _, rfl, z, rfl, fun D hD => ?_⟩
        have hl : z.cps.size = z.length := rfl
        refine lc_adds (walk_str (z := z)) (fun i acc => acc = (List.range i).map fun j => V.bl (nmC (z.cps.toList.getD j 0))) hD (by omega) rfl (fun i acc h => by rw [h]; simp) (fun _ _ => trivial) ?_ ?_
        · rintro Tq N i acc y H1 H2 yes no hi s1 p ⟨rfl, c, hc, rfl⟩
          refine ⟨rfl, _, rfl, c, _, rfl, rfl, yes _ _ (Same.refl _) ?_⟩
          rw [p, List.range_succ, List.map_append]
          show _ = _ ++ [V.bl (nmC (z.cps.toList.getD i 0))]
          rw [sign_at hc]
          rfl
        · rintro acc H1 s1 hDa rfl
          refine ⟨D, z.cps.toList.map nmC, rfl, sqL (by rw [hDa, ← range_all (f := nmC) z.cps.toList z.cps.size (by simp), List.map_map]; rfl), ?_⟩
          have e : isNm (.str z) = (z.cps.toList.map nmC).all id := by
            show nameOk z = _
            unfold nameOk
            rw [decide_eq_true h1, decide_eq_true h4, List.all_map]
            rfl
          rw [← e]
          exact q _ s1
      · refine ⟨false, congrArg V.bl (decide_eq_false (by omega)), ?_⟩
        have e : isNm (.str z) = false := by
          show nameOk z = _
          unfold nameOk
          rw [decide_eq_false h4]
          simp
        rw [e] at q
        exact q _ (Same.refl H)
    · refine ⟨false, congrArg V.bl (decide_eq_false (by omega)), ?_⟩
      have e : isNm (.str z) = false := by
        show nameOk z = _
        unfold nameOk
        rw [decide_eq_false h1]
        rfl
      rw [e] at q
      exact ⟨_, rfl, q _ (Same.refl H)⟩
def spNeedBl (f : V → Bool) (cls : Str) (K : PySem.W.Frag) : Sp := fun vs H Q E => ∃ x : V, vs = [x] ∧ Thing K H x ∧ Short x ∧ (f x = true → ∀ H', Same H H' → Q .non H') ∧ (f x = false → ∀ H', Same H H' → E (.ref (He.ga K cls)) none H')
theorem k_need_name (T : Txt K mg) : Kal P w K mg base (NX P w) 2 "need_name" (spNeedBl isNm "BadName" K) := by
  refine kal_of T.f_need_name T.g_need_name sc_need_name (fun _ _ _ _ _ _ us hl => match us, hl with | [_], _ => rfl) (fun vs H Q E ⟨_, h, _⟩ => by rw [h] <;> rfl) fun cdv A outer s H vs Q E hr ⟨x, e, hx, hz, q1, q2⟩ => ?_
  subst e
  obtain ⟨x1, x2, x3, x4⟩ := He.exc_ok T.e_BadName
  refine ⟨_, pss_one (ps_if (pt_not (pt_val (pe_k (E := E0) (k_is_name T) hr (by decide) pass0 (pa_cons (pv 0) pa_nil))))
      (pss_one (L2N.ps_raise rfl (L2N.takes_of rfl rfl rfl rfl) (L2N.pmk_own PySem.F.excBase_ValueError x1 T.g_BadName x2 (raises_own x3 x4) (by rfl)))) pss_nil), ?_⟩
  refine ⟨_, rfl, x, rfl, hx, hz, fun H1 s1 => ⟨_, rfl, ?_⟩⟩
  cases e : isNm x with
  | true => exact q1 e H1 s1
  | false => exact q2 e H1 s1
theorem k_is_text (T : Txt K mg) : Kal P w K mg base CX0 1 "is_text" (spBl isTx K) := by
  refine kal_of T.f_is_text T.g_is_text sc_is_text (fun _ _ _ _ _ _ us hl => match us, hl with | [_], _ => rfl) (fun vs H Q E ⟨_, h, _⟩ => by rw [h] <;> rfl) fun cdv A outer s H vs Q E hr ⟨x, e, hx, hz, q⟩ => ?_
  subst e
  obtain ⟨u4, g4, r4⟩ := T.i_MOST_TEXT
  obtain ⟨uS, gS, rS⟩ := T.i_BARRED
  have nd := sc_is_text.nd
  refine ⟨_, pss_cons (ps_set (i := 1) nd rfl (Or.inl rfl) (pe_and (b_isi T.n_isinstance (pa_cons (pv 0) (pa_cons (pe_bltn (v := .ty "str") (by rfl) T.n_str (by decide +kernel) rfl) pa_nil)))
      (pe_one (pe_cmpR op_le (b_len T.n_len (pa_cons (pv 0) pa_nil)) (pe_glob (by rfl) g4 r4) (nomark _)))))
    (pss_one (ps_ret (pe_and (pv 1) (pe_one (b_all rfl T.n_all (pa_cons
        (pe_lc (own := [("sign", 2)]) (g := gName 2) (tt := tYes) rfl nd (pi_str (pv 0)) (blkOk_by (N := ["thing", "good", "sign"]) (sc := defScope s_is_text) (by decide +kernel))
          (fun _ _ _ _ _ => pg_name (i := 2) nd rfl (Or.inl rfl)) (fun _ _ _ _ _ => pts_nil)
          (fun _ _ _ _ _ => pe_and (pe_chain op_le_str op_le_str pe_str (pv 2) pe_str) (pe_one (pe_cmpR op_ne (pe_callB call_ord (by rfl) T.n_ord boot_ord (pa_cons (pv 2) pa_nil)) (pe_glob (by rfl) gS rS) (nomark _))))) pa_nil)))))), ?_⟩
  refine ⟨_, rfl, ?_⟩
  cases hx with
  | non => exact ⟨_, _, _, _, false, rfl, .ty "str", .base .non, kit_ty (by decide +kernel), _, rfl, _, rfl, _, rfl, q _ (Same.refl H)⟩
  | bl b => exact ⟨_, _, _, _, false, rfl, .ty "str", .base (.bl b), kit_ty (by decide +kernel), _, rfl, _, rfl, _, rfl, q _ (Same.refl H)⟩
  | int b => exact ⟨_, _, _, _, false, rfl, .ty "str", .base (.int b), kit_ty (by decide +kernel), _, rfl, _, rfl, _, rfl, q _ (Same.refl H)⟩
  | lst e => exact ⟨_, _, _, _, false, rfl, .ty "str", .base (.lst e), kit_ty (by decide +kernel), _, rfl, _, rfl, _, rfl, q _ (Same.refl H)⟩
  | tup e => exact ⟨_, _, _, _, false, rfl, .ty "str", .base (.tup e), kit_ty (by decide +kernel), _, rfl, _, rfl, _, rfl, q _ (Same.refl H)⟩
  | str z =>
    have hz : z.length ≤ 100000 := hz
    have hl : z.cps.size = z.length := rfl
    refine ⟨_, _, _, _, true, rfl, .ty "str", .base (.str z), kit_ty (by decide +kernel), _, rfl, _, rfl, _, z.length, rfl, ⟨sz hz, rfl⟩, _, _, rfl, rfl, ?_⟩
    by_cases h4 : z.length ≤ 20
    · have ed : decide ((z.length : Int) ≤ 20) = true := decide_eq_true (by omega)
      dsimp only
      rw [ed]
      refine ⟨_, rfl, _, rfl, _, rfl, z, rfl, fun D hD => ?_⟩
      refine lc_adds (walk_str (z := z)) (fun i acc => acc = (List.range i).map fun j => V.bl (txC (z.cps.toList.getD j 0))) hD (by omega) rfl (fun i acc h => by rw [h]; simp) (fun _ _ => trivial) ?_ ?_
      · rintro Tq N i acc y H1 H2 yes no hi s1 p ⟨rfl, c, hc, rfl⟩
        have key : ∀ b : Bool, txC c = b → Tq (.bl b) H2 := fun b eb => by
          refine yes _ _ (Same.refl _) ?_
          rw [p, List.range_succ, List.map_append]
          show _ = _ ++ [V.bl (txC (z.cps.toList.getD i 0))]
          rw [sign_at hc, eb]
        refine ⟨rfl, _, rfl, _, _, rfl, rfl, _, rfl, itb (fun e1 => ⟨_, _, rfl, rfl, _, rfl, itb (fun e2 => ⟨_, rfl, _, rfl, rfl, rfl, key _ ?_⟩) fun e2 => key _ ?_⟩) fun e1 => ⟨_, rfl, key _ ?_⟩⟩
        · have e1 : (!decide (([c] : List Nat) < blankS.cps.toList)) = true := e1
          have e2 : (!decide (tildeS.cps.toList < ([c] : List Nat))) = true := e2
          unfold txC
          rw [e1, e2]
          show decide (c ≠ 37) = !decide (V.int ((c : Nat) : Int) = V.int 37)
          by_cases h : c = 37
          · subst h
            rfl
          · rw [decide_eq_true h, decide_eq_false (show ¬ V.int ((c : Nat) : Int) = V.int 37 from fun z => h (by have := V.int.inj z; omega))]
            rfl
        · have e1 : (!decide (([c] : List Nat) < blankS.cps.toList)) = true := e1
          have e2 : (!decide (tildeS.cps.toList < ([c] : List Nat))) = false := e2
          unfold txC
          rw [e1, e2]
          rfl
        · have e1 : (!decide (([c] : List Nat) < blankS.cps.toList)) = false := e1
          unfold txC
          rw [e1]
          rfl
      · rintro acc H1 s1 hDa rfl
        refine ⟨D, z.cps.toList.map txC, rfl, sqL (by rw [hDa, ← range_all (f := txC) z.cps.toList z.cps.size (by simp), List.map_map]; rfl), ?_⟩
        have e : isTx (.str z) = (z.cps.toList.map txC).all id := by
          show textOk z = _
          unfold textOk
          rw [decide_eq_true h4, List.all_map]
          rfl
        rw [← e]
        exact q _ s1
    · have ed : decide ((z.length : Int) ≤ 20) = false := decide_eq_false (by omega)
      dsimp only
      rw [ed]
      have e : isTx (.str z) = false := by
        show textOk z = _
        unfold textOk
        rw [decide_eq_false h4]
        rfl
      rw [e] at q
      exact ⟨_, rfl, _, rfl, q _ (Same.refl H)⟩
theorem k_need_text (T : Txt K mg) : Kal P w K mg base (NX P w) 2 "need_text" (spNeedBl isTx "BadText" K) := by
  refine kal_of T.f_need_text T.g_need_text sc_need_text (fun _ _ _ _ _ _ us hl => match us, hl with | [_], _ => rfl) (fun vs H Q E ⟨_, h, _⟩ => by rw [h] <;> rfl) fun cdv A outer s H vs Q E hr ⟨x, e, hx, hz, q1, q2⟩ => ?_
  subst e
  obtain ⟨x1, x2, x3, x4⟩ := He.exc_ok T.e_BadText
  refine ⟨_, pss_one (ps_if (pt_not (pt_val (pe_k (E := E0) (k_is_text T) hr (by decide) pass0 (pa_cons (pv 0) pa_nil))))
      (pss_one (L2N.ps_raise rfl (L2N.takes_of rfl rfl rfl rfl) (L2N.pmk_own PySem.F.excBase_ValueError x1 T.g_BadText x2 (raises_own x3 x4) (by rfl)))) pss_nil), ?_⟩
  refine ⟨_, rfl, x, rfl, hx, hz, fun H1 s1 => ⟨_, rfl, ?_⟩⟩
  cases e : isTx x with
  | true => exact q1 e H1 s1
  | false => exact q2 e H1 s1
end
end T
end
section
namespace T
open PySem PySem.Spec PyProof.Rows L2 Tr
/-! ### marks -/
abbrev figS : Str := "0123456789"
def fgC (c : Nat) : Bool := decide (c ∈ figS.cps.toList)
def markL (l : List Nat) : Bool := match l with
  | c0 :: c1 :: r => decide (l.length ≤ 5) && (decide (c0 = 109) && ((c1 :: r).all fgC && decide (c1 ≠ 48)))
  | _ => false
def markOk (z : Str) : Bool := markL z.cps.toList
def isMk : V → Bool
  | .str s => markOk s
  | _ => false
theorem one_sign {c d : Nat} {x : Str} (hx : x = ⟨#[d]⟩) : decide (V.str ⟨#[c]⟩ = V.str x) = decide (c = d) := by
  subst hx
  by_cases h : c = d
  · subst h
    rw [decide_eq_true rfl, decide_eq_true rfl]
  · rw [decide_eq_false h, decide_eq_false fun z => h ?_]
    have e := congrArg Str.cps (V.str.inj z)
    simpa using e
theorem cutS1 {z : Str} (h : 1 ≤ z.length) : (cutS z (some 1) none).cps.toList = z.cps.toList.drop 1 := by
  unfold cutS
  rw [HT.sIx_none]
  have e : HT.sIx z.length 0 (some ((1 : Nat) : Int)) = 1 := by rw [HT.sIx_nat, Nat.min_eq_left h]
  have e' : HT.sIx z.length 0 (some (1 : Int)) = 1 := e
  rw [e']
  show (List.take (z.length - 1) (z.cps.toList.drop 1)).toArray.toList = _
  rw [List.take_of_length_le (by rw [List.length_drop]; exact Nat.le_refl _)]
section
variable {P : Program} {w : World} {K : PySem.W.Frag} {mg : Str → Option Value} {base : Heap}
theorem k_need_mark (T : Txt K mg) : Kal P w K mg base (NX P w) 1 "need_mark" (spNeedBl isMk "BadText" K) := by
  refine kal_of T.f_need_mark T.g_need_mark sc_need_mark (fun _ _ _ _ _ _ us hl => match us, hl with | [_], _ => rfl) (fun vs H Q E ⟨_, h, _⟩ => by rw [h] <;> rfl) fun cdv A outer s H vs Q E hr ⟨x, e, hx, hz, q1, q2⟩ => ?_
  subst e
  obtain ⟨x1, x2, x3, x4⟩ := He.exc_ok T.e_BadText
  obtain ⟨uS, gS, rS⟩ := T.i_FIGURES
  have nd := sc_need_mark.nd
  refine ⟨_, pss_cons (ps_set (i := 1) nd rfl (Or.inl rfl) (pe_and (b_isi T.n_isinstance (pa_cons (pv 0) (pa_cons (pe_bltn (v := .ty "str") (by rfl) T.n_str (by decide +kernel) rfl) pa_nil)))
      (pe_and (pe_chain op_le op_le pe_int (b_len T.n_len (pa_cons (pv 0) pa_nil)) pe_int) (pe_one (pe_cmpR op_eq (pe_ix ix_str (pv 0) pe_int (fun _ _ => rfl)) pe_str (nomark _))))))
    (pss_one (ps_if (PW.pt (pw_or (pt_not (pt_val (pv 1))) (pw_or (pt_not (pt_val (b_all rfl T.n_all (pa_cons
        (pe_lc (own := [("sign", 2)]) (g := gName 2) (tt := tYes) rfl nd (pi_str (pe_slice sl_str (pv 0) (po_some pe_int) po_none)) (blkOk_by (N := ["mark", "good", "sign"]) (sc := defScope s_need_mark) (by decide +kernel))
          (fun _ _ _ _ _ => pg_name (i := 2) nd rfl (Or.inl rfl)) (fun _ _ _ _ _ => pts_nil) (fun _ _ _ _ _ => pe_cmpR op_in_sign (pv 2) (pe_glob (by rfl) gS rS) rfl)) pa_nil))))
        (pw_or1 (pt_cmpR op_eq (pe_ix ix_str (pv 0) pe_int (fun _ _ => rfl)) pe_str (nomark _))))))
      (pss_one (L2N.ps_raise rfl (L2N.takes_of rfl rfl rfl rfl) (L2N.pmk_own PySem.F.excBase_ValueError x1 T.g_BadText x2 (raises_own x3 x4) (by rfl)))) pss_nil)), ?_⟩
  refine ⟨_, rfl, ?_⟩
  cases hx with
  | non => exact ⟨_, _, _, _, false, rfl, .ty "str", .base .non, kit_ty (by decide +kernel), _, rfl, _, rfl, _, rfl, q2 rfl _ (Same.refl H)⟩
  | bl b => exact ⟨_, _, _, _, false, rfl, .ty "str", .base (.bl b), kit_ty (by decide +kernel), _, rfl, _, rfl, _, rfl, q2 rfl _ (Same.refl H)⟩
  | int b => exact ⟨_, _, _, _, false, rfl, .ty "str", .base (.int b), kit_ty (by decide +kernel), _, rfl, _, rfl, _, rfl, q2 rfl _ (Same.refl H)⟩
  | lst e => exact ⟨_, _, _, _, false, rfl, .ty "str", .base (.lst e), kit_ty (by decide +kernel), _, rfl, _, rfl, _, rfl, q2 rfl _ (Same.refl H)⟩
  | tup e => exact ⟨_, _, _, _, false, rfl, .ty "str", .base (.tup e), kit_ty (by decide +kernel), _, rfl, _, rfl, _, rfl, q2 rfl _ (Same.refl H)⟩
  | str z =>
    have hz : z.length ≤ 100000 := hz
    have hzl : z.cps.toList.length = z.length := rfl
    refine ⟨_, _, _, _, true, rfl, .ty "str", .base (.str z), kit_ty (by decide +kernel), _, rfl, _, rfl, _, z.length, rfl, ⟨sz hz, rfl⟩, _, _, rfl, rfl, ?_⟩
    by_cases h2 : 2 ≤ z.length
    · refine ⟨true, congrArg V.bl (decide_eq_true (by omega)), _, _, rfl, rfl, _, rfl, ?_⟩
      obtain ⟨c0, c1, r, el⟩ : ∃ c0 c1 r, z.cps.toList = c0 :: c1 :: r := by
        match h : z.cps.toList with
        | [] => rw [h] at hzl; simp at hzl; omega
        | [_] => rw [h] at hzl; simp at hzl; omega
        | a :: b :: r => exact ⟨a, b, r, rfl⟩
      have emk : isMk (.str z) = (decide (z.length ≤ 5) && (decide (c0 = 109) && ((c1 :: r).all fgC && decide (c1 ≠ 48)))) := by
        show markL z.cps.toList = _
        have e2 : z.length = (c0 :: c1 :: r).length := by rw [← hzl, el]
        rw [el, e2]
        rfl
      by_cases h5 : z.length ≤ 5
      · rw [decide_eq_true (show ((z.length : Nat) : Int) ≤ 5 by omega)]
        refine ⟨_, rfl, z, 0, c0, rfl, rfl, sz hz, by rw [el]; exact atI_nat (j := 0) rfl, rfl, ?_⟩
        rw [one_sign (d := 109) (x := "m") (by decide +kernel)]
        by_cases hm : c0 = 109
        · rw [decide_eq_true hm]
          refine ⟨_, rfl, _, rfl, _, rfl, _, rfl, z, rfl, sz hz, _, rfl, fun D hD => ?_⟩
          have ecl : (cutS z (some 1) none).cps.toList = c1 :: r := by rw [cutS1 (by omega), el]; rfl
          have ecz : (cutS z (some 1) none).cps.size = (c1 :: r).length := by rw [← ecl, Array.length_toList]
          have elz : (c1 :: r).length + 1 = z.length := by rw [← hzl, el]; rfl
          refine lc_adds (walk_str (z := cutS z (some 1) none)) (fun i acc => acc = (List.range i).map fun j => V.bl (fgC ((c1 :: r).getD j 0))) hD (by omega) rfl (fun i acc h => by rw [h]; simp) (fun _ _ => trivial) ?_ ?_
          · rintro Tq N i acc y H1 H2 yes no hi s1 p ⟨rfl, c, hc, rfl⟩
            refine ⟨rfl, _, rfl, c, _, rfl, rfl, yes _ _ (Same.refl _) ?_⟩
            rw [p, List.range_succ, List.map_append]
            show _ = _ ++ [V.bl (fgC ((c1 :: r).getD i 0))]
            rw [← ecl, sign_at hc]
            rfl
          · rintro acc H1 s1 hDa rfl
            refine ⟨D, (c1 :: r).map fgC, rfl, sqL (by rw [hDa, ← range_all (f := fgC) (c1 :: r) _ ecz, List.map_map]; rfl), ?_⟩
            have ea : ((c1 :: r).map fgC).all id = (c1 :: r).all fgC := by rw [List.all_map]; rfl
            rw [ea]
            rw [decide_eq_true h5, decide_eq_true hm, Bool.true_and, Bool.true_and] at emk
            refine ⟨_, rfl, ?_⟩
            cases ef : (c1 :: r).all fgC with
            | false =>
              rw [ef] at emk
              exact q2 emk _ s1
            | true =>
              rw [ef, Bool.true_and] at emk
              refine ⟨_, rfl, z, 1, c1, rfl, rfl, sz hz, by rw [el]; exact atI_nat (j := 1) rfl, rfl, ?_⟩
              rw [one_sign (d := 48) (x := "0") (by decide +kernel)]
              by_cases h0 : c1 = 48
              · rw [decide_eq_true h0]
                rw [decide_eq_false (fun z => z h0)] at emk
                exact ⟨_, rfl, q2 emk _ s1⟩
              · rw [decide_eq_false h0]
                rw [decide_eq_true h0] at emk
                exact ⟨_, rfl, q1 emk _ s1⟩
        · rw [decide_eq_false hm]
          refine ⟨_, rfl, _, rfl, q2 ?_ _ (Same.refl H)⟩
          rw [emk, decide_eq_false hm]
          simp
      · rw [decide_eq_false (show ¬ ((z.length : Nat) : Int) ≤ 5 by omega)]
        refine ⟨_, rfl, _, rfl, q2 ?_ _ (Same.refl H)⟩
        rw [emk, decide_eq_false h5]
        rfl
    · refine ⟨false, congrArg V.bl (decide_eq_false (by omega)), _, rfl, _, rfl, _, rfl, q2 ?_ _ (Same.refl H)⟩
      show markL z.cps.toList = false
      match h : z.cps.toList with
      | [] => rfl
      | [_] => rfl
      | a :: b :: r => rw [h] at hzl; simp at hzl; omega
end
end T
end
section
namespace T
open PySem PySem.Spec PyProof.Rows L2 Tr
/-! ### rows by keys -/
/-- a dict's entries: texts to lists of texts -/
inductive RowsR (H : Hp) (av : Addr) : List (Key × V) → List (Str × List Str) → Prop
  | nil : RowsR H av [] []
  | cons {l : Addr} {k : Str} {ts : List Str} {kvs : List (Key × V)} {rows : List (Str × List Str)} (h : H l = some (.lst (ts.map V.str))) (n : l ≠ av) (r : RowsR H av kvs rows) : RowsR H av ((.inr k, .ref l) :: kvs) ((k, ts) :: rows)
def lookR (rows : List (Str × List Str)) (k : Str) : Option (List Str) := (rows.find? fun kv => decide (kv.1 = k)).map (·.2)
def putR (rows : List (Str × List Str)) (k : Str) (ts : List Str) : List (Str × List Str) :=
  if (rows.any fun kv => decide (kv.1 = k)) = true then rows.map (fun kv => if kv.1 = k then (kv.1, ts) else kv) else rows ++ [(k, ts)]
def getR (rows : List (Str × List Str)) (k : Str) : List Str := (lookR rows k).getD []
theorem RowsR.ext {H H' : Hp} {av : Addr} (e : ∀ l xs, l ≠ av → H l = some (.lst xs) → H' l = some (.lst xs)) : ∀ {kvs : List (Key × V)} {rows : List (Str × List Str)}, RowsR H av kvs rows → RowsR H' av kvs rows
  | _, _, .nil => .nil
  | _, _, .cons h n r => .cons (e _ _ n h) n (r.ext e)
theorem RowsR.keys {H : Hp} {av : Addr} : ∀ {kvs : List (Key × V)} {rows : List (Str × List Str)}, RowsR H av kvs rows → kvs.map (·.1) = (rows.map (·.1)).map Sum.inr
  | _, _, .nil => rfl
  | _, _, .cons h _ r => by simp [r.keys]
theorem RowsR.len {H : Hp} {av : Addr} {kvs : List (Key × V)} {rows : List (Str × List Str)} (r : RowsR H av kvs rows) : kvs.length = rows.length := by
  have e := congrArg List.length r.keys
  simpa using e
theorem RowsR.get {H : Hp} {av : Addr} (k : Str) : ∀ {kvs : List (Key × V)} {rows : List (Str × List Str)}, RowsR H av kvs rows →
    (valV kvs (.inr k) = none ∧ lookR rows k = none) ∨ ∃ l ts, valV kvs (.inr k) = some (.ref l) ∧ lookR rows k = some ts ∧ H l = some (.lst (ts.map V.str))
  | _, _, .nil => .inl ⟨rfl, rfl⟩
  | _, _, .cons (l := l) (k := k') (ts := ts) h _ r => by
    by_cases e : k' = k
    · subst e
      exact .inr ⟨l, ts, valV_pos rfl, by simp [lookR], h⟩
    · rcases r.get k with ⟨a, b⟩ | ⟨l', ts', a, b, c⟩
      · exact .inl ⟨by rw [valV_neg (fun z => e (Sum.inr.inj z))]; exact a, by simpa [lookR, List.find?_cons, e] using b⟩
      · exact .inr ⟨l', ts', by rw [valV_neg (fun z => e (Sum.inr.inj z))]; exact a, by simpa [lookR, List.find?_cons, e] using b, c⟩
theorem RowsR.any {H : Hp} {av : Addr} (k : Str) : ∀ {kvs : List (Key × V)} {rows : List (Str × List Str)}, RowsR H av kvs rows → (kvs.any fun kv => decide (kv.1 = Sum.inr k)) = rows.any fun kv => decide (kv.1 = k)
  | _, _, .nil => rfl
  | _, _, .cons (k := k') h _ r => by
    simp only [List.any_cons, r.any k]
    congr 1
    by_cases e : k' = k
    · rw [e]
      simp
    · rw [decide_eq_false e, decide_eq_false fun z => e (Sum.inr.inj z)]
theorem RowsR.put {H : Hp} {av : Addr} {k : Str} {l : Addr} {ts : List Str} (h : H l = some (.lst (ts.map V.str))) (hn : l ≠ av) {kvs : List (Key × V)} {rows : List (Str × List Str)} (r : RowsR H av kvs rows) : RowsR H av (putK kvs (.inr k) (.ref l)) (putR rows k ts) := by
  have mp : ∀ {kvs : List (Key × V)} {rows : List (Str × List Str)}, RowsR H av kvs rows → RowsR H av (kvs.map fun kv => if kv.1 = Sum.inr k then (kv.1, V.ref l) else kv) (rows.map fun kv => if kv.1 = k then (kv.1, ts) else kv) := by
    intro kvs rows r
    induction r with
    | nil => exact .nil
    | @cons l' k' ts' kvs rows h' n' r ih =>
      by_cases e : k' = k
      · subst e
        simp only [List.map_cons, if_true]
        exact .cons h hn ih
      · have e' : ¬ ((Sum.inr k' : Key) = Sum.inr k) := fun z => e (Sum.inr.inj z)
        simp only [List.map_cons, if_neg e, if_neg e']
        exact .cons h' n' ih
  have ap : ∀ {kvs : List (Key × V)} {rows : List (Str × List Str)}, RowsR H av kvs rows → RowsR H av (kvs ++ [(Sum.inr k, V.ref l)]) (rows ++ [(k, ts)]) := by
    intro kvs rows r
    induction r with
    | nil => exact .cons h hn .nil
    | cons h' n' r ih => exact .cons h' n' ih
  unfold putK putR
  rw [r.any k]
  split
  · exact mp r
  · exact ap r
theorem putR_len (rows : List (Str × List Str)) (k : Str) (ts : List Str) : (putR rows k ts).length ≤ rows.length + 1 := by
  unfold putR
  split <;> simp
/-! ### the taker -/
structure TkR (K : PySem.W.Frag) (H : Hp) (p dm dr av : Addr) (marks : List Str) (rows : List (Str × List Str)) : Prop where
  ins : ∃ dx, H p = some (.ins (He.ga K "Taker") dx [("marks", .ref dm), ("rows", .ref dr)])
  m : H dm = some (.dK (marks.map fun m => (Sum.inr m, V.bl true)))
  r : ∃ kvs, H dr = some (.dK kvs) ∧ RowsR H av kvs rows
  ne : dm ≠ dr
theorem val_marks (marks : List Str) (m : Str) : valV (marks.map fun m => ((Sum.inr m : Key), V.bl true)) (.inr m) = if m ∈ marks then some (.bl true) else none := by
  induction marks with
  | nil => rfl
  | cons a l ih =>
    by_cases e : a = m
    · subst e
      rw [List.map_cons, valV_pos rfl, if_pos List.mem_cons_self]
    · rw [List.map_cons, valV_neg (fun z => e (Sum.inr.inj z)), ih]
      by_cases h : m ∈ l
      · rw [if_pos h, if_pos (List.mem_cons_of_mem _ h)]
      · rw [if_neg h, if_neg fun z => by
          rcases List.mem_cons.mp z with z | z
          · exact e z.symm
          · exact h z]
theorem put_marks {marks : List Str} {m : Str} (h : m ∉ marks) : putK (marks.map fun m => ((Sum.inr m : Key), V.bl true)) (.inr m) (.bl true) = (marks ++ [m]).map fun m => ((Sum.inr m : Key), V.bl true) := by
  unfold putK
  rw [if_neg, List.map_append]
  · rfl
  · rw [valV_any, val_marks, if_neg h]
    simp
/-- all but two objects stay -/
def Fr2 (a b : Addr) (H H' : Hp) : Prop := ∀ c o, H c = some o → c ≠ a → c ≠ b → H' c = some o
theorem Fr2.of {a b : Addr} {H H' : Hp} (s : Same H H') : Fr2 a b H H' := fun c o h _ _ => s c o h
theorem Fr2.same {a b : Addr} {H H1 H2 : Hp} (f : Fr2 a b H H1) (s : Same H1 H2) : Fr2 a b H H2 := fun c o h n1 n2 => s c o (f c o h n1 n2)
theorem Fr2.upd1 {a b : Addr} {H H' : Hp} {o : HO} (f : Fr2 a b H H') : Fr2 a b H (upd H' a o) := fun c u h n1 n2 => by
  rw [upd_ne n1]
  exact f c u h n1 n2
theorem Fr2.upd2 {a b : Addr} {H H' : Hp} {o : HO} (f : Fr2 a b H H') : Fr2 a b H (upd H' b o) := fun c u h n1 n2 => by
  rw [upd_ne n2]
  exact f c u h n1 n2
section
variable {P : Program} {w : World} {K : PySem.W.Frag} {mg : Str → Option Value} {base : Heap}
theorem TkR.same {H H' : Hp} {p dm dr av : Addr} {marks : List Str} {rows : List (Str × List Str)} (t : TkR K H p dm dr av marks rows) (e : LamX.ExtN H H') : TkR K H' p dm dr av marks rows := by
  obtain ⟨dx, h⟩ := t.ins
  obtain ⟨kvs, h2, r⟩ := t.r
  exact ⟨⟨dx, e _ _ h (fun _ z => by cases z)⟩, e _ _ t.m (fun _ z => by cases z), ⟨kvs, e _ _ h2 (fun _ z => by cases z), r.ext fun l xs _ q => e _ _ q (fun _ z => by cases z)⟩, t.ne⟩
def spTInit (K : PySem.W.Frag) : Sp := fun vs H Q _ => ∃ (p dx : Addr), vs = [.ref p] ∧ H p = some (.ins (He.ga K "Taker") dx []) ∧ ∀ H' dm dr, H dm = none → H dr = none → Fr2 p p H H' → (∀ av, TkR K H' p dm dr av [] []) → Q .non H'
theorem n_Taker (T : Txt K mg) : Nal P w K mg base CX0 1 "Taker" (He.ga K "Taker") (spTInit K) := by
  refine nal_of T.f_TakerX_initX T.k_Taker T.g_Taker sc_TakerX_initX (fun _ _ _ _ _ _ us hl => match us, hl with | [_], _ => rfl) (fun vs H Q E ⟨_, _, h, _⟩ => by rw [h] <;> rfl) fun cdv A outer s H vs Q E hr ⟨p, dx, e, hp, q⟩ => ?_
  subst e
  refine ⟨_, pss_cons (ps_fld (pv 0) pe_dnewK rfl) (pss_one (ps_fld (pv 0) pe_dnewK rfl)), ?_⟩
  refine r_seq (fun dm hm => ?_)
  have hpm : p ≠ dm := ne_of_none hp hm
  refine ⟨_, rfl, p, _, dx, _, rfl, (same_new hm) _ _ hp, T.c_Taker, T.a_Taker_marks, by decide, ?_⟩
  refine fun dr hr2 => ?_
  have hm2 := hr2
  have npr : dr ≠ p := fun z => by
    rw [z, upd_same] at hr2
    cases hr2
  rw [upd_ne npr] at hr2
  have nmr : dr ≠ dm := fun z => by
    rw [z, upd_same] at hr2
    cases hr2
  rw [upd_ne nmr] at hr2
  refine ⟨_, rfl, p, _, dx, _, rfl, by rw [upd_ne npr.symm]; exact upd_same, T.c_Taker, T.a_Taker_rows, by show 1 < 1000; decide, ?_⟩
  refine q _ dm dr hm hr2 (fun c o h n1 _ => ?_) (fun av => ⟨⟨dx, upd_same⟩, ?_, ⟨[], ?_, .nil⟩, nmr.symm⟩)
  · rw [upd_ne n1, upd_ne (ne_of_none h hr2), upd_ne n1, upd_ne (ne_of_none h hm)]
    exact h
  · rw [upd_ne hpm.symm, upd_ne nmr.symm, upd_ne hpm.symm]
    exact upd_same
  · rw [upd_ne npr]
    exact upd_same
/-- take: refused, there already, or taken -/
def spTake (K : PySem.W.Frag) : Sp := fun vs H Q E => ∃ (p dm dr av : Addr) (marks : List Str) (rows : List (Str × List Str)) (x y z : V), vs = [.ref p, x, y, z] ∧ TkR K H p dm dr av marks rows ∧ (∃ o, H av = some o) ∧ Thing K H x ∧ Thing K H y ∧ Thing K H z ∧ Short x ∧ Short y ∧ Short z ∧
  marks.length ≤ 1000 ∧ rows.length ≤ 1000 ∧ (∀ k, (getR rows k).length ≤ 1000) ∧
  (isMk x = false → ∀ H', Same H H' → E (.ref (He.ga K "BadText")) none H') ∧ (isMk x = true → isNm y = false → ∀ H', Same H H' → E (.ref (He.ga K "BadName")) none H') ∧
  (isMk x = true → isNm y = true → isTx z = false → ∀ H', Same H H' → E (.ref (He.ga K "BadText")) none H') ∧
  (∀ a b c, x = .str a → y = .str b → z = .str c → markOk a = true → nameOk b = true → textOk c = true → ∀ (t : Bool) (H' : Hp) (m' : List Str) (r' : List (Str × List Str)),
    ((t = false ∧ a ∈ marks ∧ m' = marks ∧ r' = rows) ∨ (t = true ∧ a ∉ marks ∧ m' = marks ++ [a] ∧ r' = putR rows b (getR rows b ++ [c]))) → Fr2 dm dr H H' → TkR K H' p dm dr av m' r' → Q (.bl t) H')
theorem m_take (T : Txt K mg) : Mal P w K mg base (NX P w) 3 (He.ga K "Taker") "take" (spTake K) := by
  refine mal_of T.f_Taker_take T.c_Taker T.m_Taker_take sc_Taker_take (fun _ _ _ _ _ _ us hl => match us, hl with | [_, _, _, _], _ => rfl) (fun vs H Q E ⟨_, _, _, _, _, _, _, _, _, h, _⟩ => by rw [h] <;> rfl) fun cdv A outer s H vs Q E hr ⟨p, dm, dr, av, marks, rows, x, y, z, e, tk, ⟨ao, hao⟩, tx, ty, tz, sx, sy, szz, lm, lr, lk, q1, q2, q3, q4⟩ => ?_
  subst e
  have hu := hu_of hr
  have ps := (L2N.passes_call (X := cxOf (NX P w) P w K mg base ["self", "mark", "key", "text"] "Taker.take" (defScope s_Taker_take) (He.ma K (He.ga K "Taker") "take") cdv A outer s H E) (L2N.takes_of rfl rfl rfl rfl) (E := E) fun _ _ _ _ h => h)
  refine ⟨_, pss_cons (ps_expr (pe_k (E := E) (k_need_mark T) hr (by decide) ps (pa_cons (pv 1) pa_nil)))
    (pss_cons (ps_expr (pe_k (E := E) (k_need_name T) hr (by decide) ps (pa_cons (pv 2) pa_nil)))
    (pss_cons (ps_expr (pe_k (E := E) (k_need_text T) hr (by decide) ps (pa_cons (pv 3) pa_nil)))
    (pss_cons (ps_if (pt_cmp (pc_din hu (pv 1) (pe_fld (pv 0) rfl))) (pss_one (ps_ret pe_bl)) pss_nil)
    (pss_cons (ps_dput hu (pe_fld (pv 0) rfl) (pv 1) pe_bl rfl)
    (pss_cons (ps_dput hu (pe_fld (pv 0) rfl) (pv 2) (pe_op op_cat (pe_dget2 hu (pe_fld (pv 0) rfl) (pv 2) (pe_lst pa_nil) ⟨rfl, rfl, rfl, rfl⟩) (pe_lst (pa_cons (pv 3) pa_nil))) rfl)
    (pss_one (ps_ret pe_bl))))))), ?_⟩
  refine ⟨_, rfl, x, rfl, tx, sx, fun ek H1 s1 => ?_, fun ek H1 s1 => q1 ek H1 s1⟩
  refine ⟨_, rfl, y, rfl, ty.same s1, sy, fun en H2 s2 => ?_, fun en H2 s2 => q2 ek en H2 (s1.trans s2)⟩
  refine ⟨_, rfl, z, rfl, tz.same (s1.trans s2), szz, fun et H3 s3 => ?_, fun et H3 s3 => q3 ek en et H3 ((s1.trans s2).trans s3)⟩
  obtain ⟨a, rfl⟩ : ∃ a, x = .str a := by
    cases x with
    | str a => exact ⟨a, rfl⟩
    | _ => cases ek
  obtain ⟨b, rfl⟩ : ∃ a, y = .str a := by
    cases y with
    | str a => exact ⟨a, rfl⟩
    | _ => cases en
  obtain ⟨c, rfl⟩ : ∃ a, z = .str a := by
    cases z with
    | str a => exact ⟨a, rfl⟩
    | _ => cases et
  have qq := q4 a b c rfl rfl rfl ek en et
  have ss := (s1.trans s2).trans s3
  have tk3 := tk.same (ext_of ss)
  obtain ⟨dx, hp⟩ := tk3.ins
  obtain ⟨kvs, hd, rr⟩ := tk3.r
  refine ⟨_, rfl, _, rfl, p, _, dx, _, _, rfl, hp, T.c_Taker, T.a_Taker_marks, rfl, dm, _, rfl, DGet.k (k := Sum.inr a) tk3.m, _, rfl, ?_⟩
  rw [val_marks]
  by_cases ha : a ∈ marks
  · rw [if_pos ha]
    exact qq false _ _ _ (.inl ⟨rfl, ha, rfl, rfl⟩) (Fr2.of ss) tk3
  · rw [if_neg ha]
    refine ⟨_, rfl, p, _, dx, _, _, rfl, hp, T.c_Taker, T.a_Taker_marks, rfl, _, rfl, dm, _, rfl, DPut.k (k := Sum.inr a) tk3.m (by rw [List.length_map]; exact small1000 lm), ?_⟩
    rw [put_marks ha]
    have hpd : p ≠ dm := ne_of hp tk3.m (fun z => by cases z)
    have hrd := tk3.ne
    have f4 : Fr2 dm dr H (upd H3 dm (.dK ((marks ++ [a]).map fun m => ((Sum.inr m : Key), V.bl true)))) := (Fr2.of ss).upd1
    have hp4 : upd H3 dm (.dK ((marks ++ [a]).map fun m => ((Sum.inr m : Key), V.bl true))) p = some (.ins (He.ga K "Taker") dx [("marks", .ref dm), ("rows", .ref dr)]) := by rw [upd_ne hpd]; exact hp
    have hd4 : upd H3 dm (.dK ((marks ++ [a]).map fun m => ((Sum.inr m : Key), V.bl true))) dr = some (.dK kvs) := by rw [upd_ne hrd.symm]; exact hd
    have rr4 : RowsR (upd H3 dm (.dK ((marks ++ [a]).map fun m => ((Sum.inr m : Key), V.bl true)))) av kvs rows := rr.ext fun l xs _ q => by rw [upd_ne fun z => by rw [z, tk3.m] at q; cases q]; exact q
    have hav4 : av ≠ dm → upd H3 dm (.dK ((marks ++ [a]).map fun m => ((Sum.inr m : Key), V.bl true))) av = some ao := fun z => by rw [upd_ne z]; exact ss _ _ hao
    have hm4 : upd H3 dm (.dK ((marks ++ [a]).map fun m => ((Sum.inr m : Key), V.bl true))) dm = some (.dK ((marks ++ [a]).map fun m => ((Sum.inr m : Key), V.bl true))) := upd_same
    generalize upd H3 dm (.dK ((marks ++ [a]).map fun m => ((Sum.inr m : Key), V.bl true))) = H4 at f4 hp4 hd4 rr4 hm4 hav4
    refine ⟨_, rfl, p, _, dx, _, _, rfl, hp4, T.c_Taker, T.a_Taker_rows, rfl, dr, rfl, .inl ⟨kvs, .inl hd4⟩, _, rfl, by show 0 ≤ sizeLine; decide, fun l hl => ?_⟩
    have s5 := same_new (o := HO.lst []) hl
    have hl5 : upd H4 l (HO.lst []) l = some (.lst []) := upd_same
    generalize upd H4 l (HO.lst []) = H5 at s5 hl5
    obtain ⟨lv, elv, hlv⟩ : ∃ lv, (valV kvs (Sum.inr b)).getD (.ref l) = .ref lv ∧ H5 lv = some (.lst ((getR rows b).map V.str)) := by
      unfold getR
      rcases rr4.get b with ⟨e1, e2⟩ | ⟨l', ts, e1, e2, e3⟩
      · rw [e1, e2]
        exact ⟨l, rfl, hl5⟩
      · rw [e1, e2]
        exact ⟨l', rfl, s5 _ _ e3⟩
    refine ⟨_, DGet.k (k := Sum.inr b) (s5 _ _ hd4), _, rfl, by show 1 ≤ sizeLine; decide, fun l2 hl2 => ?_⟩
    have s6 := same_new (o := HO.lst [.str c]) hl2
    refine ⟨lv, l2, _, _, elv, rfl, s6 _ _ hlv, upd_same, by rw [List.length_map]; exact sz (by have := lk b; show _ + 1 ≤ 100000; omega), fun l3 hl3 => ?_⟩
    have s7 := same_new (o := HO.lst ((getR rows b).map V.str ++ [.str c])) hl3
    have hl7 : upd (upd H5 l2 (.lst [.str c])) l3 (.lst ((getR rows b).map V.str ++ [.str c])) l3 = some (.lst ((getR rows b ++ [c]).map V.str)) := by rw [upd_same, List.map_append]; rfl
    have s47 := (s5.trans s6).trans s7
    generalize upd (upd H5 l2 (.lst [.str c])) l3 (.lst ((getR rows b).map V.str ++ [.str c])) = H7 at s7 hl7 s47
    refine ⟨_, rfl, p, _, dx, _, _, rfl, s47 _ _ hp4, T.c_Taker, T.a_Taker_rows, rfl, _, rfl, dr, _, rfl, DPut.k (k := Sum.inr b) (s47 _ _ hd4) (by rw [rr4.len]; exact small1000 lr), ?_⟩
    have hpr : p ≠ dr := ne_of hp hd (fun z => by cases z)
    have nav : l3 ≠ av := fun z => by
      rw [z] at hl3
      by_cases zz : av = dm
      · rw [zz] at hl3
        rw [s6 _ _ (s5 _ _ hm4)] at hl3
        cases hl3
      · have q := s6 _ _ (s5 _ _ (hav4 zz))
        rw [hl3] at q
        cases q
    have r7 := RowsR.put (k := b) hl7 nav (rr4.ext fun l xs _ q => s47 _ _ q)
    refine qq true _ _ _ (.inr ⟨rfl, ha, rfl, rfl⟩) (f4.same s47).upd2 ⟨⟨dx, by rw [upd_ne hpr]; exact s47 _ _ hp4⟩, by rw [upd_ne hrd]; exact s47 _ _ hm4, ⟨_, upd_same, r7.ext fun l xs _ q => ?_⟩, hrd⟩
    rw [upd_ne fun z => by rw [z, s47 _ _ hd4] at q; cases q]
    exact q
/-- names: the keys, sorted -/
def spNames (K : PySem.W.Frag) : Sp := fun vs H Q _ => ∃ (p dm dr av : Addr) (marks : List Str) (rows : List (Str × List Str)), vs = [.ref p] ∧ TkR K H p dm dr av marks rows ∧ rows.length < 64 ∧
  ∀ ys q, ys.Perm (rows.map (·.1)) → sortedS ys = true → H q = none → Q (.ref q) (upd H q (.lst (ys.map V.str)))
theorem m_names (T : Txt K mg) : Mal P w K mg base CX0 1 (He.ga K "Taker") "names" (spNames K) := by
  refine mal_of T.f_Taker_names T.c_Taker T.m_Taker_names sc_Taker_names (fun _ _ _ _ _ _ us hl => match us, hl with | [_], _ => rfl) (fun vs H Q E ⟨_, _, _, _, _, _, h, _⟩ => by rw [h] <;> rfl) fun cdv A outer s H vs Q E hr ⟨p, dm, dr, av, marks, rows, e, tk, lr, q⟩ => ?_
  subst e
  obtain ⟨dx, hp⟩ := tk.ins
  obtain ⟨kvs, hd, rr⟩ := tk.r
  refine ⟨_, pss_one (ps_ret (pe_callB (call_sortedD rfl) (by rfl) T.n_sorted (by decide +kernel) (pa_cons (pe_fld (pv 0) rfl) pa_nil))), ?_⟩
  exact ⟨_, rfl, p, _, dx, _, _, rfl, hp, T.c_Taker, T.a_Taker_rows, rfl, dr, kvs, rows.map (·.1), rfl, .inl hd, rr.keys, by rw [List.length_map]; exact lr, fun ys q1 pm so hq => q ys q1 pm so hq⟩
/-- row: a new list of a key's texts -/
def spRow (K : PySem.W.Frag) : Sp := fun vs H Q E => ∃ (p dm dr av : Addr) (marks : List Str) (rows : List (Str × List Str)) (x : V), vs = [.ref p, x] ∧ TkR K H p dm dr av marks rows ∧ Thing K H x ∧ Short x ∧
  (isNm x = false → ∀ H', Same H H' → E (.ref (He.ga K "BadName")) none H') ∧ (∀ a, x = .str a → nameOk a = true → ∀ H' q, Same H H' → H q = none → H' q = some (.lst ((getR rows a).map V.str)) → Q (.ref q) H')
theorem m_row (T : Txt K mg) : Mal P w K mg base (NX P w) 3 (He.ga K "Taker") "row" (spRow K) := by
  refine mal_of T.f_Taker_row T.c_Taker T.m_Taker_row sc_Taker_row (fun _ _ _ _ _ _ us hl => match us, hl with | [_, _], _ => rfl) (fun vs H Q E ⟨_, _, _, _, _, _, _, h, _⟩ => by rw [h] <;> rfl) fun cdv A outer s H vs Q E hr ⟨p, dm, dr, av, marks, rows, x, e, tk, tx, sx, q1, q2⟩ => ?_
  subst e
  have hu := hu_of hr
  refine ⟨_, pss_cons (ps_expr (pe_k (E := E) (k_need_name T) hr (by decide) (L2N.passes_call (L2N.takes_of rfl rfl rfl rfl) fun _ _ _ _ h => h) (pa_cons (pv 1) pa_nil)))
    (pss_one (ps_ret (b_list T.n_list (pa_cons (pe_dget2 hu (pe_fld (pv 0) rfl) (pv 1) (pe_lst pa_nil) ⟨rfl, rfl, rfl, rfl⟩) pa_nil)))), ?_⟩
  refine ⟨_, rfl, x, rfl, tx, sx, fun ek H1 s1 => ?_, fun ek H1 s1 => q1 ek H1 s1⟩
  obtain ⟨a, rfl⟩ : ∃ a, x = .str a := by
    cases x with
    | str a => exact ⟨a, rfl⟩
    | _ => cases ek
  have tk1 := tk.same (ext_of s1)
  obtain ⟨dx, hp⟩ := tk1.ins
  obtain ⟨kvs, hd, rr⟩ := tk1.r
  refine ⟨_, rfl, p, _, dx, _, _, rfl, hp, T.c_Taker, T.a_Taker_rows, rfl, dr, rfl, .inl ⟨kvs, .inl hd⟩, _, rfl, by show 0 ≤ sizeLine; decide, fun l hl => ?_⟩
  have s5 := same_new (o := HO.lst []) hl
  have hl5 : upd H1 l (HO.lst []) l = some (.lst []) := upd_same
  generalize upd H1 l (HO.lst []) = H5 at s5 hl5
  obtain ⟨lv, elv, hlv⟩ : ∃ lv, (valV kvs (Sum.inr a)).getD (.ref l) = .ref lv ∧ H5 lv = some (.lst ((getR rows a).map V.str)) := by
    unfold getR
    rcases rr.get a with ⟨e1, e2⟩ | ⟨l', ts, e1, e2, e3⟩
    · rw [e1, e2]
      exact ⟨l, rfl, hl5⟩
    · rw [e1, e2]
      exact ⟨l', rfl, s5 _ _ e3⟩
  refine ⟨_, DGet.k (k := Sum.inr a) (s5 _ _ hd), lv, _, by rw [← elv], .inl (sqL hlv), fun q3 hq => ?_⟩
  exact q2 a rfl ek _ q3 ((s1.trans s5).trans (same_new hq)) ((s1.trans s5).free hq) upd_same
end
end T
end
section
namespace T
open PySem PySem.Spec PyProof.Rows L2 Tr
/-! ### any name, any text -/
def sg (c : Nat) : Str := ⟨#[c]⟩
theorem join_signs (cs : List Nat) : (Txt.join "" (cs.map sg)).cps.toList = cs := by
  rw [TL.join_eq]
  induction cs with
  | nil => rfl
  | cons a l ih =>
    cases l with
    | nil => rfl
    | cons b l =>
      show (sg a ++ "" ++ Str.join "" ((b :: l).map sg)).cps.toList = _
      rw [Str.cps_append, Array.toList_append, ih, Str.cps_append, Array.toList_append]
      rfl
theorem signs_sum (cs : List Nat) : ((cs.map sg).map (·.length)).sum + (cs.map sg).length * ("" : Str).length = cs.length := by
  have e : ("" : Str).length = 0 := rfl
  rw [e, Nat.mul_zero, Nat.add_zero]
  induction cs with
  | nil => rfl
  | cons a l ih =>
    simp only [List.map_cons, List.sum_cons, List.length_cons, ih]
    have e1 : (sg a).length = 1 := rfl
    omega
abbrev signsS : Str := " !\"#$&'()*+,-./0123456789:;<=>?@ABCDEFGHIJKLMNOPQRSTUVWXYZ[\\]^_`abcdefghijklmnopqrstuvwxyz{|}~"
theorem small_len : smallS.cps.toList.length = 26 := by decide +kernel
theorem signs_len : signsS.cps.toList.length = 94 := by decide +kernel
theorem signs_tx : ∀ c ∈ signsS.cps.toList, txC c = true := by decide +kernel
theorem name_of {cs : List Nat} (h1 : 1 ≤ cs.length) (h4 : cs.length ≤ 4) (h : ∀ c ∈ cs, nmC c = true) : nameOk (Txt.join "" (cs.map sg)) = true := by
  have e := join_signs cs
  have el : (Txt.join "" (cs.map sg)).length = cs.length := by
    show (Txt.join "" (cs.map sg)).cps.size = _
    rw [← Array.length_toList, e]
  unfold nameOk
  rw [el, e, decide_eq_true h1, decide_eq_true h4, List.all_eq_true.mpr h]
  rfl
theorem text_of {cs : List Nat} (h4 : cs.length ≤ 20) (h : ∀ c ∈ cs, txC c = true) : textOk (Txt.join "" (cs.map sg)) = true := by
  have e := join_signs cs
  have el : (Txt.join "" (cs.map sg)).length = cs.length := by
    show (Txt.join "" (cs.map sg)).cps.size = _
    rw [← Array.length_toList, e]
  unfold textOk
  rw [el, e, decide_eq_true h4, List.all_eq_true.mpr h]
  rfl
section
variable {P : Program} {w : World} {K : PySem.W.Frag} {mg : Str → Option Value} {base : Heap}
def spAny (f : Str → Bool) (m : Int) : Sp := fun vs H Q _ => ∃ n : Int, vs = [.int n, .int m] ∧ ∀ (z : Str) (H' : Hp), f z = true → Same H H' → Q (.str z) H'
theorem k_l_any_name (T : Txt K mg) : Kal P w K mg base CX0 2 "_law_any_name" (spAny nameOk 4) := by
  refine kal_of T.f_l_any_name T.g_l_any_name sc_l_any_name (fun _ _ _ _ _ _ us hl => match us, hl with | [_, _], _ => rfl) (fun vs H Q E ⟨_, h, _⟩ => by rw [h] <;> rfl) fun cdv A outer s H vs Q E hr ⟨n, e, q⟩ => ?_
  subst e
  have nd := sc_l_any_name.nd
  refine ⟨_, pss_one (ps_ret (pe_join pe_str (pe_lc (own := [("_law_j", 2)]) (g := gName 2) (tt := tYes) rfl nd (pi_range1 (by rfl) T.n_range (pa_cons (pe_op op_add pe_int (pe_op op_mod (pv 0) (pv 1))) pa_nil))
      (blkOk_by (N := ["_law_more", "_law_most", "_law_j"]) (sc := defScope s_l_any_name) (by decide +kernel)) (fun _ _ _ _ _ => pg_name (i := 2) nd rfl (Or.inl rfl)) (fun _ _ _ _ _ => pts_nil)
      (fun _ _ _ _ _ => pe_ix ix_str pe_str (pe_op op_mod (pe_k (E := E0) (k_l_drawn T) hr (by decide) pass0 (pa_cons (pv 0) (pa_cons (pv 2) pa_nil))) pe_int) (fun _ _ => rfl))))), ?_⟩
  have n0 := Int.emod_nonneg n (show (4 : Int) ≠ 0 by decide)
  have n4 := Int.emod_lt_of_pos n (show (0 : Int) < 4 by decide)
  refine ⟨⟨_, rfl⟩, _, rfl, _, rfl, _, _, rfl, rfl, (by show (0 : Int) < 4; decide), _, _, rfl, rfl, _, rfl, by omega, by omega, fun D hD => ?_⟩
  refine lc_adds (walk_range (lo := 0) (n := (1 + n % 4).toNat)) (fun i acc => ∃ cs : List Nat, acc = (cs.map sg).map V.str ∧ cs.length = i ∧ ∀ c ∈ cs, nmC c = true) hD (by omega) ⟨[], rfl, rfl, fun c hc => by cases hc⟩ (fun i acc ⟨cs, h, l, _⟩ => by rw [h]; simp [l]) (fun _ _ => trivial) ?_ ?_
  · rintro Tq N i acc y H1 H2 yes no hi s1 ⟨cs, rfl, hl, hc⟩ ⟨rfl, rfl⟩
    refine ⟨rfl, _, rfl, _, rfl, n, _, rfl, by omega, by omega, fun d d0 d1 => ?_⟩
    have e0 := Int.emod_nonneg d (show (26 : Int) ≠ 0 by decide)
    have e1 := Int.emod_lt_of_pos d (show (0 : Int) < 26 by decide)
    have hj : (d % 26).toNat < smallS.cps.toList.length := by rw [small_len]; omega
    have ea : atI smallS.cps.toList (d % 26) = some (smallS.cps.toList[(d % 26).toNat]'hj) := by
      have z := atI_nat (List.getElem?_eq_getElem hj)
      rw [Int.toNat_of_nonneg e0] at z
      exact z
    refine ⟨_, _, rfl, rfl, (by show (0 : Int) < 26; decide), smallS, _, _, rfl, rfl, by decide, ea, yes _ _ (Same.refl _) ⟨cs ++ [smallS.cps.toList[(d % 26).toNat]'hj], by simp [sg], by simp [hl], fun c hc' => ?_⟩⟩
    rcases List.mem_append.mp hc' with hc' | hc'
    · exact hc c hc'
    · rw [List.mem_singleton.mp hc']
      exact decide_eq_true (List.getElem_mem hj)
  · rintro acc H1 s1 hDa ⟨cs, rfl, hl, hc⟩
    refine ⟨_, D, cs.map sg, rfl, rfl, .inl (sqL hDa), by rw [signs_sum]; omega, q _ _ (name_of (by omega) (by omega) hc) s1⟩
theorem k_l_any_text (T : Txt K mg) : Kal P w K mg base CX0 2 "_law_any_text" (spAny textOk 20) := by
  refine kal_of T.f_l_any_text T.g_l_any_text sc_l_any_text (fun _ _ _ _ _ _ us hl => match us, hl with | [_, _], _ => rfl) (fun vs H Q E ⟨_, h, _⟩ => by rw [h] <;> rfl) fun cdv A outer s H vs Q E hr ⟨n, e, q⟩ => ?_
  subst e
  have nd := sc_l_any_text.nd
  refine ⟨_, PSs.nox (pss_cons (ps_set (i := 2) nd rfl (Or.inr rfl) pe_str) (pss_one (ps_ret (pe_join pe_str (pe_lc (own := [("_law_j", 3)]) (g := gName 3) (tt := tYes) rfl nd (pi_range1 (by rfl) T.n_range (pa_cons (pe_op op_mod (pv 0) (pe_op op_add (pv 1) pe_int)) pa_nil))
      (blkOk_by (N := ["_law_more", "_law_most", "_law_signs", "_law_j"]) (sc := defScope s_l_any_text) (by decide +kernel)) (fun _ _ _ _ _ => pg_name (i := 3) nd rfl (Or.inl rfl)) (fun _ _ _ _ _ => pts_nil)
      (fun _ _ _ _ _ => pe_ix ix_str (pv 2) (pe_op op_mod (pe_k (E := E0) (k_l_drawn T) hr (by decide) pass0 (pa_cons (pv 0) (pa_cons (pv 3) pa_nil))) pe_int) (fun _ _ => rfl))))))), ?_⟩
  have n0 := Int.emod_nonneg n (show (21 : Int) ≠ 0 by decide)
  have n4 := Int.emod_lt_of_pos n (show (0 : Int) < 21 by decide)
  refine ⟨⟨_, rfl⟩, _, rfl, _, rfl, _, _, rfl, rfl, _, _, rfl, rfl, (by show (0 : Int) < 21; decide), _, rfl, by show -(2 ^ 62) ≤ n % 21; omega, by show n % 21 < 2 ^ 62; omega, fun D hD => ?_⟩
  refine lc_adds (walk_range (lo := 0) (n := (n % 21).toNat)) (fun i acc => ∃ cs : List Nat, acc = (cs.map sg).map V.str ∧ cs.length = i ∧ ∀ c ∈ cs, txC c = true) hD (by omega) ⟨[], rfl, rfl, fun c hc => by cases hc⟩ (fun i acc ⟨cs, h, l, _⟩ => by rw [h]; simp [l]) (fun _ _ => trivial) ?_ ?_
  · rintro Tq N i acc y H1 H2 yes no hi s1 ⟨cs, rfl, hl, hc⟩ ⟨rfl, rfl⟩
    refine ⟨rfl, _, rfl, _, rfl, _, rfl, n, _, rfl, by omega, by omega, fun d d0 d1 => ?_⟩
    have e0 := Int.emod_nonneg d (show (94 : Int) ≠ 0 by decide)
    have e1 := Int.emod_lt_of_pos d (show (0 : Int) < 94 by decide)
    have hj : (d % 94).toNat < signsS.cps.toList.length := by rw [signs_len]; omega
    have ea : atI signsS.cps.toList (d % 94) = some (signsS.cps.toList[(d % 94).toNat]'hj) := by
      have z := atI_nat (List.getElem?_eq_getElem hj)
      rw [Int.toNat_of_nonneg e0] at z
      exact z
    refine ⟨_, _, rfl, rfl, (by show (0 : Int) < 94; decide), signsS, _, _, rfl, rfl, by decide, ea, yes _ _ (Same.refl _) ⟨cs ++ [signsS.cps.toList[(d % 94).toNat]'hj], by simp [sg], by simp [hl], fun c hc' => ?_⟩⟩
    rcases List.mem_append.mp hc' with hc' | hc'
    · exact hc c hc'
    · rw [List.mem_singleton.mp hc']
      exact signs_tx _ (List.getElem_mem hj)
  · rintro acc H1 s1 hDa ⟨cs, rfl, hl, hc⟩
    refine ⟨_, D, cs.map sg, rfl, rfl, .inl (sqL hDa), by rw [signs_sum]; omega, q _ _ (text_of (by omega) hc) s1⟩
end
end T
end
section
namespace T
open PySem PySem.Spec PyProof.Rows L2 Tr
section
variable {P : Program} {w : World} {K : PySem.W.Frag} {mg : Str → Option Value} {base : Heap}
/-! ### the word of a refusal -/
/-- ("refused", d), new -/
def spWord (K : PySem.W.Frag) (cs : List Str) : Addr × Obj → Hp → VK → Prop := fun p H Q => ∃ d, d ∈ cs ∧ Zc (.ref (He.ga K d)) none p.2 ∧ (∃ vs, p.2.data = .fields vs) ∧ Word K cs d ∧
  ∀ (H' : Hp) (t : Addr), Same H H' → H t = none → H' t = some (.tup [.str "refused", .str d]) → Q (.ref t) H'
/-- which of the classes it is, counted -/
theorem word_bits (d : Str) (hd : d ∈ cls) : (cls.map fun c => if decide (d = c) then (1 : Int) else 0).sum = 1 ∧
    ∃ j, cls[j]? = some d ∧ (cls.map fun c => decide (d = c))[j]? = some true ∧ ∀ (m : Nat) (b : Bool), m < j → (cls.map fun c => decide (d = c))[m]? = some b → b = false := by
  have hd' : d = "BadCall" ∨ d = "BadName" ∨ d = "BadRule" ∨ d = "BadText" ∨ d = "BadTime" ∨ d = "Full" := by simpa [cls] using hd
  have nd : ∀ (j m : Nat) (b : Bool), cls[j]? = some d → m < j → (cls.map fun c => decide (d = c))[m]? = some b → b = false := by
    intro j m b h1 h2 h3
    rw [List.getElem?_map] at h3
    have hN : cls.Nodup := by decide +kernel
    have hj := (List.getElem?_eq_some_iff.mp h1).1
    have hm : m < cls.length := by omega
    rw [List.getElem?_eq_getElem hm] at h3
    have e : decide (d = cls[m]) = b := Option.some.inj h3
    rw [← e]
    refine decide_eq_false fun z => ?_
    have e1 : cls[j] = d := Option.some.inj ((List.getElem?_eq_getElem hj).symm.trans h1)
    exact (List.pairwise_iff_getElem.mp hN) m j hm hj h2 (z.symm.trans e1.symm)
  rcases hd' with rfl | rfl | rfl | rfl | rfl | rfl
  · exact ⟨by decide +kernel, 0, rfl, by decide +kernel, fun m b h e => nd 0 m b rfl h e⟩
  · exact ⟨by decide +kernel, 1, rfl, by decide +kernel, fun m b h e => nd 1 m b rfl h e⟩
  · exact ⟨by decide +kernel, 2, rfl, by decide +kernel, fun m b h e => nd 2 m b rfl h e⟩
  · exact ⟨by decide +kernel, 3, rfl, by decide +kernel, fun m b h e => nd 3 m b rfl h e⟩
  · exact ⟨by decide +kernel, 4, rfl, by decide +kernel, fun m b h e => nd 4 m b rfl h e⟩
  · exact ⟨by decide +kernel, 5, rfl, by decide +kernel, fun m b h e => nd 5 m b rfl h e⟩
theorem k_l_word (T : Txt K mg) : ∃ (f : Addr) (fd : FuncData), TrL.WordOk P w K mg base 1 f fd ["_law_e"] (spWord K cls) ∧ mg "_law_word" = some (.ref f) ∧ PySem.W.keepIn K (.ref f) = true ∧ Binds K fd ["_law_e"] [] := by
  obtain ⟨fd, F⟩ := T.f_l_word
  obtain ⟨oc, od, dV, kV, doc, pm, an, cdv, ct, osl, rfl, lk, hcd, _, _⟩ := id F.ex
  refine ⟨_, _, TrL.wordOk lk hcd sc_l_word fun A outer s H Q p hot hr ⟨d, hd, hz, hf, W, q⟩ => ?_, T.g_l_word, F.kp, F.bindsN fun _ _ _ _ _ _ us hl => match us, hl with | [_], _ => rfl⟩
  have nd := sc_l_word.nd
  have mem : (p.1, p.2) ∈ [p] := List.mem_singleton.mpr rfl
  have hc : L2H.HotC (L2H.cxH C8.CX0 P w K mg base ["_law_e", "_law_flags", "_law_flag"] "_law_word" (defScope s_l_word) (He.ga K "_law_word") cdv A outer s H C8.E0 p) := ⟨p, ⟨hot.1, hot.2⟩, List.mem_singleton.mpr rfl⟩
  refine ⟨_, pss_cons (ps_set (i := 1) nd rfl (Or.inl rfl) (pe_lst
      (pa_cons (pe_callB (TrL.callIsP mem W.exc hz hf) (by rfl) T.n_isinstance boot_isinstance (pa_cons (pv 0) (pa_cons (pe_glob (v := .ref (He.ga K "BadCall")) (by rfl) T.g_BadCall rfl) pa_nil)))
      (pa_cons (pe_callB (TrL.callIsP mem W.exc hz hf) (by rfl) T.n_isinstance boot_isinstance (pa_cons (pv 0) (pa_cons (pe_glob (v := .ref (He.ga K "BadName")) (by rfl) T.g_BadName rfl) pa_nil)))
      (pa_cons (pe_callB (TrL.callIsP mem W.exc hz hf) (by rfl) T.n_isinstance boot_isinstance (pa_cons (pv 0) (pa_cons (pe_glob (v := .ref (He.ga K "BadRule")) (by rfl) T.g_BadRule rfl) pa_nil)))
      (pa_cons (pe_callB (TrL.callIsP mem W.exc hz hf) (by rfl) T.n_isinstance boot_isinstance (pa_cons (pv 0) (pa_cons (pe_glob (v := .ref (He.ga K "BadText")) (by rfl) T.g_BadText rfl) pa_nil))) pa_nil))))))
    (pss_cons (ps_set (i := 1) nd rfl (Or.inl rfl) (pe_op op_cat (pv 1) (pe_lst
      (pa_cons (pe_callB (TrL.callIsP mem W.exc hz hf) (by rfl) T.n_isinstance boot_isinstance (pa_cons (pv 0) (pa_cons (pe_glob (v := .ref (He.ga K "BadTime")) (by rfl) T.g_BadTime rfl) pa_nil)))
      (pa_cons (pe_callB (TrL.callIsP mem W.exc hz hf) (by rfl) T.n_isinstance boot_isinstance (pa_cons (pv 0) (pa_cons (pe_glob (v := .ref (He.ga K "Full")) (by rfl) T.g_Full rfl) pa_nil))) pa_nil)))))
    (pss_cons (ps_if (PW.pt (pw_or (pt_cmpR op_ne (pe_callB (TrH.crSumH hc) (by rfl) T.n_sum boot_sum (pa_cons (TrH.peIntsH hc (pv 1) (by exact ⟨rfl, by decide +kernel, by decide +kernel, rfl, rfl⟩) T.n_int) pa_nil)) pe_int (nomark _))
        (pw_or1 (pt_not (pt_val (pe_callB (TrL.callIsP mem W.exc hz hf) (by rfl) T.n_isinstance boot_isinstance (pa_cons (pv 0) (pa_cons (pe_bltn (v := .ty "ValueError") (by rfl) T.n_ValueError (by decide +kernel) rfl) pa_nil))))))))
      (pss_one (ps_ret (pe_tup (pa_cons pe_str (pa_cons pe_str pa_nil))))) pss_nil)
    (pss_one (ps_ret (pe_tup (pa_cons pe_str (pa_cons (pe_ix ix_list (pe_lst (pa_cons pe_str (pa_cons pe_str (pa_cons pe_str (pa_cons pe_str (pa_cons pe_str (pa_cons pe_str pa_nil)))))))
      (pe_bm PySem.F.plainAttrs_list PySem.F.slot_list_index PySem.F.type_list_index mt_index (pv 1) (pa_cons pe_bl pa_nil)) (fun _ _ => rfl)) pa_nil))))))), ?_⟩
  obtain ⟨hs, j, hj, hj2, hj3⟩ := word_bits d hd
  have kit : ∀ c, c ∈ cls → PySem.W.kitOne K (.ref (He.ga K d)) (.ref (He.ga K c)) = some (decide (d = c)) := W.kit
  refine ⟨_, rfl, _, _, _, rfl, (fun _ r => r), kit "BadCall" (by decide +kernel), _, rfl, _, _, _, rfl, (fun _ r => r), kit "BadName" (by decide +kernel), _, rfl, _, _, _, rfl, (fun _ r => r), kit "BadRule" (by decide +kernel), _, rfl, _, _, _, rfl, (fun _ r => r), kit "BadText" (by decide +kernel), by show 4 ≤ sizeLine; decide, fun l1 h1 => ?_⟩
  refine ⟨_, rfl, _, rfl, _, _, _, rfl, (fun _ r => r), kit "BadTime" (by decide +kernel), _, rfl, _, _, _, rfl, (fun _ r => r), kit "Full" (by decide +kernel), by show 2 ≤ sizeLine; decide, fun l2 h2 => ?_⟩
  have n12 : l1 ≠ l2 := ne_of_none upd_same h2
  refine ⟨l1, l2, _, _, rfl, rfl, by rw [upd_ne n12]; exact upd_same, upd_same, by show 4 + 2 ≤ sizeLine; decide, fun l3 h3 => ?_⟩
  generalize hH3 : upd _ l3 _ = H3
  have s3 : Same H H3 := by
    rw [← hH3]
    exact ((same_new h1).trans (same_new h2)).trans (same_new h3)
  have f3 : H3 l3 = some (.lst ((cls.map fun c => decide (d = c)).map V.bl)) := by
    rw [← hH3, upd_same]
    rfl
  refine ⟨_, rfl, l3, cls.map fun c => decide (d = c), rfl, sqL f3, fun l4 h4 => ?_⟩
  generalize hH4 : upd _ l4 _ = H4
  have s4 : Same H3 H4 := by
    rw [← hH4]
    exact same_new h4
  have f4 : H4 l4 = some (.lst ((cls.map fun c => if decide (d = c) then (1 : Int) else 0).map V.int)) := by
    rw [← hH4, upd_same, List.map_map, List.map_map]
    rfl
  refine ⟨l4, cls.map fun c => if decide (d = c) then (1 : Int) else 0, rfl, sqL f4, rfl, ?_⟩
  rw [hs]
  refine ⟨_, rfl, ?_⟩
  refine ⟨_, rfl, _, _, _, rfl, (fun _ r => r), W.val, _, rfl, ?_⟩
  refine ⟨by show 6 ≤ sizeLine; decide, fun l5 h5 => ?_⟩
  generalize hH5 : upd _ l5 _ = H5
  have s5 : Same H4 H5 := by
    rw [← hH5]
    exact same_new h5
  have e3 : SqL K H5 l3 ((cls.map fun c => decide (d = c)).map V.bl) := sqL (s5 _ _ (s4 _ _ f3))
  have e5 : SqL K H5 l5 (cls.map V.str) := by
    rw [← hH5]
    exact sqL upd_same
  refine ⟨_, rfl, .inl ⟨rfl, _, e3⟩, l3, _, .bl true, j, .bl true, rfl, rfl, e3, rfl, by rw [List.all_map]; exact List.all_eq_true.mpr fun _ _ => rfl, by rw [List.getElem?_map, hj2] <;> rfl, rfl, fun m z hm hz => ?_, ?_⟩
  · rw [List.getElem?_map] at hz
    cases e : (cls.map fun c => decide (d = c))[m]? with
    | none =>
      rw [e] at hz
      cases hz
    | some b =>
      rw [e] at hz
      cases hz
      rw [hj3 m b hm e]
      rfl
  · refine ⟨l5, _, _, _, rfl, rfl, e5, atI_nat (v := .str d) (by rw [List.getElem?_map, hj] <;> rfl), by show 2 ≤ sizeLine; decide, fun t ht => ?_⟩
    exact q _ t (((s3.trans s4).trans s5).trans (same_new ht)) (((s3.trans s4).trans s5).free ht) upd_same
end
end T
end
section
namespace T
open PySem PySem.Spec PyProof.Rows L2 Tr LamX
theorem takes0N {X : Cx} : L2N.Takes X (fun _ _ _ _ => False) := fun _ _ x => by
  obtain ⟨_, _, _, _, _, _, _, _, _, _, _, _, _, _, _, _, z⟩ := x
  exact z.elim
/-- what a refusal is turned into -/
def eTold (K : PySem.W.Frag) (cs : List Str) (Q : VK) : XK := fun c d H' => ∃ n, n ∈ cs ∧ c = .ref (He.ga K n) ∧ d = none ∧ Word K cs n ∧ ∀ (H'' : Hp) (t : Addr), Same H' H'' → H' t = none → H'' t = some (.tup [.str "refused", .str n]) → Q (.ref t) H''
def TTell (K : PySem.W.Frag) (cs : List Str) : (XK → Hp → VK → Prop) → Hp → VK → Prop := fun tl H Q => tl (eTold K cs Q) H Q
theorem told_gives {X : Cx} (T : Txt X.K X.mg) {q : Str} {k : Nat} {cdg : Value} : TrL.Gives X ["_law_deed", "_law_e"] "_law_told" (defScope s_l_told) (He.ga X.K "_law_told") cdg (defBody s_l_told) "_law_deed" q k (TTell X.K cls) := by
  intro f c' s H Q tl hr act hc h
  obtain ⟨fw, fdw, Fw, gw, kw, bw⟩ := k_l_word (P := X.prog) (w := X.w) (base := X.base) T
  have nd := sc_l_told.nd
  refine ⟨_, pss_one (L2N.ps_try_as (X := (cxOf C8.CX0 X.prog X.w X.K X.mg X.base ["_law_deed", "_law_e"] "_law_told" (defScope s_l_told) (He.ga X.K "_law_told") cdg X.A X.stack s H C8.E0).nox) (i := 1) (c := .ref (He.ga X.K "TryError"))
      (tb := fun W D σ H => ∃ Ech : XK, (∀ cls d σ' H', Ech cls d H' → W cls d σ' H') ∧ σ[0]? = some (some (.ref f)) ∧ H c' = some (CodeO c' q) ∧ tl Ech H D.rt)
      (ts := fun a c d D σ H => (∃ σ0 : L2.St, σ = σ0.set 1 (some (.ref a))) ∧ eTold X.K cls D.rt c d H) (Wout := fun _ _ _ _ => False)
      rfl rfl nd rfl rfl ⟨rfl, by decide, .inl T.g_TryError⟩ takes0N (fun W pn xe tk _ => ?_) (fun a oe c d pn hz hf => ?_)), ?_⟩
  · refine ⟨fun pins s' σ H' D I ⟨Ech, hW, h1, h2, h3⟩ => ?_⟩
    exact (pss_one (ps_ret (act W pn xe Ech _ _ tk hW))).run pins s' σ H' D I ⟨h1, h2, h3⟩
  · obtain ⟨vs, hv⟩ := id hf
    have hot : L2H.Hot1 (((cxOf C8.CX0 X.prog X.w X.K X.mg X.base ["_law_deed", "_law_e"] "_law_told" (defScope s_l_told) (He.ga X.K "_law_told") cdg X.A X.stack s H C8.E0).nox).suite a ((a, oe) :: pn)).A (a, oe) := ⟨rfl, vs, hv, hz.2.2 vs hv⟩
    refine ⟨fun pins s' σ H' D I ⟨⟨σ0, h1⟩, n, hn, hc, hd, W, k'⟩ => ?_⟩
    subst hc hd
    have hr1 := hr.mono (Nat.succ_le_succ (Nat.zero_le k))
    have slot : σ[1]? = some (some (.ref a)) := by
      have l : σ.length = 2 := I.len
      rw [h1, List.length_set] at l
      rw [h1, List.getElem?_set_self (by omega)]
    exact (pss_one (ps_ret (TrL.peWord (X := ((cxOf C8.CX0 X.prog X.w X.K X.mg X.base ["_law_deed", "_law_e"] "_law_told" (defScope s_l_told) (He.ga X.K "_law_told") cdg X.A X.stack s H C8.E0).nox).suite a ((a, oe) :: pn)) (p0 := (a, oe)) (i := 1) (n := "_law_e") (x := "_law_word")
      Fw ⟨hr1.dp, hr1.un⟩ hot List.mem_cons_self rfl gw kw bw (pv 1)))).run pins s' σ H' D I ⟨slot, n, hn, hz.zc, hf, W, k'⟩
  · refine ⟨eTold X.K cls Q, fun c d σ' H' ⟨n, hn, hc, hd, W, k'⟩ => ?_, rfl, hc, h⟩
    exact ⟨true, by rw [hc]; exact W.exm, fun _ a ha => ⟨⟨σ', rfl⟩, n, hn, hc, hd, W, k'⟩, fun z => Bool.noConfusion z⟩
/-- _law_told(lambda: body), the body's names captured -/
def tTold (K : PySem.W.Frag) (Tb : List (Addr × Str)) (t : XK → TE) : TE := fun σ H Q => Tabs Tb H ∧ ∀ H1, ExtN H H1 → Tabs Tb H1 → t (eTold K cls Q) σ H1 Q
theorem pe_told {X : Cx} (tx : Txt X.K X.mg) {Tb : List (Addr × Str)} {c Pt : Addr} {k : Nat} {params : Arguments} {body : Expr} {scope : Scope} {t : XK → TE} {p lpos pos : Pos} (TB : TabB X.base X.mg c Pt) (hcode : X.env.code = .ref c) (hmT : (Pt, X.env.qual ++ "<lambda>") ∈ Tb)
    (hu : ∀ p ∈ Tb, p.1 = Pt → p.2 = X.env.qual ++ "<lambda>") (hr : Room (k + 2) X.A)
    (hbody : ∀ (A : Around) (outer : List Env) (s : Shared) (H : Hp) (E : XK) (f c' : Addr), Room k (A.deeper (lamEnv X scope s.heap.objs.size f c')) → PE (TrL.lamC X A outer s H E scope f c') body (t E))
    (hg : Gl X "_law_told" := by rfl) (L : LamS X.env.scope scope := by exact lamS_by (by rfl)) (hdef : defaultsOf params X.env = ([], []) := by rfl)
    (hbind : ∀ (q : Str) (cl : List (Str × Addr)) (pm cv ctv : Value), bindArgs (PySem.W.kla_fn "<lambda>" q params body scope cl pm cv ctv) ⟨[], []⟩ = pure [] := by intros; rfl) :
    PE X (.Call (.Name "_law_told" p) [.Lambda params body scope lpos] [] pos) (tTold X.K Tb t) := by
  obtain ⟨fd, F⟩ := tx.f_l_told
  obtain ⟨oc, od, dV, kV, doc, pm, an, cdv, ct, osl, rfl, lk, hcd, _, _⟩ := id F.ex
  refine pe_imp (TrL.lamcallN (k := k) (Ng := ["_law_deed", "_law_e"]) (a := "_law_deed") hg tx.g_l_told F.kp lk hcd (F.bindsN fun _ _ _ _ _ _ us hl => match us, hl with | [_], _ => rfl) sc_l_told rfl (.inl rfl) (told_gives tx) TB hcode hmT hu hr L hdef hbind hbody) fun σ H Q q => q
end T
end
section
namespace T
open PySem PySem.Spec PyProof.Rows L2 Tr
theorem T_word {K : PySem.W.Frag} {mg : Str → Option Value} (T : Txt K mg) {d : Str} (hd : d ∈ cls) : Word K cls d := word_of (He.ba T.m).1 hd
end T
end
section
namespace T
open PySem PySem.Spec PyProof.Rows L2 Tr LamX
/-! ### the law's names, texts, marks -/
theorem lay_of {s : Str} (h : ∀ c ∈ s.cps.toList, c < 128) : sOk s := by
  show s.cps.all (fun c => decide (c < 0x110000)) = true
  refine Array.all_eq_true.mpr fun i hi => ?_
  have q := h s.cps[i] (by rw [Array.mem_toList_iff]; exact Array.getElem_mem hi)
  have q2 : s.cps[i] < 1114112 := by omega
  simpa using q2
theorem name_all {s : Str} (h : nameOk s = true) : ∀ c ∈ s.cps.toList, nmC c = true := by
  unfold nameOk at h
  simp only [Bool.and_eq_true] at h
  exact List.all_eq_true.mp h.2.2
theorem name_lay {s : Str} (h : nameOk s = true) : sOk s := lay_of fun c hc => by
  have e := of_decide_eq_true (name_all h c hc)
  have q : ∀ d ∈ smallS.cps.toList, d < 128 := by decide +kernel
  exact q c e
theorem text_lay {s : Str} (h : textOk s = true) : sOk s := lay_of fun c hc => by
  unfold textOk at h
  simp only [Bool.and_eq_true] at h
  have e := List.all_eq_true.mp h.2 c hc
  unfold txC at e
  simp only [Bool.and_eq_true] at e
  have e2 : ¬ (tildeS.cps.toList < ([c] : List Nat)) := fun z => by
    rw [decide_eq_true z] at e
    exact absurd e.2.1 (by decide)
  have e3 : tildeS.cps.toList = [126] := by decide +kernel
  rw [e3] at e2
  by_cases hh : c < 128
  · exact hh
  · exact absurd (List.Lex.rel (show 126 < c by omega)) e2
theorem name_short {s : Str} (h : nameOk s = true) : s.length ≤ 100000 := by
  unfold nameOk at h
  simp only [Bool.and_eq_true, decide_eq_true_eq] at h
  omega
theorem text_short {s : Str} (h : textOk s = true) : s.length ≤ 100000 := by
  unfold textOk at h
  simp only [Bool.and_eq_true, decide_eq_true_eq] at h
  omega
theorem len_app (x y : Str) : (x ++ y).length = x.length + y.length := by
  show (x ++ y).cps.size = _
  rw [Str.cps_append, Array.size_append]
  rfl
theorem mark_num {n : Int} (h1 : 1 ≤ n) (h2 : n < 10000) : markOk (("m" : Str) ++ toString n) = true ∧ (("m" : Str) ++ (toString n : Str)).length ≤ 5 := by
  have e : (("m" : Str) ++ (toString n : Str)).cps.toList = 109 :: (toString n : Str).cps.toList := by
    rw [Str.cps_append, Array.toList_append]
    rfl
  have c := chk_int (k := 3) h1 (by show n < 10 ^ (3 + 1); exact h2)
  have el : (("m" : Str) ++ (toString n : Str)).length = (109 :: (toString n : Str).cps.toList).length := by
    rw [← e]
    rfl
  unfold markOk
  rw [el, e]
  generalize (toString n : Str).cps.toList = l at c
  cases l with
  | nil => cases c
  | cons a r =>
    simp only [chk, Bool.and_eq_true, decide_eq_true_eq] at c
    obtain ⟨c1, c2, c3⟩ := c
    have fg : (a :: r).all fgC = true := List.all_eq_true.mpr fun d hd => by
      have z := List.all_eq_true.mp c2 d hd
      simp only [Bool.and_eq_true, decide_eq_true_eq] at z
      have q : ∀ d : Fin 10, fgC (48 + d.val) = true := by decide +kernel
      have w := q ⟨d - 48, by omega⟩
      rw [show 48 + (⟨d - 48, by omega⟩ : Fin 10).val = d by show 48 + (d - 48) = d; omega] at w
      exact w
    refine ⟨?_, by simp; omega⟩
    show (decide ((109 :: a :: r).length ≤ 5) && (decide (109 = 109) && ((a :: r).all fgC && decide (a ≠ 48)))) = true
    rw [fg, decide_eq_true rfl, decide_eq_true c1, decide_eq_true (by simp; omega)]
    rfl
/-! ### the rows -/
theorem look_put (rows : List (Str × List Str)) (k : Str) (ts : List Str) (k' : Str) : lookR (putR rows k ts) k' = if k' = k then some ts else lookR rows k' := by
  unfold putR
  split
  · rename_i h
    induction rows with
    | nil => cases h
    | cons p r ih =>
      by_cases e : p.1 = k
      · by_cases e' : k' = k
        · subst e'
          simp [lookR, e]
        · have ne : ¬ k = k' := fun z => e' z.symm
          have ne2 : ¬ p.1 = k' := fun z => e' (by rw [← z, e])
          rw [if_neg e']
          simp only [lookR, List.map_cons, if_pos e, List.find?_cons, decide_eq_false ne2]
          by_cases h2 : (r.any fun kv => decide (kv.1 = k)) = true
          · have z := ih h2
            rw [if_neg e'] at z
            exact z
          · have z : (r.map fun kv => if kv.1 = k then (kv.1, ts) else kv) = r := by
              refine List.map_congr_left (g := id) (fun q hq => ?_) |>.trans (List.map_id r)
              rw [if_neg fun z => h2 (List.any_eq_true.mpr ⟨q, hq, decide_eq_true z⟩)]
              rfl
            rw [z]
      · have h2 : (r.any fun kv => decide (kv.1 = k)) = true := by
          rw [List.any_cons, decide_eq_false e, Bool.false_or] at h
          exact h
        have z := ih h2
        simp only [lookR, List.map_cons, if_neg e, List.find?_cons]
        by_cases e3 : p.1 = k'
        · rw [decide_eq_true e3]
          rw [if_neg fun y => e (by rw [e3, y])]
        · rw [decide_eq_false e3]
          exact z
  · rename_i h
    unfold lookR
    rw [List.find?_append]
    by_cases e' : k' = k
    · subst e'
      rw [if_pos rfl, List.find?_eq_none.mpr fun q hq z => h (List.any_eq_true.mpr ⟨q, hq, z⟩)]
      simp
    · rw [if_neg e']
      have ne : ¬ k = k' := fun z => e' z.symm
      simp [ne]
theorem get_put (rows : List (Str × List Str)) (k : Str) (ts : List Str) (k' : Str) : getR (putR rows k ts) k' = if k' = k then ts else getR rows k' := by
  unfold getR
  rw [look_put]
  split <;> rfl
/-- all keys are names, all texts texts -/
def RowsOk (rows : List (Str × List Str)) : Prop := ∀ kv ∈ rows, nameOk kv.1 = true ∧ ∀ t ∈ kv.2, textOk t = true
theorem look_mem {rows : List (Str × List Str)} {k : Str} {ts : List Str} (h : lookR rows k = some ts) : (k, ts) ∈ rows := by
  unfold lookR at h
  cases e : rows.find? fun kv => decide (kv.1 = k) with
  | none =>
    rw [e] at h
    cases h
  | some p =>
    rw [e] at h
    have m := List.mem_of_find?_eq_some e
    have q : p.1 = k := of_decide_eq_true (List.find?_some (p := fun kv : Str × List Str => decide (kv.1 = k)) e)
    have e2 : p.2 = ts := Option.some.inj h
    rw [← q, ← e2]
    exact m
theorem RowsOk.get {rows : List (Str × List Str)} (h : RowsOk rows) (k : Str) : ∀ t ∈ getR rows k, textOk t = true := by
  unfold getR
  cases e : lookR rows k with
  | none => exact fun t ht => by cases ht
  | some ts => exact (h _ (look_mem e)).2
theorem RowsOk.put {rows : List (Str × List Str)} (h : RowsOk rows) {k : Str} {ts : List Str} (hk : nameOk k = true) (ht : ∀ t ∈ ts, textOk t = true) : RowsOk (putR rows k ts) := by
  unfold putR
  split
  · intro kv hkv
    obtain ⟨q, hq, rfl⟩ := List.mem_map.mp hkv
    split
    · exact ⟨(h q hq).1, ht⟩
    · exact h q hq
  · intro kv hkv
    rcases List.mem_append.mp hkv with hkv | hkv
    · exact h kv hkv
    · rw [List.mem_singleton.mp hkv]
      exact ⟨hk, ht⟩
end T
end
section
namespace T
open PySem PySem.Spec PyProof.Rows L2 Tr LamX
/-! ### the law's state -/
structure Bd (n : Nat) (m : List Str) (r : List (Str × List Str)) : Prop where
  hm : m.length ≤ n
  hr : r.length ≤ n
  hg : ∀ k, (getR r k).length ≤ n
  ok : RowsOk r
theorem Bd.mono {n k : Nat} {m : List Str} {r : List (Str × List Str)} (b : Bd n m r) (h : n ≤ k) : Bd k m r := ⟨Nat.le_trans b.hm h, Nat.le_trans b.hr h, fun x => Nat.le_trans (b.hg x) h, b.ok⟩
theorem Bd.put {n : Nat} {m : List Str} {r : List (Str × List Str)} (b : Bd n m r) (a k t : Str) (hk : nameOk k = true) (ht : textOk t = true) : Bd (n + 1) (m ++ [a]) (putR r k (getR r k ++ [t])) := by
  refine ⟨by rw [List.length_append]; exact Nat.succ_le_succ b.hm, Nat.le_trans (putR_len r k _) (Nat.succ_le_succ b.hr), fun x => ?_, b.ok.put hk fun z hz => ?_⟩
  · rw [get_put]
    split
    · rw [List.length_append]
      exact Nat.succ_le_succ (b.hg k)
    · exact Nat.le_succ_of_le (b.hg x)
  · rcases List.mem_append.mp hz with hz | hz
    · exact b.ok.get k z hz
    · rw [List.mem_singleton.mp hz]
      exact ht
structure LS (K : PySem.W.Frag) (Tb : List (Addr × Str)) (H H' : Hp) (p dm dr lm ld : Addr) (m1 : List Str) (r1 : List (Str × List Str)) (m2 : List Str) (r2 : List (Str × List Str)) : Prop where
  fw : Fw Tb H H'
  tk : TkR K H' p dm dr lm m1 r1
  ndm : NT H dm
  ndr : NT H dr
  hlm : H' lm = some (.lst (m2.map V.str))
  nlm : NT H lm
  hld : ∃ kvs, H' ld = some (.dK kvs) ∧ RowsR H' lm kvs r2
  nld : NT H ld
  ne1 : ld ≠ dm
  ne2 : ld ≠ dr
section
variable {K : PySem.W.Frag} {Tb : List (Addr × Str)} {H H1 H2 : Hp} {p dm dr lm ld : Addr} {m1 m2 : List Str} {r1 r2 : List (Str × List Str)}
theorem LS.ext (s : LS K Tb H H1 p dm dr lm ld m1 r1 m2 r2) (e : ExtN H1 H2) (t : Tabs Tb H2) : LS K Tb H H2 p dm dr lm ld m1 r1 m2 r2 := by
  obtain ⟨kvs, h, r⟩ := s.hld
  exact ⟨s.fw.ext e t, s.tk.same e, s.ndm, s.ndr, ext_lst e s.hlm, s.nlm, ⟨kvs, e _ _ h (fun _ z => by cases z), r.ext fun l xs _ q => ext_lst e q⟩, s.nld, s.ne1, s.ne2⟩
theorem LS.same (s : LS K Tb H H1 p dm dr lm ld m1 r1 m2 r2) (e : Same H1 H2) : LS K Tb H H2 p dm dr lm ld m1 r1 m2 r2 := s.ext (ext_of e) (s.fw.t.ext e)
theorem LS.take {m' : List Str} {r' : List (Str × List Str)} (s : LS K Tb H H1 p dm dr lm ld m1 r1 m2 r2) (f : Fr2 dm dr H1 H2) (tk : TkR K H2 p dm dr lm m' r') : LS K Tb H H2 p dm dr lm ld m' r' m2 r2 := by
  obtain ⟨kvs, h, r⟩ := s.hld
  obtain ⟨kvt, h', _⟩ := s.tk.r
  have lst : ∀ l xs, H1 l = some (.lst xs) → H2 l = some (.lst xs) := fun l xs q => f _ _ q (fun z => by rw [z, s.tk.m] at q; cases q) fun z => by rw [z, h'] at q; cases q
  have fr : Fr (fun c => c = dm ∨ c = dr) H1 H2 := fun c o hc n => f c o hc (fun z => n (.inl z)) fun z => n (.inr z)
  refine ⟨s.fw.fr (fun c hc => ?_) (fun c hc => ?_) fr, tk, s.ndm, s.ndr, lst _ _ s.hlm, s.nlm, ⟨kvs, f _ _ h s.ne1 s.ne2, r.ext fun l xs _ q => lst l xs q⟩, s.nld, s.ne1, s.ne2⟩
  · rcases hc with rfl | rfl
    · exact s.ndm
    · exact s.ndr
  · rcases hc with rfl | rfl
    · exact pl_dK s.tk.m
    · exact pl_dK h'
theorem LS.push {a : Str} (s : LS K Tb H H1 p dm dr lm ld m1 r1 m2 r2) : LS K Tb H (upd H1 lm (.lst (m2.map V.str ++ [.str a]))) p dm dr lm ld m1 r1 (m2 ++ [a]) r2 := by
  obtain ⟨kvs, h, r⟩ := s.hld
  obtain ⟨kvt, h', rt⟩ := s.tk.r
  obtain ⟨dx, hp⟩ := s.tk.ins
  have ne : ∀ {b o}, H1 b = some o → o ≠ .lst (m2.map V.str) → b ≠ lm := fun hb no z => by
    rw [z, s.hlm] at hb
    exact no (Option.some.inj hb).symm
  refine ⟨s.fw.mut s.nlm s.hlm, ⟨⟨dx, ?_⟩, ?_, ⟨kvt, ?_, rt.ext fun l xs n q => by rw [upd_ne n]; exact q⟩, s.tk.ne⟩, s.ndm, s.ndr, by rw [upd_same, List.map_append]; rfl, s.nlm, ⟨kvs, ?_, r.ext fun l xs n q => by rw [upd_ne n]; exact q⟩, s.nld, s.ne1, s.ne2⟩
  · rw [upd_ne (ne hp fun z => by cases z)]
    exact hp
  · rw [upd_ne (ne s.tk.m fun z => by cases z)]
    exact s.tk.m
  · rw [upd_ne (ne h' fun z => by cases z)]
    exact h'
  · rw [upd_ne (ne h fun z => by cases z)]
    exact h
theorem LS.put {kvs : List (Key × V)} {l : Addr} {k : Str} {ts : List Str} (s : LS K Tb H H1 p dm dr lm ld m1 r1 m2 r2) (h : H1 ld = some (.dK kvs)) (r : RowsR H1 lm kvs r2) (hl : H1 l = some (.lst (ts.map V.str))) (hn : l ≠ lm) :
    LS K Tb H (upd H1 ld (.dK (putK kvs (.inr k) (.ref l)))) p dm dr lm ld m1 r1 m2 (putR r2 k ts) := by
  obtain ⟨kvt, h', rt⟩ := s.tk.r
  obtain ⟨dx, hp⟩ := s.tk.ins
  have ne : ∀ {b o}, H1 b = some o → o ≠ .dK kvs → b ≠ ld := fun hb no z => by
    rw [z, h] at hb
    exact no (Option.some.inj hb).symm
  have lst : ∀ l xs, H1 l = some (.lst xs) → upd H1 ld (.dK (putK kvs (.inr k) (.ref l))) l = some (.lst xs) := fun l xs q => by
    rw [upd_ne (ne q fun z => by cases z)]
    exact q
  have lst2 : ∀ l' xs, H1 l' = some (.lst xs) → upd H1 ld (.dK (putK kvs (.inr k) (.ref l))) l' = some (.lst xs) := fun l' xs q => by
    rw [upd_ne (ne q fun z => by cases z)]
    exact q
  have fr : Fr (fun c => c = ld) H1 (upd H1 ld (.dK (putK kvs (.inr k) (.ref l)))) := fun c o hc n => by
    rw [upd_ne n]
    exact hc
  refine ⟨s.fw.fr (fun c hc => by rw [hc]; exact s.nld) (fun c hc => by rw [hc]; exact pl_dK h) fr, ⟨⟨dx, ?_⟩, ?_, ⟨kvt, ?_, rt.ext fun l xs _ q => lst2 l xs q⟩, s.tk.ne⟩, s.ndm, s.ndr, lst2 _ _ s.hlm, s.nlm, ⟨_, upd_same, (r.put hl hn).ext fun l xs _ q => lst2 l xs q⟩, s.nld, s.ne1, s.ne2⟩
  · rw [upd_ne (ne hp fun z => by cases z)]
    exact hp
  · rw [upd_ne s.ne1.symm]
    exact s.tk.m
  · rw [upd_ne s.ne2.symm]
    exact h'
/-- while the law's own dict is under lock -/
theorem LS.lock {kvs : List (Key × V)} {o : HO} (s : LS K Tb H H1 p dm dr lm ld m1 r1 m2 r2) (h : H1 ld = some (.dK kvs)) : TkR K (upd H1 ld o) p dm dr lm m1 r1 := by
  obtain ⟨kvt, h', rt⟩ := s.tk.r
  obtain ⟨dx, hp⟩ := s.tk.ins
  refine ⟨⟨dx, ?_⟩, ?_, ⟨kvt, ?_, rt.ext fun l xs _ q => ?_⟩, s.tk.ne⟩
  · rw [upd_ne fun z => by rw [z, h] at hp; cases hp]
    exact hp
  · rw [upd_ne s.ne1.symm]
    exact s.tk.m
  · rw [upd_ne s.ne2.symm]
    exact h'
  · rw [upd_ne fun z => by rw [z, h] at q; cases q]
    exact q
end
end T
namespace T
open PySem PySem.Spec PyProof.Rows L2 Tr LamX
/-! ### what is refused -/
def badM : List V := [.str "m", .str "m0", .str "m01", .str "m12345", .str "x1", .str "1", .str "m1a", .str "M1", .non, .int 5, .str ""]
def badN : List V := [.str "", .str "A", .str "abcde", .non, .int 5]
def badT : List V := [.str (Txt.mul "a" 21), .str "a\n", .non, .int 5]
def flatT : V → Bool
  | .str s => decide (s.length ≤ 100000)
  | .ref _ => false
  | .byt _ => false
  | _ => true
theorem badM_no : badM.all (fun y => !isMk y) = true := by decide +kernel
theorem badN_no : badN.all (fun y => !isNm y) = true := by decide +kernel
theorem badT_no : badT.all (fun y => !isTx y) = true := by decide +kernel
theorem bad_thing {K : PySem.W.Frag} {H : Hp} {y : V} (h : y ∈ badM ∨ y ∈ badN ∨ y ∈ badT) : Thing K H y ∧ Short y := by
  have key : ∀ z : V, (z = .non ∨ (∃ i, z = .int i) ∨ ∃ s, z = .str s ∧ s.length ≤ 100000) → Thing K H z ∧ Short z := by
    rintro z (rfl | ⟨i, rfl⟩ | ⟨s, rfl, hs⟩)
    · exact ⟨.non, trivial⟩
    · exact ⟨.int _, trivial⟩
    · exact ⟨.str _, hs⟩
  refine key y ?_
  rcases h with h | h | h
  · simp only [badM, List.mem_cons, List.not_mem_nil, or_false] at h
    rcases h with rfl | rfl | rfl | rfl | rfl | rfl | rfl | rfl | rfl | rfl | rfl
    all_goals first | exact .inl rfl | exact .inr (.inl ⟨_, rfl⟩) | exact .inr (.inr ⟨_, rfl, by decide +kernel⟩)
  · simp only [badN, List.mem_cons, List.not_mem_nil, or_false] at h
    rcases h with rfl | rfl | rfl | rfl | rfl
    all_goals first | exact .inl rfl | exact .inr (.inl ⟨_, rfl⟩) | exact .inr (.inr ⟨_, rfl, by decide +kernel⟩)
  · simp only [badT, List.mem_cons, List.not_mem_nil, or_false] at h
    rcases h with rfl | rfl | rfl | rfl
    all_goals first | exact .inl rfl | exact .inr (.inl ⟨_, rfl⟩) | exact .inr (.inr ⟨_, rfl, by decide +kernel⟩)
theorem no_of {f : V → Bool} {l : List V} (h : l.all (fun y => !f y) = true) {y : V} (hy : y ∈ l) : f y = false := by
  have z := List.all_eq_true.mp h y hy
  cases e : f y with
  | false => rfl
  | true =>
    rw [e] at z
    cases z
end T
end
section
namespace T
open PySem PySem.Spec PyProof.Rows L2 Tr LamX
abbrev lawQ : Str := (("law" : Str) ++ (".<locals>." : Str)) ++ ("<lambda>" : Str)
section
variable {P : Program} {w : World} {K : PySem.W.Frag} {mg : Str → Option Value} {base : Heap}
abbrev lawN : List Str := ["_law_script", "_law_k", "_law_more", "_law_taker", "_law_marks", "_law_rows", "_law_j", "_law_here", "_law_mark", "_law_key", "_law_text", "_law_one", "_law_bad", "_law_some"]
def spLaw (K : PySem.W.Frag) (Tb : List (Addr × Str)) : Sp := fun vs H Q _ => ∃ (a : Addr) (ns : List Int), vs = [.ref a] ∧ SqL K H a (ns.map V.int) ∧ ns.length ≤ 63 ∧ Tabs Tb H ∧ ∀ H', Q (.bl true) H'
theorem law_ok (T : Txt K mg) {c Pt : Addr} {fd : FuncData} (F : FunD K "law" "law" (defArgs s_law) (defBody s_law) (defScope s_law) [] [] (He.ga K "law") fd) (hc : fd.code = .ref c) (TB : TabB base mg c Pt) : FnOk P w K mg base (NX P w) 6 (He.ga K "law") fd ["_law_script"] (spLaw K [(Pt, lawQ)]) := by
  obtain ⟨oc, od, dV, kV, doc, pm, an, cdv, ct, osl, rfl, lk, hcd, _, _⟩ := id F.ex
  obtain rfl : cdv = .ref c := hc
  refine fn_of lk hcd sc_law (fun vs H Q E ⟨a, ns, e, _⟩ => by rw [e] <;> rfl) fun A outer s H vs Q E hr ⟨a, ns, e, hS, hl, hT, q⟩ => ?_
  subst e
  have nd := sc_law.nd
  have hu := hu_of hr
  have mem : (Pt, lawQ) ∈ [(Pt, lawQ)] := List.mem_singleton.mpr rfl
  have uq : ∀ p ∈ [(Pt, lawQ)], p.1 = Pt → p.2 = lawQ := fun p hp _ => by rw [List.mem_singleton.mp hp]
  refine ⟨_, pss_cons (ps_for (by exact passes_of rfl) rfl (pi_range1 (by rfl) T.n_range (pa_cons (b_max2 rfl T.n_max (pa_cons pe_int (pa_cons (b_min2 rfl T.n_min (pa_cons pe_int (pa_cons (b_len T.n_len (pa_cons (pv 0) pa_nil)) pa_nil))) pa_nil))) pa_nil))
      (pg_name (i := 1) nd rfl (Or.inl rfl))
      (pss_cons (ps_set (i := 2) nd rfl (Or.inl rfl) (pe_k (E := E0) (k_l_drawn T) hr (by decide) pass0 (pa_cons (pe_k (E := E0) (k_l_cell T) hr (by decide) pass0 (pa_cons (pv 0) (pa_cons (pv 1) pa_nil))) (pa_cons (pv 1) pa_nil))))
      (pss_cons (ps_asg (pe_tup (pa_cons (pe_n0 (E := E0) (n_Taker T) hr (by decide) pass0) (pa_cons (pe_lst pa_nil) (pa_cons pe_dnewK pa_nil)))) (pg_tup rfl (pgs_cons (pg_name (i := 3) nd rfl (Or.inr rfl)) (pgs_cons (pg_name (i := 4) nd rfl (Or.inl rfl)) (pgs_cons (pg_name (i := 5) nd rfl (Or.inr rfl)) pgs_nil)))))
      (pss_cons (ps_for (by exact passes_of rfl) rfl (pi_range1 (by rfl) T.n_range (pa_cons (pe_op op_mod (pv 2) pe_int) pa_nil)) (pg_name (i := 6) nd rfl (Or.inl rfl))
        (pss_cons (ps_set (i := 7) nd rfl (Or.inl rfl) (pe_k (E := E0) (k_l_drawn T) hr (by decide) pass0 (pa_cons (pv 2) (pa_cons (pe_op op_add pe_int (pv 6)) pa_nil))))
        (pss_cons (ps_set (i := 8) nd rfl (Or.inr rfl) (pe_op op_add_str pe_str (b_str T.n_str (pa_cons (pe_op op_add pe_int (pe_op op_mod (pv 7) (pe_ix ix_list (pe_lst (pa_cons pe_int (pa_cons pe_int pa_nil))) (pe_op op_mod (pe_op op_fdiv (pv 7) pe_int) pe_int) (fun _ _ => rfl)))) pa_nil))))
        (pss_cons (ps_asg (pe_tup (pa_cons (pe_ix ix_list (pe_lst (pa_cons pe_str (pa_cons pe_str (pa_cons pe_str pa_nil)))) (pe_op op_mod (pe_op op_fdiv (pv 7) pe_int) pe_int) (fun _ _ => rfl))
            (pa_cons (pe_ix ix_list (pe_lst (pa_cons pe_str (pa_cons pe_str (pa_cons (pe_op op_mulS pe_str pe_int) (pa_cons pe_str pa_nil))))) (pe_op op_mod (pe_op op_fdiv (pv 7) pe_int) pe_int) (fun _ _ => rfl)) pa_nil)))
            (pg_tup rfl (pgs_cons (pg_name (i := 9) nd rfl (Or.inr rfl)) (pgs_cons (pg_name (i := 10) nd rfl (Or.inr rfl)) pgs_nil))))
        (pss_cons (ps_if (pt_cmpR op_eq (pe_op op_mod (pe_op op_fdiv (pv 7) (pe_op op_pow pe_int pe_int)) pe_int) pe_int (nomark _))
            (pss_one (ps_asg (pe_tup (pa_cons (pe_k (E := E0) (k_l_any_name T) hr (by decide) pass0 (pa_cons (pe_op op_fdiv (pv 7) (pe_op op_pow pe_int pe_int)) (pa_cons pe_int pa_nil)))
              (pa_cons (pe_k (E := E0) (k_l_any_text T) hr (by decide) pass0 (pa_cons (pe_op op_fdivW (pv 7) (pe_op op_pow pe_int pe_int)) (pa_cons pe_int pa_nil))) pa_nil)))
              (pg_tup rfl (pgs_cons (pg_name (i := 9) nd rfl (Or.inr rfl)) (pgs_cons (pg_name (i := 10) nd rfl (Or.inr rfl)) pgs_nil))))) pss_nil)
        (pss_cons (ps_if (pt_cmpR op_ne (pe_told (k := 3) (t := fun E => tM (He.ga K "Taker") "take" (spTake K) E (tVar 3) (tCons (tVar 8) (tCons (tVar 9) (tCons (tVar 10) tNil)))) T TB rfl mem uq hr
              (fun _ _ _ _ _ _ _ hr2 => pe_m (m_take T) hr2 (by decide) TrL.lamC_pass (pv 3) (pa_cons (pv 8) (pa_cons (pv 9) (pa_cons (pv 10) pa_nil))))) (pe_cmpR op_notIn_seq (pv 8) (pv 4) rfl) (nomark _)) (pss_one (ps_ret pe_bl)) pss_nil)
        (pss_cons (ps_if (pt_cmpR op_notIn_seq (pv 8) (pv 4) rfl)
            (pss_cons (ps_expr (pe_bm PySem.F.plainAttrs_list PySem.F.slot_list_append PySem.F.type_list_append mt_append (pv 4) (pa_cons (pv 8) pa_nil)))
              (pss_one (ps_dput hu (pv 5) (pv 9) (pe_op op_cat (pe_dget2 hu (pv 5) (pv 9) (pe_lst pa_nil) ⟨rfl, rfl, rfl, rfl⟩) (pe_lst (pa_cons (pv 10) pa_nil))) rfl))) pss_nil)
        (pss_one (ps_if (PW.pt (pw_or (pt_cmpR (op_neD hr.units) (pe_m0 (E := E0) (m_names T) hr (by decide) pass0 (pv 3)) (pe_callB (call_sortedD rfl) (by rfl) T.n_sorted (by decide +kernel) (pa_cons (pv 5) pa_nil)) (nomark _))
            (pw_or1 (pt_not (pt_val (b_all rfl T.n_all (pa_cons (pe_lock (pe_lc (own := [("_law_one", 11)]) (g := gName 11) (tt := tYes) (te := tOp (rEqD K) (tM (He.ga K "Taker") "row" (spRow K) E0 (tVar 3) (tCons (tVar 11) tNil)) (tDGet (tVar 5) (tVar 11))) rfl nd (pi_keys (pv 5)) (blkOk_by (N := lawN) (sc := defScope s_law) (by decide +kernel))
              (fun _ _ _ _ _ => pg_name (i := 11) nd rfl (Or.inl rfl)) (fun _ _ _ _ _ => pts_nil)
              (fun _ _ _ _ _ => pe_cmpR (op_eqD hr.units) (pe_m (E := E0) (m_row T) hr (by decide) passN0 (pv 3) (pa_cons (pv 11) pa_nil)) (pe_dget hu (pv 5) (pv 11) (fun _ _ => rfl)) (nomark _)))) pa_nil))))))) (pss_one (ps_ret pe_bl)) pss_nil)))))))))
      (pss_cons (ps_for (by exact passes_of rfl) rfl (pi_list (pe_lst (pa_cons pe_str (pa_cons pe_str (pa_cons pe_str (pa_cons pe_str (pa_cons pe_str (pa_cons pe_str (pa_cons pe_str (pa_cons pe_str (pa_cons pe_non (pa_cons pe_int (pa_cons pe_str pa_nil))))))))))))) (pg_name (i := 12) nd rfl (Or.inr rfl))
        (pss_one (ps_if (pt_cmpR (op_neD hr.units) (pe_told (k := 3) (t := fun E => tM (He.ga K "Taker") "take" (spTake K) E (tVar 3) (tCons (tVar 12) (tCons (tC (.str "A")) (tCons (tC .non) tNil)))) T TB rfl mem uq hr
              (fun _ _ _ _ _ _ _ hr2 => pe_m (m_take T) hr2 (by decide) TrL.lamC_pass (pv 3) (pa_cons (pv 12) (pa_cons pe_str (pa_cons pe_non pa_nil))))) (pe_tup (pa_cons pe_str (pa_cons pe_str pa_nil))) (nomark _)) (pss_one (ps_ret pe_bl)) pss_nil)))
      (pss_cons (ps_for (by exact passes_of rfl) rfl (pi_list (pe_lst (pa_cons pe_str (pa_cons pe_str (pa_cons pe_str (pa_cons pe_non (pa_cons pe_int pa_nil))))))) (pg_name (i := 12) nd rfl (Or.inr rfl))
        (pss_cons (ps_set (i := 13) nd rfl (Or.inl rfl) (pe_lst (pa_cons (pe_told (k := 3) (t := fun E => tM (He.ga K "Taker") "take" (spTake K) E (tVar 3) (tCons (tC (.str "m1")) (tCons (tVar 12) (tCons (tC .non) tNil)))) T TB rfl mem uq hr
              (fun _ _ _ _ _ _ _ hr2 => pe_m (m_take T) hr2 (by decide) TrL.lamC_pass (pv 3) (pa_cons pe_str (pa_cons (pv 12) (pa_cons pe_non pa_nil))))) pa_nil)))
        (pss_cons (ps_expr (pe_bm PySem.F.plainAttrs_list PySem.F.slot_list_append PySem.F.type_list_append mt_append (pv 13) (pa_cons (pe_told (k := 3) (t := fun E => tM (He.ga K "Taker") "row" (spRow K) E (tVar 3) (tCons (tVar 12) tNil)) T TB rfl mem uq hr
              (fun _ _ _ _ _ _ _ hr2 => pe_m (m_row T) hr2 (by decide) TrL.lamC_pass (pv 3) (pa_cons (pv 12) pa_nil))) pa_nil)))
        (pss_one (ps_if (pt_cmpR (op_neD hr.units) (pv 13) (pe_op op_rep (pe_lst (pa_cons (pe_tup (pa_cons pe_str (pa_cons pe_str pa_nil))) pa_nil)) pe_int) (nomark _)) (pss_one (ps_ret pe_bl)) pss_nil)))))
      (pss_cons (ps_for (by exact passes_of rfl) rfl (pi_list (pe_lst (pa_cons (pe_op op_mulS pe_str pe_int) (pa_cons pe_str (pa_cons pe_non (pa_cons pe_int pa_nil)))))) (pg_name (i := 12) nd rfl (Or.inr rfl))
        (pss_one (ps_if (pt_cmpR (op_neD hr.units) (pe_told (k := 3) (t := fun E => tM (He.ga K "Taker") "take" (spTake K) E (tVar 3) (tCons (tC (.str "m9999")) (tCons (tC (.str "a")) (tCons (tVar 12) tNil)))) T TB rfl mem uq hr
              (fun _ _ _ _ _ _ _ hr2 => pe_m (m_take T) hr2 (by decide) TrL.lamC_pass (pv 3) (pa_cons pe_str (pa_cons pe_str (pa_cons (pv 12) pa_nil))))) (pe_tup (pa_cons pe_str (pa_cons pe_str pa_nil))) (nomark _)) (pss_one (ps_ret pe_bl)) pss_nil)))
      (pss_one (ps_if (PW.pt (pw_or (pt_cmpR (op_neD hr.units) (pe_m (E := E0) (m_row T) hr (by decide) passN0 (pv 3) (pa_cons pe_str pa_nil)) (pe_dget2 hu (pv 5) pe_str (pe_lst pa_nil) ⟨rfl, rfl, rfl, rfl⟩) (nomark _))
          (pw_or1 (pt_cmpR (op_neD hr.units) (pe_m0 (E := E0) (m_names T) hr (by decide) pass0 (pv 3)) (pe_callB (call_sortedD rfl) (by rfl) T.n_sorted (by decide +kernel) (pa_cons (pv 5) pa_nil)) (nomark _))))) (pss_one (ps_ret pe_bl)) pss_nil)))))))))
    (pss_one (ps_ret pe_bl)), ?_⟩
  refine r_seq ⟨_, rfl, _, _, rfl, .inl ⟨_, hS, rfl⟩, _, _, rfl, _, _, rfl, _, rfl, by omega, by omega, ?_⟩
  refine for_it walk_range (fun i σ H' => Fw [(Pt, lawQ)] H H' ∧ ∃ o1 o2 o3 o4 o5 o6 o7 o8 o9 o10 o11 o12 o13, σ = [some (.ref a), o1, o2, o3, o4, o5, o6, o7, o8, o9, o10, o11, o12, o13]) ⟨Fw.refl hT, _, _, _, _, _, _, _, _, _, _, _, _, _, rfl⟩ (fun _ _ _ _ _ => trivial) ?_ ?_
  · rintro i x σ H1 H1' hi ⟨f1, o1, o2, o3, o4, o5, o6, o7, o8, o9, o10, o11, o12, o13, rfl⟩ ⟨rfl, rfl⟩
    refine ⟨_, rfl, _, rfl, a, ns, _, rfl, ext_l f1.e hS, hl, by omega, by omega, fun cl H2 s2 => ⟨_, rfl, cl, _, rfl, by omega, by omega, fun d d0 d1 => ?_⟩⟩
    have f2 := f1.same s2
    refine fun p dx hp hdx hne => ⟨p, dx, rfl, upd_same, fun H3 dm dr hm hr3 fr3 tk3 => ⟨rfl, by show 0 ≤ sizeLine; decide, fun lm hlm ld hld => ⟨by show 3 ≤ sizeLine; decide, fun tp htp => ?_⟩⟩⟩
    refine ⟨_, _, rfl, sqT upd_same, rfl, _, _, rfl, _, _, rfl, _, _, rfl, rfl, ?_⟩
    have fA : Fw [(Pt, lawQ)] H (upd (upd H2 dx (.own p)) p (.ins (He.ga K "Taker") dx [])) := (f2.new hdx).new (by rw [upd_ne hne.symm]; exact hp)
    have f3 : Fw [(Pt, lawQ)] H H3 := fA.fr (S := fun c => c = p) (fun c hc => by rw [hc]; exact f2.nt hp) (fun c hc => by rw [hc]; exact pl_ins upd_same) fun c o h n => fr3 c o h n n
    have sL := (same_new (o := HO.lst []) hlm).trans (same_new (o := HO.dK []) hld)
    have st := same_new (o := HO.tup [.ref p, .ref lm, .ref ld]) htp
    have tk := tk3 lm
    have ls : LS K [(Pt, lawQ)] H (upd (upd (upd H3 lm (.lst [])) ld (.dK [])) tp (.tup [.ref p, .ref lm, .ref ld])) p dm dr lm ld [] [] [] [] :=
      ⟨((f3.new hlm).new hld).new htp, tk.same (ext_of (sL.trans st)), fA.nt hm, fA.nt hr3, st _ _ ((same_new hld) _ _ upd_same), f3.nt hlm, ⟨[], st _ _ upd_same, .nil⟩, (f3.new hlm).nt hld,
        (fun z => by rw [z, (same_new hlm) _ _ tk.m] at hld; cases hld), (fun z => by obtain ⟨kv, q, _⟩ := tk.r; rw [z, (same_new hlm) _ _ q] at hld; cases hld)⟩
    have bd0 : Bd 0 [] [] := ⟨Nat.le_refl _, Nat.le_refl _, fun _ => Nat.le_refl _, fun kv h => by cases h⟩
    generalize upd (upd (upd H3 lm (.lst [])) ld (.dK [])) tp (.tup [.ref p, .ref lm, .ref ld]) = H4 at ls
    clear tk st sL f3 fA tk3 fr3 hm hr3 hlm hld htp f2 hp hdx hne
    have d40 := Int.emod_nonneg d (show (40 : Int) ≠ 0 by decide)
    have d41 := Int.emod_lt_of_pos d (show (0 : Int) < 40 by decide)
    refine ⟨_, rfl, _, _, rfl, rfl, (by show (0 : Int) < 40; decide), _, rfl, by omega, by omega, ?_⟩
    refine for_it (walk_range (lo := 0) (n := (d % 40).toNat)) (fun j σ H' => ∃ m r, LS K [(Pt, lawQ)] H H' p dm dr lm ld m r m r ∧ Bd j m r ∧ ∃ o6 o7 o8 o9 o10 o11 o12 o13, σ = [some (.ref a), some (.int (0 + (i : Nat))), some (.int d), some (.ref p), some (.ref lm), some (.ref ld), o6, o7, o8, o9, o10, o11, o12, o13])
      ⟨[], [], ls, bd0, _, _, _, _, _, _, _, _, rfl⟩ (fun _ _ _ _ _ => trivial) ?_ ?_
    · clear ls bd0
      rintro j x σ H5' H5 hj ⟨m, r, ls, bd, o6, o7, o8, o9, o10, o11, o12, o13, rfl⟩ ⟨rfl, rfl⟩
      have hj : j < (d % 40).toNat := hj
      refine ⟨_, rfl, _, rfl, _, _, rfl, rfl, d, _, rfl, by omega, by omega, fun h h0 h1 => ?_⟩
      obtain ⟨qq, hq, eat⟩ : ∃ qq : Int, (qq = 9 ∨ qq = 9999) ∧ atI [V.int 9, V.int 9999] (h / 16 % 2) = some (.int qq) := by
        have c : h / 16 % 2 = 0 ∨ h / 16 % 2 = 1 := by omega
        rcases c with c | c <;> rw [c]
        · exact ⟨9, .inl rfl, rfl⟩
        · exact ⟨9999, .inr rfl, rfl⟩
      have n0 : 1 ≤ 1 + h % qq ∧ 1 + h % qq < 10000 := by rcases hq with rfl | rfl <;> omega
      have qpos : 0 < qq := by rcases hq with rfl | rfl <;> decide
      obtain ⟨mk, mkl⟩ := mark_num n0.1 n0.2
      refine ⟨_, rfl, by show 2 ≤ sizeLine; decide, fun L hL => ⟨_, rfl, _, _, rfl, rfl, ⟨by decide, by decide⟩, _, _, rfl, rfl, (by show (0 : Int) < 2; decide), _, _, _, _, rfl, rfl, sqL upd_same, eat, _, _, rfl, rfl, qpos, _, _, rfl, rfl, _, rfl, ?_, _, _, rfl, rfl, ?_, ?_⟩⟩
      · exact Nat.lt_of_lt_of_le (PySem.Flt.log2_lt_of (by decide : 0 < 14) (by omega)) (by decide)
      · exact sz (by have e := len_app ("m" : Str) (toString (1 + h % qq)); have z : ("m" : Str).length + (toString (1 + h % qq) : Str).length ≤ 5 := by rw [← e]; exact mkl
                     exact Nat.le_trans z (by decide))
      have s6 := same_new (o := HO.lst [V.int 9, V.int 9999]) hL
      have ls6 := ls.same s6
      generalize hmk : (("m" : Str) ++ (toString (1 + h % qq) : Str)) = mark at mk mkl
      generalize upd H5 L (.lst [V.int 9, V.int 9999]) = H6 at s6 ls6
      obtain ⟨ky, hky, eat1⟩ : ∃ ky : Str, nameOk ky = true ∧ atI [V.str "a", V.str "bb", V.str "abcd"] (h / 64 % 3) = some (.str ky) := by
        have c : h / 64 % 3 = 0 ∨ h / 64 % 3 = 1 ∨ h / 64 % 3 = 2 := by omega
        rcases c with c | c | c <;> rw [c]
        · exact ⟨"a", by decide +kernel, rfl⟩
        · exact ⟨"bb", by decide +kernel, rfl⟩
        · exact ⟨"abcd", by decide +kernel, rfl⟩
      obtain ⟨tx, htx, eat2⟩ : ∃ tx : Str, textOk tx = true ∧ atI [V.str "", V.str "x", V.str (Txt.mul "~" 20), V.str "a b"] (h / 256 % 4) = some (.str tx) := by
        have c : h / 256 % 4 = 0 ∨ h / 256 % 4 = 1 ∨ h / 256 % 4 = 2 ∨ h / 256 % 4 = 3 := by omega
        rcases c with c | c | c | c <;> rw [c]
        · exact ⟨"", by decide +kernel, rfl⟩
        · exact ⟨"x", by decide +kernel, rfl⟩
        · exact ⟨Txt.mul "~" 20, by decide +kernel, rfl⟩
        · exact ⟨"a b", by decide +kernel, rfl⟩
      refine ⟨by show 3 ≤ sizeLine; decide, fun L1 hL1 => ⟨_, rfl, _, _, rfl, rfl, ⟨by decide, by decide⟩, _, _, rfl, rfl, (by show (0 : Int) < 3; decide), _, _, _, _, rfl, rfl, sqL upd_same, eat1, _, _, rfl, rfl, ?_, by show 4 ≤ sizeLine; decide, fun L2 hL2 => ⟨_, rfl, _, _, rfl, rfl, ⟨by decide, by decide⟩, _, _, rfl, rfl, (by show (0 : Int) < 4; decide), _, _, _, _, rfl, rfl, sqL upd_same, eat2, by show 2 ≤ sizeLine; decide, fun tp htp => ?_⟩⟩⟩
      · exact ⟨by decide, by decide, by decide⟩
      refine ⟨_, _, rfl, sqT upd_same, rfl, _, _, rfl, _, _, rfl, rfl, ?_⟩
      have ls7 := ls6.same (((same_new hL1).trans (same_new hL2)).trans (same_new (o := HO.tup [.str ky, .str tx]) htp))
      dsimp only
      refine r_seq (r_if (good := fun σ' H' => ∃ ky tx : Str, nameOk ky = true ∧ textOk tx = true ∧ LS K [(Pt, lawQ)] H H' p dm dr lm ld m r m r ∧
        σ' = [some (.ref a), some (.int (0 + (i : Nat))), some (.int d), some (.ref p), some (.ref lm), some (.ref ld), some (.int (0 + (j : Nat))), some (.int h), some (.str mark), some (.str ky), some (.str tx), o11, o12, o13]) ?_ fun rr => ?_)
      case refine_2 =>
        refine ⟨_, rfl, _, _, rfl, rfl, ⟨by decide, by decide, by decide⟩, _, _, rfl, rfl, ⟨by decide, by decide⟩, _, _, rfl, rfl, (by show (0 : Int) < 2; decide), rfl, _, rfl, itd (fun _ => ?_) fun _ => rr _ _ ⟨ky, tx, hky, htx, ls7, by rw [← hmk]; rfl⟩⟩
        refine ⟨_, rfl, _, _, rfl, rfl, ⟨by decide, by decide, by decide⟩, _, _, rfl, rfl, ⟨by decide, by decide⟩, _, rfl, fun ky' H8 hk' s8 => ⟨_, rfl, _, _, rfl, rfl, ⟨by decide, by decide, by decide⟩, _, _, rfl, rfl, wide_div (b := 41) (by decide) (by decide) (by decide) (by decide), _, rfl, fun tx' H9 ht' s9 => ⟨by show 2 ≤ sizeLine; decide, fun tp' htp' => ?_⟩⟩⟩
        exact ⟨_, _, rfl, sqT upd_same, rfl, _, _, rfl, _, _, rfl, rfl, rr _ _ ⟨ky', tx', hk', ht', ls7.same ((s8.trans s9).trans (same_new htp')), by rw [← hmk]; rfl⟩⟩
      clear ls7 htp hL2 hL1 ls6 eat1 eat2 hky htx ky tx s6
      rintro σ' H7 ⟨ky, tx, hky, htx, ls7, rfl⟩
      have mk2 := name_short hky
      have b40 : j < 40 := by omega
      refine ⟨ls7.fw.t, fun H8 x8 t8 => ?_⟩
      have ls8 := ls7.ext x8 t8
      obtain ⟨dx8, hp8⟩ := id ls8.tk.ins
      have ek : isMk (.str mark) = true := mk
      have en : isNm (.str ky) = true := hky
      have et : isTx (.str tx) = true := htx
      have b0 := bd.mono (show j ≤ 40 by omega)
      refine ⟨_, rfl, p, dx8, _, rfl, hp8, rfl, _, rfl, _, rfl, _, rfl, p, dm, dr, lm, m, r, .str mark, .str ky, .str tx, rfl, ls8.tk, ⟨_, ls8.hlm⟩, .str _, .str _, .str _, Nat.le_trans mkl (by decide), name_short hky, text_short htx, Nat.le_trans b0.hm (by decide), Nat.le_trans b0.hr (by decide), fun k => Nat.le_trans (b0.hg k) (by decide),
        fun z => (by rw [ek] at z; cases z), fun _ z => (by rw [en] at z; cases z), fun _ _ z => (by rw [et] at z; cases z), fun a b c ea eb ec _ _ _ t H9 m' r' alt fr9 tk9 => ?_⟩
      cases ea
      cases eb
      cases ec
      have ls9 := ls8.take fr9 tk9
      have et : (!inV (V.str mark) (m.map V.str)) = t := by
        rw [inV_strs]
        rcases alt with ⟨rfl, hm, _⟩ | ⟨rfl, hm, _⟩
        · rw [decide_eq_true hm]
          rfl
        · rw [decide_eq_false hm]
          rfl
      refine ⟨_, rfl, _, rfl, lm, _, rfl, .inl (sqL ls9.hlm), rfl, flat_strs m, ?_⟩
      refine ⟨rfl, false, congrArg (fun b => V.bl (!b)) (decide_eq_true (congrArg V.bl et.symm)), ?_⟩
      refine r_no (r_next ?_)
      dsimp only
      refine r_seq (r_if (good := fun σ' H' => ∃ m' r', LS K [(Pt, lawQ)] H H' p dm dr lm ld m' r' m' r' ∧ Bd (j + 1) m' r' ∧
        σ' = [some (.ref a), some (.int (0 + (i : Nat))), some (.int d), some (.ref p), some (.ref lm), some (.ref ld), some (.int (0 + (j : Nat))), some (.int h), some (.str mark), some (.str ky), some (.str tx), o11, o12, o13]) ?_ fun rr => ?_)
      case refine_2 =>
        refine ⟨_, rfl, _, rfl, lm, _, rfl, .inl (sqL ls9.hlm), rfl, flat_strs m, t, congrArg V.bl et, ?_⟩
        rcases alt with ⟨rfl, hm, rfl, rfl⟩ | ⟨rfl, hm, rfl, rfl⟩
        · exact rr _ _ ⟨_, _, ls9, bd.mono (Nat.le_succ j), rfl⟩
        · refine ⟨_, rfl, .inl ⟨rfl, _, sqL ls9.hlm⟩, _, rfl, lm, _, _, rfl, rfl, ls9.hlm, by rw [List.length_map]; exact small1000 (Nat.le_trans b0.hm (by decide)), ?_⟩
          have lsp := ls9.push (a := mark)
          generalize upd H9 lm (.lst (m.map V.str ++ [.str mark])) = H10 at lsp
          obtain ⟨kvs, hd, rr4⟩ := id lsp.hld
          refine ⟨_, rfl, ld, rfl, .inl ⟨kvs, .inl hd⟩, _, rfl, by show 0 ≤ sizeLine; decide, fun l hl => ?_⟩
          have s5 := same_new (o := HO.lst []) hl
          have hl5 : upd H10 l (HO.lst []) l = some (.lst []) := upd_same
          have ls5 := lsp.same s5
          generalize upd H10 l (HO.lst []) = H11 at s5 hl5 ls5
          obtain ⟨lv, elv, hlv⟩ : ∃ lv, (valV kvs (Sum.inr ky)).getD (.ref l) = .ref lv ∧ H11 lv = some (.lst ((getR r ky).map V.str)) := by
            unfold getR
            rcases rr4.get ky with ⟨e1, e2⟩ | ⟨l', ts, e1, e2, e3⟩
            · rw [e1, e2]
              exact ⟨l, rfl, hl5⟩
            · rw [e1, e2]
              exact ⟨l', rfl, s5 _ _ e3⟩
          refine ⟨_, DGet.k (k := Sum.inr ky) (s5 _ _ hd), _, rfl, by show 1 ≤ sizeLine; decide, fun l2 hl2 => ?_⟩
          have s6 := same_new (o := HO.lst [.str tx]) hl2
          refine ⟨lv, l2, _, _, elv, rfl, s6 _ _ hlv, upd_same, by rw [List.length_map]; exact sz (by have := b0.hg ky; show _ + 1 ≤ 100000; omega), fun l3 hl3 => ?_⟩
          have s7 := same_new (o := HO.lst ((getR r ky).map V.str ++ [.str tx])) hl3
          have hl7 : upd (upd H11 l2 (.lst [.str tx])) l3 (.lst ((getR r ky).map V.str ++ [.str tx])) l3 = some (.lst ((getR r ky ++ [tx]).map V.str)) := by rw [upd_same, List.map_append]; rfl
          have ls6 := ls5.same (s6.trans s7)
          have nav : l3 ≠ lm := fun z => by
            rw [z, s6 _ _ ls5.hlm] at hl3
            cases hl3
          have hd7 := (s6.trans s7) _ _ (s5 _ _ hd)
          have rr7 := rr4.ext fun l xs _ q => (s6.trans s7) _ _ (s5 _ _ q)
          generalize upd (upd H11 l2 (.lst [.str tx])) l3 (.lst ((getR r ky).map V.str ++ [.str tx])) = H12 at s7 hl7 ls6 hd7 rr7
          refine ⟨_, rfl, _, rfl, ld, _, rfl, DPut.k (k := Sum.inr ky) hd7 (by rw [rr7.len]; exact small1000 (Nat.le_trans b0.hr (by decide))), ?_⟩
          exact rr _ _ ⟨_, _, ls6.put hd7 rr7 hl7 nav, bd.put _ _ _ hky htx, rfl⟩
      clear ls9 et tk9 fr9 alt ls8 hp8 b0 bd ls7
      rintro σ' H13 ⟨m2, r2, ls, bd, rfl⟩
      have j41 : j + 1 ≤ 40 := by omega
      obtain ⟨dx3, hp3⟩ := id ls.tk.ins
      obtain ⟨kvs, hd, rr⟩ := id ls.hld
      have keyOk : ∀ (ys : List Str), ys.Perm (r2.map (·.1)) → ∀ y ∈ ys, sOk y := fun ys pm y hy => by
        obtain ⟨kv, hkv, rfl⟩ := List.mem_map.mp (pm.mem_iff.mp hy)
        exact name_lay (bd.ok kv hkv).1
      have l64 : (r2.map (·.1)).length < 64 := by rw [List.length_map]; have := bd.hr; omega
      refine ⟨_, rfl, p, dx3, _, rfl, hp3, rfl, p, dm, dr, lm, m2, r2, rfl, ls.tk, by rw [List.length_map] at l64; exact l64, fun ys q1 pm so hq1 => ?_⟩
      have s1 := same_new (o := HO.lst (ys.map V.str)) hq1
      refine ⟨_, rfl, ld, kvs, r2.map (·.1), rfl, .inl (s1 _ _ hd), rr.keys, l64, fun ys2 q2 pm2 so2 hq2 => ?_⟩
      obtain rfl := same_sorted2 pm pm2 so so2
      have s2 := same_new (o := HO.lst (ys.map V.str)) hq2
      refine ne_self (dp_lstrs (s2 _ _ upd_same)) (dp_lstrs upd_same) (sh_strs (keyOk ys pm)) ⟨false, rfl, ?_⟩
      have ls2 := ls.same (s1.trans s2)
      have hd2 := (s1.trans s2) _ _ hd
      have rr2 := rr.ext fun l xs _ q => (s1.trans s2) _ _ q
      have hp2 := (s1.trans s2) _ _ hp3
      generalize upd (upd H13 q1 (.lst (ys.map V.str))) q2 (.lst (ys.map V.str)) = H14 at ls2 hd2 rr2 hp2
      refine ⟨ld, _, hd2, trivial, fun od => ⟨_, rfl, ld, od, rfl, .inl ⟨kvs, upd_same, fun D hD => ?_⟩⟩⟩
      have nld : D ≠ ld := fun z => by
        rw [z, upd_same] at hD
        cases hD
      refine lc_adds (walk_keys (kvs := kvs) (d := ld) (o := od)) (fun n acc => acc = (List.replicate n true).map V.bl) hD (by rw [rr2.len]; exact Nat.le_trans bd.hr (by omega)) rfl (fun n acc h => by rw [h]; simp) (fun H' s' => s' _ _ upd_same) ?_ ?_
      · rintro Tq N n acc y H15 H16 yes no hn s15 pp ⟨rfl, kk, vv, hk, rfl⟩
        obtain ⟨one, hone, rfl⟩ : ∃ one, one ∈ r2.map (·.1) ∧ kk = Sum.inr one := by
          have e := congrArg (fun l => l[n]?) rr2.keys
          simp only [List.getElem?_map, hk] at e
          cases e2 : r2[n]? with
          | none =>
            rw [e2] at e
            cases e
          | some kv =>
            rw [e2] at e
            exact ⟨kv.1, List.mem_map.mpr ⟨kv, List.mem_of_getElem? e2, rfl⟩, Option.some.inj e⟩
        obtain ⟨kv, hkv, ekv⟩ := List.mem_map.mp hone
        have nm1 : nameOk one = true := by rw [← ekv]; exact (bd.ok kv hkv).1
        obtain ⟨l', ts, e1, e2, e3⟩ : ∃ l ts, valV kvs (.inr one) = some (.ref l) ∧ lookR r2 one = some ts ∧ H14 l = some (.lst (ts.map V.str)) := by
          rcases rr2.get one with ⟨z, _⟩ | z
          · have w := valV_any (Sum.inr one) kvs
            rw [z, List.any_eq_true.mpr ⟨_, List.mem_of_getElem? hk, decide_eq_true rfl⟩] at w
            cases w
          · exact z
        have eg : getR r2 one = ts := by unfold getR; rw [e2]; rfl
        have e4 : upd H14 ld (.frz od (.dK kvs)) l' = some (.lst (ts.map V.str)) := by rw [upd_ne fun z => by rw [z, hd2] at e3; cases e3]; exact e3
        have tkL := (ls2.lock (o := .frz od (.dK kvs)) hd2).same (ext_of s15)
        obtain ⟨dx5, hp5⟩ := id tkL.ins
        refine ⟨rfl, _, rfl, p, dx5, _, rfl, hp5, rfl, _, rfl, p, dm, dr, lm, m2, r2, .str one, rfl, tkL, .str _, name_short nm1, fun z => (by have z : nameOk one = false := z; rw [nm1] at z; cases z), fun aa ea na H17 q3 s17 hq3 eq3 => ?_⟩
        cases ea
        rw [eg] at eq3
        refine ⟨_, rfl, _, rfl, ld, _, rfl, .inl ⟨kvs, Sum.inr one, .inr ⟨od, s17 _ _ (s15 _ _ upd_same)⟩, rfl, e1.symm⟩, eq_self (dp_lstrs eq3) (dp_lstrs (s17 _ _ (s15 _ _ e4))) (sh_strs fun s hs => text_lay (bd.ok.get one s (by rw [eg]; exact hs))) (yes _ _ s17 ?_)⟩
        rw [pp, List.replicate_succ', List.map_append]
        rfl
      · rintro acc H15 s15 hDa rfl
        refine ⟨s15 _ _ upd_same, D, List.replicate kvs.length true, rfl, sqL (by rw [upd_ne nld]; exact hDa), ?_⟩
        have ea : (List.replicate kvs.length true).all id = true := List.all_eq_true.mpr fun b hb => List.eq_of_mem_replicate hb
        rw [ea]
        exact ⟨_, rfl, m2, r2, ls2.same (same_unlock hd2 s15), bd, _, _, _, _, _, _, _, _, rfl⟩
    · rintro σ H5 ⟨m, r, ls, bd0, o6, o7, o8, o9, o10, o11, o12, o13, rfl⟩
      have bd := bd0.mono (show (d % 40).toNat ≤ 40 by omega)
      clear bd0
      have hT : ("BadText" : Str) ∈ cls := by decide
      have hNm : ("BadName" : Str) ∈ cls := by decide
      have mk1 : isMk (.str "m1") = true := by decide +kernel
      have mk9 : isMk (.str "m9999") = true := by decide +kernel
      have nma : isNm (.str "a") = true := by decide +kernel
      have nmz : nameOk "zz" = true := by decide +kernel
      have c1 : Short (.str "A") := by show ("A" : Str).length ≤ 100000; decide +kernel
      have c2 : Short (.str "m1") := by show ("m1" : Str).length ≤ 100000; decide +kernel
      have c3 : Short (.str "m9999") := by show ("m9999" : Str).length ≤ 100000; decide +kernel
      have c4 : Short (.str "a") := by show ("a" : Str).length ≤ 100000; decide +kernel
      have c5 : Short (.str "zz") := by show ("zz" : Str).length ≤ 100000; decide +kernel
      have lm1 : m.length ≤ 1000 := Nat.le_trans bd.hm (by decide)
      have lr1 : r.length ≤ 1000 := Nat.le_trans bd.hr (by decide)
      have lk1 : ∀ k, (getR r k).length ≤ 1000 := fun k => Nat.le_trans (bd.hg k) (by decide)
      refine ⟨by show 11 ≤ sizeLine; decide, fun B hB => ⟨_, rfl, ⟨_, sqL upd_same⟩, ?_⟩⟩
      refine for_it (walk_list (xs := badM)) (fun n σ H' => LS K [(Pt, lawQ)] H H' p dm dr lm ld m r m r ∧ H' B = some (.lst badM) ∧ ∃ o12, σ = [some (.ref a), some (.int (0 + (i : Nat))), some (.int d), some (.ref p), some (.ref lm), some (.ref ld), o6, o7, o8, o9, o10, o11, o12, o13])
        ⟨ls.same (same_new hB), upd_same, _, rfl⟩ (fun _ _ _ _ g => sqL g.2.1) ?_ ?_
      · rintro n y σ H6' H6 hn ⟨ls, eB, o12', rfl⟩ ⟨rfl, hy⟩
        have hm : y ∈ badM := List.mem_of_getElem? hy
        have no := no_of badM_no hm
        refine ⟨ls.fw.t, fun H7 x7 t7 => ?_⟩
        have ls7 := ls.ext x7 t7
        obtain ⟨dx7, hp7⟩ := id ls7.tk.ins
        refine ⟨_, rfl, p, dx7, _, rfl, hp7, rfl, _, rfl, p, dm, dr, lm, m, r, y, .str "A", .non, rfl, ls7.tk, ⟨_, ls7.hlm⟩, (bad_thing (.inl hm)).1, .str _, .non, (bad_thing (K := K) (H := H7) (.inl hm)).2, c1, trivial, lm1, lr1, lk1,
          fun _ H8 s8 => ⟨"BadText", hT, rfl, rfl, T_word T hT, fun H9 u s9 _ eu => ?_⟩, fun z => (by rw [no] at z; cases z), fun z => (by rw [no] at z; cases z), fun a b c ea _ _ mk _ _ => ?_⟩
        · refine ⟨by show 2 ≤ sizeLine; decide, fun t2 ht2 => ne_self (dp_rf ((same_new ht2) _ _ eu)) (dp_rf upd_same) (sh_rf (by decide +kernel)) ⟨false, rfl, ?_⟩⟩
          have sx := (s8.trans s9).trans (same_new (o := HO.tup [.str "refused", .str "BadText"]) ht2)
          exact ⟨ls7.same sx, sx _ _ (ext_lst x7 eB), _, rfl⟩
        · rw [ea] at no
          have no : markOk a = false := no
          rw [mk] at no
          cases no
      clear ls
      rintro σ H6 ⟨ls, _, o12', rfl⟩
      refine ⟨by show 5 ≤ sizeLine; decide, fun B2 hB2 => ⟨_, rfl, ⟨_, sqL upd_same⟩, ?_⟩⟩
      refine for_it (walk_list (xs := badN)) (fun n σ H' => LS K [(Pt, lawQ)] H H' p dm dr lm ld m r m r ∧ H' B2 = some (.lst badN) ∧ ∃ o12 o13, σ = [some (.ref a), some (.int (0 + (i : Nat))), some (.int d), some (.ref p), some (.ref lm), some (.ref ld), o6, o7, o8, o9, o10, o11, o12, o13])
        ⟨ls.same (same_new hB2), upd_same, _, _, rfl⟩ (fun _ _ _ _ g => sqL g.2.1) ?_ ?_
      · rintro n y σ H7' H7 hn ⟨ls, eB, o12', o13', rfl⟩ ⟨rfl, hy⟩
        have hm : y ∈ badN := List.mem_of_getElem? hy
        have no := no_of badN_no hm
        refine ⟨ls.fw.t, fun H8 x8 t8 => ?_⟩
        have ls8 := ls.ext x8 t8
        obtain ⟨dx8, hp8⟩ := id ls8.tk.ins
        refine ⟨_, rfl, p, dx8, _, rfl, hp8, rfl, _, rfl, p, dm, dr, lm, m, r, .str "m1", y, .non, rfl, ls8.tk, ⟨_, ls8.hlm⟩, .str _, (bad_thing (.inr (.inl hm))).1, .non, c2, (bad_thing (K := K) (H := H8) (.inr (.inl hm))).2, trivial, lm1, lr1, lk1,
          fun z => (by rw [mk1] at z; cases z), fun _ _ H9 s9 => ⟨"BadName", hNm, rfl, rfl, T_word T hNm, fun H10 u1 s10 _ eu1 => ?_⟩, fun _ z => (by rw [no] at z; cases z), fun a b c _ eb _ _ nk _ => ?_⟩
        rotate_left
        · rw [eb] at no
          have no : nameOk b = false := no
          rw [nk] at no
          cases no
        have ls10 := ls8.same (s9.trans s10)
        have eB10 := (s9.trans s10) _ _ (ext_lst x8 eB)
        refine ⟨by show 1 ≤ sizeLine; decide, fun S hS => ?_⟩
        have f10 : Fw [(Pt, lawQ)] H10 H10 := Fw.refl ls10.fw.t
        have nS := f10.nt hS
        have f11 := f10.new (o := HO.lst [.ref u1]) hS
        have eS11 : upd H10 S (.lst [.ref u1]) S = some (.lst [.ref u1]) := upd_same
        generalize upd H10 S (.lst [.ref u1]) = H11 at f11 eS11
        refine ⟨_, rfl, .inl ⟨rfl, _, sqL eS11⟩, f11.t, fun H12 x12 t12 => ?_⟩
        have f12 := f11.ext x12 t12
        have tk12 := ls10.tk.same f12.e
        obtain ⟨dx12, hp12⟩ := id tk12.ins
        refine ⟨_, rfl, p, dx12, _, rfl, hp12, rfl, _, rfl, p, dm, dr, lm, m, r, y, rfl, tk12, (bad_thing (.inr (.inl hm))).1, (bad_thing (K := K) (H := H12) (.inr (.inl hm))).2, fun _ H13 s13 => ⟨"BadName", hNm, rfl, rfl, T_word T hNm, fun H14 u2 s14 _ eu2 => ?_⟩, fun b eb nk => ?_⟩
        rotate_left
        · rw [eb] at no
          have no : nameOk b = false := no
          rw [nk] at no
          cases no
        have f14 := (f12.same s13).same s14
        have eS14 : H14 S = some (.lst [.ref u1]) := (s13.trans s14) _ _ (ext_lst x12 eS11)
        have eu14 : H14 u1 = some (.tup [.str "refused", .str "BadName"]) := ext_tup f14.e eu1
        refine ⟨S, [.ref u1], _, rfl, rfl, eS14, by show 1 < sizeLine; decide, ?_⟩
        have f15 := f14.mut (ys := [.ref u1] ++ [.ref u2]) nS eS14
        have ne1 : u1 ≠ S := fun z => by rw [z, eS14] at eu14; cases eu14
        have ne2 : u2 ≠ S := fun z => by rw [z, eS14] at eu2; cases eu2
        have eS15 : upd H14 S (.lst ([.ref u1] ++ [.ref u2])) S = some (.lst ([u1, u2].map V.ref)) := upd_same
        have et15 : ∀ t ∈ [u1, u2], upd H14 S (.lst ([.ref u1] ++ [.ref u2])) t = some (.tup [.str "refused", .str "BadName"]) := by
          intro t ht
          simp only [List.mem_cons, List.not_mem_nil, or_false] at ht
          rcases ht with rfl | rfl
          · rw [upd_ne ne1]
            exact eu14
          · rw [upd_ne ne2]
            exact eu2
        generalize upd H14 S (.lst ([.ref u1] ++ [.ref u2])) = H15 at f15 eS15 et15
        refine ⟨_, rfl, by show 2 ≤ sizeLine; decide, fun t4 ht4 => ⟨by show 1 ≤ sizeLine; decide, fun l5 hl5 => ⟨l5, 2, [.ref t4], rfl, rfl, upd_same, by decide, by decide, by show 2 ≤ sizeLine; decide, fun q6 hq6 => ?_⟩⟩⟩
        have sz1 := same_new (o := HO.tup [.str "refused", .str "BadName"]) ht4
        have sz2 := same_new (o := HO.lst [.ref t4]) hl5
        have sz3 := same_new (o := HO.lst (List.replicate (2 : Int).toNat [V.ref t4]).flatten) hq6
        have sz := (sz1.trans sz2).trans sz3
        refine ne_self (.lst (sqL (sz _ _ eS15)) (dp_rfs fun t ht => sz _ _ (et15 t ht))) (.lst (sqL upd_same) (dp_rfs (ts := [t4, t4]) fun t ht => ?_)) (sh_rfs (by decide +kernel) 2) ⟨false, rfl, ?_⟩
        · simp only [List.mem_cons, List.not_mem_nil, or_false] at ht
          rcases ht with rfl | rfl <;> exact sz3 _ _ (sz2 _ _ upd_same)
        · have f16 := f15.same sz
          exact ⟨ls10.ext f16.e f16.t, ext_lst f16.e eB10, _, _, rfl⟩
      clear ls
      rintro σ H7 ⟨ls, _, o12', o13', rfl⟩
      refine ⟨_, _, rfl, rfl, ?_, by show 4 ≤ sizeLine; decide, fun B3 hB3 => ⟨_, rfl, ⟨_, sqL upd_same⟩, ?_⟩⟩
      · exact ⟨by decide, by decide, by decide⟩
      refine for_it (walk_list (xs := badT)) (fun n σ H' => LS K [(Pt, lawQ)] H H' p dm dr lm ld m r m r ∧ H' B3 = some (.lst badT) ∧ ∃ o12 o13, σ = [some (.ref a), some (.int (0 + (i : Nat))), some (.int d), some (.ref p), some (.ref lm), some (.ref ld), o6, o7, o8, o9, o10, o11, o12, o13])
        ⟨ls.same (same_new hB3), upd_same, _, _, rfl⟩ (fun _ _ _ _ g => sqL g.2.1) ?_ ?_
      · rintro n y σ H8' H8 hn ⟨ls, eB, o12', o13', rfl⟩ ⟨rfl, hy⟩
        have hm : y ∈ badT := List.mem_of_getElem? hy
        have no := no_of badT_no hm
        refine ⟨ls.fw.t, fun H9 x9 t9 => ?_⟩
        have ls9 := ls.ext x9 t9
        obtain ⟨dx9, hp9⟩ := id ls9.tk.ins
        refine ⟨_, rfl, p, dx9, _, rfl, hp9, rfl, _, rfl, p, dm, dr, lm, m, r, .str "m9999", .str "a", y, rfl, ls9.tk, ⟨_, ls9.hlm⟩, .str _, .str _, (bad_thing (.inr (.inr hm))).1, c3, c4, (bad_thing (K := K) (H := H9) (.inr (.inr hm))).2, lm1, lr1, lk1,
          fun z => (by rw [mk9] at z; cases z), fun _ z => (by rw [nma] at z; cases z), fun _ _ _ H10 s10 => ⟨"BadText", hT, rfl, rfl, T_word T hT, fun H11 u s11 _ eu => ?_⟩, fun a b c _ _ ec _ _ tk => ?_⟩
        · refine ⟨by show 2 ≤ sizeLine; decide, fun t2 ht2 => ne_self (dp_rf ((same_new ht2) _ _ eu)) (dp_rf upd_same) (sh_rf (by decide +kernel)) ⟨false, rfl, ?_⟩⟩
          have sx := (s10.trans s11).trans (same_new (o := HO.tup [.str "refused", .str "BadText"]) ht2)
          exact ⟨ls9.same sx, sx _ _ (ext_lst x9 eB), _, _, rfl⟩
        · rw [ec] at no
          have no : textOk c = false := no
          rw [tk] at no
          cases no
      clear ls
      rintro σ H8 ⟨ls, _, o12', o13', rfl⟩
      obtain ⟨dx3, hp3⟩ := id ls.tk.ins
      refine ⟨_, rfl, p, dx3, _, rfl, hp3, rfl, p, dm, dr, lm, m, r, .str "zz", rfl, ls.tk, .str _, c5, fun z => (by have z : nameOk "zz" = false := z; rw [nmz] at z; cases z), fun aa ea _ H9 q3 s9 hq3 eq3 => ?_⟩
      cases ea
      have ls9 := ls.same s9
      obtain ⟨kvs, hd, rr⟩ := id ls9.hld
      refine ⟨_, rfl, ld, rfl, .inl ⟨kvs, .inl hd⟩, by show 0 ≤ sizeLine; decide, fun l hl => ⟨_, DGet.k (k := Sum.inr "zz") ((same_new hl) _ _ hd), ?_⟩⟩
      have s10 := same_new (o := HO.lst []) hl
      obtain ⟨lv, elv, hlv⟩ : ∃ lv, (valV kvs (Sum.inr "zz")).getD (.ref l) = .ref lv ∧ upd H9 l (.lst []) lv = some (.lst ((getR r "zz").map V.str)) := by
        unfold getR
        rcases rr.get "zz" with ⟨e1, e2⟩ | ⟨l', ts, e1, e2, e3⟩
        · rw [e1, e2]
          exact ⟨l, rfl, upd_same⟩
        · rw [e1, e2]
          exact ⟨l', rfl, s10 _ _ e3⟩
      refine ne_self (dp_lstrs (s10 _ _ eq3)) (by rw [elv]; exact dp_lstrs hlv) (sh_strs fun s hs => text_lay (bd.ok.get "zz" s hs)) ⟨false, rfl, ?_⟩
      have ls10 := ls9.same s10
      obtain ⟨dx4, hp4⟩ := id ls10.tk.ins
      have hd4 := s10 _ _ hd
      have keyOk : ∀ (ys : List Str), ys.Perm (r.map (·.1)) → ∀ y ∈ ys, sOk y := fun ys pm y hy => by
        obtain ⟨kv, hkv, rfl⟩ := List.mem_map.mp (pm.mem_iff.mp hy)
        exact name_lay (bd.ok kv hkv).1
      have l64 : (r.map (·.1)).length < 64 := by rw [List.length_map]; have := bd.hr; omega
      refine ⟨_, rfl, p, dx4, _, rfl, hp4, rfl, p, dm, dr, lm, m, r, rfl, ls10.tk, by rw [List.length_map] at l64; exact l64, fun ys q1 pm so hq1 => ?_⟩
      have s11 := same_new (o := HO.lst (ys.map V.str)) hq1
      refine ⟨_, rfl, ld, kvs, r.map (·.1), rfl, .inl (s11 _ _ hd4), rr.keys, l64, fun ys2 q2 pm2 so2 hq2 => ?_⟩
      obtain rfl := same_sorted2 pm pm2 so so2
      have s12 := same_new (o := HO.lst (ys.map V.str)) hq2
      refine ne_self (dp_lstrs (s12 _ _ upd_same)) (dp_lstrs upd_same) (sh_strs (keyOk ys pm)) ⟨false, rfl, ?_⟩
      exact ⟨(ls10.same (s11.trans s12)).fw, _, _, _, _, _, _, _, _, _, _, _, _, _, rfl⟩
  · rintro σ H1 ⟨f1, o1, o2, o3, o4, o5, o6, o7, o8, o9, o10, o11, o12, o13, rfl⟩
    exact q H1
end
end T
end
section
namespace T
open PySem PySem.Spec PyProof.Rows L2 Tr LamX
abbrev hk : PySem.W.Hook := He.hookX 4 fa fn [] tf ex
def ob (s : PySem.W.SharedT) : He.AlX := He.obsX 4 fa fn [] tf ex (HandSHeadRun.getT s)
theorem ob_eq (s : PySem.W.SharedT) : ob s = hk.obs s.abs := He.obsX_eq (HandSHeadRun.getT_eq s)
abbrev lawK : Nat := 6
abbrev lawC (K : PySem.W.Frag) : Addr × Addr := He.cT K ("law", none)
theorem hc {prog : Program} (w : World) (mg : Str → Option Value) (f : Addr) (h : Heap) (Y : hk.says w h) (G : h.Ns mainGlobals mg) (hm : mg "law" = some (.ref f)) :
    ∃ K : PySem.W.Frag, K.In h ∧ ∃ (fd : FuncData) (cs : List (Addr × Addr)) (sp : Sp), (∀ p ∈ cs, h.get? p.2 = some { cls := .none, data := .fields #[] }) ∧ (∀ p ∈ cs, K.lookup p.2 = none) ∧ (∀ p ∈ cs, PySem.W.CodeHd h p.1 p.2) ∧
      (∀ (s : Shared) (u : Value), BindsTo s fd ⟨[u], []⟩ [("_law_script", u)]) ∧
      (∀ (H : Hp) (a : Addr) (ns : List Int), ns.length ≤ 63 → (∀ z ∈ ns, Builtin.Int.intBits z ≤ 1048576) → (∀ p ∈ cs, H p.2 = some (.tbl #[])) → SqL K H a (ns.map V.int) → sp [.ref a] H (fun v _ => v = .bl true) fun _ _ _ => False) ∧
      ∀ base : Heap, K.In base → base.Ns mainGlobals mg → (∀ p ∈ cs, TabB base mg p.1 p.2) → FnOk prog w K mg base (NX prog w) 6 f fd ["_law_script"] sp := by
  obtain ⟨K, hK, S⟩ := Y
  have T : Txt K mg := ⟨S.t.d, S.more, h, hK, G⟩
  obtain rfl : He.ga K "law" = f := by
    have e := T.g_law
    rw [hm] at e
    exact (Value.ref.inj (Option.some.inj e)).symm
  obtain ⟨fd, F⟩ := T.f_law
  obtain ⟨oc, od, dV, kV, doc, pm, an, cdv, ct, osl, ef, lk, hcd, _, _⟩ := id F.ex
  obtain ⟨c, ec⟩ := He.codeIn_ref hcd
  have efc : fd.code = .ref c := by rw [ef, ec] <;> rfl
  have ecc : (lawC K).1 = c := He.codeOf_eq lk efc
  have one : ∀ p ∈ [lawC K], p = lawC K := fun p hp => List.mem_singleton.mp hp
  have tfm : (("law", none) : He.Defn) ∈ tf := List.mem_singleton.mpr rfl
  refine ⟨K, hK, fd, [lawC K], spLaw K [((lawC K).2, lawQ)], fun p hp => ?_, fun p hp => ?_, fun p hp => ?_, fun s u => ?_, fun H a ns hl _ ht hS => ?_, fun base hb hns ht => ?_⟩
  · rw [one p hp]
    exact S.empty _ tfm
  · rw [one p hp]
    exact S.out _ tfm
  · rw [one p hp]
    exact PySem.W.codeHd_of_K hK (S.hd _ tfm)
  · exact F.bindsA (ps := ["_law_script"]) (fun _ _ _ _ _ _ us hl => match us, hl with | [_], _ => rfl) s [u] rfl
  · refine ⟨a, ns, rfl, hS, hl, fun p hp => ?_, fun _ => rfl⟩
    rw [List.mem_singleton.mp hp]
    exact TabS.nil (ht _ (List.mem_singleton.mpr rfl))
  · refine law_ok T F efc ?_
    rw [← ecc]
    exact ht _ (List.mem_singleton.mpr rfl)
end T
end
section
namespace T
open PySem PySem.Spec PyProof.Rows L2
theorem run (w : World) : HandSHeadRun.RunEq R (PySem.W.view R.prog [lawAt]) hk ob 40000 loose w := by
  intro os
  kernel_rfl
end T
end
open PySem PySem.W PySem.Calls PyProof.Rows
theorem PySem.Challenge.cw_tryroad_k30_whole_takers_holds : PySem.Challenge.rw_tryroad_k30_whole_takers.Holds := by
  w_on
  o_law
  refine HandSHeadRun.head_any (r := OpenLaw.row PySem.Challenge.rw_tryroad_k30_whole_takers) (q := view (OpenLaw.row PySem.Challenge.rw_tryroad_k30_whole_takers).prog [T.lawAt]) (H := T.hk) (ob := T.ob) (M := 40000) (loose := T.loose) (d := HandSHeadRun.topDef (OpenLaw.row PySem.Challenge.rw_tryroad_k30_whole_takers).prog T.lawAt) (kwd := []) T.ob_eq
    (by kernel_rfl) (fun s => by kernel_rfl) T.run (by kernel_rfl) (by kernel_rfl) (by kernel_rfl) (by rfl) (by first | assumption | decide +kernel) (by decide +kernel) ⟨rfl, rfl, rfl, rfl, rfl, by decide +kernel⟩ ?hw ?hc
  case hw => w_witness2
  case hc => exact LamX.walk_ofTsE (l := PySem.Challenge.rw_tryroad_k30_whole_takers) (n := 63) (k := T.lawK) (x := "_law_script") (CX := fun w => Tr.NX (OpenLaw.row PySem.Challenge.rw_tryroad_k30_whole_takers).prog w) rfl (by decide) rfl ⟨rfl, by decide, by decide⟩ (fun w mg f h Y G hm => T.hc w mg f h Y G hm) fun w H s e s' ⟨_, _, _, _, _, _, _, _, _, _, _, _, z⟩ => z

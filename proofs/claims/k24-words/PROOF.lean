import PyProof.Rows.All
import Wide.All
import OpenK.AllK
import Wide.FinOn
import HandS.ForMost
import HandS.IsInst
import HandS.Zip
import HandS.Style
import HandS.More
import PyProof.TupleOfSeq
import KE.KIndexOf
import KE.GoesMore
import KE.GoesEnum
import PySem.Challenge.RW_brimful_k24_whole_words_send_every_point
set_option Elab.async false
set_option linter.all false
set_option maxRecDepth 100000
set_option maxHeartbeats 4000000
/-! K24: rules of our own: a def by its name (Df, Cal), a loop over enumerate(tuple), sorted(tuple of ints), tuple.index of ints. -/
namespace K24
open PySem PySem.Spec PyProof.Rows L2

def topS (i : Nat) : Stmt := PySem.Challenge.pw_brimful_k24_whole_words_send_every_point.main.body.getD i (.Pass ⟨0, 0, 0, 0⟩)

/-! ### a def of the top -/
structure Df (K : PySem.W.Frag) (mg : Str → Option Value) (x : Str) (st : Stmt) (ps : List Str) : Prop where
  ex : ∃ (f : Addr) (fd : FuncData), Fun K x x st f fd ∧ Binds K fd ps [] ∧ mg x = some (.ref f)
/-- a def that keeps its promise, as it is called by its name -/
structure Cal (P : Program) (w : World) (K : PySem.W.Frag) (mg : Str → Option Value) (base : Heap) (k : Nat) (x : Str) (sp : Sp) : Prop where
  ex : ∃ (f : Addr) (fd : FuncData) (ps : List Str), FnOk P w K mg base CX0 k f fd ps sp ∧ Binds K fd ps [] ∧ mg x = some (.ref f) ∧ PySem.W.keepIn K (.ref f) = true
theorem Df.ok {P : Program} {w : World} {K : PySem.W.Frag} {mg : Str → Option Value} {base : Heap} {x : Str} {st : Stmt} {N ps : List Str} {k : Nat} {sp : Sp} (D : Df K mg x st ps) (S : FnScope N ps (defScope st))
    (len : ∀ vs H Q E, sp vs H Q E → vs.length = ps.length)
    (body : ∀ (f : Addr) (cdv : Value) (A : Around) (outer : List Env) (s : Shared) (H : Hp) (vs : List V) (Q : VK) (E : XK), Room k (A.deeper (envOfC x (defScope st) s.heap.objs.size f cdv)) → sp vs H Q E →
      ∃ t, PSs (cxOf CX0 P w K mg base N x (defScope st) f cdv A outer s H E).nox (defBody st) t ∧ t { nx := fun _ H' => Q .non H', rt := Q } (start N vs) H) :
    Cal P w K mg base (k + 1) x sp := by
  obtain ⟨f, fd, F, b, m⟩ := D.ex
  refine ⟨f, fd, ps, F.ok S len ?_, b, m, F.kp⟩
  intro cdv A outer s H vs Q E room h
  exact body f cdv A outer s H vs Q E room h
/-- its call -/
theorem pe_cal {X : Cx} {k j : Nat} {x : Str} {p pos : Pos} {e : Expr} {es : List Expr} {t : TA} {sp : Sp} (C : Cal X.prog X.w X.K X.mg X.base k x sp) (room : Room j X.A) (hk : k ≤ j) (gl : Gl X x) (args : PA X (e :: es) t)
    (h1 : (x == ("__debug__" : Str)) = false := by decide)
    (h2 : starEach (e :: es) X.env = (false, eval e X.env) :: starEach es X.env := by rfl)
    (h3 : (backTo pos (starEach es X.env)).any (·.1) = false := by rfl) : PE X (.Call (.Name x p) (e :: es) [] pos) (tCall sp [] E0 t) := by
  obtain ⟨f, fd, ps, F, b, m, kp⟩ := C.ex
  exact pe_call F (room.mono hk) gl m kp b .nil pass0 args h1 h2 h3

/-! ### enumerate(tuple), walked by the library's WalksT.enumerateD over Draws.tuple -/
/-- the tuple at a: its items, each in a new pair behind its place -/
def Iet (K : PySem.W.Frag) (a : Addr) : It where
  go := fun i H => ∃ (xs : List V) (x : V), SqT K H a xs ∧ xs[i]? = some x
  yld := fun i H v H' => ∃ p x, v = .ref p ∧ H p = none ∧ H' = upd H p (.tup [.int (i : Nat), x]) ∧ ∀ xs, SqT K H a xs → xs[i]? = some x
  stop := fun i H => ∃ xs : List V, SqT K H a xs ∧ xs.length = i
/-- the two objects of the iterator at turn i -/
def EnAt (a e it : Addr) (i : Nat) (h : Heap) : Prop := (∃ old, IsEnum h e it ((i : Nat) : Int) old) ∧ h.IsTupleIter it a i
theorem turn_et {P : Program} {w : World} {K : PySem.W.Frag} {elts : List Expr} {kk : Nat} {tpos : Pos} {a e it : Addr} (nai : a ≠ it) (nae : a ≠ e) (nei : e ≠ it) : Turn P w K (.Tuple elts kk tpos) (Iet K a) [e, it] e (EnAt a e it) where
  mem := List.mem_cons_self
  obj := by
    rintro i h ⟨⟨old, en⟩, ob, g, _, dat⟩ b mem
    rcases List.mem_cons.mp mem with rfl | mem
    · exact ⟨_, en, by intro v q; cases q⟩
    · cases List.mem_singleton.mp mem
      exact ⟨ob, g, by intro v q; rw [dat] at q; cases q⟩
  keep := by
    rintro i h h' ⟨⟨old, en⟩, hi⟩ same
    exact ⟨⟨old, same e List.mem_cons_self _ en⟩, hi.at fun o g => same it (List.mem_cons_of_mem _ List.mem_cons_self) o g⟩
  item := by
    rintro X rfl rfl rfl calm i pins s σ H E I fps ⟨en, hi⟩ ⟨xs, x, tq, xi⟩
    obtain ⟨its, vals, tup, _⟩ := I.tuple tq
    obtain ⟨u, ui, ru⟩ := vals.get xi
    have W := WalksT.enumerateD (Draws.tuple (prog := X.prog) (w := X.w) (A := X.A.in1) (I.ok.hd calm) it a nai its.toArray) e nei (by simp [nei, Ne.symm nae]) (by simp)
    have small : i < its.toArray.size := by simpa using (List.getElem?_eq_some_iff.mp ui).1
    refine W.item i s _ E small ⟨en, hi, tup⟩ ?_
    rintro p vs h1 tk ⟨t, y, yi, rfl⟩ new isT mid k1
    have ey : y = u := Option.some.inj ((show its.toArray[i]? = some y from yi).symm.trans (by simpa using ui))
    subst ey
    have apart := W.apart i p h1 mid
    refine ⟨_, rfl, W.go elts kk tpos i p { s with heap := h1, toks := tk } _ E mid ?_⟩
    intro h2 st2 k2
    obtain ⟨op, gp, cp, np, dp⟩ := isT
    have obj : ObjOk X.prog X.w (upd H p (.tup [.int (i : Nat), x])) h2 p (.tup [.int (i : Nat), x]) :=
      ⟨by show 2 ≤ sizeLine; decide, [.int i t, y], .cons ⟨t, rfl⟩ (.cons ru .nil), ⟨op, k2 p op apart gp, cp, np, dp⟩⟩
    have I2 := I.turnedNew (t' := tk) (ch := [e, it]) (fun b o nb g => k2 b o nb (k1 b o nb g)) fps new obj
    refine ⟨.ref p, _, I2, rfl, ⟨p, x, rfl, I.hok.fresh new, rfl, ?_⟩, ⟨st2.1, st2.2.1⟩, ?_⟩
    · intro ys yq
      rw [I.tuple_inj yq tq]
      exact xi
    · intro b mem
      rw [upd_ne (fun z => apart (by rw [← z]; exact mem))]
      exact (fps b mem).1
  done := by
    rintro X rfl rfl rfl calm i pins s σ H E I fps ⟨en, hi⟩ ⟨xs, tq, len⟩
    obtain ⟨its, vals, tup, _⟩ := I.tuple tq
    have size : its.toArray.size = i := by rw [List.size_toArray, ← vals.length, len]
    obtain ⟨f0, f1, f2, f3, f4, f5⟩ := fps it (List.mem_cons_of_mem _ List.mem_cons_self)
    have D := Draws.tuple (prog := X.prog) (w := X.w) (A := X.A.in1) (I.ok.hd calm) it a nai its.toArray
    obtain ⟨old, en⟩ := en
    refine wpAny_pyNext_enum_endD (i := (i : Int)) D en (by rw [size]; exact ⟨hi, tup⟩) ?_
    intro h' ext
    exact ⟨rfl, I.turned (t' := s.toks) (fun b o nb g => ext b o nb g) f0 f1 f3 f4 f5⟩
  self := by
    rintro A i s Q E ⟨⟨old, en⟩, _⟩ q
    exact wpAny_pyIter_enum en q
/-- enumerate(v) makes the iterator of v and itself: two new objects -/
abbrev enumObj (it : Addr) : Obj := { cls := .type "enumerate", data := .fields #[.none, .bool false, .ref it, rawInt 0, .none, .none] }
set_option maxHeartbeats 8000000 in
theorem enum_one {v : Value} {o : Obj} {OK : Heap → Prop} (B : Begins v o OK) :
    Meets (Builtin.«enumerate.__new__» ⟨[.type "enumerate", v], []⟩) (fun _ R s => OK s.heap ∧ R (.ok (.ret (.ref (s.heap.push o).objs.size))) { s with heap := (s.heap.push o).push (enumObj s.heap.objs.size) }) := by
  refine .of_wp fun prog w A R s ok => ?_
  cases s with
  | mk hp g d tk os =>
    have begins : ∀ {A' : Around} {E' : Value → Shared → Prop} {Q' : Value → Shared → Prop}, Q' (.ref hp.objs.size) ⟨hp.push o, g, d, tk, os⟩ → wpAny (model prog w) A' (pyIter v) Q' E' ⟨hp, g, d, tk, os⟩ := by
      intro A' E' Q' q
      exact B.iter prog w A' E' ⟨hp, g, d, tk, os⟩ Q' ok.1 q
    have fin := ok.2
    have sub := sub_enumerate
    wp_walk using begins
    refine wpAny_stack_any ?_
    intro st
    refine wpAny_pure ?_
    split
    · rename_i c _ _ _ _ _
      by_cases same : (c == Value.type "enumerate") = true
      · simp only [same]
        wp_walk using begins
        exact ⟨_, rfl, fin⟩
      · simp only [Bool.eq_false_iff.mpr same]
        wp_walk using begins
        exact ⟨_, rfl, fin⟩
    · wp_walk using begins
      exact ⟨_, rfl, fin⟩
def iEnumT (K : PySem.W.Frag) (ta : TA) : TI := fun σ H R => ta σ H fun vs H1 => ∃ a xs, vs = [.ref a] ∧ SqT K H1 a xs ∧ R (Iet K a) H1
theorem pi_enumT {X : Cx} {e : Expr} {ta : TA} {p pos tpos : Pos} {elts : List Expr} {kk : Nat} (gl : Gl X "enumerate") (mm : X.mg "enumerate" = none) (args : PA X [e] ta) (st : starEach [e] X.env = [(false, eval e X.env)] := by rfl) :
    PI X (.Tuple elts kk tpos) (.Call (.Name "enumerate" p) [e] [] pos) (iEnumT X.K ta) := by
  constructor
  intro pins s σ H R I h
  refine Call_ (ld_blt I gl mm boot_enumerate (PyProof.Rows.callWith_type1 (thn (args.run pos pins s σ H _ I h) ?_) st rfl))
  rintro us s1 ⟨vs, H1, I1, r1, a, xs, rfl, tq, q⟩
  obtain ⟨u, rfl, ra⟩ := vals1 r1
  cases ra
  obtain ⟨its, vals, tup, _⟩ := I1.tuple tq
  have low : a < s1.heap.objs.size := tup.lt
  have B := begins_tuple a its.toArray
  refine callType_new F.called_enumerate (by decide) (F.typeCall_enumerate_1 _) (F.newCall_enumerate_1 _) (fun obj => F.args_object_init_2 obj _) F.entry_enumerate_new (enum_one B) ⟨tup, ?_⟩
  have next : (s1.heap.push { cls := .type "tuple_iterator", data := .fields #[.ref a, .int 0 0] }).objs.size = s1.heap.objs.size + 1 := Heap.size_push ..
  have at1 : ((s1.heap.push { cls := .type "tuple_iterator", data := .fields #[.ref a, .int 0 0] }).push (enumObj s1.heap.objs.size)).get? (s1.heap.objs.size + 1) = some (enumObj s1.heap.objs.size) := by
    rw [← next]
    exact Heap.get?_push_size _ rfl
  have at0 : ((s1.heap.push { cls := .type "tuple_iterator", data := .fields #[.ref a, .int 0 0] }).push (enumObj s1.heap.objs.size)).get? s1.heap.objs.size = some { cls := .type "tuple_iterator", data := .fields #[.ref a, .int 0 0] } :=
    Heap.get?_push_of_some _ (Heap.get?_push_size _ rfl)
  show _ ∧ _
  rw [next]
  have en : IsEnum ((s1.heap.push { cls := .type "tuple_iterator", data := .fields #[.ref a, .int 0 0] }).push (enumObj s1.heap.objs.size)) (s1.heap.objs.size + 1) s1.heap.objs.size 0 .none := at1
  refine ⟨⟨_, at1, rfl⟩, wpAny_pyIter_enum en ?_⟩
  have I2 := I1.kept (t' := s1.toks) (h' := (s1.heap.push { cls := .type "tuple_iterator", data := .fields #[.ref a, .int 0 0] }).push (enumObj s1.heap.objs.size)) fun b o g => Heap.get?_push_of_some _ (Heap.get?_push_of_some _ g)
  refine ⟨s1.heap.objs.size + 1, [s1.heap.objs.size + 1, s1.heap.objs.size], EnAt a (s1.heap.objs.size + 1) s1.heap.objs.size, Iet X.K a, H1, rfl, I2, turn_et (Nat.ne_of_lt low) (Nat.ne_of_lt (Nat.lt_succ_of_lt low)) (Nat.succ_ne_self _), ⟨⟨_, en⟩, _, at0, rfl, rfl⟩, ?_, q⟩
  intro b mem
  have up : s1.heap.objs.size ≤ b := by
    rcases List.mem_cons.mp mem with rfl | mem
    · exact Nat.le_succ _
    · rw [List.mem_singleton.mp mem]
      exact Nat.le_refl _
  exact I1.fpOk up (I1.hok.fresh up)
/-- such a loop by an invariant -/
theorem for_enumT {K : PySem.W.Frag} {a : Addr} {xs : List V} {g : TG} {tb : TS} {D : Ends} {σ : L2.St} {H : Hp} (Pv : Nat → L2.St → Hp → Prop) (h0 : Pv 0 σ H) (hq : ∀ i σ H, Pv i σ H → SqT K H a xs)
    (hs : ∀ (i : Nat) (x : V) (p : Addr) (σ : L2.St) (H : Hp), xs[i]? = some x → Pv i σ H → H p = none → g (.ref p) σ (upd H p (.tup [.int (i : Nat), x])) fun σ2 H2 => tb { D with nx := Pv (i + 1), ct := Pv (i + 1), bk := D.nx } σ2 H2)
    (hd : ∀ σ H, Pv xs.length σ H → D.nx σ H) : ∃ W : Nat → Nat → L2.St → Hp → Prop, (∃ m, W 0 m σ H) ∧ ∀ i m σ H, W i m σ H → ((Iet K a).stop i H ∧ D.nx σ H) ∨
      ((Iet K a).go i H ∧ ∃ N : L2.St → Hp → Prop, (∀ σ' H', N σ' H' → ∃ m', m' < m ∧ W (i + 1) m' σ' H') ∧ ∀ v H', (Iet K a).yld i H v H' → g v σ H' fun σ2 H2 => tb { D with nx := N, ct := N, bk := D.nx } σ2 H2) := by
  refine ⟨fun i m σ H => i + m = xs.length ∧ Pv i σ H, ⟨xs.length, Nat.zero_add _, h0⟩, ?_⟩
  intro i m σ H ⟨sum, p⟩
  have tq := hq i σ H p
  cases m with
  | zero =>
    have e : i = xs.length := sum
    subst e
    exact .inl ⟨⟨xs, tq, rfl⟩, hd σ H p⟩
  | succ m =>
    have lt : i < xs.length := by omega
    refine .inr ⟨⟨xs, xs[i], tq, List.getElem?_eq_getElem lt⟩, Pv (i + 1), ?_, ?_⟩
    · intro σ' H' p'
      exact ⟨m, Nat.lt_succ_self m, by omega, p'⟩
    · rintro v H' ⟨pt, x, rfl, free, rfl, val⟩
      exact hs i x pt σ H (val xs tq) p free

/-! ### sorted(tuple of ints) -/
def rSortedT (K : PySem.W.Frag) : List V → Hp → VK → Prop := fun vs H Q => ∃ (a : Addr) (ns : List Int), vs = [V.ref a] ∧ SqT K H a (ns.map V.int) ∧ ns.length < 64 ∧
  ∀ (up : List Int) (p : Addr), up.Perm ns → up.Pairwise (· ≤ ·) → H p = none → Q (.ref p) (upd H p (.lst (up.map V.int)))
theorem cr_sortedT {X : Cx} : CallR X (.builtin "sorted") (rSortedT X.K) := by
  rintro pins s σ H vs us Q I r ⟨a, ns, rfl, tq, few, q⟩
  rw [Vals.ref1 r]
  obtain ⟨its, vals, ⟨o, ho, hc, n, hd⟩, _⟩ := I.tuple tq
  have isI := vals.ints
  have len : its.length < 64 := by rw [isI.length]; exact few
  refine Calls.call_function_entry kind_sorted plain_sorted entry_sorted (args_sorted1 _) ?_
  unfold Builtin.«sorted»
  refine wpAny_bind (m := checkCount "sorted" 1 1 _) (wpAny_pure (wpAny_bind (wpAny_collect_seq a (.inr rfl) ho hc hd ?_ (by rw [List.size_toArray]; exact small64 len))))
  intro h1 k1
  have I1 : Inv X pins σ H { s with heap := h1 } := I.kept (t' := s.toks) k1
  refine wpAny_bind (wpAny_newList ?_ (small64 len))
  have lst : (h1.push (seqObj "list" its.toArray 0)).get? h1.objs.size = some (seqObj "list" its.toArray 0) := Heap.get?_push_size _ rfl
  refine wpAny_bind (wpAny_holding (wpAny_call_entry slot_list_sort ⟨_, lst, rfl⟩ entry_list_sort (list_sort_tree (s := { s with heap := h1.push (seqObj "list" its.toArray 0) }) lst isI len ?_) (args_list_sort _)))
  intro out up isUp perm rise
  obtain ⟨ep, at_⟩ := sortedHeap_at (vs := its) (out := out) lst
  have fits : (up.map V.int).length ≤ sizeLine := by
    rw [List.length_map, perm.length_eq]
    exact small64 few
  refine ⟨_, rfl, wpAny_pure ⟨_, rfl, .ref h1.objs.size, upd H h1.objs.size (.lst (up.map V.int)), ?_, rfl, q up _ perm rise (I1.hok.fresh (Nat.le_refl _))⟩⟩
  refine I1.laid (t' := s.toks) ?_ (Nat.le_refl _) ⟨fits, out.toList, ep, vals_of_ints isUp, at_⟩
  intro b ob g
  have below : b < h1.objs.size := Heap.lt_size g
  rw [sortedHeap_old (Nat.ne_of_lt below) (by rw [size_push']; exact Nat.lt_succ_of_lt below)]
  exact Heap.get?_push_of_some _ g

/-! ### tuple.index(int), the int there -/
def rIdxI (K : PySem.W.Frag) : V → List V → Hp → VK → Prop := fun x xs H Q => ∃ (p : Addr) (ys : List Int) (z : Int), x = .ref p ∧ xs = [.int z] ∧ SqT K H p (ys.map V.int) ∧ z ∈ ys ∧ Q (.int (ys.idxOf z : Nat)) H
theorem mt_index_t {X : Cx} : MtR X "tuple.index" (rIdxI X.K) := by
  rintro pins s σ H x xs v us Q I rx rs ⟨p, ys, z, rfl, rfl, tq, mem, q⟩
  cases rx
  obtain ⟨u, rfl, t, rfl⟩ := vals1 rs
  obtain ⟨its, vals, tup, _⟩ := I.tuple tq
  exact PySem.SeqAt.tuple_index_ints tup vals.ints mem ⟨.int (ys.idxOf z : Nat), H, I.tok _, ⟨_, rfl⟩, q⟩
end K24
set_option Elab.async false
set_option linter.all false
set_option maxRecDepth 100000
set_option maxHeartbeats 4000000
/-! K24M: the plain law: permutations of five points, Boolean sources, tasks and words. No program in sight. -/
namespace K24
/-! ### permutations of five points, as lists -/
abbrev P5 := List Nat
def ap (p : P5) (x : Nat) : Nat := p.getD x 0
def stayP : P5 := [0, 1, 2, 3, 4]
def firstP : P5 := [1, 2, 3, 4, 0]
def secondP : P5 := [2, 4, 1, 0, 3]
def thnP (a b : P5) : P5 := a.map (ap b)
def undP (a : P5) : P5 := (List.range 5).map fun x => a.idxOf x
def pthP (c : P5) : List Nat := [0, ap c 0, ap c (ap c 0), ap c (ap c (ap c 0)), ap c (ap c (ap c (ap c 0)))]
def renP (p n : P5) : P5 := (List.range 5).foldl (fun f k => f.set (ap n k) (ap n (ap p k))) [0, 0, 0, 0, 0]
def comP (a b : P5) : P5 := thnP (thnP a b) (thnP (undP a) (undP b))
def namP (c : P5) : P5 := ((pthP (comP firstP secondP)).zip (pthP c)).foldl (fun f q => f.set q.1 q.2) [0, 0, 0, 0, 0]
def parA (c : P5) : P5 := renP firstP (namP c)
def parB (c : P5) : P5 := renP secondP (namP c)
def reach : Nat → List (List Nat × List Nat)
  | 0 => [([0], [1, 2, 3, 4])]
  | k + 1 => (reach k).flatMap fun q => (List.range q.2.length).map fun j => (q.1 ++ [q.2.getD j 0], q.2.take j ++ q.2.drop (j + 1))
def sentOf (o : List Nat) : P5 := (List.range 5).foldl (fun f k => f.set (o.getD k 0) (o.getD ((k + 1) % 5) 0)) [0, 0, 0, 0, 0]
def cycles5 : List P5 := (reach 4).map fun q => sentOf q.1
def IsPerm (p : P5) : Prop := p.length = 5 ∧ (∀ x ∈ p, x < 5) ∧ p.Nodup
instance (p : P5) : Decidable (IsPerm p) := by unfold IsPerm; infer_instance

theorem stay_perm : IsPerm stayP := by decide
theorem cyc_perm : ∀ c ∈ cycles5, IsPerm c := by decide +kernel
theorem cyc_und : ∀ c ∈ cycles5, undP c ∈ cycles5 := by decide +kernel
theorem cyc_und1 : ∀ c ∈ cycles5, ∀ x < 5, ap (undP c) (ap c x) = x := by decide +kernel
theorem cyc_und2 : ∀ c ∈ cycles5, ∀ x < 5, ap c (ap (undP c) x) = x := by decide +kernel
theorem cyc_ix : ∀ c ∈ cycles5, ∀ x < 5, c[c.idxOf x]? = some x ∧ ∀ m < c.idxOf x, c[m]? ≠ some x := by decide +kernel
theorem cyc_parA : ∀ c ∈ cycles5, parA c ∈ cycles5 := by decide +kernel
theorem cyc_parB : ∀ c ∈ cycles5, parB c ∈ cycles5 := by decide +kernel
theorem cyc_pth : ∀ c ∈ cycles5, IsPerm (pthP c) := by decide +kernel
theorem cyc_com : ∀ c ∈ cycles5, ∀ x < 5, ap (undP (parB c)) (ap (undP (parA c)) (ap (parB c) (ap (parA c) x))) = ap c x := by decide +kernel
theorem cyc_nam : ∀ c ∈ cycles5, IsPerm (namP c) := by decide +kernel
theorem first_cyc : firstP ∈ cycles5 := by decide +kernel
theorem second_cyc : secondP ∈ cycles5 := by decide +kernel
theorem com_cyc : comP firstP secondP ∈ cycles5 := by decide +kernel
theorem reach_len : ∀ k < 5, ∀ q ∈ reach k, q.1.length = k + 1 ∧ q.2.length = 4 - k ∧ (∀ x ∈ q.1, x < 5) ∧ ∀ x ∈ q.2, x < 5 := by decide +kernel
theorem reach_step {k : Nat} {q : List Nat × List Nat} (h : q ∈ reach k) {j : Nat} (hj : j < q.2.length) : (q.1 ++ [q.2.getD j 0], q.2.take j ++ q.2.drop (j + 1)) ∈ reach (k + 1) :=
  List.mem_flatMap.mpr ⟨q, h, List.mem_map.mpr ⟨j, List.mem_range.mpr hj, rfl⟩⟩
theorem reach_cyc {q : List Nat × List Nat} (h : q ∈ reach 4) : sentOf q.1 ∈ cycles5 := List.mem_map.mpr ⟨q, h, rfl⟩

theorem ap_get {p : P5} {x : Nat} (h : x < p.length) : p[x]? = some (ap p x) := by
  unfold ap
  rw [List.getD_eq_getElem?_getD, List.getElem?_eq_getElem h]
  rfl
theorem ap_lt {p : P5} (h : IsPerm p) {x : Nat} (hx : x < 5) : ap p x < 5 := by
  obtain ⟨h1, h2, _⟩ := h
  have hl : x < p.length := by omega
  exact h2 _ (List.mem_of_getElem? (ap_get hl))
theorem ap_thn {a b : P5} {x : Nat} (h : x < a.length) : ap (thnP a b) x = ap b (ap a x) := by
  have e : (thnP a b)[x]? = some (ap b (ap a x)) := by
    unfold thnP
    rw [List.getElem?_map, ap_get h]
    rfl
  show (thnP a b).getD x 0 = _
  rw [List.getD_eq_getElem?_getD, e]
  rfl
theorem ap_stay : ∀ x < 5, ap stayP x = x := by decide
theorem nodup_map {α β : Type} {f : α → β} : ∀ {l : List α}, l.Nodup → (∀ x ∈ l, ∀ y ∈ l, f x = f y → x = y) → (l.map f).Nodup
  | [], _, _ => List.nodup_nil
  | a :: r, h, inj => by
    rw [List.map_cons, List.nodup_cons]
    obtain ⟨h1, h2⟩ := List.nodup_cons.mp h
    refine ⟨fun hm => ?_, nodup_map h2 fun x hx y hy => inj x (List.mem_cons_of_mem _ hx) y (List.mem_cons_of_mem _ hy)⟩
    obtain ⟨y, hy, e⟩ := List.mem_map.mp hm
    have e2 := inj y (List.mem_cons_of_mem _ hy) a List.mem_cons_self e
    exact h1 (e2 ▸ hy)
theorem ap_inj {p : P5} (h : IsPerm p) {x y : Nat} (hx : x < 5) (hy : y < 5) (e : ap p x = ap p y) : x = y := by
  obtain ⟨h1, _, h3⟩ := h
  have hx' : x < p.length := by omega
  have hy' : y < p.length := by omega
  have e1 : p[x] = p[y] := by
    have a := ap_get hx'
    have b := ap_get hy'
    rw [List.getElem?_eq_getElem hx'] at a
    rw [List.getElem?_eq_getElem hy'] at b
    have a' := Option.some.inj a
    have b' := Option.some.inj b
    rw [a', b', e]
  exact (List.getElem_inj h3).mp e1
theorem thn_perm {a b : P5} (ha : IsPerm a) (hb : IsPerm b) : IsPerm (thnP a b) := by
  refine ⟨?_, fun x hx => ?_, ?_⟩
  · unfold thnP
    rw [List.length_map]
    exact ha.1
  · obtain ⟨y, hy, e⟩ := List.mem_map.mp hx
    rw [← e]
    exact ap_lt hb (ha.2.1 y hy)
  · exact nodup_map ha.2.2 fun x hx y hy e => ap_inj hb (ha.2.1 x hx) (ha.2.1 y hy) e
theorem thn_len {a b : P5} : (thnP a b).length = a.length := List.length_map _
theorem list5 {α : Type} {l : List α} (h : l.length = 5) : ∃ a b c d e, l = [a, b, c, d, e] := by
  match l, h with
  | [a, b, c, d, e], _ => exact ⟨a, b, c, d, e, rfl⟩
/-- a sorted arrangement of a permutation -/
theorem sorted_perm {p : P5} (h : IsPerm p) {ns : List Int} (hp : ns.Perm (p.map Int.ofNat)) (hs : ns.Pairwise (· ≤ ·)) : ns = [0, 1, 2, 3, 4] := by
  have hl : ns.length = 5 := by rw [hp.length_eq, List.length_map]; exact h.1
  have hr : ∀ x ∈ ns, 0 ≤ x ∧ x < 5 := fun x hx => by
    obtain ⟨y, hy, e⟩ := List.mem_map.mp (hp.mem_iff.mp hx)
    have := h.2.1 y hy
    have e2 : x = (y : Int) := e.symm
    omega
  have hn : ns.Nodup := hp.nodup_iff.mpr (nodup_map h.2.2 fun x _ y _ e => by
    have e2 : (x : Int) = (y : Int) := e
    omega)
  obtain ⟨a, b, c, d, e, rfl⟩ := list5 hl
  simp only [List.nodup_cons, List.mem_cons, List.not_mem_nil, or_false, not_or] at hn
  simp only [List.pairwise_cons, List.mem_cons, List.not_mem_nil, or_false, forall_eq_or_imp, forall_eq] at hs
  have ha := hr a (by simp)
  have hb := hr b (by simp)
  have hc := hr c (by simp)
  have hd := hr d (by simp)
  have he := hr e (by simp)
  obtain ⟨⟨s1, s2, s3, s4⟩, ⟨s5, s6, s7⟩, ⟨s8, s9⟩, s10, _⟩ := hs
  obtain ⟨⟨n1, n2, n3, n4⟩, ⟨n5, n6, n7⟩, ⟨n8, n9⟩, n10, _⟩ := hn
  have e1 : a = 0 := by omega
  have e2 : b = 1 := by omega
  have e3 : c = 2 := by omega
  have e4 : d = 3 := by omega
  have e5 : e = 4 := by omega
  rw [e1, e2, e3, e4, e5]

/-! ### Boolean sources -/
inductive Nd where
  | inp (k : Nat) | no (i : Nat) | an (i j : Nat) | orr (i j : Nat)
def Nd.ok (n : Nat) : Nd → Prop
  | .inp k => k < 60
  | .no i => i < n
  | .an i j => i < n ∧ j < n
  | .orr i j => i < n ∧ j < n
def Nd.len (L : Nat → Nat) : Nd → Nat
  | .inp _ => 1
  | .no i => L i
  | .an i j => 2 * (L i + L j)
  | .orr i j => 2 * (L i + L j)
def Nd.tru (bits T : Nat → Bool) : Nd → Bool
  | .inp k => bits k
  | .no i => !T i
  | .an i j => T i && T j
  | .orr i j => T i || T j
def Valid (src : List Nd) : Prop := ∀ (i : Nat) (nd : Nd), src[i]? = some nd → nd.ok i
def IsLen (src : List Nd) (L : Nat → Nat) : Prop := ∀ (i : Nat) (nd : Nd), src[i]? = some nd → L i = nd.len L
def IsTru (src : List Nd) (bits T : Nat → Bool) : Prop := ∀ (i : Nat) (nd : Nd), src[i]? = some nd → T i = nd.tru bits T
def Named (src : List Nd) (k : Nat) : Prop := ∃ i : Nat, src[i]? = some (Nd.inp k)
theorem Nd.tru_congr {bits T T' : Nat → Bool} {n : Nat} : ∀ {nd : Nd}, nd.ok n → (∀ i < n, T i = T' i) → nd.tru bits T = nd.tru bits T'
  | .inp _, _, _ => rfl
  | .no i, h, e => by
    show (!T i) = !T' i
    rw [e i h]
  | .an i j, h, e => by
    show (T i && T j) = (T' i && T' j)
    rw [e i h.1, e j h.2]
  | .orr i j, h, e => by
    show (T i || T j) = (T' i || T' j)
    rw [e i h.1, e j h.2]
theorem Nd.len_congr {L L' : Nat → Nat} {n : Nat} : ∀ {nd : Nd}, nd.ok n → (∀ i < n, L i = L' i) → nd.len L = nd.len L'
  | .inp _, _, _ => rfl
  | .no i, h, e => e i h
  | .an i j, h, e => by
    show 2 * (L i + L j) = 2 * (L' i + L' j)
    rw [e i h.1, e j h.2]
  | .orr i j, h, e => by
    show 2 * (L i + L j) = 2 * (L' i + L' j)
    rw [e i h.1, e j h.2]
theorem exists_tru {src : List Nd} (hv : Valid src) (bits : Nat → Bool) : ∃ T, IsTru src bits T := by
  have key : ∀ n, ∃ T : Nat → Bool, ∀ (i : Nat) (nd : Nd), i < n → src[i]? = some nd → T i = nd.tru bits T := by
    intro n
    induction n with
    | zero => exact ⟨fun _ => false, fun i nd h => absurd h (Nat.not_lt_zero i)⟩
    | succ n ih =>
      obtain ⟨T, hT⟩ := ih
      cases e : src[n]? with
      | none =>
        refine ⟨T, fun i nd hi h => ?_⟩
        by_cases hin : i = n
        · rw [hin, e] at h; cases h
        · exact hT i nd (by omega) h
      | some nn =>
        refine ⟨fun j => if j = n then nn.tru bits T else T j, fun i nd hi h => ?_⟩
        have hok := hv i nd h
        have cg : nd.tru bits T = nd.tru bits (fun j => if j = n then nn.tru bits T else T j) := Nd.tru_congr hok fun j hj => by
          show T j = if j = n then _ else _
          rw [if_neg (by omega)]
        show (if i = n then nn.tru bits T else T i) = _
        rw [← cg]
        by_cases hin : i = n
        · rw [if_pos hin]
          subst hin
          rw [e] at h
          cases h
          rfl
        · rw [if_neg hin]
          exact hT i nd (by omega) h
  obtain ⟨T, hT⟩ := key src.length
  exact ⟨T, fun i nd h => hT i nd (List.getElem?_eq_some_iff.mp h).1 h⟩
theorem len_pos {src : List Nd} {L : Nat → Nat} (hv : Valid src) (hL : IsLen src L) : ∀ n i, i < n → i < src.length → 1 ≤ L i := by
  intro n
  induction n with
  | zero => exact fun i h => absurd h (Nat.not_lt_zero i)
  | succ n ih =>
    intro i hi hl
    have hx := List.getElem?_eq_getElem hl
    have hok := hv i _ hx
    rw [hL i _ hx]
    generalize src[i] = nd at hok
    cases nd with
    | inp k => exact Nat.le_refl 1
    | no j => exact ih j (by have : j < i := hok; omega) (by have : j < i := hok; omega)
    | an j k =>
      have h1 : j < i := hok.1
      have := ih j (by omega) (by omega)
      show 1 ≤ 2 * (L j + L k)
      omega
    | orr j k =>
      have h1 : j < i := hok.1
      have := ih j (by omega) (by omega)
      show 1 ≤ 2 * (L j + L k)
      omega

/-! ### tasks and words -/
structure Tk where
  n : Nat
  c : P5
  b : P5
  h : P5
structure Tp where
  k : Nat
  z : P5
  o : P5
def Tk.run (T : Nat → Bool) (t : Tk) (x : Nat) : Nat := ap t.h (if T t.n = true then ap t.c (ap t.b x) else ap t.b x)
def runT (T : Nat → Bool) (ts : List Tk) (x : Nat) : Nat := ts.foldl (fun x t => t.run T x) x
def Tp.pick (bits : Nat → Bool) (t : Tp) : P5 := if bits t.k = true then t.o else t.z
def runW (bits : Nat → Bool) (ws : List Tp) (x : Nat) : Nat := ws.foldl (fun x t => ap (t.pick bits) x) x
structure Tk.Ok (src : List Nd) (t : Tk) : Prop where
  n : t.n < src.length
  c : t.c ∈ cycles5
  b : IsPerm t.b
  h : IsPerm t.h
def taskOf (neg : Bool) (n : Nat) (p : P5) : Tk := if neg = true then ⟨n, undP p, stayP, p⟩ else ⟨n, p, stayP, stayP⟩
def andT (i j : Nat) (neg : Bool) (t : Tk) : List Tk :=
  [⟨i, (taskOf neg i (parA t.c)).c, thnP t.b (taskOf neg i (parA t.c)).b, (taskOf neg i (parA t.c)).h⟩,
   taskOf neg j (parB t.c), taskOf neg i (undP (parA t.c)),
   ⟨j, (taskOf neg j (undP (parB t.c))).c, (taskOf neg j (undP (parB t.c))).b, thnP (taskOf neg j (undP (parB t.c))).h t.h⟩]
def inner (t : Tk) : Nd → List Tk
  | .inp _ => []
  | .no i => [⟨i, undP t.c, t.b, thnP t.c t.h⟩]
  | .an i j => andT i j false t
  | .orr i j => andT i j true ⟨t.n, undP t.c, t.b, thnP t.c t.h⟩
def leafT (k : Nat) (t : Tk) : Tp := ⟨k, thnP t.b t.h, thnP (thnP t.b t.c) t.h⟩

theorem taskOf_n {neg : Bool} {n : Nat} {p : P5} : (taskOf neg n p).n = n := by cases neg <;> rfl
theorem taskOf_ok {src : List Nd} {neg : Bool} {n : Nat} {p : P5} (hn : n < src.length) (hp : p ∈ cycles5) : (taskOf neg n p).Ok src := by
  cases neg with
  | true => exact ⟨hn, cyc_und p hp, stay_perm, cyc_perm p hp⟩
  | false => exact ⟨hn, hp, stay_perm, stay_perm⟩
/-- a part's task sends by the part, exactly if its node has the wanted truth -/
theorem taskOf_run {T : Nat → Bool} {neg : Bool} {n : Nat} {p : P5} (hp : p ∈ cycles5) {x : Nat} (hx : x < 5) : (taskOf neg n p).run T x = if (T n ^^ neg) = true then ap p x else x := by
  have hs := ap_stay x hx
  cases neg with
  | true =>
    show ap p (if T n = true then ap (undP p) (ap stayP x) else ap stayP x) = _
    rw [hs]
    cases T n with
    | true => exact cyc_und2 p hp x hx
    | false => rfl
  | false =>
    show ap stayP (if T n = true then ap p (ap stayP x) else ap stayP x) = _
    rw [hs]
    cases T n with
    | true => exact ap_stay _ (ap_lt (cyc_perm p hp) hx)
    | false => exact hs
theorem andT_ok {src : List Nd} {i j : Nat} {neg : Bool} {t : Tk} (hi : i < src.length) (hj : j < src.length) (hc : t.c ∈ cycles5) (hb : IsPerm t.b) (hh : IsPerm t.h) : ∀ u ∈ andT i j neg t, u.Ok src := by
  have hA := cyc_parA _ hc
  have hB := cyc_parB _ hc
  have k1 := taskOf_ok (neg := neg) hi hA
  have k4 := taskOf_ok (neg := neg) hj (cyc_und _ hB)
  intro u hu
  simp only [andT, List.mem_cons, List.not_mem_nil, or_false] at hu
  rcases hu with rfl | rfl | rfl | rfl
  · exact ⟨hi, k1.c, thn_perm hb k1.b, k1.h⟩
  · exact taskOf_ok hj hB
  · exact taskOf_ok hi (cyc_und _ hA)
  · exact ⟨hj, k4.c, k4.b, thn_perm k4.h hh⟩
theorem andT_n {i j : Nat} {neg : Bool} {t : Tk} : ∀ u ∈ andT i j neg t, u.n = i ∨ u.n = j := by
  intro u hu
  simp only [andT, List.mem_cons, List.not_mem_nil, or_false] at hu
  rcases hu with rfl | rfl | rfl | rfl
  · exact .inl rfl
  · exact .inr taskOf_n
  · exact .inl taskOf_n
  · exact .inr rfl
theorem run_b {T : Nat → Bool} {n : Nat} {c b b' h : P5} (hb : IsPerm b) {x : Nat} (hx : x < 5) : Tk.run T ⟨n, c, thnP b b', h⟩ x = Tk.run T ⟨n, c, b', h⟩ (ap b x) := by
  show ap h (if T n = true then ap c (ap (thnP b b') x) else ap (thnP b b') x) = ap h (if T n = true then ap c (ap b' (ap b x)) else ap b' (ap b x))
  rw [ap_thn (by rw [hb.1]; exact hx)]
theorem run_h {src : List Nd} {T : Nat → Bool} {n : Nat} {c b h h' : P5} (k : Tk.Ok src ⟨n, c, b, h⟩) {x : Nat} (hx : x < 5) : Tk.run T ⟨n, c, b, thnP h h'⟩ x = ap h' (Tk.run T ⟨n, c, b, h⟩ x) := by
  have h1 : ap b x < 5 := ap_lt k.b hx
  have h2 : (if T n = true then ap c (ap b x) else ap b x) < 5 := by
    split
    · exact ap_lt (cyc_perm _ k.c) h1
    · exact h1
  exact ap_thn (by rw [k.h.1]; exact h2)
theorem andT_run {T : Nat → Bool} {i j : Nat} {neg : Bool} {t : Tk} (hc : t.c ∈ cycles5) (hb : IsPerm t.b) (hh : IsPerm t.h) {x : Nat} (hx : x < 5) :
    runT T (andT i j neg t) x = ap t.h (if ((T i ^^ neg) && (T j ^^ neg)) = true then ap t.c (ap t.b x) else ap t.b x) := by
  have hA := cyc_parA _ hc
  have hB := cyc_parB _ hc
  have hA' := cyc_und _ hA
  have hB' := cyc_und _ hB
  have hy := ap_lt hb hx
  have e1 : ∀ u : Tk, (⟨u.n, u.c, u.b, u.h⟩ : Tk) = u := fun _ => rfl
  have r1 : Tk.run T ⟨i, (taskOf neg i (parA t.c)).c, thnP t.b (taskOf neg i (parA t.c)).b, (taskOf neg i (parA t.c)).h⟩ x = (taskOf neg i (parA t.c)).run T (ap t.b x) := by
    rw [run_b hb hx]
    have := taskOf_n (neg := neg) (n := i) (p := parA t.c)
    unfold Tk.run
    rw [this]
  have r4 : ∀ y < 5, Tk.run T ⟨j, (taskOf neg j (undP (parB t.c))).c, (taskOf neg j (undP (parB t.c))).b, thnP (taskOf neg j (undP (parB t.c))).h t.h⟩ y = ap t.h ((taskOf neg j (undP (parB t.c))).run T y) := fun y hy => by
    have k4 := taskOf_ok (src := List.replicate (j + 1) (.inp 0)) (neg := neg) (n := j) (by rw [List.length_replicate]; omega) hB'
    rw [run_h (src := List.replicate (j + 1) (.inp 0)) (n := j) (c := (taskOf neg j (undP (parB t.c))).c) (b := (taskOf neg j (undP (parB t.c))).b) (h := (taskOf neg j (undP (parB t.c))).h) (h' := t.h) ⟨by rw [List.length_replicate]; exact Nat.lt_succ_self j, k4.c, k4.b, k4.h⟩ hy]
    have := taskOf_n (neg := neg) (n := j) (p := undP (parB t.c))
    unfold Tk.run
    rw [this]
  show Tk.run T _ (Tk.run T _ (Tk.run T _ (Tk.run T _ x))) = _
  rw [r1, taskOf_run hA hy]
  generalize hu : ap t.b x = y at hy ⊢
  have it : ∀ (b : Bool) (u v : Nat), u < 5 → v < 5 → (if b = true then u else v) < 5 := fun b u v hu hv => by
    cases b with
    | true => exact hu
    | false => exact hv
  have lt1 := it (T i ^^ neg) _ _ (ap_lt (cyc_perm _ hA) hy) hy
  rw [taskOf_run hB lt1]
  have lt2 := it (T j ^^ neg) _ _ (ap_lt (cyc_perm _ hB) lt1) lt1
  rw [taskOf_run hA' lt2]
  have lt3 := it (T i ^^ neg) _ _ (ap_lt (cyc_perm _ hA') lt2) lt2
  rw [r4 _ lt3, taskOf_run hB' lt3]
  congr 1
  cases (T i ^^ neg) with
  | true =>
    cases (T j ^^ neg) with
    | true => exact cyc_com _ hc y hy
    | false => exact cyc_und1 _ hA y hy
  | false =>
    cases (T j ^^ neg) with
    | true => exact cyc_und1 _ hB y hy
    | false => rfl
theorem inner_ok {src : List Nd} (hv : Valid src) {t : Tk} (k : t.Ok src) {nd : Nd} (hn : src[t.n]? = some nd) : ∀ u ∈ inner t nd, u.Ok src ∧ u.n < t.n := by
  have hok := hv _ _ hn
  have hl := k.n
  have hc' := cyc_und _ k.c
  have hp' := thn_perm (cyc_perm _ k.c) k.h
  intro u hu
  cases nd with
  | inp q => cases hu
  | no i =>
    have hi : i < t.n := hok
    have e : u = ⟨i, undP t.c, t.b, thnP t.c t.h⟩ := List.mem_singleton.mp hu
    subst e
    exact ⟨⟨by show i < src.length; omega, hc', k.b, hp'⟩, hi⟩
  | an i j =>
    have h1 : i < t.n := hok.1
    have h2 : j < t.n := hok.2
    refine ⟨andT_ok (by omega) (by omega) k.c k.b k.h u hu, ?_⟩
    rcases andT_n u hu with e | e <;> omega
  | orr i j =>
    have h1 : i < t.n := hok.1
    have h2 : j < t.n := hok.2
    refine ⟨andT_ok (t := ⟨t.n, undP t.c, t.b, thnP t.c t.h⟩) (by omega) (by omega) hc' k.b hp' u hu, ?_⟩
    rcases andT_n u hu with e | e <;> omega
def isInp : Nd → Bool
  | .inp _ => true
  | _ => false
theorem inner_run {src : List Nd} {bits T : Nat → Bool} (hT : IsTru src bits T) {t : Tk} (k : t.Ok src) {nd : Nd} (hn : src[t.n]? = some nd) (hi : isInp nd = false) {x : Nat} (hx : x < 5) :
    runT T (inner t nd) x = t.run T x := by
  have e := hT _ _ hn
  have hy := ap_lt k.b hx
  have hcp := cyc_perm _ k.c
  have hc' := cyc_und _ k.c
  have hp' := thn_perm hcp k.h
  cases nd with
  | inp q => cases hi
  | no i =>
    have e' : T t.n = !T i := e
    show ap (thnP t.c t.h) (if T i = true then ap (undP t.c) (ap t.b x) else ap t.b x) = ap t.h (if T t.n = true then ap t.c (ap t.b x) else ap t.b x)
    have lt : (if T i = true then ap (undP t.c) (ap t.b x) else ap t.b x) < 5 := by
      split
      · exact ap_lt (cyc_perm _ hc') hy
      · exact hy
    rw [ap_thn (by rw [hcp.1]; exact lt), e']
    congr 1
    cases T i with
    | true => exact cyc_und2 _ k.c _ hy
    | false => rfl
  | an i j =>
    have e' : T t.n = (T i && T j) := e
    show runT T (andT i j false t) x = _
    rw [andT_run k.c k.b k.h hx]
    show _ = ap t.h (if T t.n = true then _ else _)
    rw [e', Bool.xor_false, Bool.xor_false]
  | orr i j =>
    have e' : T t.n = (T i || T j) := e
    show runT T (andT i j true ⟨t.n, undP t.c, t.b, thnP t.c t.h⟩) x = _
    rw [andT_run (t := ⟨t.n, undP t.c, t.b, thnP t.c t.h⟩) hc' k.b hp' hx]
    show ap (thnP t.c t.h) (if _ then ap (undP t.c) (ap t.b x) else ap t.b x) = ap t.h (if T t.n = true then _ else _)
    have lt : (if ((T i ^^ true) && (T j ^^ true)) = true then ap (undP t.c) (ap t.b x) else ap t.b x) < 5 := by
      split
      · exact ap_lt (cyc_perm _ hc') hy
      · exact hy
    rw [ap_thn (by rw [hcp.1]; exact lt), e']
    congr 1
    cases T i with
    | true => rfl
    | false =>
      cases T j with
      | true => rfl
      | false => exact cyc_und2 _ k.c _ hy
theorem inner_len {src : List Nd} {L : Nat → Nat} (hL : IsLen src L) {t : Tk} {nd : Nd} (hn : src[t.n]? = some nd) (hi : isInp nd = false) : ((inner t nd).map fun u => L u.n).sum = L t.n := by
  have e := hL _ _ hn
  cases nd with
  | inp q => cases hi
  | no i =>
    rw [e]
    show L i + 0 = L i
    rfl
  | an i j =>
    rw [e]
    show L i + (L (taskOf false j (parB t.c)).n + (L (taskOf false i (undP (parA t.c))).n + (L j + 0))) = 2 * (L i + L j)
    rw [taskOf_n, taskOf_n]
    omega
  | orr i j =>
    rw [e]
    show L i + (L (taskOf true j (parB (undP t.c))).n + (L (taskOf true i (undP (parA (undP t.c)))).n + (L j + 0))) = 2 * (L i + L j)
    rw [taskOf_n, taskOf_n]
    omega
def meas (ts : List Tk) : Nat := (ts.map fun t => 5 ^ t.n).sum
theorem meas_le {ts : List Tk} {m : Nat} (h : ∀ u ∈ ts, 5 ^ u.n ≤ m) : meas ts ≤ ts.length * m := by
  induction ts with
  | nil => show 0 ≤ 0 * m; omega
  | cons a r ih =>
    have h1 := h a List.mem_cons_self
    have h2 := ih fun u hu => h u (List.mem_cons_of_mem _ hu)
    show 5 ^ a.n + meas r ≤ (r.length + 1) * m
    rw [Nat.add_mul, Nat.one_mul]
    omega
theorem inner_count {t : Tk} {nd : Nd} : (inner t nd).length ≤ 4 := by
  cases nd <;> (show _ ≤ 4) <;> simp [inner, andT]
theorem inner_meas {src : List Nd} (hv : Valid src) {t : Tk} (k : t.Ok src) {nd : Nd} (hn : src[t.n]? = some nd) : meas (inner t nd) < 5 ^ t.n := by
  have h := inner_ok hv k hn
  by_cases h0 : t.n = 0
  · have e : inner t nd = [] := by
      cases q : inner t nd with
      | nil => rfl
      | cons a r =>
        have := (h a (by rw [q]; exact List.mem_cons_self)).2
        omega
    rw [e]
    exact Nat.pow_pos (by decide)
  · obtain ⟨m, hm⟩ : ∃ m, t.n = m + 1 := ⟨t.n - 1, by omega⟩
    have h1 : meas (inner t nd) ≤ (inner t nd).length * 5 ^ m := meas_le fun u hu => by
      have := (h u hu).2
      exact Nat.pow_le_pow_right (by decide) (by omega)
    have h2 : (inner t nd).length * 5 ^ m ≤ 4 * 5 ^ m := Nat.mul_le_mul_right _ inner_count
    have h3 : 0 < 5 ^ m := Nat.pow_pos (by decide)
    rw [hm, Nat.pow_succ]
    omega
theorem meas_app {xs ys : List Tk} : meas (xs ++ ys) = meas xs + meas ys := by
  unfold meas
  rw [List.map_append, List.sum_append]
theorem leaf_run {T bits : Nat → Bool} {src : List Nd} {t : Tk} (k : t.Ok src) {q : Nat} (hT : IsTru src bits T) (hn : src[t.n]? = some (.inp q)) {x : Nat} (hx : x < 5) : ap ((leafT q t).pick bits) x = t.run T x := by
  have e : T t.n = bits q := hT _ _ hn
  have hy := ap_lt k.b hx
  show ap (if bits q = true then thnP (thnP t.b t.c) t.h else thnP t.b t.h) x = ap t.h (if T t.n = true then ap t.c (ap t.b x) else ap t.b x)
  rw [e]
  cases bits q with
  | true =>
    show ap (thnP (thnP t.b t.c) t.h) x = ap t.h (ap t.c (ap t.b x))
    rw [ap_thn (by rw [thn_len, k.b.1]; exact hx), ap_thn (by rw [k.b.1]; exact hx)]
  | false =>
    show ap (thnP t.b t.h) x = ap t.h (ap t.b x)
    rw [ap_thn (by rw [k.b.1]; exact hx)]

/-! ### the loop: what is written, and what is left to do (the next task first) -/
structure TpOk (src : List Nd) (w : Tp) : Prop where
  k : Named src w.k
  z : IsPerm w.z
  o : IsPerm w.o
structure Going (src : List Nd) (L : Nat → Nat) (cyc : P5) (ws : List Tp) (ts : List Tk) : Prop where
  tsOk : ∀ t ∈ ts, t.Ok src
  wsOk : ∀ w ∈ ws, TpOk src w
  len : ws.length + (ts.map fun t => L t.n).sum = L (src.length - 1)
  sem : ∀ bits T, IsTru src bits T → ∀ x < 5, runT T ts (runW bits ws x) = if T (src.length - 1) = true then ap cyc x else x
theorem pick_perm {src : List Nd} {w : Tp} (k : TpOk src w) (bits : Nat → Bool) : IsPerm (w.pick bits) := by
  unfold Tp.pick
  split
  · exact k.o
  · exact k.z
theorem runW_lt {src : List Nd} {bits : Nat → Bool} : ∀ {ws : List Tp} {x : Nat}, (∀ w ∈ ws, TpOk src w) → x < 5 → runW bits ws x < 5
  | [], _, _, h => h
  | w :: r, x, h, hx => runW_lt (ws := r) (fun u hu => h u (List.mem_cons_of_mem _ hu)) (ap_lt (pick_perm (h w List.mem_cons_self) bits) hx)
theorem runW_app {bits : Nat → Bool} {ws vs : List Tp} {x : Nat} : runW bits (ws ++ vs) x = runW bits vs (runW bits ws x) := List.foldl_append
theorem runT_app {T : Nat → Bool} {ts us : List Tk} {x : Nat} : runT T (ts ++ us) x = runT T us (runT T ts x) := List.foldl_append
theorem going_start {src : List Nd} {L : Nat → Nat} {cyc : P5} (h0 : 0 < src.length) (hc : cyc ∈ cycles5) : Going src L cyc [] [⟨src.length - 1, cyc, stayP, stayP⟩] where
  tsOk := fun t ht => by
    have e := List.mem_singleton.mp ht
    subst e
    exact ⟨by show src.length - 1 < src.length; omega, hc, stay_perm, stay_perm⟩
  wsOk := fun w hw => by cases hw
  len := by
    show 0 + (L (src.length - 1) + 0) = _
    omega
  sem := fun bits T hT x hx => by
    show ap stayP (if T (src.length - 1) = true then ap cyc (ap stayP x) else ap stayP x) = _
    rw [ap_stay x hx]
    split
    · exact ap_stay _ (ap_lt (cyc_perm _ hc) hx)
    · exact ap_stay x hx
theorem going_leaf {src : List Nd} {L : Nat → Nat} {cyc : P5} {ws : List Tp} {t : Tk} {ts : List Tk} (hL : IsLen src L) (g : Going src L cyc ws (t :: ts)) {q : Nat} (hn : src[t.n]? = some (.inp q)) : Going src L cyc (ws ++ [leafT q t]) ts where
  tsOk := fun u hu => g.tsOk u (List.mem_cons_of_mem _ hu)
  wsOk := fun w hw => by
    rcases List.mem_append.mp hw with hw | hw
    · exact g.wsOk w hw
    · have e := List.mem_singleton.mp hw
      subst e
      have k := g.tsOk t List.mem_cons_self
      exact ⟨⟨_, hn⟩, thn_perm k.b k.h, thn_perm (thn_perm k.b (cyc_perm _ k.c)) k.h⟩
  len := by
    have h := g.len
    have e : L t.n = 1 := hL _ _ hn
    rw [List.map_cons, List.sum_cons, e] at h
    rw [List.length_append, List.length_singleton]
    omega
  sem := fun bits T hT x hx => by
    have k := g.tsOk t List.mem_cons_self
    rw [← g.sem bits T hT x hx, runW_app]
    show runT T ts (ap ((leafT q t).pick bits) (runW bits ws x)) = runT T ts (t.run T (runW bits ws x))
    rw [leaf_run k hT hn (runW_lt g.wsOk hx)]
theorem going_inner {src : List Nd} {L : Nat → Nat} {cyc : P5} {ws : List Tp} {t : Tk} {ts : List Tk} (hv : Valid src) (hL : IsLen src L) (g : Going src L cyc ws (t :: ts)) {nd : Nd} (hn : src[t.n]? = some nd) (hi : isInp nd = false) : Going src L cyc ws (inner t nd ++ ts) where
  tsOk := fun u hu => by
    rcases List.mem_append.mp hu with hu | hu
    · exact (inner_ok hv (g.tsOk t List.mem_cons_self) hn u hu).1
    · exact g.tsOk u (List.mem_cons_of_mem _ hu)
  wsOk := g.wsOk
  len := by
    have h := g.len
    rw [List.map_cons, List.sum_cons] at h
    rw [List.map_append, List.sum_append, inner_len hL hn hi]
    exact h
  sem := fun bits T hT x hx => by
    have k := g.tsOk t List.mem_cons_self
    rw [← g.sem bits T hT x hx, runT_app, inner_run hT k hn hi (runW_lt g.wsOk hx)]
    rfl
theorem going_meas {src : List Nd} {L : Nat → Nat} {cyc : P5} {ws : List Tp} {t : Tk} {ts : List Tk} (hv : Valid src) (g : Going src L cyc ws (t :: ts)) {nd : Nd} (hn : src[t.n]? = some nd) : meas (inner t nd ++ ts) < meas (t :: ts) := by
  rw [meas_app]
  show meas (inner t nd) + meas ts < 5 ^ t.n + meas ts
  have := inner_meas hv (g.tsOk t List.mem_cons_self) hn
  omega
/-- what is left is no longer than the length -/
theorem going_count {src : List Nd} {L : Nat → Nat} {cyc : P5} {ws : List Tp} {ts : List Tk} (hv : Valid src) (hL : IsLen src L) (g : Going src L cyc ws ts) : ws.length + ts.length ≤ L (src.length - 1) := by
  have h := g.len
  have k : ∀ us : List Tk, (∀ t ∈ us, t.Ok src) → us.length ≤ (us.map fun t => L t.n).sum := by
    intro us
    induction us with
    | nil => exact fun _ => Nat.le_refl 0
    | cons a r ih =>
      intro ho
      have h1 := ih fun u hu => ho u (List.mem_cons_of_mem _ hu)
      have h2 := len_pos hv hL src.length a.n (ho a List.mem_cons_self).n (ho a List.mem_cons_self).n
      rw [List.length_cons, List.map_cons, List.sum_cons]
      omega
  have := k ts g.tsOk
  omega
/-- what compile_word's word is -/
structure WordOk (src : List Nd) (L : Nat → Nat) (cyc : P5) (ws : List Tp) : Prop where
  wsOk : ∀ w ∈ ws, TpOk src w
  len : ws.length = L (src.length - 1)
  sem : ∀ bits T, IsTru src bits T → ∀ x < 5, runW bits ws x = if T (src.length - 1) = true then ap cyc x else x
theorem going_end {src : List Nd} {L : Nat → Nat} {cyc : P5} {ws : List Tp} (g : Going src L cyc ws []) : WordOk src L cyc ws := ⟨g.wsOk, g.len, fun bits T hT x hx => g.sem bits T hT x hx⟩
end K24
set_option Elab.async false
set_option linter.all false
set_option maxRecDepth 100000
set_option maxHeartbeats 4000000
namespace K24
open PySem PySem.Spec PyProof.Rows L2

/-! ### names of the module -/
theorem pe_globI {X : Cx} {x : Str} {i : Int} {pos : Pos} (hg : Gl X x) (hm : ∃ t, X.mg x = some (.int i t)) (hd : (x == ("__debug__" : Str)) = false := by decide) : PE X (.Name x pos) (tC (.int i)) := by
  obtain ⟨t, h⟩ := hm
  exact pe_glob hg h ⟨t, rfl⟩ hd
theorem pe_bty {X : Cx} {x : Str} {n : String} {pos : Pos} (hg : Gl X x) (hm : X.mg x = none) (hv : bootBuiltins x = some (.type n)) (hn : x ≠ "__name__" := by decide) (hd : (x == ("__debug__" : Str)) = false := by decide) : PE X (.Name x pos) (tC (.ty n)) := pe_bltn hg hm hv rfl hn hd
def tGT (K : PySem.W.Frag) (xs : List V) : TE := fun _ H Q => ∀ a, (∀ H, SqT K H a xs) → Q (.ref a) H
theorem pe_globT {X : Cx} {x : Str} {xs : List V} {pos : Pos} (hg : Gl X x) (hm : ∃ a, X.mg x = some (.ref a) ∧ ∀ H, SqT X.K H a xs) (hd : (x == ("__debug__" : Str)) = false := by decide) : PE X (.Name x pos) (tGT X.K xs) := by
  obtain ⟨a, h, hs⟩ := hm
  exact ⟨fun pins s σ H Q I q => (pe_glob (v := .ref a) hg h rfl hd).run pins s σ H Q I (q a hs)⟩
/-- the table of the nodes' sizes -/
def KLen (K : PySem.W.Frag) (w : World) (a : Addr) : Prop := (a == sysModules) = false ∧ KDct K w a "input" (.int 2) ∧ KDct K w a "not" (.int 2) ∧ KDct K w a "and" (.int 3) ∧ KDct K w a "or" (.int 3)
def tGD (K : PySem.W.Frag) (w : World) : TE := fun _ H Q => ∀ a, KLen K w a → Q (.ref a) H
theorem pe_globD {X : Cx} {x : Str} {pos : Pos} (hg : Gl X x) (hm : ∃ a, X.mg x = some (.ref a) ∧ KLen X.K X.w a) (hd : (x == ("__debug__" : Str)) = false := by decide) : PE X (.Name x pos) (tGD X.K X.w) := by
  obtain ⟨a, h, hs⟩ := hm
  exact ⟨fun pins s σ H Q I q => (pe_glob (v := .ref a) hg h rfl hd).run pins s σ H Q I (q a hs)⟩
/-- d.get(text) of a written dict, the key there -/
def tKGet (K : PySem.W.Frag) (w : World) (to te : TE) : TE := fun σ H Q => to σ H fun x H1 => ∃ a, x = .ref a ∧ (a == sysModules) = false ∧ (∃ z v, KDct K w a z v) ∧ te σ H1 fun y H2 => ∃ z v, y = .str z ∧ KDct K w a z v ∧ Q v H2
theorem pe_kget {X : Cx} {o e : Expr} {apos cpos : Pos} {td ty : TE} (ho : PE X o td) (he : PE X e ty) (m : M1 X o "get" apos e cpos) : PE X (.Call (.Attribute o "get" apos) [e] [] cpos) (tKGet X.K X.w td ty) := by
  constructor
  intro pins s σ H Q I h
  refine wpAny_Call_method m.base m.few m.line PySem.F.plainAttrs_dict PySem.F.slot_dict_get PySem.F.type_dict_get (thn (ho.run pins s σ H _ I h) ?_)
  rintro u s1 ⟨x, H1, I1, rx, a, rfl, low, ⟨_, _, es0, n0, _, l0, k0, _⟩, q1⟩
  cases rx
  have M0 := PySem.W.mapOf_K (prog := X.prog) (w := X.w) I1.kIn l0 k0
  refine ⟨M0.typeIs, M0.noDict, ?_⟩
  rw [m.trees]
  refine Calls.callWith_builtin rfl (Calls.evalArgs_plain (Calls.spliced_cons (thn (he.run pins s1 σ H1 _ I1 q1) ?_)))
  rintro iv s2 ⟨y, H2, I2, ry, z, v, rfl, ⟨es, n, u0, l1, k1, found, ru⟩, q2⟩
  refine Calls.spliced_nil ?_
  obtain ⟨t, rfl⟩ := ry
  have M := PySem.W.mapOf_K (prog := X.prog) (w := X.w) I2.kIn l1 k1
  refine call_meetsIn PySem.F.slot_dict_get M.typeIs PySem.F.entry_dict_get (PySem.F.args_dict_get_2 _ _) (meets_dict_get (strKind X.prog X.w) a (strKind_is X.prog X.w z t) low) ⟨_, M, ?_⟩
  rw [PySem.W.find_K l1 found]
  exact ⟨v, H2, I2.tok _, ru, q2⟩
/-- two lists of ints that are both 0, 1, 2, 3, 4 -/
def l5 : List V := [.int 0, .int 1, .int 2, .int 3, .int 4]
def rEq5 (K : PySem.W.Frag) : R2 := fun x y H Q => ∃ a b, x = .ref a ∧ y = .ref b ∧ SqL K H a l5 ∧ SqL K H b l5 ∧ Q (.bl true) H
theorem op_eq5 {X : Cx} (hu : X.A.units + 64 < cLine) : OpR X (compareOp .Eq) (rEq5 X.K) := by
  rintro pins s σ H x y v u Q I rx ry ⟨a, b, rfl, rfl, ha, hb, q⟩
  have all : DpAll X.K H l5 [.int 0, .int 1, .int 2, .int 3, .int 4] := .cons (.int 0) (.cons (.int 1) (.cons (.int 2) (.cons (.int 3) (.cons (.int 4) .nil))))
  have sh : SeqAt.shaped (.list [.int 0, .int 1, .int 2, .int 3, .int 4]) = true := by decide +kernel
  refine op_eqD hu pins s σ H _ _ v u Q I rx ry ⟨_, _, .lst ha all, .lst hb all, sh, sh, ?_⟩
  rw [SeqAt.eqv_refl _ (SeqAt.canLay_of_shaped sh)]
  exact q

/-! ### heaps -/
/-- the tuples stay, and what is known -/
def TK (H H' : Hp) : Prop := (∀ a xs, H a = some (.tup xs) → H' a = some (.tup xs)) ∧ ∀ a o u, H a = some (.frz o u) → H' a = some (.frz o u)
theorem TK.refl (H : Hp) : TK H H := ⟨fun _ _ h => h, fun _ _ _ h => h⟩
theorem TK.trans {H H1 H2 : Hp} (a : TK H H1) (b : TK H1 H2) : TK H H2 := ⟨fun c xs h => b.1 c xs (a.1 c xs h), fun c o xs h => b.2 c o xs (a.2 c o xs h)⟩
theorem TK.t {K : PySem.W.Frag} {H H' : Hp} {a : Addr} {xs : List V} (e : TK H H') (h : SqT K H a xs) : SqT K H' a xs := by
  rcases h with (h | ⟨o, h⟩) | h
  · exact .inl (.inl (e.1 _ _ h))
  · exact .inl (.inr ⟨o, e.2 _ _ _ h⟩)
  · exact .inr h
theorem tk_same {H H' : Hp} (e : Same H H') : TK H H' := ⟨fun a xs h => e _ _ h, fun a o xs h => e _ _ h⟩
theorem tk_lst {H : Hp} {l : Addr} {xs ys : List V} (h : H l = some (.lst xs)) : TK H (upd H l (.lst ys)) :=
  ⟨fun a zs q => by rw [upd_ne (ne_of q h (by intro z; cases z))]; exact q, fun a o zs q => by rw [upd_ne (ne_of q h (by intro z; cases z))]; exact q⟩
theorem same_new {H : Hp} {p : Addr} (free : H p = none) (o : HO) : Same H (upd H p o) := by
  intro b u known
  rw [upd_ne (ne_of_none known free)]
  exact known
theorem tk_new {H : Hp} {p : Addr} {o : HO} (h : H p = none) : TK H (upd H p o) := tk_same (same_new h o)
theorem same_tup {K : PySem.W.Frag} {H H' : Hp} {a : Addr} {xs : List V} (e : Same H H') (h : SqT K H a xs) : SqT K H' a xs := (tk_same e).t h
/-- all but the list at d stays -/
def Sbut (d : Addr) (H H' : Hp) : Prop := ∀ b o, b ≠ d → H b = some o → H' b = some o
theorem Sbut.trans {d : Addr} {H H1 H2 : Hp} (a : Sbut d H H1) (b : Sbut d H1 H2) : Sbut d H H2 := fun c o hc h => b c o hc (a c o hc h)
theorem Sbut.of {d : Addr} {H H' : Hp} (e : Same H H') : Sbut d H H' := fun b o _ h => e b o h
theorem Sbut.refl (d : Addr) (H : Hp) : Sbut d H H := fun _ _ _ h => h
theorem Sbut.upd (d : Addr) (H : Hp) (o : HO) : Sbut d H (upd H d o) := fun b u hb h => by rw [upd_ne hb]; exact h
/-- d is no tuple -/
theorem Sbut.tk {d : Addr} {H H' : Hp} {xs : List V} (hd : H d = some (.lst xs)) (e : Sbut d H H') : TK H H' :=
  ⟨fun a zs q => e _ _ (ne_of q hd (by intro z; cases z)) q, fun a o zs q => e _ _ (ne_of q hd (by intro z; cases z)) q⟩
/-- a list changed that was new to H -/
theorem same_write {H H' : Hp} {l : Addr} {o : HO} (e : Same H H') (hl : H l = none) : Same H (upd H' l o) := fun b u q => by
  rw [upd_ne (ne_of_none q hl)]
  exact e b u q
theorem sz {n : Nat} (h : n ≤ 100000) : n ≤ sizeLine := Nat.le_trans h (by decide)
theorem szl {n : Nat} (h : n < 100000) : n < sizeLine := Nat.lt_of_lt_of_le h (by decide)

/-! ### tuples that are known to have no dict -/
def SqN (K : PySem.W.Frag) (H : Hp) (a : Addr) (xs : List V) : Prop :=
  (∃ o : Obj, H a = some (.frz o (.tup xs)) ∧ o.dict = none) ∨
    ∃ (o : Obj) (its : Array Value) (n : Nat), K.lookup a = some o ∧ o.cls = .type "tuple" ∧ o.dict = none ∧ o.data = .seq its n ∧ its.size ≤ sizeLine ∧ Vals xs its.toList
theorem SqN.t {K : PySem.W.Frag} {H : Hp} {a : Addr} {xs : List V} (h : SqN K H a xs) : SqT K H a xs := by
  rcases h with ⟨o, h, _⟩ | ⟨o, its, n, h1, h2, _, h3⟩
  · exact .inl (.inr ⟨o, h⟩)
  · exact .inr ⟨o, its, n, h1, h2, h3⟩
theorem SqN.mono {K : PySem.W.Frag} {H H' : Hp} {a : Addr} {xs : List V} (e : TK H H') (h : SqN K H a xs) : SqN K H' a xs := by
  rcases h with ⟨o, h, d⟩ | h
  · exact .inl ⟨o, e.2 _ _ _ h, d⟩
  · exact .inr h
/-- tuple(list): a new tuple -/
def rTupN (K : PySem.W.Frag) : List V → Hp → VK → Prop := fun xs H Q => ∃ p ys, xs = [.ref p] ∧ SqL K H p ys ∧ ∀ l o, H l = none → o.dict = none → Q (.ref l) (upd H l (.frz o (.tup ys)))
theorem call_tupleN {X : Cx} : CallR X (.type "tuple") (rTupN X.K) := by
  rintro pins s σ H xs us Q I r ⟨p, ys, rfl, lq, q⟩
  obtain ⟨u, rfl, ru⟩ := vals1 r
  cases ru
  obtain ⟨its, vals, list, fits⟩ := I.list lq
  have few : its.toArray.size ≤ sizeLine := by rw [List.size_toArray, ← vals.length]; exact fits
  refine call_tuple_list list.isList ?_ few
  intro h1 keep
  have I1 := I.kept (t' := s.toks) keep
  have new : ObjOk X.prog X.w (upd H h1.objs.size (.frz { cls := .type "tuple", data := .seq its.toArray } (.tup ys))) (h1.push { cls := .type "tuple", data := .seq its.toArray }) h1.objs.size (.frz { cls := .type "tuple", data := .seq its.toArray } (.tup ys)) :=
    ⟨Heap.get?_push_size _ rfl, fits, its, vals, IsTup.new _ _⟩
  exact ⟨.ref h1.objs.size, _, I1.laid (t' := s.toks) (fun b o g => Heap.get?_push_of_some _ g) (Nat.le_refl _) new, rfl, q _ _ (I1.hok.fresh (Nat.le_refl _)) rfl⟩
/-- t.index(e) -/
def tTIx (K : PySem.W.Frag) (to te : TE) : TE := fun σ H Q => to σ H fun x H1 => ∃ a xs, x = .ref a ∧ SqN K H1 a xs ∧ te σ H1 fun y H2 => rIdxI K (.ref a) [y] H2 Q
/-- a known tuple in the heap proper: its class, no dict -/
theorem SqN.bare {X : Cx} {pins : List (Addr × Obj)} {σ : L2.St} {H : Hp} {s : Shared} {a : Addr} {xs : List V} (I : Inv X pins σ H s) (h : SqN X.K H a xs) : ∃ ob, s.heap.get? a = some ob ∧ ob.cls = .type "tuple" ∧ ob.dict = none := by
  rcases h with ⟨o, h1, h2⟩ | ⟨o, its, n, h1, h2, h3, _⟩
  · obtain ⟨g1, _, its, _, o', g2, g3, _⟩ := (show ObjOk X.prog X.w H s.heap a (.frz o (.tup xs)) from I.hok a _ h1)
    rw [g1] at g2
    cases g2
    exact ⟨o, g1, g3, h2⟩
  · exact ⟨o, I.kIn _ _ h1, h2, h3⟩
theorem pe_tidx {X : Cx} {o e : Expr} {apos cpos : Pos} {to te : TE} (ho : PE X o to) (he : PE X e te) (m : M1 X o "index" apos e cpos) : PE X (.Call (.Attribute o "index" apos) [e] [] cpos) (tTIx X.K to te) := by
  constructor
  intro pins s σ H Q I h
  refine wpAny_Call_method m.base m.few m.line PySem.F.plainAttrs_tuple PySem.F.slot_tuple_index PySem.F.type_tuple_index (thn (ho.run pins s σ H _ I h) ?_)
  rintro v s1 ⟨x, H1, I1, rx, a, xs, rfl, bare, q1⟩
  cases rx
  obtain ⟨ob, g1, g2, g3⟩ := bare.bare I1
  refine ⟨⟨ob, g1, g2⟩, fun c e => ?_, ?_⟩
  · cases e
    exact ⟨ob, g1, g3⟩
  rw [m.trees]
  refine Calls.callWith_builtin rfl (Calls.evalArgs_plain (Calls.spliced_cons (thn (he.run pins s1 σ H1 _ I1 q1) ?_)))
  rintro iv s2 ⟨y, H2, I2, ry, q2⟩
  exact Calls.spliced_nil (mt_index_t pins s2 σ H2 (.ref a) [y] (.ref a) [iv] Q I2 rfl (.cons ry .nil) q2)

def tGN (K : PySem.W.Frag) (xs : List V) : TE := fun _ H Q => ∀ a, (∀ H, SqN K H a xs) → Q (.ref a) H
theorem pe_globN {X : Cx} {x : Str} {xs : List V} {pos : Pos} (hg : Gl X x) (hm : ∃ a, X.mg x = some (.ref a) ∧ ∀ H, SqN X.K H a xs) (hd : (x == ("__debug__" : Str)) = false := by decide) : PE X (.Name x pos) (tGN X.K xs) := by
  obtain ⟨a, h, hs⟩ := hm
  exact ⟨fun pins s σ H Q I q => (pe_glob (v := .ref a) hg h rfl hd).run pins s σ H Q I (q a hs)⟩
/-! ### facts of the top -/
structure Txt (K : PySem.W.Frag) (w : World) (mg : Str → Option Value) : Prop where
  b_isinstance : mg "isinstance" = none
  b_len : mg "len" = none
  b_enumerate : mg "enumerate" = none
  b_tuple : mg "tuple" = none
  b_list : mg "list" = none
  b_sorted : mg "sorted" = none
  b_range : mg "range" = none
  b_zip : mg "zip" = none
  b_min : mg "min" = none
  b_set : mg "set" = none
  b_int : mg "int" = none
  b_bool : mg "bool" = none
  b_str : mg "str" = none
  g_NODES : ∃ t, mg "NODES" = some (.int 200 t)
  g_INPUTS : ∃ t, mg "INPUTS" = some (.int 60 t)
  g_MOST : ∃ t, mg "MOST" = some (.int 20000 t)
  g_POINTS : ∃ t, mg "POINTS" = some (.int 5 t)
  g_LENGTHS : ∃ a, mg "LENGTHS" = some (.ref a) ∧ (a == sysModules) = false ∧ KDct K w a "input" (.int 2) ∧ KDct K w a "not" (.int 2) ∧ KDct K w a "and" (.int 3) ∧ KDct K w a "or" (.int 3)
  g_STAY : ∃ a, mg "STAY" = some (.ref a) ∧ ∀ H, SqT K H a [.int 0, .int 1, .int 2, .int 3, .int 4]
  g_FIRST : ∃ a, mg "FIRST" = some (.ref a) ∧ ∀ H, SqN K H a [.int 1, .int 2, .int 3, .int 4, .int 0]
  g_SECOND : ∃ a, mg "SECOND" = some (.ref a) ∧ ∀ H, SqN K H a [.int 2, .int 4, .int 1, .int 0, .int 3]

/-! ### types -/
theorem tyx_T {K : PySem.W.Frag} {H : Hp} {a : Addr} {xs : List V} (h : SqT K H a xs) : TyX K H (.ref a) (.type "tuple") := by
  rcases h with (h | ⟨o, h⟩) | ⟨o, its, n, h, c, _⟩
  · exact .base (.tup h)
  · exact .fTuple h
  · exact .kTuple h c
theorem tyx_L {K : PySem.W.Frag} {H : Hp} {a : Addr} {xs : List V} (h : SqL K H a xs) : TyX K H (.ref a) (.type "list") := by
  rcases h with (h | ⟨o, h⟩) | ⟨o, its, n, h, c, _⟩
  · exact .base (.lst h)
  · exact .base (.frz h)
  · exact .kList h c
theorem kb_ii : kitB "int" "int" = some true := by decide +kernel
theorem kb_ib : kitB "int" "bool" = some false := by decide +kernel
theorem kb_il : kitB "int" "list" = some false := by decide +kernel
theorem kb_it : kitB "int" "tuple" = some false := by decide +kernel
theorem kb_tt : kitB "tuple" "tuple" = some true := by decide +kernel
theorem kb_ll : kitB "list" "list" = some true := by decide +kernel
theorem kb_ss : kitB "str" "str" = some true := by decide +kernel
theorem kb_bb : kitB "bool" "bool" = some true := by decide +kernel
/-! ### permutations in the heap -/
def vn (n : Nat) : V := .int (n : Int)
theorem vp_eq (p : List Nat) : p.map vn = (p.map Int.ofNat).map V.int := by
  rw [List.map_map]
  rfl
structure PermAt (K : PySem.W.Frag) (H : Hp) (v : V) (p : P5) : Prop where
  ex : ∃ a, v = .ref a ∧ SqT K H a (p.map vn)
theorem PermAt.mono {K : PySem.W.Frag} {H H' : Hp} {v : V} {p : P5} (e : TK H H') (h : PermAt K H v p) : PermAt K H' v p := by
  obtain ⟨a, e1, h2⟩ := h.ex
  exact ⟨a, e1, e.t h2⟩
/-- a cycle: also known to have no dict -/
structure CycAt (K : PySem.W.Frag) (H : Hp) (v : V) (p : P5) : Prop where
  ex : ∃ a, v = .ref a ∧ SqN K H a (p.map vn)
theorem CycAt.mono {K : PySem.W.Frag} {H H' : Hp} {v : V} {p : P5} (e : TK H H') (h : CycAt K H v p) : CycAt K H' v p := by
  obtain ⟨a, e1, h2⟩ := h.ex
  exact ⟨a, e1, h2.mono e⟩
theorem CycAt.p {K : PySem.W.Frag} {H : Hp} {v : V} {p : P5} (h : CycAt K H v p) : PermAt K H v p := by
  obtain ⟨a, e1, h2⟩ := h.ex
  exact ⟨a, e1, h2.t⟩
theorem at_vn {p : List Nat} {x : Nat} (h : x < p.length) : (p.map vn)[x]? = some (vn (ap p x)) := by
  rw [List.getElem?_map, ap_get h]
  rfl
theorem atI_vn {p : List Nat} {x : Nat} (h : x < p.length) : atI (p.map vn) ((x : Nat) : Int) = some (vn (ap p x)) := atI_nat (at_vn h)

section
variable {P : Program} {w : World} {K : PySem.W.Frag} {mg : Str → Option Value} {base : Heap}
/-! ### is_integer, is_number -/
abbrev s_is_integer : Stmt := topS 7
theorem sc_is_integer : FnScope ["value"] ["value"] (defScope s_is_integer) := ⟨rfl, rfl, rfl, by decide +kernel, rfl, by decide +kernel, by decide +kernel⟩
def spIsInteger : Sp := fun vs H Q _ => ∃ i : Int, vs = [.int i] ∧ Q (.bl true) H
theorem ok_is_integer (T : Txt K w mg) (D : Df K mg "is_integer" s_is_integer ["value"]) : Cal P w K mg base 1 "is_integer" spIsInteger := by
  refine D.ok sc_is_integer (fun vs H Q E h => ?_) (fun f cdv A outer s H vs Q E hr h => ?_)
  · obtain ⟨i, rfl, _⟩ := h
    rfl
  obtain ⟨i, rfl, q⟩ := h
  refine ⟨_, (pss_one (ps_ret (pe_and (pe_callB call_isi (by rfl) T.b_isinstance (by decide +kernel) (pa_cons (pv 0) (pa_cons (pe_bty (n := "int") (by rfl) T.b_int (by decide +kernel)) pa_nil))) (pe_one (pe_not (pe_callB call_isi (by rfl) T.b_isinstance (by decide +kernel) (pa_cons (pv 0) (pa_cons (pe_bty (n := "bool") (by rfl) T.b_bool (by decide +kernel)) pa_nil)))))))), ?_⟩
  refine ⟨_, rfl, _, _, _, _, _, rfl, .ty _, .base (.int _), kit_ty kb_ii, _, rfl, iteT ?_⟩
  refine ⟨_, rfl, _, _, _, _, _, rfl, .ty _, .base (.int _), kit_ty kb_ib, _, rfl, q⟩
abbrev s_is_number : Stmt := topS 8
theorem sc_is_number : FnScope ["value", "modulus"] ["value", "modulus"] (defScope s_is_number) := ⟨rfl, rfl, rfl, by decide +kernel, rfl, by decide +kernel, by decide +kernel⟩
def spIsNumber : Sp := fun vs H Q _ => ∃ i m : Int, vs = [.int i, .int m] ∧ 0 ≤ i ∧ i < m ∧ Q (.bl true) H
theorem ok_is_number (T : Txt K w mg) (D : Df K mg "is_number" s_is_number ["value", "modulus"]) (C_is_integer : Cal P w K mg base 1 "is_integer" spIsInteger) : Cal P w K mg base 2 "is_number" spIsNumber := by
  refine D.ok sc_is_number (fun vs H Q E h => ?_) (fun f cdv A outer s H vs Q E hr h => ?_)
  · obtain ⟨i, m, rfl, _⟩ := h
    rfl
  obtain ⟨i, m, rfl, h0, h1, q⟩ := h
  refine ⟨_, (pss_one (ps_ret (pe_and (pe_cal C_is_integer hr (by decide) (by rfl) (pa_cons (pv 0) pa_nil)) (pe_one (pe_chain op_le op_lt pe_int (pv 0) (pv 1)))))), ?_⟩
  refine ⟨_, rfl, i, rfl, _, rfl, iteT ⟨_, rfl, _, _, rfl, rfl, _, rfl, ?_⟩⟩
  rw [decide_eq_true h0]
  refine iteT ⟨_, rfl, _, _, rfl, rfl, ?_⟩
  show Q (.bl (decide (i < m))) H
  rw [decide_eq_true h1]
  exact q
abbrev s_then : Stmt := topS 21
theorem sc_then : FnScope ["first", "second", "point"] ["first", "second"] (defScope s_then) := ⟨rfl, rfl, rfl, by decide +kernel, rfl, by decide +kernel, by decide +kernel⟩
def spThen (K : PySem.W.Frag) : Sp := fun vs H Q _ => ∃ (x y : V) (a b : P5), vs = [x, y] ∧ PermAt K H x a ∧ PermAt K H y b ∧ IsPerm a ∧ IsPerm b ∧ ∀ v H', Same H H' → PermAt K H' v (thnP a b) → Q v H'
theorem ok_then (T : Txt K w mg) (D : Df K mg "then" s_then ["first", "second"]) : Cal P w K mg base 1 "then" (spThen K) := by
  refine D.ok sc_then (fun vs H Q E h => ?_) (fun f cdv A outer s H vs Q E hr h => ?_)
  · obtain ⟨_, _, _, _, rfl, _⟩ := h
    rfl
  obtain ⟨x, y, a, b, rfl, ⟨ax, rfl, hx⟩, ⟨ay, rfl, hy⟩, ha, hb, q⟩ := h
  refine ⟨_, (pss_one (ps_ret (pe_callTy call_tuple_of (by rfl) T.b_tuple (by decide +kernel) (pa_cons (pe_lc (own := [("point", 2)]) (g := gName 2) (tt := tYes) (te := tOp (rIxT K) (tVar 1) (tVar 2)) (by rfl) sc_then.nd (pi_tup (pv 0)) (blkOk_by (own := [("point", 2)]) (N := ["first", "second", "point"]) (sc := defScope s_then) (by decide +kernel)) (fun _ _ _ _ _ => pg_name (i := 2) sc_then.nd rfl (Or.inl rfl)) (fun _ _ _ _ _ => pts_nil) (fun _ _ _ _ _ => (pe_ix ix_tup (pv 1) (pv 2) (fun _ _ => rfl)))) pa_nil)))), ?_⟩
  refine ⟨_, rfl, ax, rfl, ⟨_, hx⟩, fun D hD => lc_tup (K := K) (a := ax) (xs := a.map vn) (fun i H' => Same H H' ∧ H' D = some (.lst ((a.map fun x => vn (ap b x)).take i)))
    ⟨same_new hD _, upd_same⟩ (fun i H' _ ⟨e, _⟩ => same_tup e hx) ?_ ?_⟩
  · rintro i x H' hi ⟨e, eD⟩
    have hil : i < a.length := by
      have := (List.getElem?_eq_some_iff.mp hi).1
      rwa [List.length_map] at this
    have ex : x = vn (ap a i) := by
      rw [at_vn hil] at hi
      exact (Option.some.inj hi).symm
    subst ex
    have hlt : ap a i < b.length := by
      rw [hb.1]
      exact ap_lt ha (by rw [← ha.1]; exact hil)
    refine ⟨rfl, _, rfl, _, rfl, ay, _, _, _, rfl, rfl, same_tup e hy, atI_vn hlt, _, eD, ?_, ?_, ?_⟩
    · have h5 := ha.1
      refine szl ?_
      rw [List.length_take]
      omega
    · exact same_write e hD
    · rw [upd_same, List.take_add_one, List.getElem?_map, ap_get hil]
      rfl
  · rintro H' ⟨e, eD⟩
    have ee : (a.map fun x => vn (ap b x)).take (a.map vn).length = (thnP a b).map vn := by
      rw [List.take_of_length_le (by rw [List.length_map, List.length_map]; exact Nat.le_refl _)]
      unfold thnP
      rw [List.map_map]
      rfl
    rw [ee] at eD
    refine ⟨D, _, rfl, .inl ⟨SqL.of eD, fun l hl => ?_⟩⟩
    exact q _ _ (fun c o hc => by
      have := e c o hc
      rw [upd_ne (ne_of_none this hl)]
      exact this) ⟨l, rfl, SqT.of upd_same⟩
end
end K24
set_option Elab.async false
set_option linter.all false
set_option maxRecDepth 100000
set_option maxHeartbeats 4000000
namespace K24
open PySem PySem.Spec PyProof.Rows L2
theorem pth_len (c : P5) : (pthP c).length = 5 := rfl
theorem pth_last (c : P5) : ∀ k < 4, ((pthP c).take (k + 1)).map vn = ((pthP c).take k).map vn ++ [vn ((pthP c).getD k 0)] := by
  intro k hk
  have : k = 0 ∨ k = 1 ∨ k = 2 ∨ k = 3 := by omega
  rcases this with rfl | rfl | rfl | rfl <;> rfl
theorem pth_next (c : P5) : ∀ k < 4, (pthP c).getD (k + 1) 0 = ap c ((pthP c).getD k 0) := by
  intro k hk
  have : k = 0 ∨ k = 1 ∨ k = 2 ∨ k = 3 := by omega
  rcases this with rfl | rfl | rfl | rfl <;> rfl
theorem pth_take (c : P5) : ∀ k < 4, (pthP c).take (k + 2) = (pthP c).take (k + 1) ++ [ap c ((pthP c).getD k 0)] := by
  intro k hk
  have : k = 0 ∨ k = 1 ∨ k = 2 ∨ k = 3 := by omega
  rcases this with rfl | rfl | rfl | rfl <;> rfl
theorem perm_get {p : P5} (h : IsPerm p) {k : Nat} (hk : k < 5) : p.getD k 0 < 5 := ap_lt h hk
theorem cyc_ixI : ∀ c ∈ cycles5, ∀ x : Nat, x < 5 → (c.map Int.ofNat).idxOf ((x : Nat) : Int) = List.idxOf x c := by decide +kernel
/-- setting by a fold -/
def setF (g : Nat → Nat) (v : Nat → Nat) (n : Nat) : P5 := (List.range n).foldl (fun f k => f.set (g k) (v k)) [0, 0, 0, 0, 0]
theorem setF_succ {g v : Nat → Nat} {n : Nat} : setF g v (n + 1) = (setF g v n).set (g n) (v n) := by
  unfold setF
  rw [List.range_succ, List.foldl_append]
  rfl
theorem setF_len {g v : Nat → Nat} : ∀ n, (setF g v n).length = 5
  | 0 => rfl
  | n + 1 => by rw [setF_succ, List.length_set]; exact setF_len n
theorem setF_map {g v : Nat → Nat} {n : Nat} : (setF g v (n + 1)).map vn = ((setF g v n).map vn).set (g n) (vn (v n)) := by
  rw [setF_succ, List.map_set]
theorem ren_eq (p n : P5) : renP p n = setF (ap n) (fun k => ap n (ap p k)) 5 := rfl
theorem nam_eq (c : P5) : namP c = setF (fun k => (pthP (comP firstP secondP)).getD k 0) (fun k => (pthP c).getD k 0) 5 := rfl
theorem ixv {n j : Nat} (hj : j < n) : ixN n (j : Int) = some j := by
  unfold ixN
  rw [if_pos (by omega), if_pos (by omega)]
  simp

section
variable {P : Program} {w : World} {K : PySem.W.Frag} {mg : Str → Option Value} {base : Heap}
abbrev s_undone : Stmt := topS 22
theorem sc_undone : FnScope ["permutation", "point"] ["permutation"] (defScope s_undone) := ⟨rfl, rfl, rfl, by decide +kernel, rfl, by decide +kernel, by decide +kernel⟩
def spUndone (K : PySem.W.Frag) : Sp := fun vs H Q _ => ∃ (x : V) (c : P5), vs = [x] ∧ CycAt K H x c ∧ c ∈ cycles5 ∧ ∀ v H', Same H H' → CycAt K H' v (undP c) → Q v H'
theorem ok_undone (T : Txt K w mg) (D : Df K mg "undone" s_undone ["permutation"]) : Cal P w K mg base 1 "undone" (spUndone K) := by
  refine D.ok sc_undone (fun vs H Q E h => ?_) (fun f cdv A outer s H vs Q E hr h => ?_)
  · obtain ⟨_, _, rfl, _⟩ := h
    rfl
  obtain ⟨x, c, rfl, ⟨ax, rfl, hx⟩, hc, q⟩ := h
  refine ⟨_, (pss_one (ps_ret (pe_callTy call_tupleN (by rfl) T.b_tuple (by decide +kernel) (pa_cons (pe_lc (own := [("point", 1)]) (g := gName 1) (tt := tYes) (te := tTIx K (tVar 0) (tVar 1)) (by rfl) sc_undone.nd (pi_range1 (by rfl) T.b_range (pa_cons (pe_globI rfl T.g_POINTS) pa_nil)) (blkOk_by (own := [("point", 1)]) (N := ["permutation", "point"]) (sc := defScope s_undone) (by decide +kernel)) (fun _ _ _ _ _ => pg_name (i := 1) sc_undone.nd rfl (Or.inl rfl)) (fun _ _ _ _ _ => pts_nil) (fun _ _ _ _ _ => (pe_tidx (pv 0) (pv 1) ⟨rfl, rfl, rfl, rfl⟩))) pa_nil)))), ?_⟩
  refine ⟨5, rfl, by decide, by decide, fun D hD => lc_range (lo := 0) (n := 5) (fun i H' => Same H H' ∧ H' D = some (.lst (((List.range i).map fun x => c.idxOf x).map vn))) ⟨same_new hD _, upd_same⟩ ?_ ?_⟩
  · rintro i H' hi ⟨e, eD⟩
    have hix := cyc_ix c hc i hi
    have hN : SqN K H' ax (c.map vn) := hx.mono (tk_same e)
    have e0 : (0 : Int) + (i : Int) = (i : Int) := Int.zero_add _
    refine ⟨rfl, _, rfl, ax, _, rfl, hN, _, rfl, ax, c.map Int.ofNat, (0 : Int) + (i : Int), rfl, rfl, by rw [← vp_eq]; exact hN.t, ?_, ?_⟩
    · rw [e0]
      exact List.mem_map.mpr ⟨i, List.mem_of_getElem? hix.1, rfl⟩
    rw [e0, cyc_ixI c hc i hi]
    refine ⟨_, eD, ?_, same_write e hD, ?_⟩
    · rw [List.length_map, List.length_map, List.length_range]
      exact szl (by omega)
    · rw [upd_same, List.range_succ, List.map_append, List.map_append]
      rfl
  · rintro H' ⟨e, eD⟩
    refine ⟨D, _, rfl, SqL.of eD, fun l o hl ho => ?_⟩
    exact q _ _ (fun c o hc => by
      have := e c o hc
      rw [upd_ne (ne_of_none this hl)]
      exact this) ⟨l, rfl, .inl ⟨o, upd_same, ho⟩⟩
abbrev s_is_permutation : Stmt := topS 23
theorem sc_is_permutation : FnScope ["value", "point"] ["value"] (defScope s_is_permutation) := ⟨rfl, rfl, rfl, by decide +kernel, rfl, by decide +kernel, by decide +kernel⟩
def spIsPerm (K : PySem.W.Frag) : Sp := fun vs H Q _ => ∃ (x : V) (p : P5), vs = [x] ∧ PermAt K H x p ∧ IsPerm p ∧ ∀ H', Same H H' → Q (.bl true) H'
theorem ok_is_permutation (T : Txt K w mg) (D : Df K mg "is_permutation" s_is_permutation ["value"]) (C_is_number : Cal P w K mg base 2 "is_number" spIsNumber) : Cal P w K mg base 3 "is_permutation" (spIsPerm K) := by
  refine D.ok sc_is_permutation (fun vs H Q E h => ?_) (fun f cdv A outer s H vs Q E hr h => ?_)
  · obtain ⟨_, _, rfl, _⟩ := h
    rfl
  obtain ⟨x, p, rfl, ⟨ax, rfl, hx⟩, hp, q⟩ := h
  have hlen : (p.map vn).length = 5 := by rw [List.length_map]; exact hp.1
  refine ⟨_, (pss_cons (ps_if (PW.pt (pw_or (pt_not (pt_val (pe_callB call_isi (by rfl) T.b_isinstance (by decide +kernel) (pa_cons (pv 0) (pa_cons (pe_bty (n := "tuple") (by rfl) T.b_tuple (by decide +kernel)) pa_nil))))) (pw_or1 (pt_cmpR op_ne (pe_callB call_len_seq (by rfl) T.b_len PySem.boot_len (pa_cons (pv 0) pa_nil)) (pe_globI rfl T.g_POINTS) (nomark _)))))
(pss_one (ps_ret pe_bl))
pss_nil)
(pss_cons (ps_for PassesOwn.never rfl (pi_tup (pv 0)) (pg_name (i := 1) sc_is_permutation.nd rfl (by first | exact Or.inl rfl | exact Or.inr rfl))
(pss_one (ps_if (pt_not (pt_val (pe_cal C_is_number hr (by decide) (by rfl) (pa_cons (pv 1) (pa_cons (pe_globI rfl T.g_POINTS) pa_nil)))))
(pss_one (ps_ret pe_bl))
pss_nil)))
(pss_one (ps_ret (pe_cmpR (op_eq5 hr.units) (pe_callB cr_sortedT (by rfl) T.b_sorted (by decide +kernel) (pa_cons (pv 0) pa_nil)) (pe_lst (pa_cons pe_int (pa_cons pe_int (pa_cons pe_int (pa_cons pe_int (pa_cons pe_int pa_nil)))))) (nomark _)))))), ?_⟩
  refine ⟨_, rfl, _, _, _, _, _, rfl, .ty _, tyx_T hx, kit_ty kb_tt, _, rfl, iteF ?_⟩
  refine ⟨_, rfl, ax, _, rfl, .inr hx, rfl, _, rfl, ?_⟩
  rw [hlen]
  refine iteF ?_
  refine ⟨_, rfl, ax, rfl, ⟨_, hx⟩, for_tup (K := K) (a := ax) (xs := p.map vn) (fun i σ H' => H' = H ∧ ∃ y, σ = [some (.ref ax), y]) ⟨rfl, _, rfl⟩ (fun i σ H' _ ⟨e, _⟩ => by rw [e]; exact hx) ?_ ?_⟩
  · rintro i x σ H' hi ⟨rfl, y, rfl⟩
    rw [List.getElem?_map] at hi
    cases hpi : p[i]? with
    | none => rw [hpi] at hi; cases hi
    | some z =>
      rw [hpi] at hi
      have e : x = vn z := (Option.some.inj hi).symm
      subst e
      have hz := hp.2.1 z (List.mem_of_getElem? hpi)
      refine ⟨_, rfl, _, _, rfl, by omega, by omega, _, rfl, iteF ?_⟩
      exact ⟨rfl, _, rfl⟩
  · rintro σ H' ⟨rfl, y, rfl⟩
    refine ⟨_, rfl, ax, p.map Int.ofNat, rfl, by rw [← vp_eq]; exact hx, by rw [List.length_map, hp.1]; decide, fun ns' l hperm hsort hl => ?_⟩
    have e5 := sorted_perm hp hperm hsort
    refine ⟨by decide, fun l2 hl2 => ?_⟩
    have hne : l ≠ l2 := fun z => by rw [← z, upd_same] at hl2; cases hl2
    refine ⟨l, l2, rfl, rfl, SqL.of ?_, SqL.of upd_same, ?_⟩
    · rw [upd_ne hne, upd_same, e5]
      rfl
    · exact q _ fun b o hb => by
        have h1 : b ≠ l := ne_of_none hb hl
        have h2 : (upd H' l (.lst (ns'.map V.int))) b = some o := by rw [upd_ne h1]; exact hb
        rw [upd_ne (ne_of_none h2 hl2)]
        exact h2
abbrev s_path : Stmt := topS 24
theorem sc_path : FnScope ["cycle", "points", "_"] ["cycle"] (defScope s_path) := ⟨rfl, rfl, rfl, by decide +kernel, rfl, by decide +kernel, by decide +kernel⟩
def spPath (K : PySem.W.Frag) : Sp := fun vs H Q _ => ∃ (x : V) (c : P5), vs = [x] ∧ PermAt K H x c ∧ IsPerm c ∧ ∀ a H', Same H H' → H a = none → H' a = some (.lst ((pthP c).map vn)) → Q (.ref a) H'
theorem pth_lt {c : P5} (hc : IsPerm c) : ∀ k < 5, (pthP c).getD k 0 < 5
  | 0, _ => by show (0 : Nat) < 5; decide
  | k + 1, h => by
    rw [pth_next c k (by omega)]
    exact ap_lt hc (pth_lt hc k (by omega))
theorem ok_path (T : Txt K w mg) (D : Df K mg "path" s_path ["cycle"]) : Cal P w K mg base 1 "path" (spPath K) := by
  refine D.ok sc_path (fun vs H Q E h => ?_) (fun f cdv A outer s H vs Q E hr h => ?_)
  · obtain ⟨_, _, rfl, _⟩ := h
    rfl
  obtain ⟨x, c, rfl, ⟨ax, rfl, hx⟩, hc, q⟩ := h
  refine ⟨_, (pss_cons (ps_set (i := 1) sc_path.nd rfl (by first | exact Or.inl rfl | exact Or.inr rfl) (pe_lst (pa_cons pe_int pa_nil)))
(pss_cons (ps_for PassesOwn.never rfl (pi_range1 (by rfl) T.b_range (pa_cons (pe_op op_sub (pe_globI rfl T.g_POINTS) pe_int) pa_nil)) (pg_name (i := 2) sc_path.nd rfl (by first | exact Or.inl rfl | exact Or.inr rfl))
(pss_one (ps_expr (pe_bm PySem.F.plainAttrs_list PySem.F.slot_list_append PySem.F.type_list_append mt_append (pv 1) (pa_cons (pe_ix ix_tup (pv 0) (pe_ix ix_list (pv 1) (pe_un un_neg pe_int) (fun _ _ => rfl)) (fun _ _ => rfl)) pa_nil)))))
(pss_one (ps_ret (pv 1))))), ?_⟩
  refine ⟨by decide, fun l hl => ?_⟩
  refine ⟨_, _, rfl, rfl, 4, rfl, by decide, by decide, for_range (lo := 0) (n := 4) (fun i σ H' => ∃ y, σ = [some (.ref ax), some (.ref l), y] ∧ Same H H' ∧ H' l = some (.lst (((pthP c).take (i + 1)).map vn)))
    ⟨_, rfl, same_new hl _, upd_same⟩ ?_ ?_⟩
  · rintro i σ H' hi ⟨y, rfl, e, el⟩
    have hlt := pth_lt hc i (by omega)
    refine ⟨_, rfl, .inl ⟨rfl, _, SqL.of el⟩, _, rfl, _, rfl, _, rfl, l, _, _, _, rfl, rfl, SqL.of el, ?_, ax, _, _, _, rfl, rfl, same_tup e hx, atI_vn (x := (pthP c).getD i 0) (by rw [hc.1]; exact hlt), l, _, _, rfl, rfl, el, ?_, ?_⟩
    · rw [pth_last c i hi]
      exact atI_last _ _
    · rw [List.length_map, List.length_take]
      exact szl (by omega)
    · refine ⟨_, rfl, same_write e hl, ?_⟩
      rw [upd_same, pth_take c i hi, List.map_append]
      rfl
  · rintro σ H' ⟨y, rfl, e, el⟩
    exact ⟨_, rfl, q l H' e hl el⟩
abbrev s_is_cycle : Stmt := topS 25
theorem sc_is_cycle : FnScope ["value"] ["value"] (defScope s_is_cycle) := ⟨rfl, rfl, rfl, by decide +kernel, rfl, by decide +kernel, by decide +kernel⟩
def spIsCycle (K : PySem.W.Frag) : Sp := fun vs H Q _ => ∃ (x : V) (c : P5), vs = [x] ∧ PermAt K H x c ∧ c ∈ cycles5 ∧ ∀ H', Same H H' → Q (.bl true) H'
theorem ok_is_cycle (T : Txt K w mg) (D : Df K mg "is_cycle" s_is_cycle ["value"]) (C_is_permutation : Cal P w K mg base 3 "is_permutation" (spIsPerm K)) (C_path : Cal P w K mg base 1 "path" (spPath K)) : Cal P w K mg base 4 "is_cycle" (spIsCycle K) := by
  refine D.ok sc_is_cycle (fun vs H Q E h => ?_) (fun f cdv A outer s H vs Q E hr h => ?_)
  · obtain ⟨_, _, rfl, _⟩ := h
    rfl
  obtain ⟨x, c, rfl, hx, hc, q⟩ := h
  have hp := cyc_perm c hc
  refine ⟨_, (pss_one (ps_ret (pe_and (pe_cal C_is_permutation hr (by decide) (by rfl) (pa_cons (pv 0) pa_nil)) (pe_one (pe_cmpR (op_eq5 hr.units) (pe_callB cr_sorted (by rfl) T.b_sorted (by decide +kernel) (pa_cons (pe_cal C_path hr (by decide) (by rfl) (pa_cons (pv 0) pa_nil)) pa_nil)) (pe_lst (pa_cons pe_int (pa_cons pe_int (pa_cons pe_int (pa_cons pe_int (pa_cons pe_int pa_nil)))))) (nomark _)))))), ?_⟩
  refine ⟨_, rfl, x, c, rfl, hx, hp, fun H1 s1 => ⟨_, rfl, iteT ?_⟩⟩
  refine ⟨_, rfl, x, c, rfl, hx.mono (tk_same s1), hp, fun a H2 s2 n2 ea => ?_⟩
  refine ⟨a, (pthP c).map Int.ofNat, rfl, by rw [← vp_eq]; exact SqL.of ea, by rw [List.length_map, pth_len]; decide, fun ns' l hperm hsort hl => ?_⟩
  have e5 := sorted_perm (cyc_pth c hc) hperm hsort
  refine ⟨by decide, fun l2 hl2 => ?_⟩
  have hne : l ≠ l2 := fun z => by rw [← z, upd_same] at hl2; cases hl2
  refine ⟨l, l2, rfl, rfl, SqL.of ?_, SqL.of upd_same, ?_⟩
  · rw [upd_ne hne, upd_same, e5]
    rfl
  · exact q _ fun b o hb => by
      have h0 := s2 _ _ (s1 _ _ hb)
      have h1 : b ≠ l := ne_of_none h0 hl
      have h2 : (upd H2 l (.lst (ns'.map V.int))) b = some o := by rw [upd_ne h1]; exact h0
      rw [upd_ne (ne_of_none h2 hl2)]
      exact h2
abbrev s_renamed : Stmt := topS 26
theorem sc_renamed : FnScope ["permutation", "names", "found", "point"] ["permutation", "names"] (defScope s_renamed) := ⟨rfl, rfl, rfl, by decide +kernel, rfl, by decide +kernel, by decide +kernel⟩
def spRenamed (K : PySem.W.Frag) : Sp := fun vs H Q _ => ∃ (x : V) (b : Addr) (p n : P5), vs = [x, .ref b] ∧ PermAt K H x p ∧ IsPerm p ∧ SqL K H b (n.map vn) ∧ IsPerm n ∧ ∀ v H', Same H H' → CycAt K H' v (renP p n) → Q v H'
theorem ok_renamed (T : Txt K w mg) (D : Df K mg "renamed" s_renamed ["permutation", "names"]) : Cal P w K mg base 1 "renamed" (spRenamed K) := by
  refine D.ok sc_renamed (fun vs H Q E h => ?_) (fun f cdv A outer s H vs Q E hr h => ?_)
  · obtain ⟨_, _, _, _, rfl, _⟩ := h
    rfl
  obtain ⟨x, b, p, n, rfl, ⟨ax, rfl, hx⟩, hp, hb, hn, q⟩ := h
  refine ⟨_, (pss_cons (ps_set (i := 2) sc_renamed.nd rfl (by first | exact Or.inl rfl | exact Or.inr rfl) (pe_lst (pa_cons pe_int (pa_cons pe_int (pa_cons pe_int (pa_cons pe_int (pa_cons pe_int pa_nil)))))))
(pss_cons (ps_for PassesOwn.never rfl (pi_range1 (by rfl) T.b_range (pa_cons (pe_globI rfl T.g_POINTS) pa_nil)) (pg_name (i := 3) sc_renamed.nd rfl (by first | exact Or.inl rfl | exact Or.inr rfl))
(pss_one (ps_asg (pe_ix ix_list (pv 1) (pe_ix ix_tup (pv 0) (pv 3) (fun _ _ => rfl)) (fun _ _ => rfl)) (pg_sub (pv 2) (pe_ix ix_list (pv 1) (pv 3) (fun _ _ => rfl)) set_list))))
(pss_one (ps_ret (pe_callTy call_tupleN (by rfl) T.b_tuple (by decide +kernel) (pa_cons (pv 2) pa_nil)))))), ?_⟩
  refine ⟨by decide, fun l hl => ?_⟩
  refine ⟨5, rfl, by decide, by decide, for_range (lo := 0) (n := 5) (fun i σ H' => ∃ y, σ = [some (.ref ax), some (.ref b), some (.ref l), y] ∧ Same H H' ∧ H' l = some (.lst ((setF (ap n) (fun k => ap n (ap p k)) i).map vn)))
    ⟨_, rfl, same_new hl _, upd_same⟩ ?_ ?_⟩
  · rintro i σ H' hi ⟨y, rfl, e, el⟩
    have h1 : i < p.length := by rw [hp.1]; exact hi
    have h2 : ap p i < n.length := by rw [hn.1]; exact ap_lt hp hi
    have h3 : i < n.length := by rw [hn.1]; exact hi
    have h4 : ap n i < 5 := ap_lt hn hi
    have e0 : (0 : Int) + (i : Int) = (i : Int) := Int.zero_add _
    refine ⟨_, rfl, _, rfl, _, rfl, ax, _, _, _, rfl, rfl, same_tup e hx, by rw [e0]; exact atI_vn h1, b, _, _, _, rfl, rfl, e.seq hb, atI_vn h2, _, rfl, _, rfl, _, rfl, b, _, _, _, rfl, rfl, e.seq hb, by rw [e0]; exact atI_vn h3,
      l, _, _, ap n i, rfl, rfl, el, ixv (by rw [List.length_map, setF_len]; exact h4), ?_⟩
    refine ⟨_, rfl, same_write e hl, ?_⟩
    rw [upd_same, setF_map]
  · rintro σ H' ⟨y, rfl, e, el⟩
    refine ⟨_, rfl, l, _, rfl, SqL.of el, fun m o hm ho => ?_⟩
    exact q _ _ (fun c o hc => by
      have := e c o hc
      rw [upd_ne (ne_of_none this hm)]
      exact this) ⟨m, rfl, .inl ⟨o, upd_same, ho⟩⟩
abbrev s_commutator : Stmt := topS 27
theorem sc_commutator : FnScope ["first", "second"] ["first", "second"] (defScope s_commutator) := ⟨rfl, rfl, rfl, by decide +kernel, rfl, by decide +kernel, by decide +kernel⟩
def spComm (K : PySem.W.Frag) : Sp := fun vs H Q _ => ∃ (x y : V) (a b : P5), vs = [x, y] ∧ CycAt K H x a ∧ CycAt K H y b ∧ a ∈ cycles5 ∧ b ∈ cycles5 ∧ ∀ v H', Same H H' → PermAt K H' v (comP a b) → Q v H'
theorem ok_commutator (T : Txt K w mg) (D : Df K mg "commutator" s_commutator ["first", "second"]) (C_then : Cal P w K mg base 1 "then" (spThen K)) (C_undone : Cal P w K mg base 1 "undone" (spUndone K)) : Cal P w K mg base 2 "commutator" (spComm K) := by
  refine D.ok sc_commutator (fun vs H Q E h => ?_) (fun f cdv A outer s H vs Q E hr h => ?_)
  · obtain ⟨_, _, _, _, rfl, _⟩ := h
    rfl
  obtain ⟨x, y, a, b, rfl, hx, hy, ha, hb, q⟩ := h
  have pa := cyc_perm a ha
  have pb := cyc_perm b hb
  have pa' := cyc_perm _ (cyc_und a ha)
  have pb' := cyc_perm _ (cyc_und b hb)
  refine ⟨_, (pss_one (ps_ret (pe_cal C_then hr (by decide) (by rfl) (pa_cons (pe_cal C_then hr (by decide) (by rfl) (pa_cons (pv 0) (pa_cons (pv 1) pa_nil))) (pa_cons (pe_cal C_then hr (by decide) (by rfl) (pa_cons (pe_cal C_undone hr (by decide) (by rfl) (pa_cons (pv 0) pa_nil)) (pa_cons (pe_cal C_undone hr (by decide) (by rfl) (pa_cons (pv 1) pa_nil)) pa_nil))) pa_nil))))), ?_⟩
  refine ⟨_, rfl, _, rfl, x, y, a, b, rfl, hx.p, hy.p, pa, pb, fun v1 H1 s1 e1 => ?_⟩
  refine ⟨_, rfl, x, a, rfl, hx.mono (tk_same s1), ha, fun v2 H2 s2 e2 => ?_⟩
  refine ⟨_, rfl, y, b, rfl, hy.mono (tk_same (s1.trans s2)), hb, fun v3 H3 s3 e3 => ?_⟩
  refine ⟨v2, v3, _, _, rfl, e2.p.mono (tk_same s3), e3.p, pa', pb', fun v4 H4 s4 e4 => ?_⟩
  refine ⟨v1, v4, _, _, rfl, e1.mono (tk_same ((s2.trans s3).trans s4)), e4, thn_perm pa pb, thn_perm pa' pb', fun v5 H5 s5 e5 => ?_⟩
  exact q v5 H5 ((((s1.trans s2).trans s3).trans s4).trans s5) e5
abbrev s_parts_of : Stmt := topS 28
theorem sc_parts_of : FnScope ["cycle", "here", "names", "old", "new"] ["cycle"] (defScope s_parts_of) := ⟨rfl, rfl, rfl, by decide +kernel, rfl, by decide +kernel, by decide +kernel⟩
def spParts (K : PySem.W.Frag) : Sp := fun vs H Q _ => ∃ (x : V) (c : P5), vs = [x] ∧ PermAt K H x c ∧ c ∈ cycles5 ∧ ∀ t u v H', Same H H' → SqT K H' t [u, v] → CycAt K H' u (parA c) → CycAt K H' v (parB c) → Q (.ref t) H'
theorem ok_parts_of (T : Txt K w mg) (D : Df K mg "parts_of" s_parts_of ["cycle"]) (C_path : Cal P w K mg base 1 "path" (spPath K)) (C_commutator : Cal P w K mg base 2 "commutator" (spComm K)) (C_renamed : Cal P w K mg base 1 "renamed" (spRenamed K)) : Cal P w K mg base 3 "parts_of" (spParts K) := by
  refine D.ok sc_parts_of (fun vs H Q E h => ?_) (fun f cdv A outer s H vs Q E hr h => ?_)
  · obtain ⟨_, _, rfl, _⟩ := h
    rfl
  obtain ⟨x, c, rfl, hx, hc, q⟩ := h
  have hcp := cyc_perm c hc
  have p0 := cyc_perm _ com_cyc
  refine ⟨_, (pss_cons (ps_set (i := 1) sc_parts_of.nd rfl (by first | exact Or.inl rfl | exact Or.inr rfl) (pe_cal C_path hr (by decide) (by rfl) (pa_cons (pe_cal C_commutator hr (by decide) (by rfl) (pa_cons (pe_globN rfl T.g_FIRST) (pa_cons (pe_globN rfl T.g_SECOND) pa_nil))) pa_nil)))
(pss_cons (ps_set (i := 2) sc_parts_of.nd rfl (by first | exact Or.inl rfl | exact Or.inr rfl) (pe_lst (pa_cons pe_int (pa_cons pe_int (pa_cons pe_int (pa_cons pe_int (pa_cons pe_int pa_nil)))))))
(pss_cons (ps_for PassesOwn.never rfl (pi_zip (by rfl) T.b_zip (pa_cons (pv 1) (pa_cons (pe_cal C_path hr (by decide) (by rfl) (pa_cons (pv 0) pa_nil)) pa_nil))) (pg_tup (by rfl) (pgs_cons (pg_name (i := 3) sc_parts_of.nd rfl (by first | exact Or.inl rfl | exact Or.inr rfl)) (pgs_cons (pg_name (i := 4) sc_parts_of.nd rfl (by first | exact Or.inl rfl | exact Or.inr rfl)) pgs_nil)))
(pss_one (ps_asg (pv 4) (pg_sub (pv 2) (pv 3) set_list))))
(pss_one (ps_ret (pe_tup (pa_cons (pe_cal C_renamed hr (by decide) (by rfl) (pa_cons (pe_globN rfl T.g_FIRST) (pa_cons (pv 2) pa_nil))) (pa_cons (pe_cal C_renamed hr (by decide) (by rfl) (pa_cons (pe_globN rfl T.g_SECOND) (pa_cons (pv 2) pa_nil))) pa_nil)))))))), ?_⟩
  refine fun a1 f1 a2 f2 => ?_
  refine ⟨_, _, firstP, secondP, rfl, ⟨a1, rfl, f1 H⟩, ⟨a2, rfl, f2 H⟩, first_cyc, second_cyc, fun v1 H1 s1 e1 => ?_⟩
  refine ⟨v1, _, rfl, e1, p0, fun la H2 s2 n2 e2 => ?_⟩
  refine ⟨by decide, fun l hl => ?_⟩
  have s3 : Same H2 (upd H2 l (.lst [.int 0, .int 0, .int 0, .int 0, .int 0])) := same_new hl _
  have s13 := (s1.trans s2).trans s3
  refine ⟨_, rfl, _, rfl, x, c, rfl, hx.mono (tk_same s13), hcp, fun lb H4 s4 n4 e4 => ?_⟩
  have el4 : H4 l = some (.lst [.int 0, .int 0, .int 0, .int 0, .int 0]) := s4 _ _ upd_same
  have ea4 : H4 la = some (.lst ((pthP (comP firstP secondP)).map vn)) := s4 _ _ (s3 _ _ e2)
  have hla : la ≠ l := ne_of_none e2 hl
  have hlb : lb ≠ l := fun z => by rw [z, upd_same] at n4; cases n4
  refine ⟨la, lb, _, _, rfl, SqL.of ea4, SqL.of e4, RZ.for_zipL (xs := (pthP (comP firstP secondP)).map vn) (ys := (pthP c).map vn) rfl
    (fun i σ H' => ∃ y z, σ = [some x, some (.ref la), some (.ref l), y, z] ∧ TK H4 H' ∧ (∀ b o, H4 b = some o → b ≠ l → H' b = some o) ∧ H' l = some (.lst ((setF (fun k => (pthP (comP firstP secondP)).getD k 0) (fun k => (pthP c).getD k 0) i).map vn)))
    ⟨_, _, rfl, TK.refl _, fun b o h _ => h, el4⟩ (fun i σ H' ⟨_, _, _, _, k, _⟩ => ⟨SqL.of (k _ _ ea4 hla), SqL.of (k _ _ e4 hlb)⟩) ?_ ?_⟩
  · rintro i a b T σ H' ha hb ⟨y, z, rfl, tk, k, el⟩ hT
    have hi : i < 5 := by
      have := (List.getElem?_eq_some_iff.mp hb).1
      rwa [List.length_map, pth_len] at this
    have ea : a = vn ((pthP (comP firstP secondP)).getD i 0) := by
      rw [List.getElem?_map] at ha
      have h5 : i = 0 ∨ i = 1 ∨ i = 2 ∨ i = 3 ∨ i = 4 := by omega
      rcases h5 with rfl | rfl | rfl | rfl | rfl <;> exact (Option.some.inj ha).symm
    have eb : b = vn ((pthP c).getD i 0) := by
      rw [List.getElem?_map] at hb
      have h5 : i = 0 ∨ i = 1 ∨ i = 2 ∨ i = 3 ∨ i = 4 := by omega
      rcases h5 with rfl | rfl | rfl | rfl | rfl <;> exact (Option.some.inj hb).symm
    subst ea eb
    have hlT : l ≠ T := ne_of_none el hT
    have elT : (upd H' T (.tup [vn ((pthP (comP firstP secondP)).getD i 0), vn ((pthP c).getD i 0)])) l = some (.lst ((setF (fun k => (pthP (comP firstP secondP)).getD k 0) (fun k => (pthP c).getD k 0) i).map vn)) := by
      rw [upd_ne hlT]
      exact el
    refine ⟨T, _, rfl, .inl (.inl upd_same), rfl, _, _, rfl, _, _, rfl, rfl, ?_⟩
    refine ⟨_, rfl, _, rfl, _, rfl, l, _, _, (pthP (comP firstP secondP)).getD i 0, rfl, rfl, elT, ixv (by rw [List.length_map, setF_len]; exact pth_lt p0 i hi), ?_⟩
    refine ⟨_, _, rfl, (tk.trans (tk_new hT)).trans (tk_lst elT), fun d o hd hne => ?_, ?_⟩
    · rw [upd_ne hne, upd_ne (ne_of_none (k d o hd hne) hT)]
      exact k d o hd hne
    · rw [upd_same, setF_map]
  · rintro σ H' ⟨y, z, rfl, tk, k, el⟩
    have el' : H' l = some (.lst ((namP c).map vn)) := by
      rw [nam_eq]
      exact el
    have sH : Same H H' := fun b o hb => by
      have h0 := s4 _ _ (s13 _ _ hb)
      have hl0 : H l = none := (s1.trans s2).free hl
      exact k b o h0 (ne_of_none hb hl0)
    have hnp := cyc_nam c hc
    refine fun a1 f1 => ?_
    refine ⟨_, rfl, _, l, firstP, namP c, rfl, ⟨a1, rfl, (f1 H').t⟩, cyc_perm _ first_cyc, SqL.of el', hnp, fun u H5 s5 e5 => ?_⟩
    refine fun a2 f2 => ?_
    refine ⟨_, rfl, _, l, secondP, namP c, rfl, ⟨a2, rfl, (f2 H5).t⟩, cyc_perm _ second_cyc, SqL.of (s5 _ _ el'), hnp, fun v H6 s6 e6 => ?_⟩
    refine ⟨by show 2 ≤ sizeLine; decide, fun t ht => ?_⟩
    have s7 := same_new ht (.tup [u, v])
    exact q t u v _ (((sH.trans s5).trans s6).trans s7) (SqT.of upd_same) (e5.mono (tk_same (s6.trans s7))) (e6.mono (tk_same s7))
end
end K24
set_option Elab.async false
set_option linter.all false
set_option maxRecDepth 100000
set_option maxHeartbeats 4000000
namespace K24
open PySem PySem.Spec PyProof.Rows L2
/-! ### lists of things in the heap -/
structure All2 {α : Type} (R : V → α → Prop) (xs : List V) (ys : List α) : Prop where
  len : xs.length = ys.length
  at_ : ∀ (i : Nat) (x : V) (y : α), xs[i]? = some x → ys[i]? = some y → R x y
section
variable {α : Type} {R S : V → α → Prop} {xs zs : List V} {ys ws : List α}
theorem All2.nil : All2 R [] ([] : List α) := ⟨rfl, fun i x y h => by simp at h⟩
theorem All2.mono (h : All2 R xs ys) (k : ∀ x y, R x y → S x y) : All2 S xs ys := ⟨h.len, fun i x y a b => k _ _ (h.at_ i x y a b)⟩
theorem All2.get (h : All2 R xs ys) {i : Nat} {y : α} (e : ys[i]? = some y) : ∃ x, xs[i]? = some x ∧ R x y := by
  have hl := (List.getElem?_eq_some_iff.mp e).1
  have hl' : i < xs.length := by rw [h.len]; exact hl
  exact ⟨xs[i], List.getElem?_eq_getElem hl', h.at_ i _ _ (List.getElem?_eq_getElem hl') e⟩
theorem All2.getX (h : All2 R xs ys) {i : Nat} {x : V} (e : xs[i]? = some x) : ∃ y, ys[i]? = some y ∧ R x y := by
  have hl := (List.getElem?_eq_some_iff.mp e).1
  have hl' : i < ys.length := by rw [← h.len]; exact hl
  exact ⟨ys[i], List.getElem?_eq_getElem hl', h.at_ i _ _ e (List.getElem?_eq_getElem hl')⟩
theorem All2.app (h : All2 R xs ys) (k : All2 R zs ws) : All2 R (xs ++ zs) (ys ++ ws) := by
  refine ⟨by rw [List.length_append, List.length_append, h.len, k.len], fun i x y a b => ?_⟩
  by_cases hi : i < xs.length
  · rw [List.getElem?_append_left hi] at a
    rw [List.getElem?_append_left (by rw [← h.len]; exact hi)] at b
    exact h.at_ i x y a b
  · rw [List.getElem?_append_right (by omega)] at a
    rw [List.getElem?_append_right (by have := h.len; omega)] at b
    rw [h.len] at a
    exact k.at_ _ x y a b
theorem All2.one {x : V} {y : α} (h : R x y) : All2 R [x] [y] := ⟨rfl, fun i a b e f => by
  cases i with
  | zero =>
    have e1 : x = a := Option.some.inj e
    have e2 : y = b := Option.some.inj f
    subst e1 e2
    exact h
  | succ i => simp at e⟩
theorem All2.rev (h : All2 R xs ys) : All2 R xs.reverse ys.reverse := by
  refine ⟨by rw [List.length_reverse, List.length_reverse, h.len], fun i x y a b => ?_⟩
  have ha := (List.getElem?_eq_some_iff.mp a).1
  rw [List.length_reverse] at ha
  rw [List.getElem?_reverse ha] at a
  rw [List.getElem?_reverse (by rw [← h.len]; exact ha)] at b
  rw [h.len] at a
  exact h.at_ _ x y a b
theorem All2.ends {x : V} {y : α} (h : All2 R (xs ++ [x]) (ys ++ [y])) : All2 R xs ys ∧ R x y := by
  have hl : xs.length = ys.length := by
    have := h.len
    rw [List.length_append, List.length_append, List.length_singleton, List.length_singleton] at this
    omega
  refine ⟨⟨hl, fun i a b e f => h.at_ i a b ?_ ?_⟩, h.at_ xs.length x y ?_ ?_⟩
  · rw [List.getElem?_append_left (List.getElem?_eq_some_iff.mp e).1]; exact e
  · rw [List.getElem?_append_left (List.getElem?_eq_some_iff.mp f).1]; exact f
  · rw [List.getElem?_append_right (Nat.le_refl _), Nat.sub_self]; rfl
  · rw [hl, List.getElem?_append_right (Nat.le_refl _), Nat.sub_self]; rfl
end
/-! ### tasks, triples, nodes, sources in the heap -/
structure TaskAt (K : PySem.W.Frag) (H : Hp) (v : V) (t : Tk) : Prop where
  ex : ∃ a c b h, v = .ref a ∧ SqT K H a [vn t.n, c, b, h] ∧ CycAt K H c t.c ∧ PermAt K H b t.b ∧ PermAt K H h t.h
theorem TaskAt.mono {K : PySem.W.Frag} {H H' : Hp} {v : V} {t : Tk} (e : TK H H') (h : TaskAt K H v t) : TaskAt K H' v t := by
  obtain ⟨a, c, b, g, e1, h1, h2, h3, h4⟩ := h.ex
  exact ⟨a, c, b, g, e1, e.t h1, h2.mono e, h3.mono e, h4.mono e⟩
structure TripAt (K : PySem.W.Frag) (H : Hp) (v : V) (t : Tp) : Prop where
  ex : ∃ a z o, v = .ref a ∧ SqT K H a [vn t.k, z, o] ∧ PermAt K H z t.z ∧ PermAt K H o t.o
theorem TripAt.mono {K : PySem.W.Frag} {H H' : Hp} {v : V} {t : Tp} (e : TK H H') (h : TripAt K H v t) : TripAt K H' v t := by
  obtain ⟨a, z, o, e1, h1, h2, h3⟩ := h.ex
  exact ⟨a, z, o, e1, e.t h1, h2.mono e, h3.mono e⟩
def ndV : Nd → List V
  | .inp k => [.str "input", vn k]
  | .no i => [.str "not", vn i]
  | .an i j => [.str "and", vn i, vn j]
  | .orr i j => [.str "or", vn i, vn j]
structure NdAt (K : PySem.W.Frag) (H : Hp) (v : V) (nd : Nd) : Prop where
  ex : ∃ a, v = .ref a ∧ SqT K H a (ndV nd)
theorem NdAt.mono {K : PySem.W.Frag} {H H' : Hp} {v : V} {nd : Nd} (e : TK H H') (h : NdAt K H v nd) : NdAt K H' v nd := by
  obtain ⟨a, e1, h1⟩ := h.ex
  exact ⟨a, e1, e.t h1⟩
structure SrcAt (K : PySem.W.Frag) (H : Hp) (a : Addr) (src : List Nd) : Prop where
  ex : ∃ vs, SqT K H a vs ∧ All2 (NdAt K H) vs src
theorem SrcAt.mono {K : PySem.W.Frag} {H H' : Hp} {a : Addr} {src : List Nd} (e : TK H H') (h : SrcAt K H a src) : SrcAt K H' a src := by
  obtain ⟨vs, h1, h2⟩ := h.ex
  exact ⟨vs, e.t h1, h2.mono fun _ _ q => q.mono e⟩
theorem sq_cast {K : PySem.W.Frag} {H : Hp} {a : Addr} {xs ys : List V} (h : SqT K H a xs) (e : xs = ys) : SqT K H a ys := e ▸ h
structure TkOk (t : Tk) : Prop where
  c : t.c ∈ cycles5
  b : IsPerm t.b
  h : IsPerm t.h
theorem s_ne1 : decide (V.str ("and" : Str) = V.str ("not" : Str)) = false := by decide +kernel
theorem s_ne2 : decide (V.str ("or" : Str) = V.str ("not" : Str)) = false := by decide +kernel
theorem s_ne3 : decide (V.str ("or" : Str) = V.str ("and" : Str)) = false := by decide +kernel
theorem s_ne4 : decide (V.str ("not" : Str) = V.str ("input" : Str)) = false := by decide +kernel
theorem s_ne5 : decide (V.str ("and" : Str) = V.str ("input" : Str)) = false := by decide +kernel
theorem s_ne6 : decide (V.str ("or" : Str) = V.str ("input" : Str)) = false := by decide +kernel
theorem s_eq (x : Str) : decide (V.str x = V.str x) = true := decide_eq_true rfl

section
variable {P : Program} {w : World} {K : PySem.W.Frag} {mg : Str → Option Value} {base : Heap}
abbrev s_leaf_triple : Stmt := topS 29
theorem sc_leaf_triple : FnScope ["index", "task", "zero", "one", "_", "cycle", "before", "behind"] ["index", "task"] (defScope s_leaf_triple) := ⟨rfl, rfl, rfl, by decide +kernel, rfl, by decide +kernel, by decide +kernel⟩
def spLeaf (K : PySem.W.Frag) : Sp := fun vs H Q _ => ∃ (k : Nat) (x : V) (t : Tk), vs = [vn k, x] ∧ TaskAt K H x t ∧ TkOk t ∧ ∀ v H', Same H H' → TripAt K H' v (leafT k t) → Q v H'
theorem ok_leaf_triple (T : Txt K w mg) (D : Df K mg "leaf_triple" s_leaf_triple ["index", "task"]) (C_then : Cal P w K mg base 1 "then" (spThen K)) : Cal P w K mg base 2 "leaf_triple" (spLeaf K) := by
  refine D.ok sc_leaf_triple (fun vs H Q E h => ?_) (fun f cdv A outer s H vs Q E hr h => ?_)
  · obtain ⟨_, _, _, rfl, _⟩ := h
    rfl
  obtain ⟨k, x, t, rfl, ⟨a, c, b, g, rfl, h1, h2, h3, h4⟩, ok, q⟩ := h
  have hc := cyc_perm _ ok.c
  refine ⟨_, (pss_cons (ps_asg (pv 1) (pg_tup (by rfl) (pgs_cons (pg_name (i := 4) sc_leaf_triple.nd rfl (by first | exact Or.inl rfl | exact Or.inr rfl)) (pgs_cons (pg_name (i := 5) sc_leaf_triple.nd rfl (by first | exact Or.inl rfl | exact Or.inr rfl)) (pgs_cons (pg_name (i := 6) sc_leaf_triple.nd rfl (by first | exact Or.inl rfl | exact Or.inr rfl)) (pgs_cons (pg_name (i := 7) sc_leaf_triple.nd rfl (by first | exact Or.inl rfl | exact Or.inr rfl)) pgs_nil))))))
(pss_cons (ps_set (i := 2) sc_leaf_triple.nd rfl (by first | exact Or.inl rfl | exact Or.inr rfl) (pe_cal C_then hr (by decide) (by rfl) (pa_cons (pv 6) (pa_cons (pv 7) pa_nil))))
(pss_cons (ps_set (i := 3) sc_leaf_triple.nd rfl (by first | exact Or.inl rfl | exact Or.inr rfl) (pe_cal C_then hr (by decide) (by rfl) (pa_cons (pe_cal C_then hr (by decide) (by rfl) (pa_cons (pv 6) (pa_cons (pv 5) pa_nil))) (pa_cons (pv 7) pa_nil))))
(pss_one (ps_ret (pe_tup (pa_cons (pv 0) (pa_cons (pv 2) (pa_cons (pv 3) pa_nil))))))))), ?_⟩
  refine ⟨_, rfl, a, _, rfl, h1, rfl, _, _, rfl, _, _, rfl, _, _, rfl, _, _, rfl, rfl, ?_⟩
  refine ⟨_, rfl, _, rfl, b, g, t.b, t.h, rfl, h3, h4, ok.b, ok.h, fun v1 H1 s1 e1 => ?_⟩
  refine ⟨_, rfl, _, rfl, b, c, t.b, t.c, rfl, h3.mono (tk_same s1), h2.p.mono (tk_same s1), ok.b, hc, fun v2 H2 s2 e2 => ?_⟩
  refine ⟨_, rfl, v2, g, _, t.h, rfl, e2, h4.mono (tk_same (s1.trans s2)), thn_perm ok.b hc, ok.h, fun v3 H3 s3 e3 => ?_⟩
  refine ⟨_, rfl, _, rfl, _, rfl, by show 3 ≤ sizeLine; decide, fun p hp => ?_⟩
  have s4 := same_new hp (.tup [vn k, v1, v3])
  exact q _ _ (((s1.trans s2).trans s3).trans s4) ⟨p, v1, v3, rfl, SqT.of upd_same, e1.mono (tk_same ((s2.trans s3).trans s4)), e3.mono (tk_same s4)⟩
abbrev s_and_tasks : Stmt := topS 30
theorem sc_and_tasks : FnScope ["first", "second", "negated", "task", "tasks", "_", "cycle", "before", "behind", "one", "two", "node", "part", "head", "tail"] ["first", "second", "negated", "task"] (defScope s_and_tasks) := ⟨rfl, rfl, rfl, by decide +kernel, rfl, by decide +kernel, by decide +kernel⟩
def spAnd (K : PySem.W.Frag) : Sp := fun vs H Q _ => ∃ (i j : Nat) (neg : Bool) (x : V) (t : Tk), vs = [vn i, vn j, .bl neg, x] ∧ TaskAt K H x t ∧ TkOk t ∧
  ∀ l us H', Same H H' → H l = none → H' l = some (.lst us) → All2 (TaskAt K H') us (andT i j neg t) → Q (.ref l) H'
theorem ok_and_tasks (T : Txt K w mg) (D : Df K mg "and_tasks" s_and_tasks ["first", "second", "negated", "task"]) (C_then : Cal P w K mg base 1 "then" (spThen K)) (C_undone : Cal P w K mg base 1 "undone" (spUndone K)) (C_parts_of : Cal P w K mg base 3 "parts_of" (spParts K)) :
    Cal P w K mg base 4 "and_tasks" (spAnd K) := by
  refine D.ok sc_and_tasks (fun vs H Q E h => ?_) (fun f cdv A outer s H vs Q E hr h => ?_)
  · obtain ⟨_, _, _, _, _, rfl, _⟩ := h
    rfl
  obtain ⟨i, j, neg, x, t, rfl, ⟨a, c, b, g, rfl, h1, h2, h3, h4⟩, ok, q⟩ := h
  have hc := cyc_perm _ ok.c
  have hA := cyc_parA _ ok.c
  have hB := cyc_parB _ ok.c
  have hA' := cyc_und _ hA
  have hB' := cyc_und _ hB
  refine ⟨_, (pss_cons (ps_asg (pv 3) (pg_tup (by rfl) (pgs_cons (pg_name (i := 5) sc_and_tasks.nd rfl (by first | exact Or.inl rfl | exact Or.inr rfl)) (pgs_cons (pg_name (i := 6) sc_and_tasks.nd rfl (by first | exact Or.inl rfl | exact Or.inr rfl)) (pgs_cons (pg_name (i := 7) sc_and_tasks.nd rfl (by first | exact Or.inl rfl | exact Or.inr rfl)) (pgs_cons (pg_name (i := 8) sc_and_tasks.nd rfl (by first | exact Or.inl rfl | exact Or.inr rfl)) pgs_nil))))))
(pss_cons (ps_asg (pe_cal C_parts_of hr (by decide) (by rfl) (pa_cons (pv 6) pa_nil)) (pg_tup (by rfl) (pgs_cons (pg_name (i := 9) sc_and_tasks.nd rfl (by first | exact Or.inl rfl | exact Or.inr rfl)) (pgs_cons (pg_name (i := 10) sc_and_tasks.nd rfl (by first | exact Or.inl rfl | exact Or.inr rfl)) pgs_nil))))
(pss_cons (ps_set (i := 4) sc_and_tasks.nd rfl (by first | exact Or.inl rfl | exact Or.inr rfl) (pe_lst pa_nil))
(pss_cons (ps_for PassesOwn.never rfl (pi_tup (pe_tup (pa_cons (pe_tup (pa_cons (pv 0) (pa_cons (pv 9) pa_nil))) (pa_cons (pe_tup (pa_cons (pv 1) (pa_cons (pv 10) pa_nil))) (pa_cons (pe_tup (pa_cons (pv 0) (pa_cons (pe_cal C_undone hr (by decide) (by rfl) (pa_cons (pv 9) pa_nil)) pa_nil))) (pa_cons (pe_tup (pa_cons (pv 1) (pa_cons (pe_cal C_undone hr (by decide) (by rfl) (pa_cons (pv 10) pa_nil)) pa_nil))) pa_nil)))))) (pg_tup (by rfl) (pgs_cons (pg_name (i := 11) sc_and_tasks.nd rfl (by first | exact Or.inl rfl | exact Or.inr rfl)) (pgs_cons (pg_name (i := 12) sc_and_tasks.nd rfl (by first | exact Or.inl rfl | exact Or.inr rfl)) pgs_nil)))
(pss_one (ps_if (pt_val (pv 2))
(pss_one (ps_expr (pe_bm PySem.F.plainAttrs_list PySem.F.slot_list_append PySem.F.type_list_append mt_append (pv 4) (pa_cons (pe_tup (pa_cons (pv 11) (pa_cons (pe_cal C_undone hr (by decide) (by rfl) (pa_cons (pv 12) pa_nil)) (pa_cons (pe_globT rfl T.g_STAY) (pa_cons (pv 12) pa_nil))))) pa_nil))))
(pss_one (ps_expr (pe_bm PySem.F.plainAttrs_list PySem.F.slot_list_append PySem.F.type_list_append mt_append (pv 4) (pa_cons (pe_tup (pa_cons (pv 11) (pa_cons (pv 12) (pa_cons (pe_globT rfl T.g_STAY) (pa_cons (pe_globT rfl T.g_STAY) pa_nil))))) pa_nil)))))))
(pss_cons (ps_par (i := 13) (j := 14) (by rfl) sc_and_tasks.nd rfl rfl (by decide) rfl rfl (pa_cons (pe_ix ix_list (pv 4) pe_int (fun _ _ => rfl)) (pa_cons (pe_ix ix_list (pv 4) pe_int (fun _ _ => rfl)) pa_nil)) (by rfl))
(pss_cons (ps_asg (pe_tup (pa_cons (pe_ix ix_tup (pv 13) pe_int (fun _ _ => rfl)) (pa_cons (pe_ix ix_tup (pv 13) pe_int (fun _ _ => rfl)) (pa_cons (pe_cal C_then hr (by decide) (by rfl) (pa_cons (pv 7) (pa_cons (pe_ix ix_tup (pv 13) pe_int (fun _ _ => rfl)) pa_nil))) (pa_cons (pe_ix ix_tup (pv 13) pe_int (fun _ _ => rfl)) pa_nil))))) (pg_sub (pv 4) pe_int set_list))
(pss_cons (ps_asg (pe_tup (pa_cons (pe_ix ix_tup (pv 14) pe_int (fun _ _ => rfl)) (pa_cons (pe_ix ix_tup (pv 14) pe_int (fun _ _ => rfl)) (pa_cons (pe_ix ix_tup (pv 14) pe_int (fun _ _ => rfl)) (pa_cons (pe_cal C_then hr (by decide) (by rfl) (pa_cons (pe_ix ix_tup (pv 14) pe_int (fun _ _ => rfl)) (pa_cons (pv 8) pa_nil))) pa_nil))))) (pg_sub (pv 4) pe_int set_list))
(pss_one (ps_ret (pv 4)))))))))), ?_⟩
  refine ⟨_, rfl, a, _, rfl, h1, rfl, _, _, rfl, _, _, rfl, _, _, rfl, _, _, rfl, rfl, ?_⟩
  refine ⟨_, rfl, c, t.c, rfl, h2.p, ok.c, fun tp u v H1 s1 et eu ev => ?_⟩
  refine ⟨tp, _, rfl, et, rfl, _, _, rfl, _, _, rfl, rfl, ?_⟩
  refine ⟨Nat.zero_le _, fun l hl => ?_⟩
  have s2 := same_new hl (.lst [])
  refine ⟨_, rfl, _, rfl, by show 2 ≤ sizeLine; decide, fun p1 hp1 => ?_⟩
  have s3 := same_new hp1 (.tup [vn i, u])
  refine ⟨_, rfl, _, rfl, by show 2 ≤ sizeLine; decide, fun p2 hp2 => ?_⟩
  have s4 := same_new hp2 (.tup [vn j, v])
  have s14 := (s2.trans s3).trans s4
  refine ⟨_, rfl, _, rfl, u, _, rfl, eu.mono (tk_same s14), hA, fun u' H5 s5 eu' => ?_⟩
  refine ⟨by show 2 ≤ sizeLine; decide, fun p3 hp3 => ?_⟩
  have s6 := same_new hp3 (.tup [vn i, u'])
  have s16 := (s14.trans s5).trans s6
  refine ⟨_, rfl, _, rfl, v, _, rfl, ev.mono (tk_same s16), hB, fun v' H7 s7 ev' => ?_⟩
  refine ⟨by show 2 ≤ sizeLine; decide, fun p4 hp4 => ?_⟩
  have s8 := same_new hp4 (.tup [vn j, v'])
  refine ⟨by show 4 ≤ sizeLine; decide, fun pt hpt => ?_⟩
  have s9 := same_new hpt (.tup [.ref p1, .ref p2, .ref p3, .ref p4])
  have s79 := (s7.trans s8).trans s9
  generalize hHs : upd (upd H7 p4 (.tup [vn j, v'])) pt (.tup [.ref p1, .ref p2, .ref p3, .ref p4]) = Hs at s9 s79
  have ept : Hs pt = some (.tup [.ref p1, .ref p2, .ref p3, .ref p4]) := by rw [← hHs]; exact upd_same
  have sAll : Same H Hs := ((s1.trans s16).trans s79)
  have el : Hs l = some (.lst []) := s79 _ _ (s6 _ _ (s5 _ _ (s4 _ _ (s3 _ _ upd_same))))
  have f1 : SqT K Hs p1 [vn i, u] := same_tup (((s4.trans s5).trans s6).trans s79) (SqT.of upd_same)
  have f2 : SqT K Hs p2 [vn j, v] := same_tup ((s5.trans s6).trans s79) (SqT.of upd_same)
  have f3 : SqT K Hs p3 [vn i, u'] := same_tup s79 (SqT.of upd_same)
  have f4 : SqT K Hs p4 [vn j, v'] := same_tup s9 (SqT.of upd_same)
  have k1 : CycAt K Hs u (parA t.c) := eu.mono (tk_same (s16.trans s79))
  have k2 : CycAt K Hs v (parB t.c) := ev.mono (tk_same (s16.trans s79))
  have k3 : CycAt K Hs u' (undP (parA t.c)) := eu'.mono (tk_same (s6.trans s79))
  have k4 : CycAt K Hs v' (undP (parB t.c)) := ev'.mono (tk_same (s8.trans s9))
  have kx : ∀ (k : Nat) (y : V), ([.ref p1, .ref p2, .ref p3, .ref p4] : List V)[k]? = some y → ∃ (p : Addr) (n : Nat) (z : V) (r : P5), y = .ref p ∧ SqT K Hs p [vn n, z] ∧ CycAt K Hs z r ∧ r ∈ cycles5 ∧
      ([taskOf neg i (parA t.c), taskOf neg j (parB t.c), taskOf neg i (undP (parA t.c)), taskOf neg j (undP (parB t.c))] : List Tk)[k]? = some (taskOf neg n r) := by
    intro k y hk
    match k, hk with
    | 0, hk => exact ⟨p1, i, u, _, (Option.some.inj hk).symm, f1, k1, hA, rfl⟩
    | 1, hk => exact ⟨p2, j, v, _, (Option.some.inj hk).symm, f2, k2, hB, rfl⟩
    | 2, hk => exact ⟨p3, i, u', _, (Option.some.inj hk).symm, f3, k3, hA', rfl⟩
    | 3, hk => exact ⟨p4, j, v', _, (Option.some.inj hk).symm, f4, k4, hB', rfl⟩
    | k + 4, hk => simp at hk
  have hlH : H l = none := s1.free hl
  refine ⟨pt, rfl, ⟨_, SqT.of ept⟩, for_tup (K := K) (a := pt) (xs := [.ref p1, .ref p2, .ref p3, .ref p4]) (fun k σ H' => ∃ y z us, σ = [some (vn i), some (vn j), some (.bl neg), some (.ref a), some (.ref l), some (vn t.n), some c, some b, some g, some u, some v, y, z, none, none] ∧
      TK Hs H' ∧ (∀ d o, Hs d = some o → d ≠ l → H' d = some o) ∧ H' l = some (.lst us) ∧ All2 (TaskAt K H') us (([taskOf neg i (parA t.c), taskOf neg j (parB t.c), taskOf neg i (undP (parA t.c)), taskOf neg j (undP (parB t.c))] : List Tk).take k))
    ⟨_, _, [], rfl, TK.refl _, fun _ _ h _ => h, el, All2.nil⟩ (fun k σ H' _ ⟨_, _, _, _, tk, _⟩ => tk.t (SqT.of ept)) ?_ ?_⟩
  · rintro k y σ H' hk ⟨y1, z1, us, rfl, tk, kp, el', hus⟩
    obtain ⟨p, n, z, r, rfl, hp, hz, hr5, hf⟩ := kx k y hk
    have hk4 : k < 4 := by
      have := (List.getElem?_eq_some_iff.mp hk).1
      exact this
    have hul : us.length ≤ 4 := by
      rw [hus.len, List.length_take]
      exact Nat.le_trans (Nat.min_le_right _ _) (Nat.le_refl _)
    refine ⟨p, _, rfl, tk.t hp, rfl, _, _, rfl, _, _, rfl, rfl, ?_⟩
    refine ⟨_, rfl, neg, rfl, ?_⟩
    have hzt := hz.mono tk
    cases neg with
    | true =>
      refine iteT ?_
      refine ⟨_, rfl, .inl ⟨rfl, _, SqL.of el'⟩, _, rfl, _, rfl, z, r, rfl, hzt, hr5, fun z' H2 e2 hz' => ?_⟩
      refine fun st fst => ⟨_, rfl, by show 4 ≤ sizeLine; decide, fun m hm => ?_⟩
      have s10 := same_new hm (.tup [vn n, z', .ref st, z])
      have el2 : (upd H2 m (.tup [vn n, z', .ref st, z])) l = some (.lst us) := s10 _ _ (e2 _ _ el')
      refine ⟨l, us, .ref m, rfl, rfl, el2, szl (by omega), ?_⟩
      have tk2 : TK H' (upd (upd H2 m (.tup [vn n, z', .ref st, z])) l (.lst (us ++ [.ref m]))) := (tk_same (e2.trans s10)).trans (tk_lst el2)
      refine ⟨_, _, _, rfl, tk.trans tk2, fun d o hd hne => ?_, upd_same, ?_⟩
      · rw [upd_ne hne]
        exact s10 _ _ (e2 _ _ (kp d o hd hne))
      · rw [List.take_add_one, hf]
        refine (hus.mono fun _ _ h => h.mono tk2).app (All2.one ?_)
        exact ⟨m, z', .ref st, z, rfl, (tk_lst el2).t (SqT.of upd_same), hz'.mono ((tk_same s10).trans (tk_lst el2)), ⟨st, rfl, fst _⟩, hz.p.mono (tk.trans tk2)⟩
    | false =>
      refine iteF ?_
      refine ⟨_, rfl, .inl ⟨rfl, _, SqL.of el'⟩, _, rfl, _, rfl, fun st fst => fun st2 fst2 => ⟨by show 4 ≤ sizeLine; decide, fun m hm => ?_⟩⟩
      have s10 := same_new hm (.tup [vn n, z, .ref st, .ref st2])
      have el2 : (upd H' m (.tup [vn n, z, .ref st, .ref st2])) l = some (.lst us) := s10 _ _ el'
      refine ⟨l, us, .ref m, rfl, rfl, el2, szl (by omega), ?_⟩
      have tk2 : TK H' (upd (upd H' m (.tup [vn n, z, .ref st, .ref st2])) l (.lst (us ++ [.ref m]))) := (tk_same s10).trans (tk_lst el2)
      refine ⟨_, _, _, rfl, tk.trans tk2, fun d o hd hne => ?_, upd_same, ?_⟩
      · rw [upd_ne hne]
        exact s10 _ _ (kp d o hd hne)
      · rw [List.take_add_one, hf]
        refine (hus.mono fun _ _ h => h.mono tk2).app (All2.one ?_)
        exact ⟨m, z, .ref st, .ref st2, rfl, (tk_lst el2).t (SqT.of upd_same), hz.mono (tk.trans tk2), ⟨st, rfl, fst _⟩, ⟨st2, rfl, fst2 _⟩⟩
  · rintro σ H' ⟨y1, z1, us, rfl, tk, kp, el', hus⟩
    have hus4 : All2 (TaskAt K H') us [taskOf neg i (parA t.c), taskOf neg j (parB t.c), taskOf neg i (undP (parA t.c)), taskOf neg j (undP (parB t.c))] := hus
    obtain ⟨t0, t1, t2, t3, rfl⟩ : ∃ t0 t1 t2 t3, us = [t0, t1, t2, t3] := by
      have hl4 := hus4.len
      match us, hl4 with
      | [t0, t1, t2, t3], _ => exact ⟨t0, t1, t2, t3, rfl⟩
    have r0 := hus4.at_ 0 _ _ rfl rfl
    have r1 := hus4.at_ 1 _ _ rfl rfl
    have r2 := hus4.at_ 2 _ _ rfl rfl
    have r3 := hus4.at_ 3 _ _ rfl rfl
    obtain ⟨a0, c0, b0, g0, rfl, i1, i2, i3, i4⟩ := r0.ex
    obtain ⟨a3, c3, b3, g3, rfl, j1, j2, j3, j4⟩ := r3.ex
    have o0 := taskOf_ok (src := List.replicate (i + 1) (.inp 0)) (neg := neg) (n := i) (by rw [List.length_replicate]; omega) hA
    have o3 := taskOf_ok (src := List.replicate (j + 1) (.inp 0)) (neg := neg) (n := j) (by rw [List.length_replicate]; omega) hB'
    have tkH : TK H H' := (tk_same sAll).trans tk
    refine ⟨_, rfl, l, _, _, _, rfl, rfl, SqL.of el', rfl, _, rfl, l, _, _, _, rfl, rfl, SqL.of el', rfl, _, _, rfl, ?_⟩
    refine ⟨_, rfl, a0, _, _, _, rfl, rfl, i1, rfl, _, rfl, a0, _, _, _, rfl, rfl, i1, rfl, _, rfl, _, rfl, a0, _, _, _, rfl, rfl, i1, rfl, b, b0, t.b, _, rfl, h3.mono tkH, i3, ok.b, o0.b, fun v5 H5 s5 e5 => ?_⟩
    have t5 := tk_same s5
    refine ⟨_, rfl, a0, _, _, _, rfl, rfl, t5.t i1, rfl, by show 4 ≤ sizeLine; decide, fun m0 hm0 => ?_⟩
    have s6 := same_new hm0 (.tup [vn (taskOf neg i (parA t.c)).n, c0, v5, g0])
    have el6 : (upd H5 m0 (.tup [vn (taskOf neg i (parA t.c)).n, c0, v5, g0])) l = some (.lst [.ref a0, t1, t2, .ref a3]) := s6 _ _ (s5 _ _ el')
    refine ⟨_, rfl, l, _, _, 0, rfl, rfl, el6, rfl, ?_⟩
    have t6 := tk_same s6
    have t7 := tk_lst (ys := [.ref m0, t1, t2, .ref a3]) el6
    have t57 := (t5.trans t6).trans t7
    refine ⟨_, rfl, a3, _, _, _, rfl, rfl, t57.t j1, rfl, _, rfl, a3, _, _, _, rfl, rfl, t57.t j1, rfl, _, rfl, a3, _, _, _, rfl, rfl, t57.t j1, rfl, _, rfl, a3, _, _, _, rfl, rfl, t57.t j1, rfl, _, rfl, g3, g, _, t.h, rfl, j4.mono t57, h4.mono (tkH.trans t57), o3.h, ok.h, fun v8 H8 s8 e8 => ?_⟩
    refine ⟨by show 4 ≤ sizeLine; decide, fun m3 hm3 => ?_⟩
    have s9 := same_new hm3 (.tup [vn (taskOf neg j (undP (parB t.c))).n, c3, b3, v8])
    have el9 : (upd H8 m3 (.tup [vn (taskOf neg j (undP (parB t.c))).n, c3, b3, v8])) l = some (.lst [.ref m0, t1, t2, .ref a3]) := s9 _ _ (s8 _ _ upd_same)
    refine ⟨_, rfl, l, _, _, 3, rfl, rfl, el9, rfl, ?_⟩
    have t8 := tk_same s8
    have t9 := tk_same s9
    have t10 := tk_lst (ys := [.ref m0, t1, t2, .ref m3]) el9
    have t810 := (t8.trans t9).trans t10
    have tAll := t57.trans t810
    refine ⟨_, rfl, q l [.ref m0, t1, t2, .ref m3] _ (fun d o hd => ?_) hlH upd_same ⟨rfl, fun k y z hy hz => ?_⟩⟩
    · have hne : d ≠ l := ne_of_none hd hlH
      rw [upd_ne hne]
      refine s9 _ _ (s8 _ _ ?_)
      rw [upd_ne hne]
      exact s6 _ _ (s5 _ _ (kp d o (sAll _ _ hd) hne))
    · match k, hy, hz with
      | 0, hy, hz =>
        have ey : V.ref m0 = y := Option.some.inj hy
        have ez := Option.some.inj hz
        subst ey ez
        have hn : (taskOf neg i (parA t.c)).n = i := taskOf_n
        have f0 := sq_cast (K := K) (a := m0) (ys := [vn i, c0, v5, g0]) ((t7.trans t810).t (SqT.of upd_same)) (by rw [hn])
        exact ⟨m0, c0, v5, g0, rfl, f0, i2.mono tAll, e5.mono ((t6.trans t7).trans t810), i4.mono tAll⟩
      | 1, hy, hz =>
        have ey : t1 = y := Option.some.inj hy
        have ez := Option.some.inj hz
        subst ey ez
        exact r1.mono tAll
      | 2, hy, hz =>
        have ey : t2 = y := Option.some.inj hy
        have ez := Option.some.inj hz
        subst ey ez
        exact r2.mono tAll
      | 3, hy, hz =>
        have ey : V.ref m3 = y := Option.some.inj hy
        have ez := Option.some.inj hz
        subst ey ez
        have hn : (taskOf neg j (undP (parB t.c))).n = j := taskOf_n
        have f0 := sq_cast (K := K) (a := m3) (ys := [vn j, c3, b3, v8]) (t10.t (SqT.of upd_same)) (by rw [hn])
        exact ⟨m3, c3, b3, v8, rfl, f0, j2.mono tAll, j3.mono tAll, e8.mono (t9.trans t10)⟩
      | k + 4, hy, _ => simp at hy
end
end K24
set_option Elab.async false
set_option linter.all false
set_option maxRecDepth 100000
set_option maxHeartbeats 4000000
namespace K24
open PySem PySem.Spec PyProof.Rows L2
theorem ifT {c : Bool} {A B : Prop} (h : c = true) (a : A) : if c = true then A else B := by rw [if_pos h]; exact a
theorem ifF {c : Bool} {A B : Prop} (h : c = false) (b : B) : if c = true then A else B := by rw [if_neg (by rw [h]; decide)]; exact b
theorem cut_tail {x : V} {r : List V} : cutV (x :: r) (some 1) none = r := by
  unfold cutV
  rw [show HT.sIx (x :: r).length 0 (some 1) = min 1 (x :: r).length from HT.sIx_nat (x :: r).length 0 1, HT.sIx_none]
  rw [show min 1 (x :: r).length = 1 by
    rw [List.length_cons]
    omega]
  show (List.take ((x :: r).length - 1) r) = r
  rw [List.length_cons, Nat.add_sub_cancel]
  exact List.take_length
theorem cut_not {x : V} {r : List V} : ¬ (HT.sIx (x :: r).length 0 (some 1) = 0 ∧ HT.sIx (x :: r).length (x :: r).length none = (x :: r).length) := by
  rintro ⟨h, _⟩
  rw [show HT.sIx (x :: r).length 0 (some 1) = min 1 (x :: r).length from HT.sIx_nat (x :: r).length 0 1, List.length_cons] at h
  omega
/-- a node: its kind, its numbers -/
theorem nd_form {K : PySem.W.Frag} {w : World} {n : Nat} : ∀ (nd : Nd), nd.ok n → ∃ (s : Str) (rs : List Nat), ndV nd = .str s :: rs.map vn ∧ 1 ≤ rs.length ∧
    ((decide (V.str s = V.str "input") = true ∧ ∀ r ∈ rs, (r : Int) < 60) ∨ (decide (V.str s = V.str "input") = false ∧ ∀ r ∈ rs, (r : Int) < (n : Int))) ∧ ∀ d, KLen K w d → KDct K w d s (.int ((rs.length + 1 : Nat) : Int))
  | .inp k, h => ⟨"input", [k], rfl, Nat.le_refl _, .inl ⟨s_eq _, fun r hr => by have e := List.mem_singleton.mp hr; have : k < 60 := h; omega⟩, fun d hd => hd.2.1⟩
  | .no i, h => ⟨"not", [i], rfl, Nat.le_refl _, .inr ⟨s_ne4, fun r hr => by have e := List.mem_singleton.mp hr; have : i < n := h; omega⟩, fun d hd => hd.2.2.1⟩
  | .an i j, h => ⟨"and", [i, j], rfl, by show 1 ≤ 2; decide, .inr ⟨s_ne5, fun r hr => by
      have h1 : i < n := h.1
      have h2 : j < n := h.2
      simp only [List.mem_cons, List.not_mem_nil, or_false] at hr
      rcases hr with e | e <;> omega⟩, fun d hd => hd.2.2.2.1⟩
  | .orr i j, h => ⟨"or", [i, j], rfl, by show 1 ≤ 2; decide, .inr ⟨s_ne6, fun r hr => by
      have h1 : i < n := h.1
      have h2 : j < n := h.2
      simp only [List.mem_cons, List.not_mem_nil, or_false] at hr
      rcases hr with e | e <;> omega⟩, fun d hd => hd.2.2.2.2⟩
theorem at0 {x : V} {r : List V} : atI (x :: r) 0 = some x := atI_nat (j := 0) rfl
theorem atI_v {xs : List V} {i : Nat} {x : V} (h : xs[i]? = some x) : atI xs ((i : Nat) : Int) = some x := atI_nat h

section
variable {P : Program} {w : World} {K : PySem.W.Frag} {mg : Str → Option Value} {base : Heap}
abbrev s_inner_tasks : Stmt := topS 31
theorem sc_inner_tasks : FnScope ["node", "task", "back", "negative", "_", "cycle", "before", "behind"] ["node", "task"] (defScope s_inner_tasks) := ⟨rfl, rfl, rfl, by decide +kernel, rfl, by decide +kernel, by decide +kernel⟩
def spInner (K : PySem.W.Frag) : Sp := fun vs H Q _ => ∃ (x y : V) (nd : Nd) (t : Tk), vs = [x, y] ∧ NdAt K H x nd ∧ isInp nd = false ∧ TaskAt K H y t ∧ TkOk t ∧
  ∀ l us H', Same H H' → H l = none → H' l = some (.lst us) → All2 (TaskAt K H') us (inner t nd) → Q (.ref l) H'
theorem ok_inner_tasks (T : Txt K w mg) (D : Df K mg "inner_tasks" s_inner_tasks ["node", "task"]) (C_then : Cal P w K mg base 1 "then" (spThen K)) (C_undone : Cal P w K mg base 1 "undone" (spUndone K)) (C_and_tasks : Cal P w K mg base 4 "and_tasks" (spAnd K)) :
    Cal P w K mg base 5 "inner_tasks" (spInner K) := by
  refine D.ok sc_inner_tasks (fun vs H Q E h => ?_) (fun f cdv A outer s H vs Q E hr h => ?_)
  · obtain ⟨_, _, _, _, rfl, _⟩ := h
    rfl
  obtain ⟨x, y, nd, t, rfl, ⟨an, rfl, hn⟩, hni, ht, ok, q⟩ := h
  obtain ⟨a, c, b, g, rfl, h1, h2, h3, h4⟩ := id ht.ex
  have hc := cyc_perm _ ok.c
  refine ⟨_, (pss_cons (ps_asg (pv 1) (pg_tup (by rfl) (pgs_cons (pg_name (i := 4) sc_inner_tasks.nd rfl (by first | exact Or.inl rfl | exact Or.inr rfl)) (pgs_cons (pg_name (i := 5) sc_inner_tasks.nd rfl (by first | exact Or.inl rfl | exact Or.inr rfl)) (pgs_cons (pg_name (i := 6) sc_inner_tasks.nd rfl (by first | exact Or.inl rfl | exact Or.inr rfl)) (pgs_cons (pg_name (i := 7) sc_inner_tasks.nd rfl (by first | exact Or.inl rfl | exact Or.inr rfl)) pgs_nil))))))
(pss_cons (ps_set (i := 2) sc_inner_tasks.nd rfl (by first | exact Or.inl rfl | exact Or.inr rfl) (pe_cal C_undone hr (by decide) (by rfl) (pa_cons (pv 5) pa_nil)))
(pss_cons (ps_if (pt_cmpR op_eq (pe_ix ix_tup (pv 0) pe_int (fun _ _ => rfl)) pe_str (nomark _))
(pss_one (ps_ret (pe_lst (pa_cons (pe_tup (pa_cons (pe_ix ix_tup (pv 0) pe_int (fun _ _ => rfl)) (pa_cons (pv 2) (pa_cons (pv 6) (pa_cons (pe_cal C_then hr (by decide) (by rfl) (pa_cons (pv 5) (pa_cons (pv 7) pa_nil))) pa_nil))))) pa_nil))))
pss_nil)
(pss_cons (ps_if (pt_cmpR op_eq (pe_ix ix_tup (pv 0) pe_int (fun _ _ => rfl)) pe_str (nomark _))
(pss_one (ps_ret (pe_cal C_and_tasks hr (by decide) (by rfl) (pa_cons (pe_ix ix_tup (pv 0) pe_int (fun _ _ => rfl)) (pa_cons (pe_ix ix_tup (pv 0) pe_int (fun _ _ => rfl)) (pa_cons pe_bl (pa_cons (pv 1) pa_nil)))))))
pss_nil)
(pss_cons (ps_set (i := 3) sc_inner_tasks.nd rfl (by first | exact Or.inl rfl | exact Or.inr rfl) (pe_tup (pa_cons (pe_ix ix_tup (pv 1) pe_int (fun _ _ => rfl)) (pa_cons (pv 2) (pa_cons (pv 6) (pa_cons (pe_cal C_then hr (by decide) (by rfl) (pa_cons (pv 5) (pa_cons (pv 7) pa_nil))) pa_nil))))))
(pss_one (ps_ret (pe_cal C_and_tasks hr (by decide) (by rfl) (pa_cons (pe_ix ix_tup (pv 0) pe_int (fun _ _ => rfl)) (pa_cons (pe_ix ix_tup (pv 0) pe_int (fun _ _ => rfl)) (pa_cons pe_bl (pa_cons (pv 3) pa_nil)))))))))))), ?_⟩
  refine ⟨_, rfl, a, _, rfl, h1, rfl, _, _, rfl, _, _, rfl, _, _, rfl, _, _, rfl, rfl, ?_⟩
  refine ⟨_, rfl, c, t.c, rfl, h2, ok.c, fun v1 H1 s1 e1 => ?_⟩
  have hn1 := same_tup s1 hn
  cases nd with
  | inp k => cases hni
  | no i =>
    refine ⟨_, rfl, an, _, _, _, rfl, rfl, hn1, rfl, rfl, _, rfl, ifT (s_eq _) ?_⟩
    refine ⟨_, rfl, an, _, _, _, rfl, rfl, hn1, rfl, _, rfl, _, rfl, _, rfl, _, rfl, c, g, t.c, t.h, rfl, h2.p.mono (tk_same s1), h4.mono (tk_same s1), hc, ok.h, fun v2 H2 s2 e2 => ?_⟩
    refine ⟨by show 4 ≤ sizeLine; decide, fun m hm => ?_⟩
    have s3 := same_new hm (.tup [vn i, v1, b, v2])
    refine ⟨by show 1 ≤ sizeLine; decide, fun l hl => ?_⟩
    have s4 := same_new hl (.lst [.ref m])
    have sA := ((s1.trans s2).trans s3).trans s4
    exact q l _ _ sA (((s1.trans s2).trans s3).free hl) upd_same (All2.one ⟨m, v1, b, v2, rfl, same_tup s4 (SqT.of upd_same), e1.mono (tk_same ((s2.trans s3).trans s4)), h3.mono (tk_same sA), e2.mono (tk_same (s3.trans s4))⟩)
  | an i j =>
    refine ⟨_, rfl, an, _, _, _, rfl, rfl, hn1, rfl, rfl, _, rfl, ifF s_ne1 ?_⟩
    refine ⟨_, rfl, an, _, _, _, rfl, rfl, hn1, rfl, rfl, _, rfl, ifT (s_eq _) ?_⟩
    refine ⟨_, rfl, an, _, _, _, rfl, rfl, hn1, rfl, _, rfl, an, _, _, _, rfl, rfl, hn1, rfl, _, rfl, i, j, false, .ref a, t, rfl, ht.mono (tk_same s1), ok, fun l us H2 s2 n2 e2 hus => ?_⟩
    exact q l us H2 (s1.trans s2) (s1.free n2) e2 hus
  | orr i j =>
    refine ⟨_, rfl, an, _, _, _, rfl, rfl, hn1, rfl, rfl, _, rfl, ifF s_ne2 ?_⟩
    refine ⟨_, rfl, an, _, _, _, rfl, rfl, hn1, rfl, rfl, _, rfl, ifF s_ne3 ?_⟩
    refine ⟨_, rfl, a, _, _, _, rfl, rfl, same_tup s1 h1, rfl, _, rfl, _, rfl, _, rfl, _, rfl, c, g, t.c, t.h, rfl, h2.p.mono (tk_same s1), h4.mono (tk_same s1), hc, ok.h, fun v2 H2 s2 e2 => ?_⟩
    refine ⟨by show 4 ≤ sizeLine; decide, fun m hm => ?_⟩
    have s3 := same_new hm (.tup [vn t.n, v1, b, v2])
    have s13 := (s1.trans s2).trans s3
    have hn3 := same_tup (s2.trans s3) hn1
    refine ⟨_, rfl, an, _, _, _, rfl, rfl, hn3, rfl, _, rfl, an, _, _, _, rfl, rfl, hn3, rfl, _, rfl, i, j, true, .ref m, ⟨t.n, undP t.c, t.b, thnP t.c t.h⟩, rfl,
      ⟨m, v1, b, v2, rfl, SqT.of upd_same, e1.mono (tk_same (s2.trans s3)), h3.mono (tk_same s13), e2.mono (tk_same s3)⟩, ⟨cyc_und _ ok.c, ok.b, thn_perm hc ok.h⟩, fun l us H4 s4 n4 e4 hus => ?_⟩
    exact q l us H4 (s13.trans s4) (s13.free n4) e4 hus
abbrev s_check_boolean : Stmt := topS 18
theorem sc_check_boolean : FnScope ["source", "at", "node", "bound", "index"] ["source"] (defScope s_check_boolean) := ⟨rfl, rfl, rfl, by decide +kernel, rfl, by decide +kernel, by decide +kernel⟩
def spCheckB (K : PySem.W.Frag) : Sp := fun vs H Q _ => ∃ (a : Addr) (src : List Nd), vs = [.ref a] ∧ SrcAt K H a src ∧ Valid src ∧ 1 ≤ src.length ∧ src.length ≤ 200 ∧ ∀ H', Same H H' → Q .non H'
theorem ok_check_boolean (T : Txt K w mg) (D : Df K mg "check_boolean" s_check_boolean ["source"]) (C_is_number : Cal P w K mg base 2 "is_number" spIsNumber) : Cal P w K mg base 3 "check_boolean" (spCheckB K) := by
  refine D.ok sc_check_boolean (fun vs H Q E h => ?_) (fun f cdv A outer s H vs Q E hr h => ?_)
  · obtain ⟨_, _, rfl, _⟩ := h
    rfl
  obtain ⟨a, src, rfl, ⟨vs, hS, hV⟩, hv, l1, l200, q⟩ := h
  have hlen : vs.length = src.length := hV.len
  refine ⟨_, (pss_cons (ps_if (PW.pt (pw_or (pt_not (pt_val (pe_callB call_isi (by rfl) T.b_isinstance (by decide +kernel) (pa_cons (pv 0) (pa_cons (pe_bty (n := "tuple") (by rfl) T.b_tuple (by decide +kernel)) pa_nil))))) (pw_or1 (pt_not (pt_chain op_le op_le pe_int (pe_callB call_len_seq (by rfl) T.b_len PySem.boot_len (pa_cons (pv 0) pa_nil)) (pe_globI rfl T.g_NODES))))))
(pss_one ps_never)
pss_nil)
(pss_one (ps_for PassesOwn.never rfl (pi_enumT (by rfl) T.b_enumerate (pa_cons (pv 0) pa_nil)) (pg_tup (by rfl) (pgs_cons (pg_name (i := 1) sc_check_boolean.nd rfl (by first | exact Or.inl rfl | exact Or.inr rfl)) (pgs_cons (pg_name (i := 2) sc_check_boolean.nd rfl (by first | exact Or.inl rfl | exact Or.inr rfl)) pgs_nil)))
(pss_cons (ps_if (PW.pt (pw_or (pt_not (pt_val (pe_callB call_isi (by rfl) T.b_isinstance (by decide +kernel) (pa_cons (pv 2) (pa_cons (pe_bty (n := "tuple") (by rfl) T.b_tuple (by decide +kernel)) pa_nil))))) (pw_or (pt_cmpR op_lt (pe_callB call_len_seq (by rfl) T.b_len PySem.boot_len (pa_cons (pv 2) pa_nil)) pe_int (nomark _)) (pw_or1 (pt_not (pt_val (pe_callB call_isi (by rfl) T.b_isinstance (by decide +kernel) (pa_cons (pe_ix ix_tup (pv 2) pe_int (fun _ _ => rfl)) (pa_cons (pe_bty (n := "str") (by rfl) T.b_str (by decide +kernel)) pa_nil)))))))))
(pss_one ps_never)
pss_nil)
(pss_cons (ps_if (pt_cmpR op_ne (pe_kget (pe_globD rfl T.g_LENGTHS) (pe_ix ix_tup (pv 2) pe_int (fun _ _ => rfl)) ⟨rfl, rfl, rfl, rfl⟩) (pe_callB call_len_seq (by rfl) T.b_len PySem.boot_len (pa_cons (pv 2) pa_nil)) (nomark _))
(pss_one ps_never)
pss_nil)
(pss_cons (ps_set (i := 3) sc_check_boolean.nd rfl (by first | exact Or.inl rfl | exact Or.inr rfl) (pe_ifExp (pt_cmpR op_eq (pe_ix ix_tup (pv 2) pe_int (fun _ _ => rfl)) pe_str (nomark _)) (pe_globI rfl T.g_INPUTS) (pv 1)))
(pss_one (ps_for PassesOwn.never rfl (pi_tup (pe_slice sl_tup (pv 2) (po_some pe_int) po_none)) (pg_name (i := 4) sc_check_boolean.nd rfl (by first | exact Or.inl rfl | exact Or.inr rfl))
(pss_one (ps_if (pt_not (pt_val (pe_cal C_is_number hr (by decide) (by rfl) (pa_cons (pv 4) (pa_cons (pv 3) pa_nil)))))
(pss_one ps_never)
pss_nil)))))))))), ?_⟩
  refine ⟨_, rfl, _, _, _, _, _, rfl, .ty _, tyx_T hS, kit_ty kb_tt, _, rfl, iteF ?_⟩
  refine ⟨_, rfl, a, _, rfl, .inr hS, _, _, rfl, rfl, _, rfl, ifT (decide_eq_true (by omega)) ?_⟩
  refine ⟨_, _, rfl, rfl, _, rfl, ifF (by rw [decide_eq_true (by omega)]; rfl) ?_⟩
  refine ⟨_, rfl, a, vs, rfl, hS, for_enumT (xs := vs) (fun i σ H' => ∃ y z u v, σ = [some (.ref a), y, z, u, v] ∧ Same H H') ⟨_, _, _, _, rfl, Same.refl _⟩ (fun i σ H' ⟨_, _, _, _, _, e⟩ => same_tup e hS) ?_ ?_⟩
  · rintro i x Tt σ H' hx ⟨y, z, u, v, rfl, e⟩ hT
    obtain ⟨nd, hnd, ⟨an, rfl, hn0⟩⟩ := hV.getX hx
    obtain ⟨st, rs, hnv, hr1, hb, hkd⟩ := nd_form (K := K) (w := w) nd (hv i nd hnd)
    rw [hnv] at hn0
    have hrl : (V.str st :: rs.map vn).length = rs.length + 1 := by rw [List.length_cons, List.length_map]
    have sT := same_new hT (.tup [.int (i : Nat), .ref an])
    have hn := same_tup (e.trans sT) hn0
    refine ⟨Tt, _, rfl, SqT.of upd_same, rfl, _, _, rfl, _, _, rfl, rfl, ?_⟩
    refine ⟨_, rfl, _, _, _, _, _, rfl, .ty _, tyx_T hn, kit_ty kb_tt, _, rfl, iteF ?_⟩
    refine ⟨_, rfl, an, _, rfl, .inr hn, _, _, rfl, rfl, _, rfl, ifF (decide_eq_false (by rw [hrl]; omega)) ?_⟩
    refine ⟨_, rfl, an, _, _, _, rfl, rfl, hn, at0, _, _, _, _, _, rfl, .ty _, .base (.str _), kit_ty kb_ss, _, rfl, iteF ?_⟩
    refine fun d hd => ⟨d, rfl, hd.1, ⟨_, _, hd.2.1⟩, _, rfl, an, _, _, _, rfl, rfl, hn, at0, st, _, rfl, hkd d hd, _, rfl, an, _, rfl, .inr hn, rfl, _, rfl, ifF ?_ ?_⟩
    · rw [hrl, decide_eq_true rfl]
      rfl
    refine ⟨_, rfl, an, _, _, _, rfl, rfl, hn, at0, rfl, _, rfl, ?_⟩
    have sE := e.trans sT
    rcases hb with ⟨hb1, hb2⟩ | ⟨hb1, hb2⟩
    · refine ifT hb1 ?_
      refine ⟨_, rfl, _, rfl, an, _, rfl, hn, cut_not, fun p hp => ?_⟩
      rw [cut_tail] at *
      have s2 := same_new hp (.tup (rs.map vn))
      refine ⟨p, rfl, ⟨_, SqT.of upd_same⟩, for_tup (K := K) (a := p) (xs := rs.map vn) (fun k σ' H2 => H2 = upd (upd H' Tt (.tup [.int (i : Nat), .ref an])) p (.tup (rs.map vn)) ∧ ∃ o, σ' = [some (.ref a), some (.int (i : Nat)), some (.ref an), some (.int 60), o]) ⟨rfl, _, rfl⟩ (fun k σ' H2 _ ⟨e2, _⟩ => by rw [e2]; exact SqT.of upd_same) ?_ ?_⟩
      · rintro k x2 σ' H2 hk ⟨rfl, o, rfl⟩
        rw [List.getElem?_map] at hk
        cases hrk : rs[k]? with
        | none => rw [hrk] at hk; cases hk
        | some r =>
          rw [hrk] at hk
          have ex : x2 = vn r := (Option.some.inj hk).symm
          subst ex
          refine ⟨_, rfl, _, rfl, _, _, rfl, by omega, hb2 r (List.mem_of_getElem? hrk), _, rfl, iteF ?_⟩
          exact ⟨rfl, _, rfl⟩
      · rintro σ' H2 ⟨rfl, o, rfl⟩
        exact ⟨_, _, _, _, rfl, sE.trans s2⟩
    · refine ifF hb1 ?_
      refine ⟨_, rfl, ?_⟩
      refine ⟨_, rfl, _, rfl, an, _, rfl, hn, cut_not, fun p hp => ?_⟩
      rw [cut_tail] at *
      have s2 := same_new hp (.tup (rs.map vn))
      refine ⟨p, rfl, ⟨_, SqT.of upd_same⟩, for_tup (K := K) (a := p) (xs := rs.map vn) (fun k σ' H2 => H2 = upd (upd H' Tt (.tup [.int (i : Nat), .ref an])) p (.tup (rs.map vn)) ∧ ∃ o, σ' = [some (.ref a), some (.int (i : Nat)), some (.ref an), some (.int (i : Nat)), o]) ⟨rfl, _, rfl⟩ (fun k σ' H2 _ ⟨e2, _⟩ => by rw [e2]; exact SqT.of upd_same) ?_ ?_⟩
      · rintro k x2 σ' H2 hk ⟨rfl, o, rfl⟩
        rw [List.getElem?_map] at hk
        cases hrk : rs[k]? with
        | none => rw [hrk] at hk; cases hk
        | some r =>
          rw [hrk] at hk
          have ex : x2 = vn r := (Option.some.inj hk).symm
          subst ex
          refine ⟨_, rfl, _, rfl, _, _, rfl, by omega, hb2 r (List.mem_of_getElem? hrk), _, rfl, iteF ?_⟩
          exact ⟨rfl, _, rfl⟩
      · rintro σ' H2 ⟨rfl, o, rfl⟩
        exact ⟨_, _, _, _, rfl, sE.trans s2⟩
  · rintro σ H' ⟨y, z, u, v, rfl, e⟩
    exact q H' e
abbrev s_length : Stmt := topS 20
theorem sc_length : FnScope ["source", "lengths", "node"] ["source"] (defScope s_length) := ⟨rfl, rfl, rfl, by decide +kernel, rfl, by decide +kernel, by decide +kernel⟩
def spLength (K : PySem.W.Frag) : Sp := fun vs H Q _ => ∃ (a : Addr) (src : List Nd) (L : Nat → Nat), vs = [.ref a] ∧ SrcAt K H a src ∧ Valid src ∧ 1 ≤ src.length ∧ src.length ≤ 200 ∧ IsLen src L ∧ ∀ H', Same H H' → Q (vn (L (src.length - 1))) H'
theorem lens_at {L : Nat → Nat} {n i : Nat} (h : i < n) : atI ((List.range n).map fun j => vn (L j)) ((i : Nat) : Int) = some (vn (L i)) := atI_v (by
  rw [List.getElem?_map, List.getElem?_range h]
  rfl)
theorem lens_succ {L : Nat → Nat} {n : Nat} : ((List.range (n + 1)).map fun j => vn (L j)) = ((List.range n).map fun j => vn (L j)) ++ [vn (L n)] := by
  rw [List.range_succ, List.map_append]
  rfl
theorem ok_length (T : Txt K w mg) (D : Df K mg "length" s_length ["source"]) (C_check_boolean : Cal P w K mg base 3 "check_boolean" (spCheckB K)) : Cal P w K mg base 4 "length" (spLength K) := by
  refine D.ok sc_length (fun vs H Q E h => ?_) (fun f cdv A outer s H vs Q E hr h => ?_)
  · obtain ⟨_, _, _, rfl, _⟩ := h
    rfl
  obtain ⟨a, src, L, rfl, hSrc, hv, l1, l200, hL, q⟩ := h
  obtain ⟨vs, hS, hV⟩ := id hSrc.ex
  have hlen : vs.length = src.length := hV.len
  refine ⟨_, (pss_cons (ps_expr (pe_cal C_check_boolean hr (by decide) (by rfl) (pa_cons (pv 0) pa_nil)))
(pss_cons (ps_set (i := 1) sc_length.nd rfl (by first | exact Or.inl rfl | exact Or.inr rfl) (pe_lst pa_nil))
(pss_cons (ps_for PassesOwn.never rfl (pi_tup (pv 0)) (pg_name (i := 2) sc_length.nd rfl (by first | exact Or.inl rfl | exact Or.inr rfl))
(pss_one (ps_if (pt_cmpR op_eq (pe_ix ix_tup (pv 2) pe_int (fun _ _ => rfl)) pe_str (nomark _))
(pss_one (ps_expr (pe_bm PySem.F.plainAttrs_list PySem.F.slot_list_append PySem.F.type_list_append mt_append (pv 1) (pa_cons pe_int pa_nil))))
(pss_one (ps_if (pt_cmpR op_eq (pe_ix ix_tup (pv 2) pe_int (fun _ _ => rfl)) pe_str (nomark _))
(pss_one (ps_expr (pe_bm PySem.F.plainAttrs_list PySem.F.slot_list_append PySem.F.type_list_append mt_append (pv 1) (pa_cons (pe_ix ix_list (pv 1) (pe_ix ix_tup (pv 2) pe_int (fun _ _ => rfl)) (fun _ _ => rfl)) pa_nil))))
(pss_one (ps_expr (pe_bm PySem.F.plainAttrs_list PySem.F.slot_list_append PySem.F.type_list_append mt_append (pv 1) (pa_cons (pe_op op_mul pe_int (pe_op op_add (pe_ix ix_list (pv 1) (pe_ix ix_tup (pv 2) pe_int (fun _ _ => rfl)) (fun _ _ => rfl)) (pe_ix ix_list (pv 1) (pe_ix ix_tup (pv 2) pe_int (fun _ _ => rfl)) (fun _ _ => rfl)))) pa_nil)))))))))
(pss_one (ps_ret (pe_ix ix_list (pv 1) (pe_un un_neg pe_int) (fun _ _ => rfl))))))), ?_⟩
  refine ⟨_, rfl, a, src, rfl, hSrc, hv, l1, l200, fun H1 s1 => ?_⟩
  refine ⟨Nat.zero_le _, fun l hl => ?_⟩
  have s2 := same_new hl (.lst [])
  have hlH : H l = none := s1.free hl
  refine ⟨_, rfl, a, rfl, ⟨_, same_tup (s1.trans s2) hS⟩, for_tup (K := K) (a := a) (xs := vs) (fun i σ H' => ∃ y, σ = [some (.ref a), some (.ref l), y] ∧ Same H H' ∧ H' l = some (.lst ((List.range i).map fun j => vn (L j))))
    ⟨_, rfl, s1.trans s2, upd_same⟩ (fun i σ H' _ ⟨_, _, e, _⟩ => same_tup e hS) ?_ ?_⟩
  · rintro i x σ H' hx ⟨y, rfl, e, el⟩
    obtain ⟨nd, hnd, ⟨an, rfl, hn0⟩⟩ := hV.getX hx
    have hn := same_tup e hn0
    have hok := hv i nd hnd
    have hLi := hL i nd hnd
    have hi200 : i < 200 := by
      have := (List.getElem?_eq_some_iff.mp hx).1
      omega
    have hz : ((List.range i).map fun j => vn (L j)).length < sizeLine := by
      rw [List.length_map, List.length_range]
      exact szl (by omega)
    have fin : ∀ v : V, v = vn (L i) → ∃ y, ([some (.ref a), some (.ref l), some (.ref an)] : L2.St) = [some (.ref a), some (.ref l), y] ∧ Same H (upd H' l (.lst (((List.range i).map fun j => vn (L j)) ++ [v]))) ∧ (upd H' l (.lst (((List.range i).map fun j => vn (L j)) ++ [v]))) l = some (.lst ((List.range (i + 1)).map fun j => vn (L j))) := fun v ev => by
      subst ev
      exact ⟨_, rfl, same_write e hlH, by rw [upd_same, lens_succ]⟩
    cases nd with
    | inp k =>
      refine ⟨_, rfl, an, _, _, _, rfl, rfl, hn, rfl, rfl, _, rfl, ifT (s_eq _) ?_⟩
      refine ⟨_, rfl, .inl ⟨rfl, _, SqL.of el⟩, l, _, _, rfl, rfl, el, hz, ?_⟩
      exact fin _ (by rw [hLi]; rfl)
    | no j =>
      have hj : j < i := hok
      refine ⟨_, rfl, an, _, _, _, rfl, rfl, hn, rfl, rfl, _, rfl, ifF s_ne4 ?_⟩
      refine ⟨_, rfl, an, _, _, _, rfl, rfl, hn, rfl, rfl, _, rfl, ifT (s_eq _) ?_⟩
      refine ⟨_, rfl, .inl ⟨rfl, _, SqL.of el⟩, _, rfl, _, rfl, an, _, _, _, rfl, rfl, hn, rfl, l, _, _, _, rfl, rfl, SqL.of el, lens_at hj, l, _, _, rfl, rfl, el, hz, ?_⟩
      exact fin _ (by rw [hLi]; rfl)
    | an j k =>
      have hj : j < i := hok.1
      have hk : k < i := hok.2
      refine ⟨_, rfl, an, _, _, _, rfl, rfl, hn, rfl, rfl, _, rfl, ifF s_ne5 ?_⟩
      refine ⟨_, rfl, an, _, _, _, rfl, rfl, hn, rfl, rfl, _, rfl, ifF s_ne1 ?_⟩
      refine ⟨_, rfl, .inl ⟨rfl, _, SqL.of el⟩, _, rfl, _, rfl, an, _, _, _, rfl, rfl, hn, rfl, l, _, _, _, rfl, rfl, SqL.of el, lens_at hj,
        _, rfl, _, rfl, an, _, _, _, rfl, rfl, hn, rfl, l, _, _, _, rfl, rfl, SqL.of el, lens_at hk, _, _, rfl, rfl, _, _, rfl, rfl, .inl ⟨by decide, by decide⟩, l, _, _, rfl, rfl, el, hz, ?_⟩
      refine fin _ ?_
      rw [hLi]
      show V.int (2 * ((L j : Int) + (L k : Int))) = V.int ((2 * (L j + L k) : Nat) : Int)
      rw [Int.natCast_mul, Int.natCast_add]
      rfl
    | orr j k =>
      have hj : j < i := hok.1
      have hk : k < i := hok.2
      refine ⟨_, rfl, an, _, _, _, rfl, rfl, hn, rfl, rfl, _, rfl, ifF s_ne6 ?_⟩
      refine ⟨_, rfl, an, _, _, _, rfl, rfl, hn, rfl, rfl, _, rfl, ifF s_ne2 ?_⟩
      refine ⟨_, rfl, .inl ⟨rfl, _, SqL.of el⟩, _, rfl, _, rfl, an, _, _, _, rfl, rfl, hn, rfl, l, _, _, _, rfl, rfl, SqL.of el, lens_at hj,
        _, rfl, _, rfl, an, _, _, _, rfl, rfl, hn, rfl, l, _, _, _, rfl, rfl, SqL.of el, lens_at hk, _, _, rfl, rfl, _, _, rfl, rfl, .inl ⟨by decide, by decide⟩, l, _, _, rfl, rfl, el, hz, ?_⟩
      refine fin _ ?_
      rw [hLi]
      show V.int (2 * ((L j : Int) + (L k : Int))) = V.int ((2 * (L j + L k) : Nat) : Int)
      rw [Int.natCast_mul, Int.natCast_add]
      rfl
  · rintro σ H' ⟨y, rfl, e, el⟩
    obtain ⟨m, hm⟩ : ∃ m, src.length = m + 1 := ⟨src.length - 1, by omega⟩
    have hm1 : src.length - 1 = m := by omega
    rw [hm1] at q
    rw [hlen, hm] at el
    refine ⟨_, rfl, _, rfl, l, _, _, _, rfl, rfl, SqL.of el, ?_, q H' e⟩
    rw [lens_succ]
    exact atI_last _ _
abbrev s_compile_word : Stmt := topS 32
theorem sc_compile_word : FnScope ["source", "cycle", "total", "word", "tasks", "task", "node"] ["source", "cycle"] (defScope s_compile_word) := ⟨rfl, rfl, rfl, by decide +kernel, rfl, by decide +kernel, by decide +kernel⟩
def spCompile (K : PySem.W.Frag) : Sp := fun vs H Q _ => ∃ (a : Addr) (x : V) (src : List Nd) (L : Nat → Nat) (cyc : P5), vs = [.ref a, x] ∧ SrcAt K H a src ∧ Valid src ∧ 1 ≤ src.length ∧ src.length ≤ 200 ∧ IsLen src L ∧ L (src.length - 1) ≤ 20000 ∧ CycAt K H x cyc ∧ cyc ∈ cycles5 ∧
  ∀ l us ws H', Same H H' → H l = none → H' l = some (.lst us) → All2 (TripAt K H') us ws → WordOk src L cyc ws → Q (.ref l) H'
theorem ok_compile_word (T : Txt K w mg) (D : Df K mg "compile_word" s_compile_word ["source", "cycle"]) (C_length : Cal P w K mg base 4 "length" (spLength K)) (C_is_cycle : Cal P w K mg base 4 "is_cycle" (spIsCycle K))
    (C_leaf_triple : Cal P w K mg base 2 "leaf_triple" (spLeaf K)) (C_inner_tasks : Cal P w K mg base 5 "inner_tasks" (spInner K)) : Cal P w K mg base 6 "compile_word" (spCompile K) := by
  refine D.ok sc_compile_word (fun vs H Q E h => ?_) (fun f cdv A outer s H vs Q E hr h => ?_)
  · obtain ⟨_, _, _, _, _, rfl, _⟩ := h
    rfl
  obtain ⟨a, x, src, L, cyc, rfl, hSrc, hv, l1, l200, hL, hmost, hx, hcyc, q⟩ := h
  obtain ⟨vs, hS, hV⟩ := id hSrc.ex
  have hlen : vs.length = src.length := hV.len
  refine ⟨_, (pss_cons (ps_set (i := 2) sc_compile_word.nd rfl (by first | exact Or.inl rfl | exact Or.inr rfl) (pe_cal C_length hr (by decide) (by rfl) (pa_cons (pv 0) pa_nil)))
(pss_cons (ps_if (pt_not (pt_val (pe_cal C_is_cycle hr (by decide) (by rfl) (pa_cons (pv 1) pa_nil))))
(pss_one ps_never)
pss_nil)
(pss_cons (ps_if (pt_cmpR op_gt (pv 2) (pe_globI rfl T.g_MOST) (nomark _))
(pss_one ps_never)
pss_nil)
(pss_cons (ps_set (i := 3) sc_compile_word.nd rfl (by first | exact Or.inl rfl | exact Or.inr rfl) (pe_lst pa_nil))
(pss_cons (ps_set (i := 4) sc_compile_word.nd rfl (by first | exact Or.inl rfl | exact Or.inr rfl) (pe_lst (pa_cons (pe_tup (pa_cons (pe_op op_sub (pe_callB call_len_seq (by rfl) T.b_len PySem.boot_len (pa_cons (pv 0) pa_nil)) pe_int) (pa_cons (pv 1) (pa_cons (pe_globT rfl T.g_STAY) (pa_cons (pe_globT rfl T.g_STAY) pa_nil))))) pa_nil)))
(pss_cons (ps_while PassesOwn.never (pt_truth (pv 4) (by intro _; rfl))
(pss_cons (ps_set (i := 5) sc_compile_word.nd rfl (by first | exact Or.inl rfl | exact Or.inr rfl) (pe_bm0 PySem.F.plainAttrs_list PySem.F.slot_list_pop PySem.F.type_list_pop mt_pop (pv 4)))
(pss_cons (ps_set (i := 6) sc_compile_word.nd rfl (by first | exact Or.inl rfl | exact Or.inr rfl) (pe_ix ix_tup (pv 0) (pe_ix ix_tup (pv 5) pe_int (fun _ _ => rfl)) (fun _ _ => rfl)))
(pss_one (ps_if (pt_cmpR op_eq (pe_ix ix_tup (pv 6) pe_int (fun _ _ => rfl)) pe_str (nomark _))
(pss_one (ps_expr (pe_bm PySem.F.plainAttrs_list PySem.F.slot_list_append PySem.F.type_list_append mt_append (pv 3) (pa_cons (pe_cal C_leaf_triple hr (by decide) (by rfl) (pa_cons (pe_ix ix_tup (pv 6) pe_int (fun _ _ => rfl)) (pa_cons (pv 5) pa_nil))) pa_nil))))
(pss_one (ps_expr (pe_bm PySem.F.plainAttrs_list PySem.F.slot_list_extend PySem.F.type_list_extend mt_extend (pv 4) (pa_cons (pe_revL (pe_cal C_inner_tasks hr (by decide) (by rfl) (pa_cons (pv 6) (pa_cons (pv 5) pa_nil)))) pa_nil)))))))))
(pss_one (ps_ret (pv 3))))))))), ?_⟩
  refine ⟨_, rfl, a, src, L, rfl, hSrc, hv, l1, l200, hL, fun H1 s1 => ?_⟩
  refine ⟨_, rfl, x, cyc, rfl, hx.p.mono (tk_same s1), hcyc, fun H2 s2 => ⟨_, rfl, iteF ?_⟩⟩
  refine ⟨_, rfl, _, _, rfl, rfl, _, rfl, ifF (decide_eq_false (by omega)) ?_⟩
  refine ⟨Nat.zero_le _, fun lw hlw => ?_⟩
  have s3 := same_new hlw (.lst [])
  have s13 := (s1.trans s2).trans s3
  refine ⟨_, rfl, a, _, rfl, .inr (same_tup s13 hS), _, _, rfl, rfl, _, rfl, fun st fst => fun st2 fst2 => ⟨by show 4 ≤ sizeLine; decide, fun m hm => ?_⟩⟩
  have s4 := same_new hm (.tup [.int ((vs.length : Int) - 1), x, .ref st, .ref st2])
  refine ⟨by show 1 ≤ sizeLine; decide, fun lt hlt => ?_⟩
  have s5 := same_new hlt (.lst [.ref m])
  have s15 := (s13.trans s4).trans s5
  have hlwH : H lw = none := (s1.trans s2).free hlw
  have hltH : H lt = none := (s13.trans s4).free hlt
  have hne : lw ≠ lt := fun z => by
    have e : (upd (upd H2 lw (.lst [])) m (.tup [.int ((vs.length : Int) - 1), x, .ref st, .ref st2])) lw = some (.lst []) := s4 _ _ upd_same
    have hlt' : (upd (upd H2 lw (.lst [])) m (.tup [.int ((vs.length : Int) - 1), x, .ref st, .ref st2])) lt = none := hlt
    rw [← z, e] at hlt'
    cases hlt'
  refine ⟨fun k σ H' => ∃ y z ws ts us xs, k = meas ts ∧ σ = [some (.ref a), some x, some (vn (L (src.length - 1))), some (.ref lw), some (.ref lt), y, z] ∧ Same H H' ∧ H' lw = some (.lst us) ∧ H' lt = some (.lst xs) ∧
      All2 (TripAt K H') us ws ∧ All2 (TaskAt K H') xs ts.reverse ∧ Going src L cyc ws ts,
    ⟨_, _, _, [], [⟨src.length - 1, cyc, stayP, stayP⟩], [], [.ref m], rfl, rfl, s15, ?_, upd_same, All2.nil, All2.one ⟨m, x, .ref st, .ref st2, rfl, ?_, hx.mono (tk_same s15), ⟨st, rfl, fst _⟩, ⟨st2, rfl, fst2 _⟩⟩, going_start (by omega) hcyc⟩, ?_⟩
  · exact s5 _ _ (s4 _ _ upd_same)
  · refine same_tup s5 (sq_cast (SqT.of upd_same) ?_)
    rw [hlen]
    show [V.int ((src.length : Int) - 1), x, V.ref st, V.ref st2] = [V.int ((src.length - 1 : Nat) : Int), x, V.ref st, V.ref st2]
    have e : ((src.length : Int) - 1) = ((src.length - 1 : Nat) : Int) := by omega
    rw [e]
  rintro k σ H' ⟨y, z, ws, ts, us, xs, rfl, rfl, e, ew, et, hus, hxs, g⟩
  cases ts with
  | nil =>
    have hx0 : xs = [] := List.eq_nil_of_length_eq_zero (by rw [hxs.len]; rfl)
    subst hx0
    refine ⟨_, rfl, _, .inl ⟨_, SqL.of et, rfl⟩, iteF ?_⟩
    exact ⟨_, rfl, q lw us ws H' e hlwH ew hus (going_end g)⟩
  | cons t ts =>
    rw [List.reverse_cons] at hxs
    obtain ⟨xs0, xt, rfl⟩ : ∃ xs0 xt, xs = xs0 ++ [xt] := by
      rcases List.eq_nil_or_concat xs with h0 | ⟨u, v, h0⟩
      · have := hxs.len
        rw [h0, List.length_append] at this
        simp at this
      · exact ⟨u, v, by rw [h0, List.concat_eq_append]⟩
    obtain ⟨hxs0, hxt⟩ := hxs.ends
    have tok := g.tsOk t List.mem_cons_self
    have tkok : TkOk t := ⟨tok.c, tok.b, tok.h⟩
    obtain ⟨nd, hnd⟩ : ∃ nd, src[t.n]? = some nd := ⟨src[t.n]'tok.n, List.getElem?_eq_getElem tok.n⟩
    have hcnt := going_count hv hL g
    refine ⟨_, rfl, _, .inl ⟨_, SqL.of et, rfl⟩, ifT (by cases xs0 <;> rfl) ?_⟩
    refine ⟨fun σ' H' => ∃ m', m' < meas (t :: ts) ∧ ∃ y z ws ts us xs, m' = meas ts ∧ σ' = [some (.ref a), some x, some (vn (L (src.length - 1))), some (.ref lw), some (.ref lt), y, z] ∧ Same H H' ∧ H' lw = some (.lst us) ∧ H' lt = some (.lst xs) ∧
      All2 (TripAt K H') us ws ∧ All2 (TaskAt K H') xs ts.reverse ∧ Going src L cyc ws ts, fun _ _ h => h, ?_⟩
    refine ⟨_, rfl, .inl ⟨rfl, _, SqL.of et⟩, lt, _, xt, rfl, rfl, et, ?_, ?_⟩
    · rw [List.length_append, List.length_singleton, Nat.add_sub_cancel, List.getElem?_append_right (Nat.le_refl _), Nat.sub_self]
      rfl
    rw [List.dropLast_concat]
    have e1 : Same H (upd H' lt (.lst xs0)) := same_write e hltH
    have t1 : TK H' (upd H' lt (.lst xs0)) := tk_lst et
    have et1 : (upd H' lt (.lst xs0)) lt = some (.lst xs0) := upd_same
    have ew1 : (upd H' lt (.lst xs0)) lw = some (.lst us) := by rw [upd_ne hne]; exact ew
    have hus1 := hus.mono fun _ _ h => h.mono t1
    have hxs1 := hxs0.mono fun _ _ h => h.mono t1
    have hxt1 := hxt.mono t1
    generalize hH1 : upd H' lt (.lst xs0) = H3 at e1 t1 et1 ew1 hus1 hxs1 hxt1
    obtain ⟨at_, tc, tb, tg, rfl, i1, i2, i3, i4⟩ := id hxt1.ex
    obtain ⟨vx, hvx, ⟨an, rfl, hn0⟩⟩ := hV.get hnd
    have hn := same_tup e1 hn0
    refine ⟨_, rfl, _, rfl, at_, _, _, _, rfl, rfl, i1, rfl, a, _, _, _, rfl, rfl, same_tup e1 hS, atI_v hvx, ?_⟩
    by_cases hin : isInp nd = true
    · obtain ⟨kk, rfl⟩ : ∃ kk, nd = .inp kk := by
        cases nd with
        | inp kk => exact ⟨kk, rfl⟩
        | no _ => cases hin
        | an _ _ => cases hin
        | orr _ _ => cases hin
      refine ⟨_, rfl, an, _, _, _, rfl, rfl, hn, rfl, rfl, _, rfl, ifT (s_eq _) ?_⟩
      refine ⟨_, rfl, .inl ⟨rfl, _, SqL.of ew1⟩, _, rfl, an, _, _, _, rfl, rfl, hn, rfl, _, rfl, kk, .ref at_, t, rfl, hxt1, tkok, fun v4 H4 s4 e4 => ?_⟩
      have ew4 := s4 _ _ ew1
      have t5 := tk_lst (ys := us ++ [v4]) ew4
      have t45 := (tk_same s4).trans t5
      have hul := hus.len
      refine ⟨lw, us, v4, rfl, rfl, ew4, szl ?_, ?_⟩
      · have : ws.length + (t :: ts).length ≤ L (src.length - 1) := hcnt
        omega
      refine ⟨_, ?_, _, _, ws ++ [leafT kk t], ts, us ++ [v4], xs0, rfl, rfl, ?_, upd_same, ?_, (hus1.mono fun _ _ h => h.mono t45).app (All2.one (e4.mono t5)), hxs1.mono fun _ _ h => h.mono t45, going_leaf hL g hnd⟩
      · show meas ts < 5 ^ t.n + meas ts
        have : 0 < 5 ^ t.n := Nat.pow_pos (by decide)
        omega
      · exact same_write (e1.trans s4) hlwH
      · rw [upd_ne hne.symm]
        exact s4 _ _ et1
    · have hin' : isInp nd = false := by cases h : isInp nd with
        | true => exact absurd h hin
        | false => rfl
      have hnin : ∃ st rest, ndV nd = .str st :: rest ∧ decide (V.str st = V.str "input") = false := by
        cases nd with
        | inp _ => cases hin'
        | no _ => exact ⟨_, _, rfl, s_ne4⟩
        | an _ _ => exact ⟨_, _, rfl, s_ne5⟩
        | orr _ _ => exact ⟨_, _, rfl, s_ne6⟩
      obtain ⟨sst, rest, hnv, hns⟩ := hnin
      have hn2 := hn
      rw [hnv] at hn2
      refine ⟨_, rfl, an, _, _, _, rfl, rfl, hn2, at0, rfl, _, rfl, ifF hns ?_⟩
      refine ⟨_, rfl, .inl ⟨rfl, _, SqL.of et1⟩, _, rfl, _, rfl, .ref an, .ref at_, nd, t, rfl, ⟨an, rfl, hn⟩, hin', hxt1, tkok, fun li ui H4 s4 n4 e4 hui => ?_⟩
      refine ⟨li, ui, rfl, SqL.of e4, fun lr hlr => ?_⟩
      have s5' := same_new hlr (.lst ui.reverse)
      have s45 := s4.trans s5'
      have et5 := s45 _ _ et1
      have t6 := tk_lst (ys := xs0 ++ ui.reverse) et5
      have t46 := (tk_same s45).trans t6
      have g2 := going_inner hv hL g hnd hin'
      have hc2 := going_count hv hL g2
      have hxl := hxs0.len
      have huil := hui.len
      refine ⟨lt, lr, xs0, ui.reverse, rfl, rfl, et5, upd_same, sz ?_, ?_⟩
      · rw [List.length_reverse] at hxl ⊢
        rw [List.length_append] at hc2
        omega
      refine ⟨_, going_meas hv g hnd, _, _, ws, inner t nd ++ ts, us, xs0 ++ ui.reverse, rfl, rfl, ?_, ?_, upd_same, hus1.mono fun _ _ h => h.mono t46, ?_, g2⟩
      · exact same_write (e1.trans s45) hltH
      · rw [upd_ne hne]
        exact s45 _ _ ew1
      · rw [List.reverse_append]
        exact (hxs1.mono fun _ _ h => h.mono t46).app (hui.rev.mono fun _ _ h => h.mono ((tk_same s5').trans t6))
end
end K24
set_option Elab.async false
set_option linter.all false
set_option maxRecDepth 100000
set_option maxHeartbeats 4000000
namespace K24
open PySem PySem.Spec PyProof.Rows L2
def bf (bs : List Bool) (k : Nat) : Bool := bs.getD k false
theorem bf_at {bs : List Bool} {k : Nat} (h : k < bs.length) : atI (bs.map V.bl) ((k : Nat) : Int) = some (.bl (bf bs k)) := atI_v (by
  rw [List.getElem?_map, List.getElem?_eq_getElem h]
  unfold bf
  rw [List.getD_eq_getElem?_getD, List.getElem?_eq_getElem h]
  rfl)
theorem dec_self (v : V) : (!decide (v = v)) = false := by rw [decide_eq_true rfl]; rfl
theorem flat_vn (ks : List Nat) : (ks.map vn).all flatV = true := by
  induction ks with
  | nil => rfl
  | cons k r ih =>
    rw [List.map_cons, List.all_cons, ih]
    rfl
theorem named_lt {src : List Nd} (hv : Valid src) {k : Nat} (h : Named src k) : k < 60 := by
  obtain ⟨i, hi⟩ := h
  exact hv i _ hi
section
variable {P : Program} {w : World} {K : PySem.W.Frag} {mg : Str → Option Value} {base : Heap}
abbrev s_check_bits : Stmt := topS 19
theorem sc_check_bits : FnScope ["bits", "needed", "bit", "index"] ["bits", "needed"] (defScope s_check_bits) := ⟨rfl, rfl, rfl, by decide +kernel, rfl, by decide +kernel, by decide +kernel⟩
def spBits (K : PySem.W.Frag) : Sp := fun vs H Q _ => ∃ (a b : Addr) (bs : List Bool) (ks : List Nat), vs = [.ref a, .ref b] ∧ SqL K H a (bs.map V.bl) ∧ bs.length = 60 ∧ SqL K H b (ks.map vn) ∧ (∀ k ∈ ks, k < 60) ∧ ∀ H', Same H H' → Q .non H'
theorem ok_check_bits (T : Txt K w mg) (D : Df K mg "check_bits" s_check_bits ["bits", "needed"]) : Cal P w K mg base 1 "check_bits" (spBits K) := by
  refine D.ok sc_check_bits (fun vs H Q E h => ?_) (fun f cdv A outer s H vs Q E hr h => ?_)
  · obtain ⟨_, _, _, _, rfl, _⟩ := h
    rfl
  obtain ⟨a, b, bs, ks, rfl, ha, h60, hb, hk, q⟩ := h
  refine ⟨_, (pss_cons (ps_if (pt_not (pt_val (pe_callB call_isi (by rfl) T.b_isinstance (by decide +kernel) (pa_cons (pv 0) (pa_cons (pe_bty (n := "list") (by rfl) T.b_list (by decide +kernel)) pa_nil)))))
(pss_one ps_never)
pss_nil)
(pss_cons (ps_for PassesOwn.never rfl (pi_list (pv 0)) (pg_name (i := 2) sc_check_bits.nd rfl (by first | exact Or.inl rfl | exact Or.inr rfl))
(pss_one (ps_if (pt_not (pt_val (pe_callB call_isi (by rfl) T.b_isinstance (by decide +kernel) (pa_cons (pv 2) (pa_cons (pe_bty (n := "bool") (by rfl) T.b_bool (by decide +kernel)) pa_nil)))))
(pss_one ps_never)
pss_nil)))
(pss_one (ps_for PassesOwn.never rfl (pi_list (pv 1)) (pg_name (i := 3) sc_check_bits.nd rfl (by first | exact Or.inl rfl | exact Or.inr rfl))
(pss_one (ps_if (pt_cmpR op_ge (pv 3) (pe_callB call_len_seq (by rfl) T.b_len PySem.boot_len (pa_cons (pv 0) pa_nil)) (nomark _))
(pss_one ps_never)
pss_nil)))))), ?_⟩
  refine ⟨_, rfl, _, _, _, _, _, rfl, .ty _, tyx_L ha, kit_ty kb_ll, _, rfl, iteF ?_⟩
  refine ⟨_, rfl, a, rfl, ⟨_, ha⟩, for_list (K := K) (a := a) (xs := bs.map V.bl) (fun i σ H' => H' = H ∧ ∃ y, σ = [some (.ref a), some (.ref b), y, none]) ⟨rfl, _, rfl⟩ (fun i σ H' _ ⟨e, _⟩ => by rw [e]; exact ha) ?_ ?_⟩
  · rintro i x σ H' hi ⟨rfl, y, rfl⟩
    rw [List.getElem?_map] at hi
    cases hbi : bs[i]? with
    | none => rw [hbi] at hi; cases hi
    | some z =>
      rw [hbi] at hi
      have e : x = V.bl z := (Option.some.inj hi).symm
      subst e
      refine ⟨_, rfl, _, _, _, _, _, rfl, .ty _, .base (.bl _), kit_ty kb_bb, _, rfl, iteF ?_⟩
      exact ⟨rfl, _, rfl⟩
  · rintro σ H' ⟨rfl, y, rfl⟩
    refine ⟨_, rfl, b, rfl, ⟨_, hb⟩, for_list (K := K) (a := b) (xs := ks.map vn) (fun i σ H2 => H2 = H' ∧ ∃ z, σ = [some (.ref a), some (.ref b), y, z]) ⟨rfl, _, rfl⟩ (fun i σ H' _ ⟨e, _⟩ => by rw [e]; exact hb) ?_ ?_⟩
    · rintro i x σ H2 hi ⟨rfl, z, rfl⟩
      rw [List.getElem?_map] at hi
      cases hki : ks[i]? with
      | none => rw [hki] at hi; cases hi
      | some k =>
        rw [hki] at hi
        have e : x = vn k := (Option.some.inj hi).symm
        subst e
        have hk60 := hk k (List.mem_of_getElem? hki)
        refine ⟨_, rfl, _, rfl, a, _, rfl, .inl ha, _, _, rfl, rfl, _, rfl, ifF (decide_eq_false (by rw [List.length_map, h60]; omega)) ?_⟩
        exact ⟨rfl, _, rfl⟩
    · rintro σ H2 ⟨rfl, z, rfl⟩
      exact q _ (Same.refl _)
/-- a word in the heap, its triples well made -/
structure WordAt (K : PySem.W.Frag) (H : Hp) (a : Addr) (ws : List Tp) : Prop where
  ex : ∃ us, SqL K H a us ∧ All2 (TripAt K H) us ws
theorem WordAt.mono {K : PySem.W.Frag} {H H' : Hp} {a : Addr} {ws : List Tp} (e : Same H H') (h : WordAt K H a ws) : WordAt K H' a ws := by
  obtain ⟨us, h1, h2⟩ := h.ex
  exact ⟨us, e.seq h1, h2.mono fun _ _ q => q.mono (tk_same e)⟩
structure TpP (w : Tp) : Prop where
  k : w.k < 60
  z : IsPerm w.z
  o : IsPerm w.o
abbrev s_check_word : Stmt := topS 33
theorem sc_check_word : FnScope ["word", "triple"] ["word"] (defScope s_check_word) := ⟨rfl, rfl, rfl, by decide +kernel, rfl, by decide +kernel, by decide +kernel⟩
def spCheckW (K : PySem.W.Frag) : Sp := fun vs H Q _ => ∃ (a : Addr) (ws : List Tp), vs = [.ref a] ∧ WordAt K H a ws ∧ ws.length ≤ 20000 ∧ (∀ w ∈ ws, TpP w) ∧ ∀ H', Same H H' → Q .non H'
theorem ok_check_word (T : Txt K w mg) (D : Df K mg "check_word" s_check_word ["word"]) (C_is_number : Cal P w K mg base 2 "is_number" spIsNumber) (C_is_permutation : Cal P w K mg base 3 "is_permutation" (spIsPerm K)) : Cal P w K mg base 4 "check_word" (spCheckW K) := by
  refine D.ok sc_check_word (fun vs H Q E h => ?_) (fun f cdv A outer s H vs Q E hr h => ?_)
  · obtain ⟨_, _, rfl, _⟩ := h
    rfl
  obtain ⟨a, ws, rfl, ⟨us, ha, hU⟩, hlen, hw, q⟩ := h
  have hul := hU.len
  refine ⟨_, (pss_cons (ps_if (PW.pt (pw_or (pt_not (pt_val (pe_callB call_isi (by rfl) T.b_isinstance (by decide +kernel) (pa_cons (pv 0) (pa_cons (pe_bty (n := "list") (by rfl) T.b_list (by decide +kernel)) pa_nil))))) (pw_or1 (pt_cmpR op_gt (pe_callB call_len_seq (by rfl) T.b_len PySem.boot_len (pa_cons (pv 0) pa_nil)) (pe_globI rfl T.g_MOST) (nomark _)))))
(pss_one ps_never)
pss_nil)
(pss_one (ps_for PassesOwn.never rfl (pi_list (pv 0)) (pg_name (i := 1) sc_check_word.nd rfl (by first | exact Or.inl rfl | exact Or.inr rfl))
(pss_cons (ps_if (PW.pt (pw_or (pt_not (pt_val (pe_callB call_isi (by rfl) T.b_isinstance (by decide +kernel) (pa_cons (pv 1) (pa_cons (pe_bty (n := "tuple") (by rfl) T.b_tuple (by decide +kernel)) pa_nil))))) (pw_or1 (pt_cmpR op_ne (pe_callB call_len_seq (by rfl) T.b_len PySem.boot_len (pa_cons (pv 1) pa_nil)) pe_int (nomark _)))))
(pss_one ps_never)
pss_nil)
(pss_cons (ps_if (pt_not (pt_val (pe_cal C_is_number hr (by decide) (by rfl) (pa_cons (pe_ix ix_tup (pv 1) pe_int (fun _ _ => rfl)) (pa_cons (pe_globI rfl T.g_INPUTS) pa_nil)))))
(pss_one ps_never)
pss_nil)
(pss_one (ps_if (PW.pt (pw_or (pt_not (pt_val (pe_cal C_is_permutation hr (by decide) (by rfl) (pa_cons (pe_ix ix_tup (pv 1) pe_int (fun _ _ => rfl)) pa_nil)))) (pw_or1 (pt_not (pt_val (pe_cal C_is_permutation hr (by decide) (by rfl) (pa_cons (pe_ix ix_tup (pv 1) pe_int (fun _ _ => rfl)) pa_nil)))))))
(pss_one ps_never)
pss_nil))))))), ?_⟩
  refine ⟨_, rfl, _, _, _, _, _, rfl, .ty _, tyx_L ha, kit_ty kb_ll, _, rfl, iteF ?_⟩
  refine ⟨_, rfl, a, _, rfl, .inl ha, _, _, rfl, rfl, _, rfl, ifF (decide_eq_false (by omega)) ?_⟩
  refine ⟨_, rfl, a, rfl, ⟨_, ha⟩, for_list (K := K) (a := a) (xs := us) (fun i σ H' => ∃ y, σ = [some (.ref a), y] ∧ Same H H') ⟨_, rfl, Same.refl _⟩ (fun i σ H' _ ⟨_, _, e⟩ => e.seq ha) ?_ ?_⟩
  · rintro i x σ H' hi ⟨y, rfl, e⟩
    obtain ⟨wt, hwt, htr⟩ := hU.getX hi
    obtain ⟨at_, z, o, rfl, h1, h2, h3⟩ := (htr.mono (tk_same e)).ex
    have wk := hw wt (List.mem_of_getElem? hwt)
    refine ⟨_, rfl, _, _, _, _, _, rfl, .ty _, tyx_T h1, kit_ty kb_tt, _, rfl, iteF ?_⟩
    refine ⟨_, rfl, at_, _, rfl, .inr h1, rfl, _, rfl, iteF ?_⟩
    refine ⟨_, rfl, at_, _, _, _, rfl, rfl, h1, rfl, _, _, rfl, by omega, by have := wk.k; omega, _, rfl, iteF ?_⟩
    refine ⟨_, rfl, at_, _, _, _, rfl, rfl, h1, rfl, z, wt.z, rfl, h2, wk.z, fun H1 s1 => ⟨_, rfl, iteF ?_⟩⟩
    refine ⟨_, rfl, at_, _, _, _, rfl, rfl, same_tup s1 h1, rfl, o, wt.o, rfl, h3.mono (tk_same s1), wk.o, fun H2 s2 => ⟨_, rfl, iteF ?_⟩⟩
    exact ⟨_, rfl, (e.trans s1).trans s2⟩
  · rintro σ H' ⟨y, rfl, e⟩
    exact q H' e
abbrev s_effect : Stmt := topS 34
theorem sc_effect : FnScope ["word", "bits", "point", "index", "zero", "one", "triple"] ["word", "bits", "point"] (defScope s_effect) := ⟨rfl, rfl, rfl, by decide +kernel, rfl, by decide +kernel, by decide +kernel⟩
def spEffect (K : PySem.W.Frag) : Sp := fun vs H Q _ => ∃ (a b : Addr) (ws : List Tp) (bs : List Bool) (x : Nat), vs = [.ref a, .ref b, vn x] ∧ WordAt K H a ws ∧ ws.length ≤ 20000 ∧ (∀ w ∈ ws, TpP w) ∧ SqL K H b (bs.map V.bl) ∧ bs.length = 60 ∧ x < 5 ∧
  ∀ H', Same H H' → Q (vn (runW (bf bs) ws x)) H'
theorem pick_lt {bs : List Bool} {wt : Tp} (h : TpP wt) {x : Nat} (hx : x < 5) : ap (wt.pick (bf bs)) x < 5 := by
  unfold Tp.pick
  split
  · exact ap_lt h.o hx
  · exact ap_lt h.z hx
theorem runW_lt2 {bs : List Bool} : ∀ {ws : List Tp} {x : Nat}, (∀ w ∈ ws, TpP w) → x < 5 → runW (bf bs) ws x < 5
  | [], _, _, h => h
  | w :: r, x, h, hx => runW_lt2 (ws := r) (fun u hu => h u (List.mem_cons_of_mem _ hu)) (pick_lt (h w List.mem_cons_self) hx)
theorem runW_take {bits : Nat → Bool} {ws : List Tp} {i : Nat} {t : Tp} {x : Nat} (h : ws[i]? = some t) : runW bits (ws.take (i + 1)) x = ap (t.pick bits) (runW bits (ws.take i) x) := by
  rw [List.take_add_one, h, runW_app]
  rfl
theorem ok_effect (T : Txt K w mg) (D : Df K mg "effect" s_effect ["word", "bits", "point"]) (C_check_word : Cal P w K mg base 4 "check_word" (spCheckW K)) (C_is_number : Cal P w K mg base 2 "is_number" spIsNumber) (C_check_bits : Cal P w K mg base 1 "check_bits" (spBits K)) :
    Cal P w K mg base 5 "effect" (spEffect K) := by
  refine D.ok sc_effect (fun vs H Q E h => ?_) (fun f cdv A outer s H vs Q E hr h => ?_)
  · obtain ⟨_, _, _, _, _, rfl, _⟩ := h
    rfl
  obtain ⟨a, b, ws, bs, x, rfl, hW, hlen, hw, hb, h60, hx, q⟩ := h
  obtain ⟨us, ha, hU⟩ := id hW.ex
  have hul := hU.len
  refine ⟨_, (pss_cons (ps_expr (pe_cal C_check_word hr (by decide) (by rfl) (pa_cons (pv 0) pa_nil)))
(pss_cons (ps_if (pt_not (pt_val (pe_cal C_is_number hr (by decide) (by rfl) (pa_cons (pv 2) (pa_cons (pe_globI rfl T.g_POINTS) pa_nil)))))
(pss_one ps_never)
pss_nil)
(pss_cons (ps_expr (pe_cal C_check_bits hr (by decide) (by rfl) (pa_cons (pv 1) (pa_cons (pe_lc (own := [("triple", 6)]) (g := gName 6) (tt := tYes) (te := tOp (rIxT K) (tVar 6) (tC (.int 0))) (by rfl) sc_effect.nd (pi_list (pv 0)) (blkOk_by (own := [("triple", 6)]) (N := ["word", "bits", "point", "index", "zero", "one", "triple"]) (sc := defScope s_effect) (by decide +kernel)) (fun _ _ _ _ _ => pg_name (i := 6) sc_effect.nd rfl (Or.inl rfl)) (fun _ _ _ _ _ => pts_nil) (fun _ _ _ _ _ => (pe_ix ix_tup (pv 6) pe_int (fun _ _ => rfl)))) pa_nil))))
(pss_cons (ps_for PassesOwn.never rfl (pi_list (pv 0)) (pg_tup (by rfl) (pgs_cons (pg_name (i := 3) sc_effect.nd rfl (by first | exact Or.inl rfl | exact Or.inr rfl)) (pgs_cons (pg_name (i := 4) sc_effect.nd rfl (by first | exact Or.inl rfl | exact Or.inr rfl)) (pgs_cons (pg_name (i := 5) sc_effect.nd rfl (by first | exact Or.inl rfl | exact Or.inr rfl)) pgs_nil))))
(pss_one (ps_set (i := 2) sc_effect.nd rfl (by first | exact Or.inl rfl | exact Or.inr rfl) (pe_ifExp (pt_val (pe_ix ix_list (pv 1) (pv 3) (fun _ _ => rfl))) (pe_ix ix_tup (pv 5) (pv 2) (fun _ _ => rfl)) (pe_ix ix_tup (pv 4) (pv 2) (fun _ _ => rfl))))))
(pss_one (ps_ret (pv 2))))))), ?_⟩
  refine ⟨_, rfl, a, ws, rfl, hW, hlen, hw, fun H1 s1 => ?_⟩
  refine ⟨_, rfl, _, _, rfl, by omega, by omega, _, rfl, iteF ?_⟩
  have ha1 := s1.seq ha
  refine ⟨_, rfl, _, rfl, a, rfl, ⟨_, ha1⟩, fun D hD => lc_list (K := K) (a := a) (xs := us) (fun i H' => Same H1 H' ∧ H' D = some (.lst ((ws.take i).map fun t => vn t.k))) ⟨same_new hD _, upd_same⟩ (fun i H' _ ⟨e, _⟩ => e.seq ha1) ?_ ?_⟩
  · rintro i y H' hi ⟨e, eD⟩
    obtain ⟨wt, hwt, htr⟩ := hU.getX hi
    obtain ⟨at_, z, o, rfl, h1, h2, h3⟩ := (htr.mono (tk_same (s1.trans e))).ex
    have hil : i < us.length := (List.getElem?_eq_some_iff.mp hi).1
    refine ⟨rfl, _, rfl, at_, _, _, _, rfl, rfl, h1, rfl, _, eD, ?_, same_write e hD, ?_⟩
    · rw [List.length_map, List.length_take]
      exact szl (by omega)
    · rw [upd_same, List.take_add_one, hwt]
      rw [List.map_append]
      rfl
  · rintro H' ⟨e, eD⟩
    have eD2 : H' D = some (.lst ((ws.map Tp.k).map vn)) := by
      rw [eD, hul, List.take_length, List.map_map]
      rfl
    refine ⟨b, D, bs, ws.map Tp.k, rfl, (s1.trans e).seq hb, h60, SqL.of eD2, fun k hk => ?_, fun H3 s3 => ?_⟩
    · obtain ⟨t, ht, rfl⟩ := List.mem_map.mp hk
      exact (hw t ht).k
    have sA := (s1.trans e).trans s3
    refine ⟨_, rfl, a, rfl, ⟨_, sA.seq ha⟩, for_list (K := K) (a := a) (xs := us) (fun i σ H' => ∃ y z u, H' = H3 ∧ σ = [some (.ref a), some (.ref b), some (vn (runW (bf bs) (ws.take i) x)), y, z, u, none])
      ⟨_, _, _, rfl, rfl⟩ (fun i σ H' _ ⟨_, _, _, e2, _⟩ => by rw [e2]; exact sA.seq ha) ?_ ?_⟩
    · rintro i y σ H4 hi ⟨y1, z1, u1, rfl, rfl⟩
      obtain ⟨wt, hwt, htr⟩ := hU.getX hi
      obtain ⟨at_, z, o, rfl, h1, ⟨az, rfl, h2⟩, ⟨ao, rfl, h3⟩⟩ := (htr.mono (tk_same sA)).ex
      have wk := hw wt (List.mem_of_getElem? hwt)
      have hp5 : runW (bf bs) (ws.take i) x < 5 := runW_lt2 (fun u hu => hw u (List.mem_of_mem_take hu)) hx
      refine ⟨at_, _, rfl, h1, rfl, _, _, rfl, _, _, rfl, _, _, rfl, rfl, ?_⟩
      refine ⟨_, rfl, _, rfl, b, _, _, _, rfl, rfl, sA.seq hb, bf_at (by rw [h60]; exact wk.k), _, rfl, ?_⟩
      cases hbit : bf bs wt.k with
      | true =>
        refine iteT ⟨_, rfl, _, rfl, ao, _, _, _, rfl, rfl, h3, atI_vn (by rw [wk.o.1]; exact hp5), ?_⟩
        refine ⟨some (vn wt.k), some (.ref az), some (.ref ao), rfl, ?_⟩
        rw [runW_take hwt]
        unfold Tp.pick
        rw [if_pos hbit]
        rfl
      | false =>
        refine iteF ⟨_, rfl, _, rfl, az, _, _, _, rfl, rfl, h2, atI_vn (by rw [wk.z.1]; exact hp5), ?_⟩
        refine ⟨some (vn wt.k), some (.ref az), some (.ref ao), rfl, ?_⟩
        rw [runW_take hwt]
        unfold Tp.pick
        rw [if_neg (by rw [hbit]; decide)]
        rfl
    · rintro σ H4 ⟨y1, z1, u1, rfl, rfl⟩
      rw [hul, List.take_length]
      exact ⟨_, rfl, q _ sA⟩
/-! ### the law's own defs that read -/
abbrev s_l_integer : Stmt := topS 41
theorem sc_l_integer : FnScope ["_law_number", "_law_low", "_law_high"] ["_law_number", "_law_low", "_law_high"] (defScope s_l_integer) := ⟨rfl, rfl, rfl, by decide +kernel, rfl, by decide +kernel, by decide +kernel⟩
def spLInteger : Sp := fun vs H Q _ => ∃ n lo hi : Int, vs = [.int n, .int lo, .int hi] ∧ lo ≤ n ∧ n ≤ hi ∧ Q (.bl true) H
theorem ok_l_integer (T : Txt K w mg) (D : Df K mg "_law_integer" s_l_integer ["_law_number", "_law_low", "_law_high"]) : Cal P w K mg base 1 "_law_integer" spLInteger := by
  refine D.ok sc_l_integer (fun vs H Q E h => ?_) (fun f cdv A outer s H vs Q E hr h => ?_)
  · obtain ⟨_, _, _, rfl, _⟩ := h
    rfl
  obtain ⟨n, lo, hi, rfl, h0, h1, q⟩ := h
  refine ⟨_, (pss_one (ps_ret (pe_and (pe_callB call_isi (by rfl) T.b_isinstance (by decide +kernel) (pa_cons (pv 0) (pa_cons (pe_bty (n := "int") (by rfl) T.b_int (by decide +kernel)) pa_nil))) (pe_and (pe_not (pe_callB call_isi (by rfl) T.b_isinstance (by decide +kernel) (pa_cons (pv 0) (pa_cons (pe_bty (n := "bool") (by rfl) T.b_bool (by decide +kernel)) pa_nil)))) (pe_one (pe_chain op_le op_le (pv 1) (pv 0) (pv 2))))))), ?_⟩
  refine ⟨_, rfl, _, _, _, _, _, rfl, .ty _, .base (.int _), kit_ty kb_ii, _, rfl, iteT ?_⟩
  refine ⟨_, rfl, _, _, _, _, _, rfl, .ty _, .base (.int _), kit_ty kb_ib, _, rfl, _, rfl, iteT ?_⟩
  refine ⟨_, rfl, _, rfl, _, _, rfl, rfl, _, rfl, ifT (decide_eq_true h0) ?_⟩
  refine ⟨_, rfl, _, _, rfl, rfl, ?_⟩
  show Q (.bl (decide (n ≤ hi))) H
  rw [decide_eq_true h1]
  exact q
abbrev s_l_is_permutation : Stmt := topS 49
theorem sc_l_is_permutation : FnScope ["_law_sent_here", "_law_point"] ["_law_sent_here"] (defScope s_l_is_permutation) := ⟨rfl, rfl, rfl, by decide +kernel, rfl, by decide +kernel, by decide +kernel⟩
theorem ok_l_is_permutation (T : Txt K w mg) (D : Df K mg "_law_is_permutation" s_l_is_permutation ["_law_sent_here"]) (C_l_integer : Cal P w K mg base 1 "_law_integer" spLInteger) : Cal P w K mg base 2 "_law_is_permutation" (spIsPerm K) := by
  refine D.ok sc_l_is_permutation (fun vs H Q E h => ?_) (fun f cdv A outer s H vs Q E hr h => ?_)
  · obtain ⟨_, _, rfl, _⟩ := h
    rfl
  obtain ⟨x, p, rfl, ⟨ax, rfl, hx⟩, hp, q⟩ := h
  have hlen : (p.map vn).length = 5 := by rw [List.length_map]; exact hp.1
  refine ⟨_, (pss_cons (ps_if (PW.pt (pw_or (pt_not (pt_val (pe_callB call_isi (by rfl) T.b_isinstance (by decide +kernel) (pa_cons (pv 0) (pa_cons (pe_bty (n := "tuple") (by rfl) T.b_tuple (by decide +kernel)) pa_nil))))) (pw_or1 (pt_cmpR op_ne (pe_callB call_len_seq (by rfl) T.b_len PySem.boot_len (pa_cons (pv 0) pa_nil)) pe_int (nomark _)))))
(pss_one (ps_ret pe_bl))
pss_nil)
(pss_cons (ps_for PassesOwn.never rfl (pi_tup (pv 0)) (pg_name (i := 1) sc_l_is_permutation.nd rfl (by first | exact Or.inl rfl | exact Or.inr rfl))
(pss_one (ps_if (pt_not (pt_val (pe_cal C_l_integer hr (by decide) (by rfl) (pa_cons (pv 1) (pa_cons pe_int (pa_cons pe_int pa_nil))))))
(pss_one (ps_ret pe_bl))
pss_nil)))
(pss_one (ps_ret (pe_cmpR op_eq (RZ.pe_lenSetI (by rfl) T.b_len (by rfl) T.b_set (pe_callTy call_list_of (by rfl) T.b_list (by decide +kernel) (pa_cons (pv 0) pa_nil))) pe_int (nomark _)))))), ?_⟩
  refine ⟨_, rfl, _, _, _, _, _, rfl, .ty _, tyx_T hx, kit_ty kb_tt, _, rfl, iteF ?_⟩
  refine ⟨_, rfl, ax, _, rfl, .inr hx, rfl, _, rfl, ?_⟩
  rw [hlen]
  refine iteF ?_
  refine ⟨_, rfl, ax, rfl, ⟨_, hx⟩, for_tup (K := K) (a := ax) (xs := p.map vn) (fun i σ H' => H' = H ∧ ∃ y, σ = [some (.ref ax), y]) ⟨rfl, _, rfl⟩ (fun i σ H' _ ⟨e, _⟩ => by rw [e]; exact hx) ?_ ?_⟩
  · rintro i x σ H' hi ⟨rfl, y, rfl⟩
    rw [List.getElem?_map] at hi
    cases hpi : p[i]? with
    | none => rw [hpi] at hi; cases hi
    | some z =>
      rw [hpi] at hi
      have e : x = vn z := (Option.some.inj hi).symm
      subst e
      have hz := hp.2.1 z (List.mem_of_getElem? hpi)
      refine ⟨_, rfl, _, _, _, rfl, by omega, by omega, _, rfl, iteF ?_⟩
      exact ⟨rfl, _, rfl⟩
  · rintro σ H' ⟨rfl, y, rfl⟩
    refine ⟨_, rfl, ax, _, rfl, .inr hx, fun l hl => ?_⟩
    refine ⟨l, p.map Int.ofNat, rfl, by rw [← vp_eq]; exact SqL.of upd_same, nodup_map hp.2.2 (fun x _ y _ e => by
      have e2 : (x : Int) = (y : Int) := e
      omega), by rw [List.length_map, hp.1]; decide, rfl, ?_⟩
    have e5 : decide (V.int (((p.map Int.ofNat).length : Nat) : Int) = V.int 5) = true := by
      rw [List.length_map, hp.1]
      rfl
    show Q (.bl (decide (V.int (((p.map Int.ofNat).length : Nat) : Int) = V.int 5))) _
    rw [e5]
    exact q _ (same_new hl _)
abbrev s_l_form : Stmt := topS 50
theorem sc_l_form : FnScope ["_law_word", "_law_source", "_law_many", "_law_named", "_law_triple", "_law_node"] ["_law_word", "_law_source", "_law_many"] (defScope s_l_form) := ⟨rfl, rfl, rfl, by decide +kernel, rfl, by decide +kernel, by decide +kernel⟩
def tNamed (K : PySem.W.Frag) : TT := tTest (tOp rEq (tOp (rIxT K) (tVar 5) (tC (.int 0))) (tC (.str "input")))
def spForm (K : PySem.W.Frag) : Sp := fun vs H Q _ => ∃ (a b : Addr) (ws : List Tp) (src : List Nd), vs = [.ref a, .ref b, vn ws.length] ∧ WordAt K H a ws ∧ ws.length ≤ 20000 ∧ (∀ w ∈ ws, TpOk src w) ∧ SrcAt K H b src ∧ Valid src ∧ src.length ≤ 200 ∧ ∀ H', Same H H' → Q (.bl true) H'
theorem inV_vn {k : Nat} {ks : List Nat} (h : k ∈ ks) : inV (vn k) (ks.map vn) = true := by
  unfold inV
  rw [List.any_map]
  refine List.any_eq_true.mpr ⟨k, h, ?_⟩
  show eqV (vn k) (vn k) = true
  unfold eqV vn
  simp
theorem ok_l_form (T : Txt K w mg) (D : Df K mg "_law_form" s_l_form ["_law_word", "_law_source", "_law_many"]) (C_l_integer : Cal P w K mg base 1 "_law_integer" spLInteger) (C_l_is_permutation : Cal P w K mg base 2 "_law_is_permutation" (spIsPerm K)) : Cal P w K mg base 3 "_law_form" (spForm K) := by
  refine D.ok sc_l_form (fun vs H Q E h => ?_) (fun f cdv A outer s H vs Q E hr h => ?_)
  · obtain ⟨_, _, _, _, rfl, _⟩ := h
    rfl
  obtain ⟨a, b, ws, src, rfl, hW, hlen, hw, ⟨vs, hS, hV⟩, hv, h200, q⟩ := h
  obtain ⟨us, ha, hU⟩ := id hW.ex
  have hul := hU.len
  have hvl := hV.len
  refine ⟨_, (pss_cons (ps_setLc (i := 3) (own := [("_law_node", 5)]) (g := gName 5) (tt := tNamed K) (te := tOp (rIxT K) (tVar 5) (tC (.int 1))) (by rfl) sc_l_form.nd rfl rfl (sw_true rfl rfl rfl (by decide +kernel)) (pi_tup (pv 1)) (blkOk_by (own := [("_law_node", 5)]) (N := ["_law_word", "_law_source", "_law_many", "_law_named", "_law_triple", "_law_node"]) (sc := defScope s_l_form) (by decide +kernel)) (fun _ _ _ _ _ => pg_name (i := 5) sc_l_form.nd rfl (Or.inl rfl)) (fun _ _ _ _ _ => pts_one (pt_cmpR op_eq (pe_ix ix_tup (pv 5) pe_int (fun _ _ => rfl)) pe_str (nomark _))) (fun _ _ _ _ _ => (pe_ix ix_tup (pv 5) pe_int (fun _ _ => rfl))))
(pss_cons (ps_if (PW.pt (pw_or (pt_not (pt_val (pe_callB call_isi (by rfl) T.b_isinstance (by decide +kernel) (pa_cons (pv 0) (pa_cons (pe_bty (n := "list") (by rfl) T.b_list (by decide +kernel)) pa_nil))))) (pw_or1 (pt_cmpR op_ne (pe_callB call_len_seq (by rfl) T.b_len PySem.boot_len (pa_cons (pv 0) pa_nil)) (pv 2) (nomark _)))))
(pss_one (ps_ret pe_bl))
pss_nil)
(pss_cons (ps_for PassesOwn.never rfl (pi_list (pv 0)) (pg_name (i := 4) sc_l_form.nd rfl (by first | exact Or.inl rfl | exact Or.inr rfl))
(pss_cons (ps_if (PW.pt (pw_or (pt_not (pt_val (pe_callB call_isi (by rfl) T.b_isinstance (by decide +kernel) (pa_cons (pv 4) (pa_cons (pe_bty (n := "tuple") (by rfl) T.b_tuple (by decide +kernel)) pa_nil))))) (pw_or (pt_cmpR op_ne (pe_callB call_len_seq (by rfl) T.b_len PySem.boot_len (pa_cons (pv 4) pa_nil)) pe_int (nomark _)) (pw_or1 (pt_not (pt_val (pe_cal C_l_integer hr (by decide) (by rfl) (pa_cons (pe_ix ix_tup (pv 4) pe_int (fun _ _ => rfl)) (pa_cons pe_int (pa_cons pe_int pa_nil))))))))))
(pss_one (ps_ret pe_bl))
pss_nil)
(pss_one (ps_if (PW.pt (pw_or (pt_cmpR op_notIn_seq (pe_ix ix_tup (pv 4) pe_int (fun _ _ => rfl)) (pv 3) rfl) (pw_or (pt_not (pt_val (pe_cal C_l_is_permutation hr (by decide) (by rfl) (pa_cons (pe_ix ix_tup (pv 4) pe_int (fun _ _ => rfl)) pa_nil)))) (pw_or1 (pt_not (pt_val (pe_cal C_l_is_permutation hr (by decide) (by rfl) (pa_cons (pe_ix ix_tup (pv 4) pe_int (fun _ _ => rfl)) pa_nil))))))))
(pss_one (ps_ret pe_bl))
pss_nil))))
(pss_one (ps_ret pe_bl))))), ?_⟩
  refine ⟨_, rfl, b, rfl, ⟨_, hS⟩, fun D hD => lc_tup (K := K) (a := b) (xs := vs) (fun i H' => ∃ ks : List Nat, Same H H' ∧ H' D = some (.lst (ks.map vn)) ∧ ks.length ≤ i ∧ ∀ j k, j < i → src[j]? = some (Nd.inp k) → k ∈ ks)
    ⟨[], same_new hD _, upd_same, Nat.le_refl _, fun j k h => absurd h (Nat.not_lt_zero j)⟩ (fun i H' _ ⟨_, e, _⟩ => same_tup e hS) ?_ ?_⟩
  · rintro i x H' hi ⟨ks, e, eD, hkl, hks⟩
    obtain ⟨nd, hnd, ⟨an, rfl, hn0⟩⟩ := hV.getX hi
    have hn := same_tup e hn0
    have hil : i < 200 := by
      have := (List.getElem?_eq_some_iff.mp hi).1
      omega
    cases nd with
    | inp k =>
      refine ⟨rfl, _, rfl, an, _, _, _, rfl, rfl, hn, rfl, rfl, _, rfl, ifT (s_eq _) ?_⟩
      refine ⟨_, rfl, an, _, _, _, rfl, rfl, hn, rfl, _, eD, by rw [List.length_map]; exact szl (by omega), ks ++ [k], same_write e hD, ?_, by rw [List.length_append, List.length_singleton]; omega, fun j k2 hj hjk => ?_⟩
      · rw [upd_same, List.map_append]
        rfl
      · by_cases hji : j = i
        · subst hji
          rw [hnd] at hjk
          cases hjk
          exact List.mem_append_right _ (List.mem_singleton.mpr rfl)
        · exact List.mem_append_left _ (hks j k2 (by omega) hjk)
    | no i1 =>
      refine ⟨rfl, _, rfl, an, _, _, _, rfl, rfl, hn, rfl, rfl, _, rfl, ifF s_ne4 ⟨ks, e, eD, by omega, fun j k2 hj hjk => ?_⟩⟩
      by_cases hji : j = i
      · subst hji; rw [hnd] at hjk; cases hjk
      · exact hks j k2 (by omega) hjk
    | an i1 i2 =>
      refine ⟨rfl, _, rfl, an, _, _, _, rfl, rfl, hn, rfl, rfl, _, rfl, ifF s_ne5 ⟨ks, e, eD, by omega, fun j k2 hj hjk => ?_⟩⟩
      by_cases hji : j = i
      · subst hji; rw [hnd] at hjk; cases hjk
      · exact hks j k2 (by omega) hjk
    | orr i1 i2 =>
      refine ⟨rfl, _, rfl, an, _, _, _, rfl, rfl, hn, rfl, rfl, _, rfl, ifF s_ne6 ⟨ks, e, eD, by omega, fun j k2 hj hjk => ?_⟩⟩
      by_cases hji : j = i
      · subst hji; rw [hnd] at hjk; cases hjk
      · exact hks j k2 (by omega) hjk
  · rintro H1 ⟨ks, e, eD, hkl, hks⟩
    rw [hvl] at hks
    have ha1 := e.seq ha
    refine ⟨_, rfl, _, _, _, _, _, rfl, .ty _, tyx_L ha1, kit_ty kb_ll, _, rfl, iteF ?_⟩
    refine ⟨_, rfl, a, _, rfl, .inl ha1, _, rfl, rfl, _, rfl, ifF (by rw [hul]; exact dec_self _) ?_⟩
    refine ⟨_, rfl, a, rfl, ⟨_, ha1⟩, for_list (K := K) (a := a) (xs := us) (fun i σ H' => ∃ y, σ = [some (.ref a), some (.ref b), some (vn ws.length), some (.ref D), y, none] ∧ Same H1 H') ⟨_, rfl, Same.refl _⟩ (fun i σ H' _ ⟨_, _, e2⟩ => e2.seq ha1) ?_ ?_⟩
    · rintro i x σ H' hi ⟨y, rfl, e2⟩
      obtain ⟨wt, hwt, htr⟩ := hU.getX hi
      have sA := e.trans e2
      obtain ⟨at_, z, o, rfl, h1, h2, h3⟩ := (htr.mono (tk_same sA)).ex
      have wk := hw wt (List.mem_of_getElem? hwt)
      have hk60 := named_lt hv wk.k
      obtain ⟨j, hj⟩ := wk.k
      have hmem := hks j wt.k (List.getElem?_eq_some_iff.mp hj).1 hj
      have eD2 := e2 _ _ eD
      refine ⟨_, rfl, _, _, _, _, _, rfl, .ty _, tyx_T h1, kit_ty kb_tt, _, rfl, iteF ?_⟩
      refine ⟨_, rfl, at_, _, rfl, .inr h1, rfl, _, rfl, iteF ?_⟩
      refine ⟨_, rfl, at_, _, _, _, rfl, rfl, h1, rfl, _, _, _, rfl, by omega, by omega, _, rfl, iteF ?_⟩
      refine ⟨_, rfl, at_, _, _, _, rfl, rfl, h1, rfl, _, rfl, D, _, rfl, .inl (SqL.of eD2), rfl, flat_vn _, _, rfl, ifF (by rw [inV_vn hmem]; rfl) ?_⟩
      refine ⟨_, rfl, at_, _, _, _, rfl, rfl, h1, rfl, z, wt.z, rfl, h2, wk.z, fun H3 s3 => ⟨_, rfl, iteF ?_⟩⟩
      refine ⟨_, rfl, at_, _, _, _, rfl, rfl, same_tup s3 h1, rfl, o, wt.o, rfl, h3.mono (tk_same s3), wk.o, fun H4 s4 => ⟨_, rfl, iteF ?_⟩⟩
      exact ⟨_, rfl, (e2.trans s3).trans s4⟩
    · rintro σ H' ⟨y, rfl, e2⟩
      exact q H' (e.trans e2)
abbrev s_l_sent : Stmt := topS 51
theorem sc_l_sent : FnScope ["_law_word", "_law_bits_here", "_law_points", "_law_triple", "_law_sent_here", "_law_point"] ["_law_word", "_law_bits_here"] (defScope s_l_sent) := ⟨rfl, rfl, rfl, by decide +kernel, rfl, by decide +kernel, by decide +kernel⟩
def spSent (K : PySem.W.Frag) : Sp := fun vs H Q _ => ∃ (a b : Addr) (ws : List Tp) (bs : List Bool), vs = [.ref a, .ref b] ∧ WordAt K H a ws ∧ (∀ w ∈ ws, TpP w) ∧ SqL K H b (bs.map V.bl) ∧ bs.length = 60 ∧
  ∀ l H', Same H H' → H' l = some (.lst (((List.range 5).map fun x => runW (bf bs) ws x).map vn)) → Q (.ref l) H'
theorem ok_l_sent (T : Txt K w mg) (D : Df K mg "_law_sent" s_l_sent ["_law_word", "_law_bits_here"]) : Cal P w K mg base 1 "_law_sent" (spSent K) := by
  refine D.ok sc_l_sent (fun vs H Q E h => ?_) (fun f cdv A outer s H vs Q E hr h => ?_)
  · obtain ⟨_, _, _, _, rfl, _⟩ := h
    rfl
  obtain ⟨a, b, ws, bs, rfl, hW, hw, hb, h60, q⟩ := h
  obtain ⟨us, ha, hU⟩ := id hW.ex
  have hul := hU.len
  refine ⟨_, (pss_cons (ps_set (i := 2) sc_l_sent.nd rfl (by first | exact Or.inl rfl | exact Or.inr rfl) (pe_lst (pa_cons pe_int (pa_cons pe_int (pa_cons pe_int (pa_cons pe_int (pa_cons pe_int pa_nil)))))))
(pss_cons (ps_for PassesOwn.never rfl (pi_list (pv 0)) (pg_name (i := 3) sc_l_sent.nd rfl (by first | exact Or.inl rfl | exact Or.inr rfl))
(pss_cons (ps_set (i := 4) sc_l_sent.nd rfl (by first | exact Or.inl rfl | exact Or.inr rfl) (pe_ix ix_tup (pv 3) pe_int (fun _ _ => rfl)))
(pss_cons (ps_if (pt_val (pe_ix ix_list (pv 1) (pe_ix ix_tup (pv 3) pe_int (fun _ _ => rfl)) (fun _ _ => rfl)))
(pss_one (ps_set (i := 4) sc_l_sent.nd rfl (by first | exact Or.inl rfl | exact Or.inr rfl) (pe_ix ix_tup (pv 3) pe_int (fun _ _ => rfl))))
pss_nil)
(pss_one (ps_setLc (i := 2) (own := [("_law_point", 5)]) (g := gName 5) (tt := tYes) (te := tOp (rIxT K) (tVar 4) (tVar 5)) (by rfl) sc_l_sent.nd rfl rfl (sw_true rfl rfl rfl (by decide +kernel)) (pi_list (pv 2)) (blkOk_by (own := [("_law_point", 5)]) (N := ["_law_word", "_law_bits_here", "_law_points", "_law_triple", "_law_sent_here", "_law_point"]) (sc := defScope s_l_sent) (by decide +kernel)) (fun _ _ _ _ _ => pg_name (i := 5) sc_l_sent.nd rfl (Or.inl rfl)) (fun _ _ _ _ _ => pts_nil) (fun _ _ _ _ _ => (pe_ix ix_tup (pv 4) (pv 5) (fun _ _ => rfl))))))))
(pss_one (ps_ret (pv 2))))), ?_⟩
  refine ⟨by show 5 ≤ sizeLine; decide, fun l0 hl0 => ?_⟩
  have s0 := same_new hl0 (.lst [.int 0, .int 1, .int 2, .int 3, .int 4])
  refine ⟨_, rfl, a, rfl, ⟨_, s0.seq ha⟩, for_list (K := K) (a := a) (xs := us) (fun i σ H' => ∃ l y z, σ = [some (.ref a), some (.ref b), some (.ref l), y, z, none] ∧ Same H H' ∧ H' l = some (.lst (((List.range 5).map fun x => runW (bf bs) (ws.take i) x).map vn)))
    ⟨l0, _, _, rfl, s0, upd_same⟩ (fun i σ H' _ ⟨_, _, _, _, e, _⟩ => e.seq ha) ?_ ?_⟩
  · rintro i x σ H' hi ⟨l, y, z0, rfl, e, el⟩
    obtain ⟨wt, hwt, htr⟩ := hU.getX hi
    obtain ⟨at_, z, o, rfl, h1, h2, h3⟩ := (htr.mono (tk_same e)).ex
    have wk := hw wt (List.mem_of_getElem? hwt)
    have step : ∀ (sent : Addr) (p : P5), p = wt.pick (bf bs) → SqT K H' sent (p.map vn) →
        (tAsg (tLc (iList K (tVar 2)) (gName 5) tYes (tOp (rIxT K) (tVar 4) (tVar 5)) [5]) (gName 2)) { nx := fun σ' H' => ∃ l y z, σ' = [some (.ref a), some (.ref b), some (.ref l), y, z, none] ∧ Same H H' ∧ H' l = some (.lst (((List.range 5).map fun x => runW (bf bs) (ws.take (i + 1)) x).map vn)), rt := Q, bk := fun _ _ => False, ct := fun _ _ => False }
          [some (.ref a), some (.ref b), some (.ref l), some (.ref at_), some (.ref sent), none] H' := by
      intro sent p hp hsent
      have hpp : IsPerm p := by
        rw [hp]
        unfold Tp.pick
        split
        · exact wk.o
        · exact wk.z
      refine ⟨_, rfl, l, rfl, ⟨_, SqL.of el⟩, fun D hD => lc_list (K := K) (a := l) (xs := ((List.range 5).map fun x => runW (bf bs) (ws.take i) x).map vn) (fun k H2 => Same H' H2 ∧ H2 D = some (.lst (((List.range k).map fun x => runW (bf bs) (ws.take (i + 1)) x).map vn)))
        ⟨same_new hD _, upd_same⟩ (fun k H2 _ ⟨e2, _⟩ => SqL.of (e2 _ _ el)) ?_ ?_⟩
      · rintro k x2 H2 hk ⟨e2, eD⟩
        have hk5 : k < 5 := by
          have := (List.getElem?_eq_some_iff.mp hk).1
          rwa [List.length_map, List.length_map, List.length_range] at this
        have ex : x2 = vn (runW (bf bs) (ws.take i) k) := by
          rw [List.getElem?_map, List.getElem?_map, List.getElem?_range hk5] at hk
          exact (Option.some.inj hk).symm
        subst ex
        have hp5 : runW (bf bs) (ws.take i) k < 5 := runW_lt2 (fun u hu => hw u (List.mem_of_mem_take hu)) hk5
        refine ⟨rfl, _, rfl, _, rfl, sent, _, _, _, rfl, rfl, same_tup e2 hsent, atI_vn (by rw [hpp.1]; exact hp5), _, eD, ?_, same_write e2 hD, ?_⟩
        · rw [List.length_map, List.length_map, List.length_range]
          exact szl (by omega)
        · rw [upd_same, List.range_succ, List.map_append, List.map_append]
          have er : runW (bf bs) (ws.take (i + 1)) k = ap p (runW (bf bs) (ws.take i) k) := by rw [runW_take hwt, hp]
          show _ = some (HO.lst (_ ++ [vn (runW (bf bs) (ws.take (i + 1)) k)]))
          rw [er]
      · rintro H2 ⟨e2, eD⟩
        refine ⟨D, _, _, rfl, e.trans e2, ?_⟩
        exact eD
    refine ⟨_, rfl, at_, _, _, _, rfl, rfl, h1, rfl, ?_⟩
    refine ⟨_, rfl, _, rfl, at_, _, _, _, rfl, rfl, h1, rfl, b, _, _, _, rfl, rfl, e.seq hb, bf_at (by rw [h60]; exact wk.k), _, rfl, ?_⟩
    obtain ⟨az, rfl, h2⟩ := h2
    obtain ⟨ao, rfl, h3⟩ := h3
    cases hbit : bf bs wt.k with
    | true =>
      refine iteT ?_
      refine ⟨_, rfl, at_, _, _, _, rfl, rfl, h1, rfl, ?_⟩
      exact step ao wt.o (by unfold Tp.pick; rw [if_pos hbit]) h3
    | false =>
      refine iteF ?_
      exact step az wt.z (by unfold Tp.pick; rw [if_neg (by rw [hbit]; decide)]) h2
  · rintro σ H' ⟨l, y, z, rfl, e, el⟩
    rw [hul, List.take_length] at el
    exact ⟨_, rfl, q l H' e el⟩
end
end K24
set_option Elab.async false
set_option linter.all false
set_option maxRecDepth 100000
set_option maxHeartbeats 4000000
namespace K24
open PySem PySem.Spec PyProof.Rows L2
section
variable {P : Program} {w : World} {K : PySem.W.Frag} {mg : Str → Option Value} {base : Heap}
theorem tru_at {f : Nat → Bool} {n i : Nat} (h : i < n) : atI ((List.range n).map fun j => V.bl (f j)) ((i : Nat) : Int) = some (.bl (f i)) := atI_v (by
  rw [List.getElem?_map, List.getElem?_range h]
  rfl)
theorem tru_succ {f : Nat → Bool} {n : Nat} : ((List.range (n + 1)).map fun j => V.bl (f j)) = ((List.range n).map fun j => V.bl (f j)) ++ [V.bl (f n)] := by
  rw [List.range_succ, List.map_append]
  rfl
abbrev s_l_truth : Stmt := topS 45
theorem sc_l_truth : FnScope ["_law_source", "_law_bits_here", "_law_values", "_law_node"] ["_law_source", "_law_bits_here"] (defScope s_l_truth) := ⟨rfl, rfl, rfl, by decide +kernel, rfl, by decide +kernel, by decide +kernel⟩
def spTruth (K : PySem.W.Frag) : Sp := fun vs H Q _ => ∃ (a b : Addr) (src : List Nd) (bs : List Bool) (T : Nat → Bool), vs = [.ref a, .ref b] ∧ SrcAt K H a src ∧ Valid src ∧ 1 ≤ src.length ∧ src.length ≤ 200 ∧ SqL K H b (bs.map V.bl) ∧ bs.length = 60 ∧ IsTru src (bf bs) T ∧
  ∀ H', Same H H' → Q (.bl (T (src.length - 1))) H'
theorem ok_l_truth (T0 : Txt K w mg) (D : Df K mg "_law_truth" s_l_truth ["_law_source", "_law_bits_here"]) : Cal P w K mg base 1 "_law_truth" (spTruth K) := by
  have T := T0
  refine D.ok sc_l_truth (fun vs H Q E h => ?_) (fun f cdv A outer s H vs Q E hr h => ?_)
  · obtain ⟨_, _, _, _, _, rfl, _⟩ := h
    rfl
  obtain ⟨a, b, src, bs, Tr, rfl, ⟨vs, hS, hV⟩, hv, l1, l200, hb, h60, hT, q⟩ := h
  have hlen : vs.length = src.length := hV.len
  refine ⟨_, (pss_cons (ps_set (i := 2) sc_l_truth.nd rfl (by first | exact Or.inl rfl | exact Or.inr rfl) (pe_lst pa_nil))
(pss_cons (ps_for PassesOwn.never rfl (pi_tup (pv 0)) (pg_name (i := 3) sc_l_truth.nd rfl (by first | exact Or.inl rfl | exact Or.inr rfl))
(pss_one (ps_if (pt_cmpR op_eq (pe_ix ix_tup (pv 3) pe_int (fun _ _ => rfl)) pe_str (nomark _))
(pss_one (ps_expr (pe_bm PySem.F.plainAttrs_list PySem.F.slot_list_append PySem.F.type_list_append mt_append (pv 2) (pa_cons (pe_ix ix_list (pv 1) (pe_ix ix_tup (pv 3) pe_int (fun _ _ => rfl)) (fun _ _ => rfl)) pa_nil))))
(pss_one (ps_if (pt_cmpR op_eq (pe_ix ix_tup (pv 3) pe_int (fun _ _ => rfl)) pe_str (nomark _))
(pss_one (ps_expr (pe_bm PySem.F.plainAttrs_list PySem.F.slot_list_append PySem.F.type_list_append mt_append (pv 2) (pa_cons (pe_not (pe_ix ix_list (pv 2) (pe_ix ix_tup (pv 3) pe_int (fun _ _ => rfl)) (fun _ _ => rfl))) pa_nil))))
(pss_one (ps_if (pt_cmpR op_eq (pe_ix ix_tup (pv 3) pe_int (fun _ _ => rfl)) pe_str (nomark _))
(pss_one (ps_expr (pe_bm PySem.F.plainAttrs_list PySem.F.slot_list_append PySem.F.type_list_append mt_append (pv 2) (pa_cons (pe_and (pe_ix ix_list (pv 2) (pe_ix ix_tup (pv 3) pe_int (fun _ _ => rfl)) (fun _ _ => rfl)) (pe_one (pe_ix ix_list (pv 2) (pe_ix ix_tup (pv 3) pe_int (fun _ _ => rfl)) (fun _ _ => rfl)))) pa_nil))))
(pss_one (ps_expr (pe_bm PySem.F.plainAttrs_list PySem.F.slot_list_append PySem.F.type_list_append mt_append (pv 2) (pa_cons (pe_or (pe_ix ix_list (pv 2) (pe_ix ix_tup (pv 3) pe_int (fun _ _ => rfl)) (fun _ _ => rfl)) (pe_one (pe_ix ix_list (pv 2) (pe_ix ix_tup (pv 3) pe_int (fun _ _ => rfl)) (fun _ _ => rfl)))) pa_nil)))))))))))
(pss_one (ps_ret (pe_ix ix_list (pv 2) (pe_op op_sub (pe_callB call_len_seq (by rfl) T.b_len PySem.boot_len (pa_cons (pv 2) pa_nil)) pe_int) (fun _ _ => rfl)))))), ?_⟩
  refine ⟨Nat.zero_le _, fun l hl => ?_⟩
  have s2 := same_new hl (.lst [])
  refine ⟨_, rfl, a, rfl, ⟨_, same_tup s2 hS⟩, for_tup (K := K) (a := a) (xs := vs) (fun i σ H' => ∃ y, σ = [some (.ref a), some (.ref b), some (.ref l), y] ∧ Same H H' ∧ H' l = some (.lst ((List.range i).map fun j => V.bl (Tr j))))
    ⟨_, rfl, s2, upd_same⟩ (fun i σ H' _ ⟨_, _, e, _⟩ => same_tup e hS) ?_ ?_⟩
  · rintro i x σ H' hx ⟨y, rfl, e, el⟩
    obtain ⟨nd, hnd, ⟨an, rfl, hn0⟩⟩ := hV.getX hx
    have hn := same_tup e hn0
    have hok := hv i nd hnd
    have hTi := hT i nd hnd
    have hi200 : i < 200 := by
      have := (List.getElem?_eq_some_iff.mp hx).1
      omega
    have hz : ((List.range i).map fun j => V.bl (Tr j)).length < sizeLine := by
      rw [List.length_map, List.length_range]
      exact szl (by omega)
    have fin : ∀ v : V, v = V.bl (Tr i) → ∃ y, ([some (.ref a), some (.ref b), some (.ref l), some (.ref an)] : L2.St) = [some (.ref a), some (.ref b), some (.ref l), y] ∧ Same H (upd H' l (.lst (((List.range i).map fun j => V.bl (Tr j)) ++ [v]))) ∧ (upd H' l (.lst (((List.range i).map fun j => V.bl (Tr j)) ++ [v]))) l = some (.lst ((List.range (i + 1)).map fun j => V.bl (Tr j))) := fun v ev => by
      subst ev
      exact ⟨_, rfl, same_write e hl, by rw [upd_same, tru_succ]⟩
    cases nd with
    | inp k =>
      have hk : k < 60 := hok
      refine ⟨_, rfl, an, _, _, _, rfl, rfl, hn, rfl, rfl, _, rfl, ifT (s_eq _) ?_⟩
      refine ⟨_, rfl, .inl ⟨rfl, _, SqL.of el⟩, _, rfl, _, rfl, an, _, _, _, rfl, rfl, hn, rfl, b, _, _, _, rfl, rfl, e.seq hb, bf_at (by rw [h60]; exact hk), l, _, _, rfl, rfl, el, hz, ?_⟩
      exact fin _ (by rw [hTi]; rfl)
    | no j =>
      have hj : j < i := hok
      refine ⟨_, rfl, an, _, _, _, rfl, rfl, hn, rfl, rfl, _, rfl, ifF s_ne4 ?_⟩
      refine ⟨_, rfl, an, _, _, _, rfl, rfl, hn, rfl, rfl, _, rfl, ifT (s_eq _) ?_⟩
      refine ⟨_, rfl, .inl ⟨rfl, _, SqL.of el⟩, _, rfl, _, rfl, an, _, _, _, rfl, rfl, hn, rfl, l, _, _, _, rfl, rfl, SqL.of el, tru_at hj, _, rfl, l, _, _, rfl, rfl, el, hz, ?_⟩
      exact fin _ (by rw [hTi]; rfl)
    | an j k =>
      have hj : j < i := hok.1
      have hk : k < i := hok.2
      refine ⟨_, rfl, an, _, _, _, rfl, rfl, hn, rfl, rfl, _, rfl, ifF s_ne5 ?_⟩
      refine ⟨_, rfl, an, _, _, _, rfl, rfl, hn, rfl, rfl, _, rfl, ifF s_ne1 ?_⟩
      refine ⟨_, rfl, an, _, _, _, rfl, rfl, hn, rfl, rfl, _, rfl, ifT (s_eq _) ?_⟩
      refine ⟨_, rfl, .inl ⟨rfl, _, SqL.of el⟩, _, rfl, _, rfl, an, _, _, _, rfl, rfl, hn, rfl, l, _, _, _, rfl, rfl, SqL.of el, tru_at hj, _, rfl, ?_⟩
      cases hjt : Tr j with
      | true =>
        refine iteT ⟨_, rfl, _, rfl, an, _, _, _, rfl, rfl, hn, rfl, l, _, _, _, rfl, rfl, SqL.of el, tru_at hk, l, _, _, rfl, rfl, el, hz, ?_⟩
        refine fin _ ?_
        rw [hTi]
        show V.bl (Tr k) = V.bl (Tr j && Tr k)
        rw [hjt]
        rfl
      | false =>
        refine iteF ⟨l, _, _, rfl, rfl, el, hz, ?_⟩
        refine fin _ ?_
        rw [hTi]
        show V.bl false = V.bl (Tr j && Tr k)
        rw [hjt]
        rfl
    | orr j k =>
      have hj : j < i := hok.1
      have hk : k < i := hok.2
      refine ⟨_, rfl, an, _, _, _, rfl, rfl, hn, rfl, rfl, _, rfl, ifF s_ne6 ?_⟩
      refine ⟨_, rfl, an, _, _, _, rfl, rfl, hn, rfl, rfl, _, rfl, ifF s_ne2 ?_⟩
      refine ⟨_, rfl, an, _, _, _, rfl, rfl, hn, rfl, rfl, _, rfl, ifF s_ne3 ?_⟩
      refine ⟨_, rfl, .inl ⟨rfl, _, SqL.of el⟩, _, rfl, _, rfl, an, _, _, _, rfl, rfl, hn, rfl, l, _, _, _, rfl, rfl, SqL.of el, tru_at hj, _, rfl, ?_⟩
      cases hjt : Tr j with
      | true =>
        refine iteT ⟨l, _, _, rfl, rfl, el, hz, ?_⟩
        refine fin _ ?_
        rw [hTi]
        show V.bl true = V.bl (Tr j || Tr k)
        rw [hjt]
        rfl
      | false =>
        refine iteF ⟨_, rfl, _, rfl, an, _, _, _, rfl, rfl, hn, rfl, l, _, _, _, rfl, rfl, SqL.of el, tru_at hk, l, _, _, rfl, rfl, el, hz, ?_⟩
        refine fin _ ?_
        rw [hTi]
        show V.bl (Tr k) = V.bl (Tr j || Tr k)
        rw [hjt]
        rfl
  · rintro σ H' ⟨y, rfl, e, el⟩
    rw [hlen] at el
    refine ⟨_, rfl, _, rfl, l, _, rfl, .inl (SqL.of el), _, _, rfl, rfl, l, _, _, _, rfl, rfl, SqL.of el, at_of (j := src.length - 1) ?_ ?_, q H' e⟩
    · rw [List.length_map, List.length_range]
      show (src.length : Int) - 1 = _
      omega
    · rw [List.getElem?_map, List.getElem?_range (by omega)]
      rfl
/-! ### _law_equal: of ints, of lists of ints -/
abbrev s_l_equal : Stmt := topS 39
theorem sc_l_equal : FnScope ["_law_actual", "_law_due"] ["_law_actual", "_law_due"] (defScope s_l_equal) := ⟨rfl, rfl, rfl, by decide +kernel, rfl, by decide +kernel, by decide +kernel⟩
abbrev s_l_all_equal : Stmt := topS 40
theorem sc_l_all_equal : FnScope ["_law_actual", "_law_due", "_law_k"] ["_law_actual", "_law_due"] (defScope s_l_all_equal) := ⟨rfl, rfl, rfl, by decide +kernel, rfl, by decide +kernel, by decide +kernel⟩
def spEqI : Sp := fun vs H Q _ => ∃ n : Int, vs = [.int n, .int n] ∧ Q (.bl true) H
def spEqL (K : PySem.W.Frag) : Sp := fun vs H Q _ => ∃ (a b : Addr) (xs : List Nat), vs = [.ref a, .ref b] ∧ SqL K H a (xs.map vn) ∧ SqL K H b (xs.map vn) ∧ xs.length ≤ 1000 ∧ Q (.bl true) H
theorem ok_l_equalI (T : Txt K w mg) (D : Df K mg "_law_equal" s_l_equal ["_law_actual", "_law_due"]) : Cal P w K mg base 1 "_law_equal" spEqI := by
  refine D.ok sc_l_equal (fun vs H Q E h => ?_) (fun f cdv A outer s H vs Q E hr h => ?_)
  · obtain ⟨_, rfl, _⟩ := h
    rfl
  obtain ⟨n, rfl, q⟩ := h
  refine ⟨_, (pss_cons (ps_if (pt_val (pe_callB call_isi (by rfl) T.b_isinstance (by decide +kernel) (pa_cons (pv 1) (pa_cons (pe_bty (n := "list") (by rfl) T.b_list (by decide +kernel)) pa_nil))))
pss_never
pss_nil)
(pss_cons (ps_if (pt_val (pe_callB call_isi (by rfl) T.b_isinstance (by decide +kernel) (pa_cons (pv 1) (pa_cons (pe_bty (n := "tuple") (by rfl) T.b_tuple (by decide +kernel)) pa_nil))))
pss_never
pss_nil)
(pss_cons (ps_if (pt_val (pe_callB call_isi (by rfl) T.b_isinstance (by decide +kernel) (pa_cons (pv 1) (pa_cons (pe_bty (n := "bool") (by rfl) T.b_bool (by decide +kernel)) pa_nil))))
pss_never
pss_nil)
(pss_cons (ps_if (pt_val (pe_callB call_isi (by rfl) T.b_isinstance (by decide +kernel) (pa_cons (pv 1) (pa_cons (pe_bty (n := "int") (by rfl) T.b_int (by decide +kernel)) pa_nil))))
(pss_one (ps_ret (pe_and (pe_callB call_isi (by rfl) T.b_isinstance (by decide +kernel) (pa_cons (pv 0) (pa_cons (pe_bty (n := "int") (by rfl) T.b_int (by decide +kernel)) pa_nil))) (pe_and (pe_not (pe_callB call_isi (by rfl) T.b_isinstance (by decide +kernel) (pa_cons (pv 0) (pa_cons (pe_bty (n := "bool") (by rfl) T.b_bool (by decide +kernel)) pa_nil)))) (pe_one (pe_cmpR op_eq (pv 0) (pv 1) (nomark _)))))))
pss_nil)
pss_never)))), ?_⟩
  refine ⟨_, rfl, _, _, _, _, _, rfl, .ty _, .base (.int _), kit_ty kb_il, _, rfl, iteF ?_⟩
  refine ⟨_, rfl, _, _, _, _, _, rfl, .ty _, .base (.int _), kit_ty kb_it, _, rfl, iteF ?_⟩
  refine ⟨_, rfl, _, _, _, _, _, rfl, .ty _, .base (.int _), kit_ty kb_ib, _, rfl, iteF ?_⟩
  refine ⟨_, rfl, _, _, _, _, _, rfl, .ty _, .base (.int _), kit_ty kb_ii, _, rfl, iteT ?_⟩
  refine ⟨_, rfl, _, _, _, _, _, rfl, .ty _, .base (.int _), kit_ty kb_ii, _, rfl, iteT ?_⟩
  refine ⟨_, rfl, _, _, _, _, _, rfl, .ty _, .base (.int _), kit_ty kb_ib, _, rfl, _, rfl, iteT ?_⟩
  refine ⟨_, rfl, _, rfl, rfl, ?_⟩
  show Q (.bl (decide (V.int n = V.int n))) H
  rw [decide_eq_true rfl]
  exact q
theorem ok_l_all_equal (T : Txt K w mg) (D : Df K mg "_law_all_equal" s_l_all_equal ["_law_actual", "_law_due"]) (C_l_equal : Cal P w K mg base 1 "_law_equal" spEqI) : Cal P w K mg base 2 "_law_all_equal" (spEqL K) := by
  refine D.ok sc_l_all_equal (fun vs H Q E h => ?_) (fun f cdv A outer s H vs Q E hr h => ?_)
  · obtain ⟨_, _, _, rfl, _⟩ := h
    rfl
  obtain ⟨a, b, xs, rfl, ha, hb, hz, q⟩ := h
  refine ⟨_, (pss_cons (ps_for PassesOwn.never rfl (pi_range1 (by rfl) T.b_range (pa_cons (pe_callB call_len_seq (by rfl) T.b_len PySem.boot_len (pa_cons (pv 1) pa_nil)) pa_nil)) (pg_name (i := 2) sc_l_all_equal.nd rfl (by first | exact Or.inl rfl | exact Or.inr rfl))
(pss_one (ps_if (pt_not (pt_val (pe_cal C_l_equal hr (by decide) (by rfl) (pa_cons (pe_ix ix_list (pv 0) (pv 2) (fun _ _ => rfl)) (pa_cons (pe_ix ix_list (pv 1) (pv 2) (fun _ _ => rfl)) pa_nil)))))
(pss_one (ps_ret pe_bl))
pss_nil)))
(pss_one (ps_ret pe_bl))), ?_⟩
  refine ⟨_, rfl, b, _, rfl, .inl hb, _, rfl, by omega, by rw [List.length_map]; omega, for_range (lo := 0) (n := (xs.map vn).length) (fun i σ H' => H' = H ∧ ∃ y, σ = [some (.ref a), some (.ref b), y]) ⟨rfl, _, rfl⟩ ?_ ?_⟩
  · rintro i σ H' hi ⟨rfl, y, rfl⟩
    have e0 : (0 : Int) + (i : Int) = (i : Int) := Int.zero_add _
    rw [List.length_map] at hi
    have hat : atI (xs.map vn) ((0 : Int) + (i : Int)) = some (vn (ap xs i)) := by rw [e0]; exact atI_vn hi
    refine ⟨_, rfl, _, rfl, a, _, _, _, rfl, rfl, ha, hat, _, rfl, _, rfl, b, _, _, _, rfl, rfl, hb, hat, _, rfl, _, rfl, iteF ?_⟩
    exact ⟨rfl, _, rfl⟩
  · rintro σ H' ⟨rfl, y, rfl⟩
    exact q
theorem ok_l_equalL (T : Txt K w mg) (D : Df K mg "_law_equal" s_l_equal ["_law_actual", "_law_due"]) (C_l_all_equal : Cal P w K mg base 2 "_law_all_equal" (spEqL K)) : Cal P w K mg base 3 "_law_equal" (spEqL K) := by
  refine D.ok sc_l_equal (fun vs H Q E h => ?_) (fun f cdv A outer s H vs Q E hr h => ?_)
  · obtain ⟨_, _, _, rfl, _⟩ := h
    rfl
  obtain ⟨a, b, xs, rfl, ha, hb, hz, q⟩ := h
  refine ⟨_, (pss_cons (ps_if (pt_val (pe_callB call_isi (by rfl) T.b_isinstance (by decide +kernel) (pa_cons (pv 1) (pa_cons (pe_bty (n := "list") (by rfl) T.b_list (by decide +kernel)) pa_nil))))
(pss_cons (ps_if (PW.pt (pw_or (pt_not (pt_val (pe_callB call_isi (by rfl) T.b_isinstance (by decide +kernel) (pa_cons (pv 0) (pa_cons (pe_bty (n := "list") (by rfl) T.b_list (by decide +kernel)) pa_nil))))) (pw_or1 (pt_cmpR op_ne (pe_callB call_len_seq (by rfl) T.b_len PySem.boot_len (pa_cons (pv 0) pa_nil)) (pe_callB call_len_seq (by rfl) T.b_len PySem.boot_len (pa_cons (pv 1) pa_nil)) (nomark _)))))
(pss_one (ps_ret pe_bl))
pss_nil)
(pss_one (ps_ret (pe_cal C_l_all_equal hr (by decide) (by rfl) (pa_cons (pv 0) (pa_cons (pv 1) pa_nil))))))
pss_nil)
pss_never), ?_⟩
  refine ⟨_, rfl, _, _, _, _, _, rfl, .ty _, tyx_L hb, kit_ty kb_ll, _, rfl, iteT ?_⟩
  refine ⟨_, rfl, _, _, _, _, _, rfl, .ty _, tyx_L ha, kit_ty kb_ll, _, rfl, iteF ?_⟩
  refine ⟨_, rfl, a, _, rfl, .inl ha, _, rfl, b, _, rfl, .inl hb, rfl, _, rfl, ifF (dec_self _) ?_⟩
  exact ⟨_, rfl, _, rfl, a, b, xs, rfl, ha, hb, hz, q⟩
end
end K24
set_option Elab.async false
set_option linter.all false
set_option maxRecDepth 100000
set_option maxHeartbeats 4000000
namespace K24
open PySem PySem.Spec PyProof.Rows L2
theorem or_if {a b : Bool} {A B U : Prop} (hU : (if b = true then A else B) → U) (h : if (a || b) = true then A else B) : if a = true then (if true = true then A else B) else U := by
  cases a with
  | true => exact h
  | false => exact iteF (hU h)
/-! ### the draws: the list at d holds the numbers' list l and a place -/
structure Dr (H : Hp) (d l : Addr) : Prop where
  ex : ∃ (at_ : Int) (ms : List Int), H d = some (.lst [.ref l, .int at_]) ∧ H l = some (.lst (ms.map V.int)) ∧ 0 ≤ at_ ∧ ∀ m ∈ ms, 0 ≤ m ∧ m < 1000000
theorem Dr.ne {H : Hp} {d l : Addr} (h : Dr H d l) : l ≠ d := fun e => by
  obtain ⟨at_, ms, h1, h2, _⟩ := h.ex
  rw [e, h1] at h2
  have h3 := Option.some.inj h2
  injection h3 with h4
  cases ms with
  | nil => cases h4
  | cons m r =>
    rw [List.map_cons] at h4
    injection h4 with h5
    cases h5
theorem Dr.same {H H' : Hp} {d l : Addr} (h : Dr H d l) (e : Same H H') : Dr H' d l := by
  obtain ⟨at_, ms, h1, h2, h3, h4⟩ := h.ex
  exact ⟨at_, ms, e _ _ h1, e _ _ h2, h3, h4⟩
theorem Dr.new {H : Hp} {d l p : Addr} {o : HO} (h : Dr H d l) (hp : H p = none) : Dr (upd H p o) d l := h.same (same_new hp o)
/-- an object that is new to the start changes -/
theorem Dr.write {H0 H : Hp} {d l p : Addr} {o : HO} (h : Dr H d l) (h0 : Dr H0 d l) (hp : H0 p = none) : Dr (upd H p o) d l := by
  obtain ⟨at_, ms, h1, h2, h3, h4⟩ := h.ex
  obtain ⟨at0, ms0, g1, g2, _⟩ := h0.ex
  exact ⟨at_, ms, by rw [upd_ne (ne_of_none g1 hp)]; exact h1, by rw [upd_ne (ne_of_none g2 hp)]; exact h2, h3, h4⟩
theorem Dr.some_ {H : Hp} {d l : Addr} (h : Dr H d l) : ∃ xs, H d = some (.lst xs) := by
  obtain ⟨at_, ms, h1, _⟩ := h.ex
  exact ⟨_, h1⟩
theorem Sbut.free {d l : Addr} {H H' : Hp} (e : Sbut d H H') (hd : Dr H' d l) {p : Addr} (h : H' p = none) : H p = none := by
  obtain ⟨xs, h1⟩ := hd.some_
  cases q : H p with
  | none => rfl
  | some o =>
    by_cases hpd : p = d
    · rw [hpd, h1] at h
      cases h
    · rw [e p o hpd q] at h
      cases h
theorem sbut_tk {d l : Addr} {H H' : Hp} (h : Dr H d l) (e : Sbut d H H') : TK H H' := by
  obtain ⟨xs, h1⟩ := h.some_
  exact Sbut.tk h1 e
theorem sbut_write {d p : Addr} {H H' : Hp} {o : HO} (e : Sbut d H H') (hp : H p = none) : Sbut d H (upd H' p o) := fun b u hb h => by
  rw [upd_ne (ne_of_none h hp)]
  exact e b u hb h
theorem sbut_new {d p : Addr} {H : Hp} {o : HO} (hp : H p = none) : Sbut d H (upd H p o) := Sbut.of (same_new hp o)

section
variable {P : Program} {w : World} {K : PySem.W.Frag} {mg : Str → Option Value} {base : Heap}
abbrev s_l_mixed : Stmt := topS 36
theorem sc_l_mixed : FnScope ["_law_number", "_law_k", "_law_step"] ["_law_number", "_law_k"] (defScope s_l_mixed) := ⟨rfl, rfl, rfl, by decide +kernel, rfl, by decide +kernel, by decide +kernel⟩
def spMixed : Sp := fun vs H Q _ => ∃ n k : Int, vs = [.int n, .int k] ∧ ∀ r : Int, 0 ≤ r → r < 2147483647 → Q (.int r) H
theorem ok_l_mixed (T : Txt K w mg) (D : Df K mg "_law_mixed" s_l_mixed ["_law_number", "_law_k"]) : Cal P w K mg base 1 "_law_mixed" spMixed := by
  refine D.ok sc_l_mixed (fun vs H Q E h => ?_) (fun f cdv A outer s H vs Q E hr h => ?_)
  · obtain ⟨_, _, rfl, _⟩ := h
    rfl
  obtain ⟨n, k, rfl, q⟩ := h
  refine ⟨_, (pss_cons (ps_set (i := 2) sc_l_mixed.nd rfl (by first | exact Or.inl rfl | exact Or.inr rfl) (pe_op op_mod (pe_op op_add (pe_op op_add (pe_op op_mul (pv 0) pe_int) (pe_op op_mul (pv 1) pe_int)) pe_int) pe_int))
(pss_one (ps_ret (pe_op op_mod (pe_op op_add (pe_op op_mul (pv 2) (pe_op op_add (pe_op op_fdiv (pv 2) pe_int) pe_int)) (pv 1)) pe_int)))), ?_⟩
  refine ⟨_, rfl, _, _, rfl, rfl, .inr ⟨by decide, by decide⟩, _, rfl, _, _, rfl, rfl, .inr ⟨by decide, by decide⟩, _, _, rfl, rfl, _, _, rfl, rfl, _, _, rfl, rfl, (by show (0 : Int) < 2147483647; decide), ?_⟩
  have h0 := Int.emod_nonneg (n * 48271 + k * 69621 + 12345) (b := 2147483647) (by decide)
  have h1 := Int.emod_lt_of_pos (n * 48271 + k * 69621 + 12345) (b := 2147483647) (by decide)
  refine ⟨_, rfl, _, rfl, _, _, rfl, rfl, ⟨by decide, by decide⟩, _, _, rfl, rfl, _, _, rfl, rfl, .inl ⟨by omega, by omega⟩, _, rfl, _, _, rfl, rfl, _, _, rfl, rfl, (by show (0 : Int) < 2147483647; decide), ?_⟩
  exact q _ (Int.emod_nonneg _ (by decide)) (Int.emod_lt_of_pos _ (by decide))
abbrev s_l_numbers : Stmt := topS 37
theorem sc_l_numbers : FnScope ["_law_script", "_law_numbers_here", "_law_cell", "_law_rest", "_law_k"] ["_law_script"] (defScope s_l_numbers) := ⟨rfl, rfl, rfl, by decide +kernel, rfl, by decide +kernel, by decide +kernel⟩
def spNumbers (K : PySem.W.Frag) : Sp := fun vs H Q _ => ∃ (a : Addr) (ns : List Int), vs = [.ref a] ∧ SqL K H a (ns.map V.int) ∧ ns.length ≤ 63 ∧
  ∀ (l : Addr) (ms : List Int) (H' : Hp), Same H H' → H l = none → H' l = some (.lst (ms.map V.int)) → (∀ m ∈ ms, 0 ≤ m ∧ m < 1000000) → Q (.ref l) H'
theorem mod_ok (x : Int) : 0 ≤ x % 1000000 ∧ x % 1000000 < 1000000 := ⟨Int.emod_nonneg _ (by decide), Int.emod_lt_of_pos _ (by decide)⟩
theorem ms_app {ms : List Int} {x : Int} (h : ∀ m ∈ ms, 0 ≤ m ∧ m < 1000000) (hx : 0 ≤ x ∧ x < 1000000) : ∀ m ∈ ms ++ [x], 0 ≤ m ∧ m < 1000000 := fun m hm => by
  rcases List.mem_append.mp hm with hm | hm
  · exact h m hm
  · rw [List.mem_singleton.mp hm]
    exact hx
theorem ok_l_numbers (T : Txt K w mg) (D : Df K mg "_law_numbers" s_l_numbers ["_law_script"]) (C_l_mixed : Cal P w K mg base 1 "_law_mixed" spMixed) : Cal P w K mg base 2 "_law_numbers" (spNumbers K) := by
  refine D.ok sc_l_numbers (fun vs H Q E h => ?_) (fun f cdv A outer s H vs Q E hr h => ?_)
  · obtain ⟨_, _, rfl, _⟩ := h
    rfl
  obtain ⟨a, ns, rfl, ha, h63, q⟩ := h
  refine ⟨_, (pss_cons (ps_set (i := 1) sc_l_numbers.nd rfl (by first | exact Or.inl rfl | exact Or.inr rfl) (pe_lst pa_nil))
(pss_cons (ps_for PassesOwn.never rfl (pi_list (pv 0)) (pg_name (i := 2) sc_l_numbers.nd rfl (by first | exact Or.inl rfl | exact Or.inr rfl))
(pss_one (ps_if (pt_cmpR op_ge (pv 2) (pe_op op_pow pe_int pe_int) (nomark _))
(pss_cons (ps_set (i := 3) sc_l_numbers.nd rfl (by first | exact Or.inl rfl | exact Or.inr rfl) (pv 2))
(pss_one (ps_for PassesOwn.never rfl (pi_range1 (by rfl) T.b_range (pa_cons pe_int pa_nil)) (pg_name (i := 4) sc_l_numbers.nd rfl (by first | exact Or.inl rfl | exact Or.inr rfl))
(pss_one (ps_if (pt_cmpR op_gt (pv 3) pe_int (nomark _))
(pss_cons (ps_expr (pe_bm PySem.F.plainAttrs_list PySem.F.slot_list_append PySem.F.type_list_append mt_append (pv 1) (pa_cons (pe_op op_mod (pv 3) pe_int) pa_nil)))
(pss_one (ps_set (i := 3) sc_l_numbers.nd rfl (by first | exact Or.inl rfl | exact Or.inr rfl) (pe_op op_fdiv (pv 3) pe_int))))
pss_nil)))))
(pss_cons (ps_expr (pe_bm PySem.F.plainAttrs_list PySem.F.slot_list_append PySem.F.type_list_append mt_append (pv 1) (pa_cons (pe_op op_mod (pv 2) pe_int) pa_nil)))
(pss_one (ps_for PassesOwn.never rfl (pi_range1 (by rfl) T.b_range (pa_cons pe_int pa_nil)) (pg_name (i := 4) sc_l_numbers.nd rfl (by first | exact Or.inl rfl | exact Or.inr rfl))
(pss_one (ps_expr (pe_bm PySem.F.plainAttrs_list PySem.F.slot_list_append PySem.F.type_list_append mt_append (pv 1) (pa_cons (pe_op op_mod (pe_cal C_l_mixed hr (by decide) (by rfl) (pa_cons (pe_cal C_l_mixed hr (by decide) (by rfl) (pa_cons (pe_op op_mod (pv 2) pe_int) (pa_cons (pv 4) pa_nil))) (pa_cons (pe_op op_add (pv 4) pe_int) pa_nil))) pe_int) pa_nil))))))))))
(pss_one (ps_ret (pv 1))))), ?_⟩
  refine ⟨Nat.zero_le _, fun l hl => ?_⟩
  have s0 := same_new hl (.lst [])
  refine ⟨_, rfl, a, rfl, ⟨_, s0.seq ha⟩, for_list (K := K) (a := a) (xs := ns.map V.int) (fun i σ H' => ∃ (y z u : Option V) (ms : List Int), σ = [some (.ref a), some (.ref l), y, z, u] ∧ Same H H' ∧ H' l = some (.lst (ms.map V.int)) ∧ ms.length ≤ 60 * i ∧ ∀ m ∈ ms, 0 ≤ m ∧ m < 1000000)
    ⟨_, _, _, [], rfl, s0, upd_same, Nat.le_refl _, fun m hm => by cases hm⟩ (fun i σ H' _ ⟨_, _, _, _, _, e, _⟩ => e.seq ha) ?_ ?_⟩
  · rintro i x σ H' hi ⟨y, z, u, ms, rfl, e, el, hml, hms⟩
    have hi63 : i < 63 := by
      have := (List.getElem?_eq_some_iff.mp hi).1
      rw [List.length_map] at this
      omega
    obtain ⟨c, rfl⟩ : ∃ c, x = V.int c := by
      rw [List.getElem?_map] at hi
      cases hc : ns[i]? with
      | none => rw [hc] at hi; cases hi
      | some c =>
        rw [hc] at hi
        exact ⟨c, (Option.some.inj hi).symm⟩
    refine ⟨_, rfl, _, _, rfl, rfl, ⟨by decide, by decide, by decide⟩, _, _, rfl, rfl, _, rfl, ite2 (fun _ => ?_) (fun _ => ?_)⟩
    · refine ⟨_, rfl, ?_⟩
      refine ⟨60, rfl, by decide, by decide, for_range (lo := 0) (n := 60) (fun k σ' H2 => ∃ (r : Int) (u : Option V) (ms2 : List Int), σ' = [some (.ref a), some (.ref l), some (.int c), some (.int r), u] ∧ Same H H2 ∧ H2 l = some (.lst (ms2.map V.int)) ∧ ms2.length ≤ 60 * i + k ∧ ∀ m ∈ ms2, 0 ≤ m ∧ m < 1000000)
        ⟨c, _, ms, rfl, e, el, by omega, hms⟩ ?_ ?_⟩
      · rintro k σ' H2 hk ⟨r, u2, ms2, rfl, e2, el2, hl2, hm2⟩
        refine ⟨_, rfl, _, _, rfl, rfl, _, rfl, ite2 (fun _ => ?_) (fun _ => ?_)⟩
        · refine ⟨_, rfl, .inl ⟨rfl, _, SqL.of el2⟩, _, rfl, _, _, rfl, rfl, (by show (0 : Int) < 1000000; decide), l, _, _, rfl, rfl, el2, by rw [List.length_map]; exact szl (by omega), ?_⟩
          refine ⟨_, rfl, _, _, rfl, rfl, ⟨by decide, by decide⟩, ?_⟩
          refine ⟨_, _, ms2 ++ [r % 1000000], rfl, same_write e2 hl, ?_, by rw [List.length_append, List.length_singleton]; omega, ms_app hm2 (mod_ok r)⟩
          rw [upd_same, List.map_append]
          rfl
        · exact ⟨_, _, ms2, rfl, e2, el2, by omega, hm2⟩
      · rintro σ' H2 ⟨r, u2, ms2, rfl, e2, el2, hl2, hm2⟩
        exact ⟨_, _, _, ms2, rfl, e2, el2, by omega, hm2⟩
    · refine ⟨_, rfl, .inl ⟨rfl, _, SqL.of el⟩, _, rfl, _, _, rfl, rfl, (by show (0 : Int) < 1000000; decide), l, _, _, rfl, rfl, el, by rw [List.length_map]; exact szl (by omega), ?_⟩
      refine ⟨5, rfl, by decide, by decide, for_range (lo := 0) (n := 5) (fun k σ' H2 => ∃ (z u : Option V) (ms2 : List Int), σ' = [some (.ref a), some (.ref l), some (.int c), z, u] ∧ Same H H2 ∧ H2 l = some (.lst (ms2.map V.int)) ∧ ms2.length ≤ 60 * i + 1 + k ∧ ∀ m ∈ ms2, 0 ≤ m ∧ m < 1000000)
        ⟨_, _, ms ++ [c % 1000000], rfl, same_write e hl, ?_, by rw [List.length_append, List.length_singleton]; omega, ms_app hms (mod_ok c)⟩ ?_ ?_⟩
      · rw [upd_same, List.map_append]
        rfl
      · rintro k σ' H2 hk ⟨z2, u2, ms2, rfl, e2, el2, hl2, hm2⟩
        refine ⟨_, rfl, .inl ⟨rfl, _, SqL.of el2⟩, _, rfl, _, _, rfl, rfl, (by show (0 : Int) < 2147483647; decide), _, rfl, _, _, rfl, fun r1 h0 h1 => ?_⟩
        refine ⟨_, rfl, _, _, rfl, rfl, _, _, rfl, fun r2 h2 h3 => ?_⟩
        refine ⟨_, _, rfl, rfl, (by show (0 : Int) < 1000000; decide), l, _, _, rfl, rfl, el2, by rw [List.length_map]; exact szl (by omega), ?_⟩
        refine ⟨_, _, ms2 ++ [r2 % 1000000], rfl, same_write e2 hl, ?_, by rw [List.length_append, List.length_singleton]; omega, ms_app hm2 (mod_ok r2)⟩
        rw [upd_same, List.map_append]
        rfl
      · rintro σ' H2 ⟨z2, u2, ms2, rfl, e2, el2, hl2, hm2⟩
        exact ⟨_, _, _, ms2, rfl, e2, el2, by omega, hm2⟩
  · rintro σ H' ⟨y, z, u, ms, rfl, e, el, hml, hms⟩
    exact ⟨_, rfl, q l ms H' e hl el hms⟩
abbrev s_l_draw : Stmt := topS 38
theorem sc_l_draw : FnScope ["_law_draws", "_law_at", "_law_first"] ["_law_draws"] (defScope s_l_draw) := ⟨rfl, rfl, rfl, by decide +kernel, rfl, by decide +kernel, by decide +kernel⟩
def spDraw : Sp := fun vs H Q _ => ∃ d l : Addr, vs = [.ref d] ∧ Dr H d l ∧ ∀ (r : Int) (H' : Hp), Sbut d H H' → Dr H' d l → 0 ≤ r → r < 1000000 → Q (.int r) H'
theorem ok_l_draw (T : Txt K w mg) (D : Df K mg "_law_draw" s_l_draw ["_law_draws"]) (C_l_mixed : Cal P w K mg base 1 "_law_mixed" spMixed) : Cal P w K mg base 2 "_law_draw" spDraw := by
  refine D.ok sc_l_draw (fun vs H Q E h => ?_) (fun f cdv A outer s H vs Q E hr h => ?_)
  · obtain ⟨_, _, rfl, _⟩ := h
    rfl
  obtain ⟨d, l, rfl, hD, q⟩ := h
  obtain ⟨at_, ms, hd, hl, h0, hms⟩ := id hD.ex
  have hne := hD.ne
  refine ⟨_, (pss_cons (ps_set (i := 1) sc_l_draw.nd rfl (by first | exact Or.inl rfl | exact Or.inr rfl) (pe_ix ix_list (pv 0) pe_int (fun _ _ => rfl)))
(pss_cons (ps_asg (pe_op op_add (pv 1) pe_int) (pg_sub (pv 0) pe_int set_list))
(pss_cons (ps_if (pt_cmpR op_lt (pv 1) (pe_callB call_len_seq (by rfl) T.b_len PySem.boot_len (pa_cons (pe_ix ix_list (pv 0) pe_int (fun _ _ => rfl)) pa_nil)) (nomark _))
(pss_one (ps_ret (pe_ix ix_list (pe_ix ix_list (pv 0) pe_int (fun _ _ => rfl)) (pv 1) (fun _ _ => rfl))))
pss_nil)
(pss_cons (ps_set (i := 2) sc_l_draw.nd rfl (by first | exact Or.inl rfl | exact Or.inr rfl) (pe_op op_add pe_int (pv 1)))
(pss_cons (ps_if (pt_cmpR op_gt (pe_callB call_len_seq (by rfl) T.b_len PySem.boot_len (pa_cons (pe_ix ix_list (pv 0) pe_int (fun _ _ => rfl)) pa_nil)) pe_int (nomark _))
(pss_one (ps_set (i := 2) sc_l_draw.nd rfl (by first | exact Or.inl rfl | exact Or.inr rfl) (pe_op op_add (pv 2) (pe_op op_mul pe_int (pe_ix ix_list (pe_ix ix_list (pv 0) pe_int (fun _ _ => rfl)) pe_int (fun _ _ => rfl))))))
pss_nil)
(pss_one (ps_ret (pe_op op_mod (pe_cal C_l_mixed hr (by decide) (by rfl) (pa_cons (pe_cal C_l_mixed hr (by decide) (by rfl) (pa_cons (pv 2) (pa_cons (pv 1) pa_nil))) (pa_cons pe_int pa_nil))) pe_int)))))))), ?_⟩
  refine ⟨_, rfl, d, _, _, _, rfl, rfl, SqL.of hd, rfl, ?_⟩
  refine ⟨_, rfl, _, _, rfl, rfl, _, rfl, d, _, _, 1, rfl, rfl, hd, rfl, ?_⟩
  have hd2 : (upd H d (.lst [.ref l, .int (at_ + 1)])) d = some (.lst [.ref l, .int (at_ + 1)]) := upd_same
  have hl2 : (upd H d (.lst [.ref l, .int (at_ + 1)])) l = some (.lst (ms.map V.int)) := by rw [upd_ne hne]; exact hl
  have fin : ∀ r : Int, 0 ≤ r → r < 1000000 → Q (.int r) (upd H d (.lst [.ref l, .int (at_ + 1)])) := fun r a b => q r _ (Sbut.upd d H _) ⟨at_ + 1, ms, hd2, hl2, by omega, hms⟩ a b
  refine ⟨_, rfl, _, rfl, d, _, _, _, rfl, rfl, SqL.of hd2, rfl, l, _, rfl, .inl (SqL.of hl2), _, _, rfl, rfl, _, rfl, ite2 (fun hc => ?_) (fun hc => ?_)⟩
  · have hc1 := of_decide_eq_true hc
    rw [List.length_map] at hc1
    obtain ⟨n, hn⟩ : ∃ n : Nat, at_ = (n : Int) := ⟨at_.toNat, by omega⟩
    have hnl : n < ms.length := by omega
    refine ⟨_, rfl, d, _, _, _, rfl, rfl, SqL.of hd2, rfl, _, rfl, l, _, _, V.int (ms[n]'hnl), rfl, rfl, SqL.of hl2, at_of (j := n) hn (by rw [List.getElem?_map, List.getElem?_eq_getElem hnl]; rfl), ?_⟩
    have hm := hms _ (List.getElem_mem hnl)
    exact fin _ hm.1 hm.2
  refine ⟨_, rfl, _, _, rfl, rfl, ?_⟩
  refine ⟨_, rfl, d, _, _, _, rfl, rfl, SqL.of hd2, rfl, l, _, rfl, .inl (SqL.of hl2), _, _, rfl, rfl, _, rfl, ite2 (fun hc2 => ?_) (fun hc2 => ?_)⟩
  · have hc3 := of_decide_eq_true hc2
    rw [List.length_map] at hc3
    have hnl : 0 < ms.length := by omega
    refine ⟨_, rfl, _, rfl, d, _, _, _, rfl, rfl, SqL.of hd2, rfl, l, _, _, V.int (ms[0]'hnl), rfl, rfl, SqL.of hl2, at_of (j := 0) rfl (by rw [List.getElem?_map, List.getElem?_eq_getElem hnl]; rfl), _, _, rfl, rfl, .inl ⟨by decide, by decide⟩, _, _, rfl, rfl, ?_⟩
    refine ⟨_, rfl, _, rfl, _, _, rfl, fun r1 a1 b1 => ?_⟩
    refine ⟨_, _, rfl, fun r2 a2 b2 => ?_⟩
    refine ⟨_, _, rfl, rfl, (by show (0 : Int) < 1000000; decide), ?_⟩
    exact fin _ (mod_ok r2).1 (mod_ok r2).2
  · refine ⟨_, rfl, _, rfl, _, _, rfl, fun r1 a1 b1 => ?_⟩
    refine ⟨_, _, rfl, fun r2 a2 b2 => ?_⟩
    refine ⟨_, _, rfl, rfl, (by show (0 : Int) < 1000000; decide), ?_⟩
    exact fin _ (mod_ok r2).1 (mod_ok r2).2
end
end K24
set_option Elab.async false
set_option linter.all false
set_option maxRecDepth 100000
set_option maxHeartbeats 4000000
namespace K24
open PySem PySem.Spec PyProof.Rows L2
theorem cut_to {xs : List V} {n : Nat} (h : n ≤ xs.length) {z : Int} (e : z = (n : Int)) : cutV xs none (some z) = xs.take n := by
  subst e
  unfold cutV
  rw [HT.sIx_none, show HT.sIx xs.length xs.length (some (n : Int)) = min n xs.length from HT.sIx_nat _ _ n, Nat.min_eq_left h]
  show (xs.drop 0).take (n - 0) = _
  rw [List.drop_zero, Nat.sub_zero]
theorem cut_from {xs : List V} {n : Nat} (h : n ≤ xs.length) {z : Int} (e : z = (n : Int)) : cutV xs (some z) none = xs.drop n := by
  subst e
  unfold cutV
  rw [HT.sIx_none, show HT.sIx xs.length 0 (some (n : Int)) = min n xs.length from HT.sIx_nat _ _ n, Nat.min_eq_left h]
  exact List.take_of_length_le (by rw [List.length_drop]; exact Nat.le_refl _)
theorem lens_get {lens : List Nat} {i : Nat} (h : i < lens.length) : (lens.map vn)[i]? = some (vn (lens.getD i 0)) := by
  rw [List.getElem?_map, List.getElem?_eq_getElem h, List.getD_eq_getElem?_getD, List.getElem?_eq_getElem h]
  rfl
theorem getD_mem {lens : List Nat} {i : Nat} (h : i < lens.length) : lens.getD i 0 ∈ lens := by
  rw [List.getD_eq_getElem?_getD, List.getElem?_eq_getElem h]
  exact List.getElem_mem h
theorem sent_eq (o : List Nat) : sentOf o = setF (fun k => o.getD k 0) (fun k => o.getD ((k + 1) % 5) 0) 5 := rfl

section
variable {P : Program} {w : World} {K : PySem.W.Frag} {mg : Str → Option Value} {base : Heap}
abbrev s_l_bool_node : Stmt := topS 43
theorem sc_l_bool_node : FnScope ["_law_draws", "_law_lengths", "_law_most", "_law_many", "_law_pick", "_law_i", "_law_j", "_law_price"] ["_law_draws", "_law_lengths", "_law_most"] (defScope s_l_bool_node) := ⟨rfl, rfl, rfl, by decide +kernel, rfl, by decide +kernel, by decide +kernel⟩
def spNode (K : PySem.W.Frag) : Sp := fun vs H Q _ => ∃ (d l ll : Addr) (lens : List Nat) (most : Nat), vs = [.ref d, .ref ll, vn most] ∧ Dr H d l ∧ H ll = some (.lst (lens.map vn)) ∧ ll ≠ d ∧ lens.length < 200 ∧ 1 ≤ most ∧ (∀ x ∈ lens, x ≤ most) ∧
  ∀ (p : Addr) (x : V) (nd : Nd) (H' : Hp), Sbut d H H' → Dr H' d l → H p = none → H' p = some (.lst [x, vn (nd.len fun j => lens.getD j 0)]) → NdAt K H' x nd → nd.ok lens.length → (nd.len fun j => lens.getD j 0) ≤ most → Q (.ref p) H'
theorem ok_l_bool_node (T : Txt K w mg) (D : Df K mg "_law_bool_node" s_l_bool_node ["_law_draws", "_law_lengths", "_law_most"]) (C_l_draw : Cal P w K mg base 2 "_law_draw" spDraw) : Cal P w K mg base 3 "_law_bool_node" (spNode K) := by
  refine D.ok sc_l_bool_node (fun vs H Q E h => ?_) (fun f cdv A outer s H vs Q E hr h => ?_)
  · obtain ⟨_, _, _, _, _, rfl, _⟩ := h
    rfl
  obtain ⟨d, l, ll, lens, most, rfl, hD, hll, hnd, h200, h1, hmost, q⟩ := h
  refine ⟨_, (pss_cons (ps_set (i := 3) sc_l_bool_node.nd rfl (by first | exact Or.inl rfl | exact Or.inr rfl) (pe_callB call_len_seq (by rfl) T.b_len PySem.boot_len (pa_cons (pv 1) pa_nil)))
(pss_cons (ps_set (i := 4) sc_l_bool_node.nd rfl (by first | exact Or.inl rfl | exact Or.inr rfl) (pe_op op_mod (pe_cal C_l_draw hr (by decide) (by rfl) (pa_cons (pv 0) pa_nil)) pe_int))
(pss_cons (ps_if (PW.pt (pw_or (pt_cmpR op_eq (pv 3) pe_int (nomark _)) (pw_or1 (pt_cmpR op_lt (pv 4) pe_int (nomark _)))))
(pss_one (ps_ret (pe_lst (pa_cons (pe_tup (pa_cons pe_str (pa_cons (pe_ix ix_list (pe_lst (pa_cons (pe_op op_mod (pe_cal C_l_draw hr (by decide) (by rfl) (pa_cons (pv 0) pa_nil)) pe_int) (pa_cons (pe_op op_mod (pe_cal C_l_draw hr (by decide) (by rfl) (pa_cons (pv 0) pa_nil)) pe_int) pa_nil))) (pe_op op_mod (pe_cal C_l_draw hr (by decide) (by rfl) (pa_cons (pv 0) pa_nil)) pe_int) (fun _ _ => rfl)) pa_nil))) (pa_cons pe_int pa_nil)))))
pss_nil)
(pss_cons (ps_set (i := 5) sc_l_bool_node.nd rfl (by first | exact Or.inl rfl | exact Or.inr rfl) (pe_op op_sub (pe_op op_sub (pv 3) pe_int) (pe_op op_mod (pe_cal C_l_draw hr (by decide) (by rfl) (pa_cons (pv 0) pa_nil)) (pe_callB (call_min2 rfl) (by rfl) T.b_min (by decide +kernel) (pa_cons (pv 3) (pa_cons pe_int pa_nil))))))
(pss_cons (ps_set (i := 6) sc_l_bool_node.nd rfl (by first | exact Or.inl rfl | exact Or.inr rfl) (pe_op op_mod (pe_cal C_l_draw hr (by decide) (by rfl) (pa_cons (pv 0) pa_nil)) (pv 3)))
(pss_cons (ps_if (pt_cmpR op_lt (pv 4) pe_int (nomark _))
(pss_one (ps_ret (pe_lst (pa_cons (pe_tup (pa_cons pe_str (pa_cons (pv 5) pa_nil))) (pa_cons (pe_ix ix_list (pv 1) (pv 5) (fun _ _ => rfl)) pa_nil)))))
pss_nil)
(pss_cons (ps_set (i := 7) sc_l_bool_node.nd rfl (by first | exact Or.inl rfl | exact Or.inr rfl) (pe_op op_mul pe_int (pe_op op_add (pe_ix ix_list (pv 1) (pv 5) (fun _ _ => rfl)) (pe_ix ix_list (pv 1) (pv 6) (fun _ _ => rfl)))))
(pss_cons (ps_if (pt_cmpR op_gt (pv 7) (pv 2) (nomark _))
(pss_one (ps_ret (pe_lst (pa_cons (pe_tup (pa_cons pe_str (pa_cons (pe_op op_mod (pe_cal C_l_draw hr (by decide) (by rfl) (pa_cons (pv 0) pa_nil)) pe_int) pa_nil))) (pa_cons pe_int pa_nil)))))
pss_nil)
(pss_one (ps_ret (pe_lst (pa_cons (pe_tup (pa_cons (pe_ix ix_list (pe_lst (pa_cons pe_str (pa_cons pe_str pa_nil))) (pe_op op_mod (pv 4) pe_int) (fun _ _ => rfl)) (pa_cons (pv 5) (pa_cons (pv 6) pa_nil)))) (pa_cons (pv 7) pa_nil))))))))))))), ?_⟩
  refine ⟨_, rfl, ll, _, rfl, .inl (SqL.of hll), ?_⟩
  refine ⟨_, rfl, d, l, rfl, hD, fun r1 H1 e1 D1 a1 b1 => ⟨_, _, rfl, rfl, (by show (0 : Int) < 8; decide), ?_⟩⟩
  have hll1 := e1 _ _ hnd hll
  have tk1 := sbut_tk hD e1
  refine ⟨_, rfl, rfl, _, rfl, ?_⟩
  refine or_if (b := decide (r1 % 8 < 2)) (fun z => ⟨_, rfl, _, _, rfl, rfl, _, rfl, z⟩) ?_
  refine ite2 (fun hc => ?_) (fun hc => ?_)
  · refine ⟨_, rfl, d, l, rfl, D1, fun r2 H2 e2 D2 a2 b2 => ⟨_, _, rfl, rfl, (by show (0 : Int) < 60; decide), ?_⟩⟩
    refine ⟨_, rfl, d, l, rfl, D2, fun r3 H3 e3 D3 a3 b3 => ⟨_, _, rfl, rfl, (by show (0 : Int) < 4; decide), by show 2 ≤ sizeLine; decide, fun pl hpl => ?_⟩⟩
    have e4 := sbut_new (d := d) (o := .lst [.int (r2 % 60), .int (r3 % 4)]) hpl
    have D4 := D3.new (o := .lst [.int (r2 % 60), .int (r3 % 4)]) hpl
    have hpld : pl ≠ d := fun z => by
      obtain ⟨xs, h⟩ := D3.some_
      rw [z, h] at hpl
      cases hpl
    refine ⟨_, rfl, d, l, rfl, D4, fun r5 H5 e5 D5 a5 b5 => ⟨_, _, rfl, rfl, (by show (0 : Int) < 2; decide), ?_⟩⟩
    have hpl5 : H5 pl = some (.lst [.int (r2 % 60), .int (r3 % 4)]) := e5 _ _ hpld upd_same
    obtain ⟨k, hk, hk60⟩ : ∃ k : Nat, atI ([.int (r2 % 60), .int (r3 % 4)] : List V) (r5 % 2) = some (vn k) ∧ k < 60 := by
      have m1 := Int.emod_nonneg r2 (b := 60) (by decide)
      have m2 := Int.emod_lt_of_pos r2 (b := 60) (by decide)
      have m3 := Int.emod_nonneg r3 (b := 4) (by decide)
      have m4 := Int.emod_lt_of_pos r3 (b := 4) (by decide)
      have m5 : r5 % 2 = 0 ∨ r5 % 2 = 1 := by omega
      rcases m5 with m5 | m5
      · refine ⟨(r2 % 60).toNat, ?_, by omega⟩
        refine at_of (j := 0) m5 ?_
        show some (V.int (r2 % 60)) = some (V.int ((r2 % 60).toNat : Int))
        rw [Int.toNat_of_nonneg m1]
      · refine ⟨(r3 % 4).toNat, ?_, by omega⟩
        refine at_of (j := 1) m5 ?_
        show some (V.int (r3 % 4)) = some (V.int ((r3 % 4).toNat : Int))
        rw [Int.toNat_of_nonneg m3]
    refine ⟨pl, _, _, _, rfl, rfl, SqL.of hpl5, hk, by show 2 ≤ sizeLine; decide, fun pt hpt => ⟨by show 2 ≤ sizeLine; decide, fun p hp => ?_⟩⟩
    have eA := (((((e1.trans e2).trans e3).trans e4).trans e5).trans (sbut_new (o := .tup [.str "input", vn k]) hpt)).trans (sbut_new (o := .lst [.ref pt, .int 1]) hp)
    have DA := (D5.new (o := .tup [.str "input", vn k]) hpt).new (o := .lst [.ref pt, .int 1]) hp
    have hpH : H p = none := Sbut.free (d := d) (l := l) (((((e1.trans e2).trans e3).trans e4).trans e5).trans (sbut_new (o := .tup [.str "input", vn k]) hpt)) (D5.new (o := .tup [.str "input", vn k]) hpt) hp
    exact q p (.ref pt) (.inp k) _ eA DA hpH upd_same ⟨pt, rfl, same_tup (same_new hp _) (SqT.of upd_same)⟩ hk60 h1
  have hc' : lens.length ≠ 0 ∧ ¬ r1 % 8 < 2 := by
    refine ⟨fun z => hc ?_, fun z => hc ?_⟩
    · rw [List.length_map, z]
      rfl
    · rw [decide_eq_true z, Bool.or_true]
  have hlp : 0 < lens.length := by omega
  -- i = many - 1 - draw % min(many, 3)
  have hmin : (0 : Int) < (if (3 : Int) < ((lens.map vn).length : Int) then 3 else ((lens.map vn).length : Int)) := by
    rw [List.length_map]
    split <;> omega
  refine ⟨_, rfl, _, _, rfl, rfl, _, rfl, d, l, rfl, D1, fun r2 H2 e2 D2 a2 b2 => ⟨_, rfl, _, _, rfl, _, _, rfl, rfl, hmin, _, _, rfl, rfl, ?_⟩⟩
  have hll2 := e2 _ _ hnd hll1
  obtain ⟨i, hi, hil⟩ : ∃ i : Nat, ((lens.map vn).length : Int) - 1 - r2 % (if (3 : Int) < ((lens.map vn).length : Int) then 3 else ((lens.map vn).length : Int)) = (i : Int) ∧ i < lens.length := by
    have m1 := Int.emod_nonneg r2 (b := (if (3 : Int) < ((lens.map vn).length : Int) then 3 else ((lens.map vn).length : Int))) (by omega)
    have m2 := Int.emod_lt_of_pos r2 hmin
    have m3 : (if (3 : Int) < ((lens.map vn).length : Int) then 3 else ((lens.map vn).length : Int)) ≤ (lens.length : Int) := by
      rw [List.length_map]
      split <;> omega
    have m4 : (lens.map vn).length = lens.length := List.length_map _
    generalize r2 % (if (3 : Int) < ((lens.map vn).length : Int) then 3 else ((lens.map vn).length : Int)) = z at m1 m2
    refine ⟨(((lens.map vn).length : Int) - 1 - z).toNat, ?_, ?_⟩ <;> omega
  -- j = draw % many
  refine ⟨_, rfl, d, l, rfl, D2, fun r3 H3 e3 D3 a3 b3 => ⟨_, rfl, _, _, rfl, rfl, (by rw [List.length_map]; omega), ?_⟩⟩
  have hll3 := e3 _ _ hnd hll2
  have m4 : (lens.map vn).length = lens.length := List.length_map _
  obtain ⟨j, hj, hjl⟩ : ∃ j : Nat, r3 % ((lens.map vn).length : Int) = (j : Int) ∧ j < lens.length := by
    have m1 := Int.emod_nonneg r3 (b := ((lens.map vn).length : Int)) (by omega)
    have m2 := Int.emod_lt_of_pos r3 (b := ((lens.map vn).length : Int)) (by omega)
    exact ⟨(r3 % ((lens.map vn).length : Int)).toNat, by omega, by omega⟩
  have e13 := (e1.trans e2).trans e3
  have atL : ∀ {H' : Hp}, H' ll = some (.lst (lens.map vn)) → ∀ (z : Int) (n : Nat), z = (n : Int) → n < lens.length → atI (lens.map vn) z = some (vn (lens.getD n 0)) := fun _ z n e hn => at_of e (lens_get hn)
  refine ⟨_, rfl, _, _, rfl, rfl, _, rfl, ite2 (fun hc4 => ?_) (fun hc4 => ?_)⟩
  · -- not
    refine ⟨_, rfl, by show 2 ≤ sizeLine; decide, fun pt hpt => ?_⟩
    refine ⟨_, rfl, _, rfl, ll, _, _, _, rfl, rfl, SqL.of ((same_new hpt _) _ _ hll3), atL hll3 _ i hi hil, by show 2 ≤ sizeLine; decide, fun p hp => ?_⟩
    refine q p (.ref pt) (.no i) _ ((e13.trans (sbut_new hpt)).trans (sbut_new hp)) ((D3.new hpt).new hp) (Sbut.free (e13.trans (sbut_new hpt)) (D3.new hpt) hp) upd_same ⟨pt, rfl, same_tup (same_new hp _) (sq_cast (SqT.of upd_same) ?_)⟩ hil (hmost _ (getD_mem hil))
    exact congrArg (fun z => [V.str "not", V.int z]) hi
  -- price
  refine ⟨_, rfl, _, rfl, ll, _, _, _, rfl, rfl, SqL.of hll3, atL hll3 _ i hi hil, _, rfl, _, rfl, ll, _, _, _, rfl, rfl, SqL.of hll3, atL hll3 _ j hj hjl, _, _, rfl, rfl, _, _, rfl, rfl, .inl ⟨by decide, by decide⟩, ?_⟩
  have hpr : (2 * (((lens.getD i 0 : Nat) : Int) + ((lens.getD j 0 : Nat) : Int))) = ((2 * (lens.getD i 0 + lens.getD j 0) : Nat) : Int) := by omega
  refine ⟨_, rfl, _, rfl, _, _, rfl, rfl, _, rfl, ite2 (fun hc5 => ?_) (fun hc5 => ?_)⟩
  · refine ⟨_, rfl, d, l, rfl, D3, fun r4 H4 e4 D4 a4 b4 => ⟨_, _, rfl, rfl, (by show (0 : Int) < 60; decide), by show 2 ≤ sizeLine; decide, fun pt hpt => ⟨by show 2 ≤ sizeLine; decide, fun p hp => ?_⟩⟩⟩
    have m1 := Int.emod_nonneg r4 (b := 60) (by decide)
    have m2 := Int.emod_lt_of_pos r4 (b := 60) (by decide)
    have e14 := e13.trans e4
    refine q p (.ref pt) (.inp (r4 % 60).toNat) _ ((e14.trans (sbut_new hpt)).trans (sbut_new hp)) ((D4.new hpt).new hp) (Sbut.free (e14.trans (sbut_new hpt)) (D4.new hpt) hp) upd_same ⟨pt, rfl, same_tup (same_new hp _) (sq_cast (SqT.of upd_same) ?_)⟩ (by show (r4 % 60).toNat < 60; omega) h1
    exact congrArg (fun z => [V.str "input", V.int z]) (Int.toNat_of_nonneg m1).symm
  · have hc6 : ¬ ((most : Int) < (2 * (((lens.getD i 0 : Nat) : Int) + ((lens.getD j 0 : Nat) : Int)))) := of_decide_eq_false (Bool.eq_false_iff.mpr hc5)
    have hle : 2 * (lens.getD i 0 + lens.getD j 0) ≤ most := by omega
    refine ⟨by show 2 ≤ sizeLine; decide, fun pw hpw => ?_⟩
    refine ⟨_, rfl, _, _, rfl, rfl, (by show (0 : Int) < 2; decide), ?_⟩
    have m5 : r1 % 8 % 2 = 0 ∨ r1 % 8 % 2 = 1 := by omega
    have e14 := e13.trans (sbut_new (o := .lst [.str "and", .str "or"]) hpw)
    have D4 := D3.new (o := .lst [.str "and", .str "or"]) hpw
    rcases m5 with m5 | m5
    · refine ⟨pw, _, _, V.str "and", rfl, rfl, SqL.of upd_same, at_of (j := 0) m5 rfl, _, rfl, _, rfl, by show 3 ≤ sizeLine; decide, fun pt hpt => ⟨_, rfl, by show 2 ≤ sizeLine; decide, fun p hp => ?_⟩⟩
      refine q p (.ref pt) (.an i j) _ ((e14.trans (sbut_new hpt)).trans (sbut_new hp)) ((D4.new hpt).new hp) (Sbut.free (e14.trans (sbut_new hpt)) (D4.new hpt) hp) ?_ ⟨pt, rfl, same_tup (same_new hp _) (sq_cast (SqT.of upd_same) ?_)⟩ ⟨hil, hjl⟩ hle
      · rw [upd_same]
        exact congrArg (fun z => some (HO.lst [V.ref pt, V.int z])) hpr
      · exact (congrArg (fun z => [V.str "and", V.int z, V.int _]) hi).trans (congrArg (fun z => [V.str "and", vn i, V.int z]) hj)
    · refine ⟨pw, _, _, V.str "or", rfl, rfl, SqL.of upd_same, at_of (j := 1) m5 rfl, _, rfl, _, rfl, by show 3 ≤ sizeLine; decide, fun pt hpt => ⟨_, rfl, by show 2 ≤ sizeLine; decide, fun p hp => ?_⟩⟩
      refine q p (.ref pt) (.orr i j) _ ((e14.trans (sbut_new hpt)).trans (sbut_new hp)) ((D4.new hpt).new hp) (Sbut.free (e14.trans (sbut_new hpt)) (D4.new hpt) hp) ?_ ⟨pt, rfl, same_tup (same_new hp _) (sq_cast (SqT.of upd_same) ?_)⟩ ⟨hil, hjl⟩ hle
      · rw [upd_same]
        exact congrArg (fun z => some (HO.lst [V.ref pt, V.int z])) hpr
      · exact (congrArg (fun z => [V.str "or", V.int z, V.int _]) hi).trans (congrArg (fun z => [V.str "or", vn i, V.int z]) hj)
abbrev s_l_bool_source : Stmt := topS 44
theorem sc_l_bool_source : FnScope ["_law_draws", "_law_most", "_law_nodes", "_law_lengths", "_law_many", "_law_k", "_law_pair"] ["_law_draws", "_law_most"] (defScope s_l_bool_source) := ⟨rfl, rfl, rfl, by decide +kernel, rfl, by decide +kernel, by decide +kernel⟩
/-- the lengths of the nodes so far -/
structure LensOk (nds : List Nd) (lens : List Nat) (most : Nat) : Prop where
  len : nds.length = lens.length
  ok : ∀ (j : Nat) (nd : Nd), nds[j]? = some nd → nd.ok j ∧ lens.getD j 0 = nd.len fun i => lens.getD i 0
  most : ∀ x ∈ lens, x ≤ most
theorem getD_app {lens : List Nat} {x i : Nat} (h : i < lens.length) : (lens ++ [x]).getD i 0 = lens.getD i 0 := by
  rw [List.getD_eq_getElem?_getD, List.getD_eq_getElem?_getD, List.getElem?_append_left h]
theorem LensOk.app {nds : List Nd} {lens : List Nat} {most : Nat} (h : LensOk nds lens most) {nd : Nd} (hn : nd.ok lens.length) (hp : (nd.len fun j => lens.getD j 0) ≤ most) : LensOk (nds ++ [nd]) (lens ++ [nd.len fun j => lens.getD j 0]) most where
  len := by rw [List.length_append, List.length_append, h.len]; rfl
  ok := fun j nd' e => by
    by_cases hj : j < nds.length
    · rw [List.getElem?_append_left hj] at e
      obtain ⟨a, b⟩ := h.ok j nd' e
      have hjl : j < lens.length := by rw [← h.len]; exact hj
      refine ⟨a, ?_⟩
      rw [getD_app hjl, b]
      exact Nd.len_congr a fun i hi => (getD_app (by omega)).symm
    · have hj2 : j = nds.length := by
        have := (List.getElem?_eq_some_iff.mp e).1
        rw [List.length_append, List.length_singleton] at this
        omega
      rw [hj2, List.getElem?_append_right (Nat.le_refl _), Nat.sub_self] at e
      have e2 : nd = nd' := Option.some.inj e
      subst e2
      have hjl : j = lens.length := by rw [hj2, h.len]
      rw [hjl]
      refine ⟨hn, ?_⟩
      rw [List.getD_eq_getElem?_getD, List.getElem?_append_right (Nat.le_refl _), Nat.sub_self]
      show (nd.len fun j => lens.getD j 0) = _
      exact Nd.len_congr hn fun i hi => (getD_app hi).symm
  most := fun x hx => by
    rcases List.mem_append.mp hx with hx | hx
    · exact h.most x hx
    · rw [List.mem_singleton.mp hx]
      exact hp
def spSource (K : PySem.W.Frag) : Sp := fun vs H Q _ => ∃ (d l : Addr) (most : Nat), vs = [.ref d, vn most] ∧ Dr H d l ∧ 1 ≤ most ∧
  ∀ (p a : Addr) (src : List Nd) (L : Nat → Nat) (H' : Hp), Sbut d H H' → Dr H' d l → H p = none → H' p = some (.lst [.ref a, vn (L (src.length - 1))]) → SrcAt K H' a src → Valid src → 1 ≤ src.length → src.length ≤ 200 → IsLen src L → L (src.length - 1) ≤ most → Q (.ref p) H'
theorem ok_l_bool_source (T : Txt K w mg) (D : Df K mg "_law_bool_source" s_l_bool_source ["_law_draws", "_law_most"]) (C_l_draw : Cal P w K mg base 2 "_law_draw" spDraw) (C_l_bool_node : Cal P w K mg base 3 "_law_bool_node" (spNode K)) : Cal P w K mg base 4 "_law_bool_source" (spSource K) := by
  refine D.ok sc_l_bool_source (fun vs H Q E h => ?_) (fun f cdv A outer s H vs Q E hr h => ?_)
  · obtain ⟨_, _, _, rfl, _⟩ := h
    rfl
  obtain ⟨d, l, most, rfl, hD, h1, q⟩ := h
  refine ⟨_, (pss_cons (ps_set (i := 2) sc_l_bool_source.nd rfl (by first | exact Or.inl rfl | exact Or.inr rfl) (pe_lst pa_nil))
(pss_cons (ps_set (i := 3) sc_l_bool_source.nd rfl (by first | exact Or.inl rfl | exact Or.inr rfl) (pe_lst pa_nil))
(pss_cons (ps_set (i := 4) sc_l_bool_source.nd rfl (by first | exact Or.inl rfl | exact Or.inr rfl) (pe_op op_add pe_int (pe_op op_mod (pe_cal C_l_draw hr (by decide) (by rfl) (pa_cons (pv 0) pa_nil)) pe_int)))
(pss_cons (ps_if (pt_cmpR op_eq (pe_op op_mod (pe_cal C_l_draw hr (by decide) (by rfl) (pa_cons (pv 0) pa_nil)) pe_int) pe_int (nomark _))
(pss_one (ps_set (i := 4) sc_l_bool_source.nd rfl (by first | exact Or.inl rfl | exact Or.inr rfl) (pe_op op_add pe_int (pe_op op_mod (pe_cal C_l_draw hr (by decide) (by rfl) (pa_cons (pv 0) pa_nil)) pe_int))))
pss_nil)
(pss_cons (ps_for PassesOwn.never rfl (pi_range1 (by rfl) T.b_range (pa_cons (pv 4) pa_nil)) (pg_name (i := 5) sc_l_bool_source.nd rfl (by first | exact Or.inl rfl | exact Or.inr rfl))
(pss_cons (ps_set (i := 6) sc_l_bool_source.nd rfl (by first | exact Or.inl rfl | exact Or.inr rfl) (pe_cal C_l_bool_node hr (by decide) (by rfl) (pa_cons (pv 0) (pa_cons (pv 3) (pa_cons (pv 1) pa_nil)))))
(pss_cons (ps_expr (pe_bm PySem.F.plainAttrs_list PySem.F.slot_list_append PySem.F.type_list_append mt_append (pv 2) (pa_cons (pe_ix ix_list (pv 6) pe_int (fun _ _ => rfl)) pa_nil)))
(pss_one (ps_expr (pe_bm PySem.F.plainAttrs_list PySem.F.slot_list_append PySem.F.type_list_append mt_append (pv 3) (pa_cons (pe_ix ix_list (pv 6) pe_int (fun _ _ => rfl)) pa_nil)))))))
(pss_one (ps_ret (pe_lst (pa_cons (pe_callTy call_tuple_of (by rfl) T.b_tuple (by decide +kernel) (pa_cons (pv 2) pa_nil)) (pa_cons (pe_ix ix_list (pv 3) (pe_op op_sub (pe_callB call_len_seq (by rfl) T.b_len PySem.boot_len (pa_cons (pv 3) pa_nil)) pe_int) (fun _ _ => rfl)) pa_nil)))))))))), ?_⟩
  refine ⟨Nat.zero_le _, fun ln hln => ⟨Nat.zero_le _, fun ll hll => ?_⟩⟩
  have e2 : Sbut d H (upd (upd H ln (.lst [])) ll (.lst [])) := (sbut_new hln).trans (sbut_new hll)
  have D2 : Dr (upd (upd H ln (.lst [])) ll (.lst [])) d l := (hD.new hln).new hll
  have nnl : ln ≠ ll := fun z => by rw [← z, upd_same] at hll; cases hll
  have hllH : H ll = none := (same_new hln (.lst [])).free hll
  have dn : ln ≠ d := fun z => by
    obtain ⟨xs, h⟩ := hD.some_
    rw [z, h] at hln
    cases hln
  have dl : ll ≠ d := fun z => by
    obtain ⟨xs, h⟩ := hD.some_
    rw [z, h] at hllH
    cases hllH
  have en2 : (upd (upd H ln (.lst [])) ll (.lst [])) ln = some (.lst []) := by rw [upd_ne nnl, upd_same]
  have el2 : (upd (upd H ln (.lst [])) ll (.lst [])) ll = some (.lst []) := upd_same
  generalize hH2 : upd (upd H ln (.lst [])) ll (.lst []) = H2 at e2 D2 en2 el2
  refine ⟨_, rfl, d, l, rfl, D2, fun r3 H3 e3 D3 a3 b3 => ⟨_, _, rfl, rfl, (by show (0 : Int) < 9; decide), _, _, rfl, rfl, ?_⟩⟩
  refine ⟨_, rfl, d, l, rfl, D3, fun r4 H4 e4 D4 a4 b4 => ⟨_, _, rfl, rfl, (by show (0 : Int) < 12; decide), rfl, _, rfl, ?_⟩⟩
  have q9a := Int.emod_nonneg r3 (b := 9) (by decide)
  have q9b := Int.emod_lt_of_pos r3 (b := 9) (by decide)
  refine ite2 (fun _ => ?a) (fun _ => ?b)
  case' a =>
    refine ⟨_, rfl, d, l, rfl, D4, fun r5 H5 e5 D5 a5 b5 => ⟨_, _, rfl, rfl, (by show (0 : Int) < 190; decide), _, _, rfl, rfl, ?_⟩⟩
    have q190a := Int.emod_nonneg r5 (b := 190) (by decide)
    have q190b := Int.emod_lt_of_pos r5 (b := 190) (by decide)
    have hm1 : 1 ≤ 10 + r5 % 190 := by omega
    have hm2 : 10 + r5 % 190 ≤ 199 := by omega
    have e6 : Sbut d H2 H5 := (e3.trans e4).trans e5
    have D6 := D5
    obtain ⟨many, hmany⟩ : ∃ m : Int, m = 10 + r5 % 190 := ⟨_, rfl⟩
    rw [← hmany] at hm1 hm2
  case' b =>
    have hm1 : 1 ≤ 1 + r3 % 9 := by omega
    have hm2 : 1 + r3 % 9 ≤ 199 := by omega
    have e6 : Sbut d H2 H4 := e3.trans e4
    have D6 := D4
    obtain ⟨many, hmany⟩ : ∃ m : Int, m = 1 + r3 % 9 := ⟨_, rfl⟩
    rw [← hmany] at hm1 hm2
  all_goals
    have en6 := e6 _ _ dn en2
    have el6 := e6 _ _ dl el2
    refine ⟨_, rfl, many, by rw [hmany], by omega, by omega, for_range (lo := 0) (n := many.toNat) (fun i σ H' => ∃ (m4 y z : Option V) (xs : List V) (nds : List Nd) (lens : List Nat), σ = [some (.ref d), some (vn most), some (.ref ln), some (.ref ll), m4, y, z] ∧ Sbut d H H' ∧ Dr H' d l ∧
      H' ln = some (.lst xs) ∧ H' ll = some (.lst (lens.map vn)) ∧ All2 (NdAt K H') xs nds ∧ nds.length = i ∧ LensOk nds lens most)
      ⟨_, _, _, [], [], [], rfl, e2.trans e6, D6, en6, el6, All2.nil, rfl, ⟨rfl, fun j nd e => by simp at e, fun x hx => by cases hx⟩⟩ ?_ ?_⟩
    · rintro i σ H' hi ⟨m4, y, z, xs, nds, lens, rfl, e7, D7, en7, el7, hx, hnl, hok⟩
      have hlens : lens.length = i := by rw [← hok.len]; exact hnl
      have hxl := hx.len
      refine ⟨_, rfl, _, rfl, _, rfl, d, l, ll, lens, most, rfl, D7, el7, dl, by omega, h1, hok.most, fun p x nd H8 e8 D8 hp ep hnd hndok hle => ?_⟩
      have hpH' : H' p = none := hp
      have pn : p ≠ ln := fun z => by rw [z, en7] at hpH'; cases hpH'
      have pl : p ≠ ll := fun z => by rw [z, el7] at hpH'; cases hpH'
      have en8 := e8 _ _ dn en7
      have el8 := e8 _ _ dl el7
      refine ⟨_, rfl, .inl ⟨rfl, _, SqL.of en8⟩, _, rfl, p, _, _, _, rfl, rfl, SqL.of ep, rfl, ln, xs, x, rfl, rfl, en8, szl (by omega), ?_⟩
      have el9 : (upd H8 ln (.lst (xs ++ [x]))) ll = some (.lst (lens.map vn)) := by rw [upd_ne nnl.symm]; exact el8
      have ep9 : (upd H8 ln (.lst (xs ++ [x]))) p = some (.lst [x, vn (nd.len fun j => lens.getD j 0)]) := by rw [upd_ne pn]; exact ep
      refine ⟨_, rfl, .inl ⟨rfl, _, SqL.of el9⟩, _, rfl, p, _, _, _, rfl, rfl, SqL.of ep9, rfl, ll, _, _, rfl, rfl, el9, by rw [List.length_map]; exact szl (by omega), ?_⟩
      have t8 := sbut_tk D7 e8
      have t9 : TK H8 (upd H8 ln (.lst (xs ++ [x]))) := tk_lst en8
      have t10 := t9.trans (tk_lst (ys := lens.map vn ++ [vn (nd.len fun j => lens.getD j 0)]) el9)
      have e810 : Sbut d H (upd (upd H8 ln (.lst (xs ++ [x]))) ll (.lst (lens.map vn ++ [vn (nd.len fun j => lens.getD j 0)]))) := sbut_write (sbut_write (e7.trans e8) hln) hllH
      have D10 : Dr (upd (upd H8 ln (.lst (xs ++ [x]))) ll (.lst (lens.map vn ++ [vn (nd.len fun j => lens.getD j 0)]))) d l := (D8.write hD hln).write hD hllH
      rw [hlens] at hndok
      refine ⟨_, _, _, xs ++ [x], nds ++ [nd], lens ++ [nd.len fun j => lens.getD j 0], rfl, e810, D10, ?_, ?_, (hx.mono fun _ _ h => h.mono (t8.trans t10)).app (All2.one (hnd.mono t10)), by rw [List.length_append, List.length_singleton, hnl], hok.app (by rw [hlens]; exact hndok) hle⟩
      · rw [upd_ne nnl, upd_same]
      · rw [upd_same, List.map_append]
        rfl
    · rintro σ H' ⟨m4, y, z, xs, nds, lens, rfl, e7, D7, en7, el7, hx, hnl, hok⟩
      have hlens : lens.length = nds.length := hok.len.symm
      have hn1 : 1 ≤ nds.length := by omega
      refine ⟨_, rfl, ln, xs, rfl, .inl ⟨SqL.of en7, fun a ha => ?_⟩⟩
      have s8 := same_new ha (.tup xs)
      have el8 := s8 _ _ el7
      refine ⟨_, rfl, _, rfl, ll, _, rfl, .inl (SqL.of el8), _, _, rfl, rfl, ll, _, _, _, rfl, rfl, SqL.of el8, at_of (j := nds.length - 1) ?_ (lens_get (by omega)), by show 2 ≤ sizeLine; decide, fun p hp => ?_⟩
      · rw [List.length_map]
        show (lens.length : Int) - 1 = _
        omega
      have s9 := same_new hp (.lst [.ref a, vn (lens.getD (nds.length - 1) 0)])
      refine q p a nds (fun j => lens.getD j 0) _ (e7.trans (Sbut.of (s8.trans s9))) (D7.same (s8.trans s9)) (Sbut.free (e7.trans (Sbut.of s8)) (D7.same s8) hp) upd_same ⟨xs, same_tup s9 (SqT.of upd_same), hx.mono fun _ _ h => h.mono (tk_same (s8.trans s9))⟩ (fun i nd e => (hok.ok i nd e).1) hn1 (by omega) (fun i nd e => (hok.ok i nd e).2) (hok.most _ (getD_mem (by omega)))
abbrev s_l_bits : Stmt := topS 46
theorem sc_l_bits : FnScope ["_law_draws", "_law_k"] ["_law_draws"] (defScope s_l_bits) := ⟨rfl, rfl, rfl, by decide +kernel, rfl, by decide +kernel, by decide +kernel⟩
def spLBits : Sp := fun vs H Q _ => ∃ d l : Addr, vs = [.ref d] ∧ Dr H d l ∧ ∀ (b : Addr) (bs : List Bool) (H' : Hp), Sbut d H H' → Dr H' d l → H b = none → H' b = some (.lst (bs.map V.bl)) → bs.length = 60 → Q (.ref b) H'
theorem ok_l_bits (T : Txt K w mg) (D : Df K mg "_law_bits" s_l_bits ["_law_draws"]) (C_l_draw : Cal P w K mg base 2 "_law_draw" spDraw) : Cal P w K mg base 3 "_law_bits" spLBits := by
  refine D.ok sc_l_bits (fun vs H Q E h => ?_) (fun f cdv A outer s H vs Q E hr h => ?_)
  · obtain ⟨_, _, rfl, _⟩ := h
    rfl
  obtain ⟨d, l, rfl, hD, q⟩ := h
  refine ⟨_, (pss_one (ps_ret (pe_lc (own := [("_law_k", 1)]) (g := gName 1) (tt := tYes) (by rfl) sc_l_bits.nd (pi_range1 (by rfl) T.b_range (pa_cons pe_int pa_nil)) (blkOk_by (own := [("_law_k", 1)]) (N := ["_law_draws", "_law_k"]) (sc := defScope s_l_bits) (by decide +kernel)) (fun _ _ _ _ _ => pg_name (i := 1) sc_l_bits.nd rfl (Or.inl rfl)) (fun _ _ _ _ _ => pts_nil) (fun _ _ _ _ _ => (pe_cmpR op_eq (pe_op op_mod (pe_cal C_l_draw hr (by decide) (by rfl) (pa_cons (pv 0) pa_nil)) pe_int) pe_int (nomark _)))))), ?_⟩
  refine ⟨60, rfl, by decide, by decide, fun D hDn => lc_range (lo := 0) (n := 60) (fun i H' => ∃ bs : List Bool, Sbut d H H' ∧ Dr H' d l ∧ H' D = some (.lst (bs.map V.bl)) ∧ bs.length = i) ⟨[], sbut_new hDn, hD.new hDn, upd_same, rfl⟩ ?_ ?_⟩
  · rintro i H' hi ⟨bs, e, D1, eD, hbl⟩
    have hDd : D ≠ d := fun z => by
      obtain ⟨xs, h⟩ := hD.some_
      rw [z, h] at hDn
      cases hDn
    refine ⟨rfl, _, rfl, d, l, rfl, D1, fun r H2 e2 D2 a2 b2 => ⟨_, _, rfl, rfl, (by show (0 : Int) < 2; decide), rfl, _, e2 _ _ hDd eD, by rw [List.length_map]; exact szl (by omega), bs ++ [decide (V.int (r % 2) = V.int 0)], sbut_write (e.trans e2) hDn, D2.write hD hDn, ?_, by rw [List.length_append, List.length_singleton, hbl]⟩⟩
    rw [upd_same, List.map_append]
    rfl
  · rintro H' ⟨bs, e, D1, eD, hbl⟩
    exact q D bs H' e D1 hDn eD hbl
abbrev s_l_cycle : Stmt := topS 47
theorem sc_l_cycle : FnScope ["_law_draws", "_law_rest", "_law_order", "_law_k", "_law_sent_here", "_law_at"] ["_law_draws"] (defScope s_l_cycle) := ⟨rfl, rfl, rfl, by decide +kernel, rfl, by decide +kernel, by decide +kernel⟩
def spLCycle (K : PySem.W.Frag) : Sp := fun vs H Q _ => ∃ d l : Addr, vs = [.ref d] ∧ Dr H d l ∧ ∀ (v : V) (c : P5) (H' : Hp), Sbut d H H' → Dr H' d l → CycAt K H' v c → c ∈ cycles5 → Q v H'
theorem ok_l_cycle (T : Txt K w mg) (D : Df K mg "_law_cycle" s_l_cycle ["_law_draws"]) (C_l_draw : Cal P w K mg base 2 "_law_draw" spDraw) : Cal P w K mg base 3 "_law_cycle" (spLCycle K) := by
  refine D.ok sc_l_cycle (fun vs H Q E h => ?_) (fun f cdv A outer s H vs Q E hr h => ?_)
  · obtain ⟨_, _, rfl, _⟩ := h
    rfl
  obtain ⟨d, l, rfl, hD, q⟩ := h
  refine ⟨_, (pss_cons (ps_set (i := 1) sc_l_cycle.nd rfl (by first | exact Or.inl rfl | exact Or.inr rfl) (pe_lst (pa_cons pe_int (pa_cons pe_int (pa_cons pe_int (pa_cons pe_int pa_nil))))))
(pss_cons (ps_set (i := 2) sc_l_cycle.nd rfl (by first | exact Or.inl rfl | exact Or.inr rfl) (pe_lst (pa_cons pe_int pa_nil)))
(pss_cons (ps_for PassesOwn.never rfl (pi_range1 (by rfl) T.b_range (pa_cons pe_int pa_nil)) (pg_name (i := 3) sc_l_cycle.nd rfl (by first | exact Or.inl rfl | exact Or.inr rfl))
(pss_cons (ps_set (i := 5) sc_l_cycle.nd rfl (by first | exact Or.inl rfl | exact Or.inr rfl) (pe_op op_mod (pe_cal C_l_draw hr (by decide) (by rfl) (pa_cons (pv 0) pa_nil)) (pe_callB call_len_seq (by rfl) T.b_len PySem.boot_len (pa_cons (pv 1) pa_nil))))
(pss_cons (ps_expr (pe_bm PySem.F.plainAttrs_list PySem.F.slot_list_append PySem.F.type_list_append mt_append (pv 2) (pa_cons (pe_ix ix_list (pv 1) (pv 5) (fun _ _ => rfl)) pa_nil)))
(pss_one (ps_set (i := 1) sc_l_cycle.nd rfl (by first | exact Or.inl rfl | exact Or.inr rfl) (pe_op op_cat (pe_slice sl_list (pv 1) po_none (po_some (pv 5))) (pe_slice sl_list (pv 1) (po_some (pe_op op_add (pv 5) pe_int)) po_none)))))))
(pss_cons (ps_set (i := 4) sc_l_cycle.nd rfl (by first | exact Or.inl rfl | exact Or.inr rfl) (pe_lst (pa_cons pe_int (pa_cons pe_int (pa_cons pe_int (pa_cons pe_int (pa_cons pe_int pa_nil)))))))
(pss_cons (ps_for PassesOwn.never rfl (pi_range1 (by rfl) T.b_range (pa_cons pe_int pa_nil)) (pg_name (i := 3) sc_l_cycle.nd rfl (by first | exact Or.inl rfl | exact Or.inr rfl))
(pss_one (ps_asg (pe_ix ix_list (pv 2) (pe_op op_mod (pe_op op_add (pv 3) pe_int) pe_int) (fun _ _ => rfl)) (pg_sub (pv 4) (pe_ix ix_list (pv 2) (pv 3) (fun _ _ => rfl)) set_list))))
(pss_one (ps_ret (pe_callTy call_tupleN (by rfl) T.b_tuple (by decide +kernel) (pa_cons (pv 4) pa_nil))))))))), ?_⟩
  refine ⟨by show 4 ≤ sizeLine; decide, fun lr hlr => ⟨by show 1 ≤ sizeLine; decide, fun lo hlo => ?_⟩⟩
  have s1 := same_new hlr (.lst [.int 1, .int 2, .int 3, .int 4])
  have s2 := same_new hlo (.lst [.int 0])
  have hloH : H lo = none := s1.free hlo
  have nro : lr ≠ lo := fun z => by rw [← z, upd_same] at hlo; cases hlo
  have dlo : lo ≠ d := fun z => by
    obtain ⟨xs, h⟩ := hD.some_
    rw [z, h] at hloH
    cases hloH
  have dlr : lr ≠ d := fun z => by
    obtain ⟨xs, h⟩ := hD.some_
    rw [z, h] at hlr
    cases hlr
  refine ⟨4, rfl, by decide, by decide, for_range (lo := 0) (n := 4) (fun i σ H' => ∃ (r : Addr) (y z : Option V) (o rs : List Nat), σ = [some (.ref d), some (.ref r), some (.ref lo), y, none, z] ∧ Sbut d H H' ∧ Dr H' d l ∧ r ≠ d ∧ r ≠ lo ∧ H' r = some (.lst (rs.map vn)) ∧ H' lo = some (.lst (o.map vn)) ∧ (o, rs) ∈ reach i)
    ⟨lr, _, _, [0], [1, 2, 3, 4], rfl, Sbut.of (s1.trans s2), hD.same (s1.trans s2), dlr, nro, s2 _ _ upd_same, upd_same, List.mem_singleton.mpr rfl⟩ ?_ ?_⟩
  · rintro i σ H' hi ⟨r, y, z, o, rs, rfl, e, D1, hrd, hro, er, eo, hre⟩
    obtain ⟨g1, g2, g3, g4⟩ := reach_len i (by omega) _ hre
    have g1' : o.length = i + 1 := g1
    have g2' : rs.length = 4 - i := g2
    have hrl : (rs.map vn).length = rs.length := List.length_map _
    refine ⟨_, rfl, d, l, rfl, D1, fun x H2 e2 D2 a2 b2 => ⟨_, rfl, r, _, rfl, .inl (SqL.of (e2 _ _ hrd er)), _, _, rfl, rfl, (by omega), ?_⟩⟩
    have er2 := e2 _ _ hrd er
    have eo2 := e2 _ _ dlo eo
    obtain ⟨j, hj, hjl⟩ : ∃ j : Nat, x % ((rs.map vn).length : Int) = (j : Int) ∧ j < rs.length := by
      have m1 := Int.emod_nonneg x (b := ((rs.map vn).length : Int)) (by omega)
      have m2 := Int.emod_lt_of_pos x (b := ((rs.map vn).length : Int)) (by omega)
      exact ⟨(x % ((rs.map vn).length : Int)).toNat, by omega, by omega⟩
    refine ⟨_, rfl, .inl ⟨rfl, _, SqL.of eo2⟩, _, rfl, _, rfl, r, _, _, _, rfl, rfl, SqL.of er2, at_of hj (lens_get hjl), lo, _, _, rfl, rfl, eo2, by rw [List.length_map]; exact szl (by omega), ?_⟩
    have e3 := sbut_write (o := .lst (o.map vn ++ [vn (rs.getD j 0)])) (e.trans e2) hloH
    have D3 := D2.write (o := .lst (o.map vn ++ [vn (rs.getD j 0)])) hD hloH
    have er3 : (upd H2 lo (.lst (o.map vn ++ [vn (rs.getD j 0)]))) r = some (.lst (rs.map vn)) := by rw [upd_ne hro]; exact er2
    have eo3 : (upd H2 lo (.lst (o.map vn ++ [vn (rs.getD j 0)]))) lo = some (.lst (o.map vn ++ [vn (rs.getD j 0)])) := upd_same
    generalize upd H2 lo (.lst (o.map vn ++ [vn (rs.getD j 0)])) = H3 at e3 D3 er3 eo3
    refine ⟨_, rfl, _, rfl, _, rfl, r, _, rfl, SqL.of er3, fun p1 hp1 => ?_⟩
    have s4 := same_new hp1 (.lst (cutV (rs.map vn) none (some (x % ((rs.map vn).length : Int)))))
    refine ⟨_, rfl, _, rfl, _, _, rfl, rfl, _, rfl, r, _, rfl, SqL.of (s4 _ _ er3), fun p2 hp2 => ?_⟩
    have s5 := same_new hp2 (.lst (cutV (rs.map vn) (some (x % ((rs.map vn).length : Int) + 1)) none))
    have ep1 := s5 _ _ (show (upd H3 p1 (.lst (cutV (rs.map vn) none (some (x % ((rs.map vn).length : Int)))))) p1 = _ from upd_same)
    have c1 : cutV (rs.map vn) none (some (x % ((rs.map vn).length : Int))) = (rs.map vn).take j := cut_to (by omega) hj
    have c2 : cutV (rs.map vn) (some (x % ((rs.map vn).length : Int) + 1)) none = (rs.map vn).drop (j + 1) := cut_from (by omega) (by omega)
    refine ⟨p1, p2, _, _, rfl, rfl, ep1, upd_same, ?_, fun p3 hp3 => ?_⟩
    · rw [c1, c2, List.length_take, List.length_drop]
      exact sz (by omega)
    have s6 := same_new hp3 (.lst (cutV (rs.map vn) none (some (x % ((rs.map vn).length : Int))) ++ cutV (rs.map vn) (some (x % ((rs.map vn).length : Int) + 1)) none))
    have s46 := (s4.trans s5).trans s6
    have h3 : H3 p3 = none := (s4.trans s5).free hp3
    have n3d : p3 ≠ d := fun z => by
      obtain ⟨xs, h⟩ := D3.some_
      rw [z, h] at h3
      cases h3
    have n3o : p3 ≠ lo := fun z => by
      rw [z, eo3] at h3
      cases h3
    refine ⟨p3, _, _, o ++ [rs.getD j 0], rs.take j ++ rs.drop (j + 1), rfl, e3.trans (Sbut.of s46), D3.same s46, n3d, n3o, ?_, ?_, reach_step hre hjl⟩
    · rw [upd_same, c1, c2, List.map_append, List.map_take, List.map_drop]
    · rw [s46 _ _ eo3, List.map_append]
      rfl
  · rintro σ H' ⟨r, y, z, o, rs, rfl, e, D1, hrd, hro, er, eo, hre⟩
    obtain ⟨g1, g2, g3, g4⟩ := reach_len 4 (by decide) _ hre
    have g1' : o.length = 5 := g1
    refine ⟨by show 5 ≤ sizeLine; decide, fun ls hls => ?_⟩
    have s3 := same_new hls (.lst [.int 0, .int 0, .int 0, .int 0, .int 0])
    have eo3 := s3 _ _ eo
    have nso : lo ≠ ls := ne_of_none eo hls
    have hlsH : H ls = none := Sbut.free e D1 hls
    refine ⟨5, rfl, by decide, by decide, for_range (lo := 0) (n := 5) (fun i σ H2 => ∃ y : Option V, σ = [some (.ref d), some (.ref r), some (.ref lo), y, some (.ref ls), z] ∧ Same H' H2 ∧ H2 ls = some (.lst ((setF (fun k => o.getD k 0) (fun k => o.getD ((k + 1) % 5) 0) i).map vn)))
      ⟨_, rfl, s3, upd_same⟩ ?_ ?_⟩
    · rintro i σ H2 hi ⟨y, rfl, e2, es⟩
      have e0 : (0 : Int) + (i : Int) = (i : Int) := Int.zero_add _
      have eo2 := e2 _ _ eo
      have hg : o.getD i 0 < 5 := g3 _ (getD_mem (by omega))
      refine ⟨_, rfl, _, rfl, _, _, rfl, rfl, _, _, rfl, rfl, (by show (0 : Int) < 5; decide), lo, _, _, _, rfl, rfl, SqL.of eo2, at_of (j := (i + 1) % 5) (by omega) (lens_get (by omega)), _, rfl, _, rfl, _, rfl, lo, _, _, _, rfl, rfl, SqL.of eo2, at_of (j := i) e0 (lens_get (by omega)),
        ls, _, _, o.getD i 0, rfl, rfl, es, ixv (by rw [List.length_map, setF_len]; exact hg), ?_⟩
      refine ⟨_, rfl, same_write e2 hls, ?_⟩
      rw [upd_same, setF_map]
    · rintro σ H2 ⟨y, rfl, e2, es⟩
      refine ⟨_, rfl, ls, _, rfl, SqL.of es, fun m o2 hm ho => ?_⟩
      have s4 := same_new hm (.frz o2 (.tup ((setF (fun k => o.getD k 0) (fun k => o.getD ((k + 1) % 5) 0) 5).map vn)))
      exact q _ (sentOf o) _ (e.trans (Sbut.of (e2.trans s4))) (D1.same (e2.trans s4)) ⟨m, rfl, .inl ⟨o2, by rw [sent_eq]; exact upd_same, ho⟩⟩ (reach_cyc hre)
end
end K24
set_option Elab.async false
set_option linter.all false
set_option maxRecDepth 100000
set_option maxHeartbeats 4000000
namespace K24
open PySem PySem.Spec PyProof.Rows L2
section
variable {P : Program} {w : World} {K : PySem.W.Frag} {mg : Str → Option Value} {base : Heap}
theorem tpP_of {src : List Nd} (hv : Valid src) {t : Tp} (h : TpOk src t) : TpP t := ⟨named_lt hv h.k, h.z, h.o⟩
theorem menu_at (r : Int) : ∃ most : Nat, atI ([.int 300, .int 300, .int 300, .int 300, .int 300, .int 2500] : List V) (r % 6) = some (vn most) ∧ 1 ≤ most ∧ most ≤ 2500 := by
  have m : r % 6 = 0 ∨ r % 6 = 1 ∨ r % 6 = 2 ∨ r % 6 = 3 ∨ r % 6 = 4 ∨ r % 6 = 5 := by omega
  rcases m with m | m | m | m | m | m
  · exact ⟨300, at_of (j := 0) m rfl, by decide, by decide⟩
  · exact ⟨300, at_of (j := 1) m rfl, by decide, by decide⟩
  · exact ⟨300, at_of (j := 2) m rfl, by decide, by decide⟩
  · exact ⟨300, at_of (j := 3) m rfl, by decide, by decide⟩
  · exact ⟨300, at_of (j := 4) m rfl, by decide, by decide⟩
  · exact ⟨2500, at_of (j := 5) m rfl, by decide, by decide⟩
theorem cyc_list {c : P5} (h : c ∈ cycles5) : c = (List.range 5).map (ap c) := by
  have hl := (cyc_perm c h).1
  obtain ⟨a, b, d, e, f, rfl⟩ := list5 hl
  rfl
/-- what the points are to be -/
def dueOf (b : Bool) (c : P5) : List Nat := if b = true then c else [0, 1, 2, 3, 4]
theorem due_eq {src : List Nd} {L : Nat → Nat} {c : P5} {ws : List Tp} {bs : List Bool} {T : Nat → Bool} (hc : c ∈ cycles5) (hw : WordOk src L c ws) (hT : IsTru src (bf bs) T) :
    dueOf (T (src.length - 1)) c = (List.range 5).map fun x => runW (bf bs) ws x := by
  have hs := hw.sem (bf bs) T hT
  have e : ((List.range 5).map fun x => runW (bf bs) ws x) = (List.range 5).map fun x => if T (src.length - 1) = true then ap c x else x := by
    refine List.map_congr_left fun x hx => hs x ?_
    exact List.mem_range.mp hx
  rw [e]
  unfold dueOf
  cases T (src.length - 1) with
  | true =>
    rw [if_pos rfl]
    exact cyc_list hc
  | false => rfl
abbrev s_law : Stmt := topS 52
theorem sc_law : FnScope ["_law_script", "_law_draws", "_law_pair", "_law_source", "_law_cycle_here", "_law_word", "_law_turn", "_law_bits_here", "_law_due", "_law_point"] ["_law_script"] (defScope s_law) := ⟨rfl, rfl, rfl, by decide +kernel, rfl, by decide +kernel, by decide +kernel⟩
def spLaw (K : PySem.W.Frag) : Sp := fun vs H Q _ => ∃ (a : Addr) (ns : List Int), vs = [.ref a] ∧ SqL K H a (ns.map V.int) ∧ ns.length ≤ 63 ∧ ∀ H', Q (.bl true) H'
theorem ok_law {f : Addr} {fd : FuncData} (T : Txt K w mg) (F : Fun K "law" "law" s_law f fd) (C_l_numbers : Cal P w K mg base 2 "_law_numbers" (spNumbers K)) (C_l_draw : Cal P w K mg base 2 "_law_draw" spDraw) (C_l_bool_source : Cal P w K mg base 4 "_law_bool_source" (spSource K))
    (C_l_cycle : Cal P w K mg base 3 "_law_cycle" (spLCycle K)) (C_compile_word : Cal P w K mg base 6 "compile_word" (spCompile K)) (C_l_form : Cal P w K mg base 3 "_law_form" (spForm K)) (C_l_bits : Cal P w K mg base 3 "_law_bits" spLBits)
    (C_l_truth : Cal P w K mg base 1 "_law_truth" (spTruth K)) (C_l_sent : Cal P w K mg base 1 "_law_sent" (spSent K)) (C_l_equalL : Cal P w K mg base 3 "_law_equal" (spEqL K)) (C_l_equal : Cal P w K mg base 1 "_law_equal" spEqI) (C_effect : Cal P w K mg base 5 "effect" (spEffect K)) :
    FnOk P w K mg base CX0 7 f fd ["_law_script"] (spLaw K) := by
  refine F.ok sc_law (fun vs H Q E h => ?_) (fun cdv A outer s H vs Q E hr h => ?_)
  · obtain ⟨_, _, rfl, _⟩ := h
    rfl
  obtain ⟨a, ns, rfl, hS, h63, q⟩ := h
  refine ⟨_, (pss_cons (ps_set (i := 1) sc_law.nd rfl (by first | exact Or.inl rfl | exact Or.inr rfl) (pe_lst (pa_cons (pe_cal C_l_numbers hr (by decide) (by rfl) (pa_cons (pv 0) pa_nil)) (pa_cons pe_int pa_nil))))
(pss_cons (ps_set (i := 2) sc_law.nd rfl (by first | exact Or.inl rfl | exact Or.inr rfl) (pe_cal C_l_bool_source hr (by decide) (by rfl) (pa_cons (pv 1) (pa_cons (pe_ix ix_list (pe_lst (pa_cons pe_int (pa_cons pe_int (pa_cons pe_int (pa_cons pe_int (pa_cons pe_int (pa_cons pe_int pa_nil))))))) (pe_op op_mod (pe_cal C_l_draw hr (by decide) (by rfl) (pa_cons (pv 1) pa_nil)) pe_int) (fun _ _ => rfl)) pa_nil))))
(pss_cons (ps_set (i := 3) sc_law.nd rfl (by first | exact Or.inl rfl | exact Or.inr rfl) (pe_ix ix_list (pv 2) pe_int (fun _ _ => rfl)))
(pss_cons (ps_set (i := 4) sc_law.nd rfl (by first | exact Or.inl rfl | exact Or.inr rfl) (pe_cal C_l_cycle hr (by decide) (by rfl) (pa_cons (pv 1) pa_nil)))
(pss_cons (ps_set (i := 5) sc_law.nd rfl (by first | exact Or.inl rfl | exact Or.inr rfl) (pe_cal C_compile_word hr (by decide) (by rfl) (pa_cons (pv 3) (pa_cons (pv 4) pa_nil))))
(pss_cons (ps_if (pt_not (pt_val (pe_cal C_l_form hr (by decide) (by rfl) (pa_cons (pv 5) (pa_cons (pv 3) (pa_cons (pe_ix ix_list (pv 2) pe_int (fun _ _ => rfl)) pa_nil))))))
(pss_one (ps_ret pe_bl))
pss_nil)
(pss_cons (ps_for PassesOwn.never rfl (pi_range1 (by rfl) T.b_range (pa_cons pe_int pa_nil)) (pg_name (i := 6) sc_law.nd rfl (by first | exact Or.inl rfl | exact Or.inr rfl))
(pss_cons (ps_set (i := 7) sc_law.nd rfl (by first | exact Or.inl rfl | exact Or.inr rfl) (pe_cal C_l_bits hr (by decide) (by rfl) (pa_cons (pv 1) pa_nil)))
(pss_cons (ps_set (i := 8) sc_law.nd rfl (by first | exact Or.inl rfl | exact Or.inr rfl) (pe_lst (pa_cons pe_int (pa_cons pe_int (pa_cons pe_int (pa_cons pe_int (pa_cons pe_int pa_nil)))))))
(pss_cons (ps_if (pt_val (pe_cal C_l_truth hr (by decide) (by rfl) (pa_cons (pv 3) (pa_cons (pv 7) pa_nil))))
(pss_one (ps_set (i := 8) sc_law.nd rfl (by first | exact Or.inl rfl | exact Or.inr rfl) (pe_callTy call_list_of (by rfl) T.b_list (by decide +kernel) (pa_cons (pv 4) pa_nil))))
pss_nil)
(pss_cons (ps_if (pt_not (pt_val (pe_cal C_l_equalL hr (by decide) (by rfl) (pa_cons (pe_cal C_l_sent hr (by decide) (by rfl) (pa_cons (pv 5) (pa_cons (pv 7) pa_nil))) (pa_cons (pv 8) pa_nil)))))
(pss_one (ps_ret pe_bl))
pss_nil)
(pss_cons (ps_set (i := 9) sc_law.nd rfl (by first | exact Or.inl rfl | exact Or.inr rfl) (pe_op op_mod (pe_cal C_l_draw hr (by decide) (by rfl) (pa_cons (pv 1) pa_nil)) pe_int))
(pss_one (ps_if (pt_not (pt_val (pe_cal C_l_equal hr (by decide) (by rfl) (pa_cons (pe_cal C_effect hr (by decide) (by rfl) (pa_cons (pv 5) (pa_cons (pv 7) (pa_cons (pv 9) pa_nil)))) (pa_cons (pe_ix ix_list (pv 8) (pv 9) (fun _ _ => rfl)) pa_nil)))))
(pss_one (ps_ret pe_bl))
pss_nil))))))))
(pss_one (ps_ret pe_bl))))))))), ?_⟩
  refine ⟨_, rfl, a, ns, rfl, hS, h63, fun l ms H1 s1 n1 e1 hms => ⟨by show 2 ≤ sizeLine; decide, fun d hd => ?_⟩⟩
  have s2 := same_new hd (.lst [.ref l, .int 0])
  have D2 : Dr (upd H1 d (.lst [.ref l, .int 0])) d l := ⟨0, ms, upd_same, s2 _ _ e1, Int.le_refl 0, hms⟩
  generalize upd H1 d (.lst [.ref l, .int 0]) = H2 at s2 D2
  refine ⟨_, rfl, by show 6 ≤ sizeLine; decide, fun pm hpm => ?_⟩
  have D3 := D2.new (o := .lst [.int 300, .int 300, .int 300, .int 300, .int 300, .int 2500]) hpm
  have npm : pm ≠ d := fun z => by
    obtain ⟨xs, h⟩ := D2.some_
    rw [z, h] at hpm
    cases hpm
  refine ⟨_, rfl, d, l, rfl, D3, fun r4 H4 e4 D4 a4 b4 => ⟨_, _, rfl, rfl, (by show (0 : Int) < 6; decide), ?_⟩⟩
  obtain ⟨most, hat, hm1, hm2⟩ := menu_at r4
  refine ⟨pm, _, _, _, rfl, rfl, SqL.of (e4 _ _ npm upd_same), hat, d, l, most, rfl, D4, hm1, fun p asrc src L H5 e5 D5 np ep hsrc hv l1 l200 hL hLm => ?_⟩
  have npd : p ≠ d := fun z => by
    obtain ⟨xs, h⟩ := D4.some_
    rw [z, h] at np
    cases np
  refine ⟨_, rfl, p, _, _, _, rfl, rfl, SqL.of ep, rfl, ?_⟩
  refine ⟨_, rfl, d, l, rfl, D5, fun vc cyc H6 e6 D6 hcyc hc5 => ?_⟩
  have t6 := sbut_tk D5 e6
  have hsrc6 := hsrc.mono t6
  have ep6 := e6 _ _ npd ep
  refine ⟨_, rfl, _, rfl, asrc, vc, src, L, cyc, rfl, hsrc6, hv, l1, l200, hL, by omega, hcyc, hc5, fun lw us ws H7 s7 nlw elw hus hwok => ?_⟩
  have D7 := D6.same s7
  have hwt : ∀ t ∈ ws, TpP t := fun t ht => tpP_of hv (hwok.wsOk t ht)
  have hwl : ws.length ≤ 2500 := by rw [hwok.len]; omega
  have nlwd : lw ≠ d := fun z => by
    obtain ⟨xs, h⟩ := D6.some_
    rw [z, h] at nlw
    cases nlw
  refine ⟨_, rfl, _, rfl, _, rfl, p, _, _, _, rfl, rfl, SqL.of (s7 _ _ ep6), rfl, lw, asrc, ws, src, by rw [hwok.len]; rfl, ⟨us, SqL.of elw, hus⟩, by omega, hwok.wsOk, hsrc6.mono (tk_same s7), hv, l200, fun H8 s8 => ⟨_, rfl, iteF ?_⟩⟩
  refine ⟨3, rfl, by decide, by decide, for_range (lo := 0) (n := 3) (fun i σ H' => ∃ (x y z u : Option V), σ = [some (.ref a), some (.ref d), some (.ref p), some (.ref asrc), some vc, some (.ref lw), x, y, z, u] ∧ Dr H' d l ∧ SrcAt K H' asrc src ∧ CycAt K H' vc cyc ∧ H' lw = some (.lst us) ∧ All2 (TripAt K H') us ws)
    ⟨_, _, _, _, rfl, D7.same s8, hsrc6.mono (tk_same (s7.trans s8)), hcyc.mono (tk_same (s7.trans s8)), s8 _ _ elw, hus.mono fun _ _ h => h.mono (tk_same s8)⟩ ?_ ?_⟩
  · rintro i σ H' hi ⟨x, y, z, u, rfl, DA, sA, cA, wA, uA⟩
    refine ⟨_, rfl, d, l, rfl, DA, fun lb bs H9 e9 D9 nlb eb h60 => ?_⟩
    have t9 := sbut_tk DA e9
    have s9 := sA.mono t9
    have c9 := cA.mono t9
    have w9 := e9 _ _ nlwd wA
    have u9 := uA.mono fun _ _ h => h.mono t9
    have nlbd : lb ≠ d := fun z => by
      obtain ⟨xs, h⟩ := DA.some_
      rw [z, h] at nlb
      cases nlb
    obtain ⟨Tr, hTr⟩ := exists_tru hv (bf bs)
    have hdue := due_eq hc5 hwok hTr
    refine ⟨by show 5 ≤ sizeLine; decide, fun ld hld => ?_⟩
    have s10 := same_new hld (.lst [.int 0, .int 1, .int 2, .int 3, .int 4])
    refine ⟨_, rfl, _, rfl, asrc, lb, src, bs, Tr, rfl, s9.mono (tk_same s10), hv, l1, l200, SqL.of (s10 _ _ eb), h60, hTr, fun H11 s11 => ⟨_, rfl, ?_⟩⟩
    have s911 := s10.trans s11
    cases hT : Tr (src.length - 1)
    case' false =>
      refine iteF ?_
      have edue : H11 ld = some (.lst ((dueOf (Tr (src.length - 1)) cyc).map vn)) := by
        rw [hT]
        exact s11 _ _ upd_same
      have sB : Same H9 H11 := s911
    case' true =>
      refine iteT ?_
      obtain ⟨ac, rfl, hac⟩ := id (c9.mono (tk_same s911)).ex
      refine ⟨_, rfl, ac, _, rfl, .inr hac.t, fun ld2 hld2 => ?_⟩
      have edue : (upd H11 ld2 (.lst (cyc.map vn))) ld2 = some (.lst ((dueOf (Tr (src.length - 1)) cyc).map vn)) := by
        rw [hT]
        exact upd_same
      have sB : Same H9 (upd H11 ld2 (.lst (cyc.map vn))) := s911.trans (same_new hld2 _)
    all_goals
      rw [hdue] at edue
      have D12 := D9.same sB
      have w12 := sB _ _ w9
      have u12 := u9.mono fun _ _ h => h.mono (tk_same sB)
      have b12 := sB _ _ eb
      refine ⟨_, rfl, _, rfl, lw, lb, ws, bs, rfl, ⟨us, SqL.of w12, u12⟩, hwt, SqL.of b12, h60, fun ls H13 s13 es => ?_⟩
      refine ⟨_, rfl, ls, _, (List.range 5).map (fun x => runW (bf bs) ws x), rfl, SqL.of es, SqL.of (s13 _ _ edue), by rw [List.length_map, List.length_range]; decide, _, rfl, iteF ?_⟩
      have D13 := D12.same s13
      have sC := sB.trans s13
      refine ⟨_, rfl, d, l, rfl, D13, fun r14 H14 e14 D14 a14 b14 => ⟨_, _, rfl, rfl, (by show (0 : Int) < 5; decide), ?_⟩⟩
      obtain ⟨pt, hpt, hpt5⟩ : ∃ n : Nat, r14 % 5 = (n : Int) ∧ n < 5 := by
        have m1 := Int.emod_nonneg r14 (b := 5) (by decide)
        have m2 := Int.emod_lt_of_pos r14 (b := 5) (by decide)
        exact ⟨(r14 % 5).toNat, by omega, by omega⟩
      have t14 := sbut_tk D13 e14
      have w14 := e14 _ _ nlwd (s13 _ _ w12)
      have u14 := u12.mono fun _ _ h => h.mono ((tk_same s13).trans t14)
      have b14 := e14 _ _ nlbd (s13 _ _ b12)
      have edue14 := fun hne => e14 _ _ hne (s13 _ _ edue)
      refine ⟨_, rfl, _, rfl, _, rfl, lw, lb, ws, bs, pt, congrArg (fun z => [V.ref lw, V.ref lb, V.int z]) hpt, ⟨us, SqL.of w14, u14⟩, by omega, hwt, SqL.of b14, h60, hpt5, fun H15 s15 => ?_⟩
      refine ⟨_, rfl, _, rfl, _, _, _, vn (runW (bf bs) ws pt), rfl, rfl, SqL.of (s15 _ _ (edue14 ?_)), at_of hpt ?_, _, rfl, _, rfl, iteF ?_⟩
      · intro z
        obtain ⟨xs, h⟩ := D9.some_
        first
          | (rw [z] at hld2
             rw [s911 _ _ h] at hld2
             cases hld2)
          | (rw [z] at hld
             rw [h] at hld
             cases hld)
      · rw [List.getElem?_map, List.getElem?_map, List.getElem?_range hpt5]
        rfl
      · have sD := tk_same s15
        have tA : TK H9 H15 := ((tk_same sC).trans t14).trans sD
        exact ⟨_, _, _, _, rfl, D14.same s15, s9.mono tA, c9.mono tA, s15 _ _ w14, u14.mono fun _ _ h => h.mono sD⟩
  · rintro σ H' ⟨x, y, z, u, rfl, _⟩
    exact q H'
end
end K24
set_option Elab.async false
set_option linter.all false
set_option maxRecDepth 100000
set_option maxHeartbeats 4000000
namespace K24
open PySem PySem.Spec PyProof.Rows L2
section
variable {P : Program} {w : World} {K : PySem.W.Frag} {mg : Str → Option Value} {h base : Heap}
theorem df_mk {x : Str} {st : Stmt} {ps : List Str} {f : Addr} {oc : Value} {od an : Option Addr} {osl : Array (Option Value)} {kV doc pm cdv ct : Value} (X : K.In h) (G : h.Ns mainGlobals mg)
    (hb : ∀ (kV doc pm : Value) (an : Option Addr) (cdv ct : Value) (us : List Value), us.length = ps.length → bindArgs (PySem.W.fnOf x x (defArgs st) (defBody st) (defScope st) .none kV doc pm an cdv ct) ⟨us, []⟩ = pure (ps.zip us))
    (a : PySem.W.nsIn K mainGlobals x = some (some (.ref f))) (l : K.lookup f = some ⟨oc, od, .func (PySem.W.fnOf x x (defArgs st) (defBody st) (defScope st) .none kV doc pm an cdv ct), osl⟩)
    (c : PySem.W.codeIn K cdv x = true) (k : PySem.W.keepIn K (.ref f) = true) : Df K mg x st ps := by
  have F := fun_mk (st := st) l c k
  exact ⟨f, _, F, F.binds hb, PySem.W.mg_of X G a⟩
theorem five {a b c d e : Int} {t1 t2 t3 t4 t5 : Tok} : Vals [.int a, .int b, .int c, .int d, .int e] [.int a t1, .int b t2, .int c t3, .int d t4, .int e t5] := .cons ⟨_, rfl⟩ (.cons ⟨_, rfl⟩ (.cons ⟨_, rfl⟩ (.cons ⟨_, rfl⟩ (.cons ⟨_, rfl⟩ .nil))))
theorem txt_mk (X : K.In h) (G : h.Ns mainGlobals mg) {aL aS aF aG : Addr} {es : Array DictEntry} {n : Nat} {t1 t2 t3 t4 u1 u2 u3 u4 s0 s1 s2 s3 s4 f0 f1 f2 f3 f4 g0 g1 g2 g3 g4 : Tok} {dS : Option Addr} {slS slF slG : Array (Option Value)} {nS nF nG : Nat}
    (zisinstance : PySem.W.nsIn K mainGlobals "isinstance" = some none) (zlen : PySem.W.nsIn K mainGlobals "len" = some none) (zenumerate : PySem.W.nsIn K mainGlobals "enumerate" = some none) (ztuple : PySem.W.nsIn K mainGlobals "tuple" = some none)
    (zlist : PySem.W.nsIn K mainGlobals "list" = some none) (zsorted : PySem.W.nsIn K mainGlobals "sorted" = some none) (zrange : PySem.W.nsIn K mainGlobals "range" = some none) (zzip : PySem.W.nsIn K mainGlobals "zip" = some none)
    (zmin : PySem.W.nsIn K mainGlobals "min" = some none) (zset : PySem.W.nsIn K mainGlobals "set" = some none) (zint : PySem.W.nsIn K mainGlobals "int" = some none) (zbool : PySem.W.nsIn K mainGlobals "bool" = some none) (zstr : PySem.W.nsIn K mainGlobals "str" = some none)
    (i1 : PySem.W.nsIn K mainGlobals "NODES" = some (some (.int 200 t1))) (i2 : PySem.W.nsIn K mainGlobals "INPUTS" = some (some (.int 60 t2))) (i3 : PySem.W.nsIn K mainGlobals "MOST" = some (some (.int 20000 t3))) (i4 : PySem.W.nsIn K mainGlobals "POINTS" = some (some (.int 5 t4)))
    (l1 : PySem.W.nsIn K mainGlobals "LENGTHS" = some (some (.ref aL))) (l2 : K.lookup aL = some ⟨.type "dict", none, .dict es n, #[]⟩) (l3 : PySem.W.KeysLit w.params es.toList) (l4 : (aL == sysModules) = false)
    (k1 : PySem.W.nsIn K aL "input" = some (some (.int 2 u1))) (k2 : PySem.W.nsIn K aL "not" = some (some (.int 2 u2))) (k3 : PySem.W.nsIn K aL "and" = some (some (.int 3 u3))) (k4 : PySem.W.nsIn K aL "or" = some (some (.int 3 u4)))
    (p1 : PySem.W.nsIn K mainGlobals "STAY" = some (some (.ref aS))) (p2 : K.lookup aS = some ⟨.type "tuple", dS, .seq #[.int 0 s0, .int 1 s1, .int 2 s2, .int 3 s3, .int 4 s4] nS, slS⟩)
    (p3 : PySem.W.nsIn K mainGlobals "FIRST" = some (some (.ref aF))) (p4 : K.lookup aF = some ⟨.type "tuple", none, .seq #[.int 1 f0, .int 2 f1, .int 3 f2, .int 4 f3, .int 0 f4] nF, slF⟩)
    (p5 : PySem.W.nsIn K mainGlobals "SECOND" = some (some (.ref aG))) (p6 : K.lookup aG = some ⟨.type "tuple", none, .seq #[.int 2 g0, .int 4 g1, .int 1 g2, .int 0 g3, .int 3 g4] nG, slG⟩) : Txt K w mg where
  b_isinstance := PySem.W.mg_none_of X G zisinstance
  b_len := PySem.W.mg_none_of X G zlen
  b_enumerate := PySem.W.mg_none_of X G zenumerate
  b_tuple := PySem.W.mg_none_of X G ztuple
  b_list := PySem.W.mg_none_of X G zlist
  b_sorted := PySem.W.mg_none_of X G zsorted
  b_range := PySem.W.mg_none_of X G zrange
  b_zip := PySem.W.mg_none_of X G zzip
  b_min := PySem.W.mg_none_of X G zmin
  b_set := PySem.W.mg_none_of X G zset
  b_int := PySem.W.mg_none_of X G zint
  b_bool := PySem.W.mg_none_of X G zbool
  b_str := PySem.W.mg_none_of X G zstr
  g_NODES := ⟨_, PySem.W.mg_of X G i1⟩
  g_INPUTS := ⟨_, PySem.W.mg_of X G i2⟩
  g_MOST := ⟨_, PySem.W.mg_of X G i3⟩
  g_POINTS := ⟨_, PySem.W.mg_of X G i4⟩
  g_LENGTHS := ⟨_, PySem.W.mg_of X G l1, l4, ⟨es, n, _, l2, l3, k1, _, rfl⟩, ⟨es, n, _, l2, l3, k2, _, rfl⟩, ⟨es, n, _, l2, l3, k3, _, rfl⟩, ⟨es, n, _, l2, l3, k4, _, rfl⟩⟩
  g_STAY := ⟨_, PySem.W.mg_of X G p1, fun H => .inr ⟨_, _, nS, p2, rfl, rfl, by show 5 ≤ sizeLine; decide, five⟩⟩
  g_FIRST := ⟨_, PySem.W.mg_of X G p3, fun H => .inr ⟨_, _, nF, p4, rfl, rfl, rfl, by show 5 ≤ sizeLine; decide, five⟩⟩
  g_SECOND := ⟨_, PySem.W.mg_of X G p5, fun H => .inr ⟨_, _, nG, p6, rfl, rfl, rfl, by show 5 ≤ sizeLine; decide, five⟩⟩
theorem all_ok {f : Addr} {fd : FuncData} (T : Txt K w mg) (F : Fun K "law" "law" s_law f fd)
    (D_is_integer : Df K mg "is_integer" s_is_integer ["value"])
    (D_is_number : Df K mg "is_number" s_is_number ["value", "modulus"])
    (D_then : Df K mg "then" s_then ["first", "second"])
    (D_undone : Df K mg "undone" s_undone ["permutation"])
    (D_is_permutation : Df K mg "is_permutation" s_is_permutation ["value"])
    (D_path : Df K mg "path" s_path ["cycle"])
    (D_is_cycle : Df K mg "is_cycle" s_is_cycle ["value"])
    (D_renamed : Df K mg "renamed" s_renamed ["permutation", "names"])
    (D_commutator : Df K mg "commutator" s_commutator ["first", "second"])
    (D_parts_of : Df K mg "parts_of" s_parts_of ["cycle"])
    (D_leaf_triple : Df K mg "leaf_triple" s_leaf_triple ["index", "task"])
    (D_and_tasks : Df K mg "and_tasks" s_and_tasks ["first", "second", "negated", "task"])
    (D_inner_tasks : Df K mg "inner_tasks" s_inner_tasks ["node", "task"])
    (D_check_boolean : Df K mg "check_boolean" s_check_boolean ["source"])
    (D_length : Df K mg "length" s_length ["source"])
    (D_compile_word : Df K mg "compile_word" s_compile_word ["source", "cycle"])
    (D_check_bits : Df K mg "check_bits" s_check_bits ["bits", "needed"])
    (D_check_word : Df K mg "check_word" s_check_word ["word"])
    (D_effect : Df K mg "effect" s_effect ["word", "bits", "point"])
    (D_l_integer : Df K mg "_law_integer" s_l_integer ["_law_number", "_law_low", "_law_high"])
    (D_l_is_permutation : Df K mg "_law_is_permutation" s_l_is_permutation ["_law_sent_here"])
    (D_l_form : Df K mg "_law_form" s_l_form ["_law_word", "_law_source", "_law_many"])
    (D_l_sent : Df K mg "_law_sent" s_l_sent ["_law_word", "_law_bits_here"])
    (D_l_truth : Df K mg "_law_truth" s_l_truth ["_law_source", "_law_bits_here"])
    (D_l_equal : Df K mg "_law_equal" s_l_equal ["_law_actual", "_law_due"])
    (D_l_all_equal : Df K mg "_law_all_equal" s_l_all_equal ["_law_actual", "_law_due"])
    (D_l_mixed : Df K mg "_law_mixed" s_l_mixed ["_law_number", "_law_k"])
    (D_l_numbers : Df K mg "_law_numbers" s_l_numbers ["_law_script"])
    (D_l_draw : Df K mg "_law_draw" s_l_draw ["_law_draws"])
    (D_l_bool_node : Df K mg "_law_bool_node" s_l_bool_node ["_law_draws", "_law_lengths", "_law_most"])
    (D_l_bool_source : Df K mg "_law_bool_source" s_l_bool_source ["_law_draws", "_law_most"])
    (D_l_bits : Df K mg "_law_bits" s_l_bits ["_law_draws"])
    (D_l_cycle : Df K mg "_law_cycle" s_l_cycle ["_law_draws"]) :
    FnOk P w K mg base CX0 7 f fd ["_law_script"] (spLaw K) := by
  have C_is_integer := ok_is_integer (P := P) (base := base) T D_is_integer
  have C_is_number := ok_is_number T D_is_number C_is_integer
  have C_then := ok_then (P := P) (base := base) T D_then
  have C_undone := ok_undone (P := P) (base := base) T D_undone
  have C_is_permutation := ok_is_permutation T D_is_permutation C_is_number
  have C_path := ok_path (P := P) (base := base) T D_path
  have C_is_cycle := ok_is_cycle T D_is_cycle C_is_permutation C_path
  have C_renamed := ok_renamed (P := P) (base := base) T D_renamed
  have C_commutator := ok_commutator T D_commutator C_then C_undone
  have C_parts_of := ok_parts_of T D_parts_of C_path C_commutator C_renamed
  have C_leaf_triple := ok_leaf_triple T D_leaf_triple C_then
  have C_and_tasks := ok_and_tasks T D_and_tasks C_then C_undone C_parts_of
  have C_inner_tasks := ok_inner_tasks T D_inner_tasks C_then C_undone C_and_tasks
  have C_check_boolean := ok_check_boolean T D_check_boolean C_is_number
  have C_length := ok_length T D_length C_check_boolean
  have C_compile_word := ok_compile_word T D_compile_word C_length C_is_cycle C_leaf_triple C_inner_tasks
  have C_check_bits := ok_check_bits (P := P) (base := base) T D_check_bits
  have C_check_word := ok_check_word T D_check_word C_is_number C_is_permutation
  have C_effect := ok_effect T D_effect C_check_word C_is_number C_check_bits
  have C_l_integer := ok_l_integer (P := P) (base := base) T D_l_integer
  have C_l_is_permutation := ok_l_is_permutation T D_l_is_permutation C_l_integer
  have C_l_form := ok_l_form T D_l_form C_l_integer C_l_is_permutation
  have C_l_sent := ok_l_sent (P := P) (base := base) T D_l_sent
  have C_l_truth := ok_l_truth (P := P) (base := base) T D_l_truth
  have C_l_equal := ok_l_equalI (P := P) (base := base) T D_l_equal
  have C_l_all_equal := ok_l_all_equal T D_l_all_equal C_l_equal
  have C_l_equalL := ok_l_equalL T D_l_equal C_l_all_equal
  have C_l_mixed := ok_l_mixed (P := P) (base := base) T D_l_mixed
  have C_l_numbers := ok_l_numbers T D_l_numbers C_l_mixed
  have C_l_draw := ok_l_draw T D_l_draw C_l_mixed
  have C_l_bool_node := ok_l_bool_node (K := K) T D_l_bool_node C_l_draw
  have C_l_bool_source := ok_l_bool_source T D_l_bool_source C_l_draw C_l_bool_node
  have C_l_bits := ok_l_bits T D_l_bits C_l_draw
  have C_l_cycle := ok_l_cycle T D_l_cycle C_l_draw
  exact ok_law T F C_l_numbers C_l_draw C_l_bool_source C_l_cycle C_compile_word C_l_form C_l_bits C_l_truth C_l_sent C_l_equalL C_l_equal C_effect
end
theorem walk {l : PySem.W.OpenLaw} {q : Program} {loose : List Str} {XP : (Str → Option Value) → Heap → Prop} {YP : World → Heap → Prop} {d : DefRec} {K : Params → PySem.W.Frag} (hn : l.most = some 63) (hdf : d.params.defaults = [])
    (hY : ∀ (w : World) (h : Heap), YP w h → (K w.params).In h)
    (F : ∀ (w : World) (mg : Str → Option Value) (fa : Addr) (h : Heap), (K w.params).In h → h.Ns mainGlobals mg → mg d.name = some (.ref fa) →
      ∃ fd : FuncData, (∀ (s : Shared) (u : Value), BindsTo s fd ⟨[u], []⟩ [("_law_script", u)]) ∧ ∀ base : Heap, (K w.params).In base → base.Ns mainGlobals mg → FnOk l.prog w (K w.params) mg base CX0 7 fa fd ["_law_script"] (spLaw (K w.params))) :
    PySem.W.WalkO q loose XP YP l.row.toRowW d [] (fun f vs => PySem.call f vs) :=
  L2.walk_of (n := 63) (k := 7) (x := "_law_script") (CX := fun _ => CX0) (sp := fun w => spLaw (K w.params)) hn (by decide) hdf ⟨rfl, by decide, by decide⟩ hY F (fun _ _ a ns hl _ hS => ⟨a, ns, rfl, hS, hl, fun _ => rfl⟩) fun _ _ _ _ _ z => z
theorem law_mk {l : PySem.W.OpenLaw} {w : World} {K : PySem.W.Frag} {h : Heap} {mg : Str → Option Value} {fa : Addr} (X : K.In h) (G : h.Ns mainGlobals mg) (hfa : mg "law" = some (.ref fa)) (T : Txt K w mg)
    {f : Addr} {od an : Option Addr} {sl : Array (Option Value)} {oc kV dc pm cd ct : Value}
    (a : PySem.W.nsIn K mainGlobals "law" = some (some (.ref f))) (lk : K.lookup f = some ⟨oc, od, .func (PySem.W.fnOf "law" "law" (defArgs s_law) (defBody s_law) (defScope s_law) .none kV dc pm an cd ct), sl⟩) (c : PySem.W.codeIn K cd "law" = true) (k : PySem.W.keepIn K (.ref f) = true)
    (D_is_integer : Df K mg "is_integer" s_is_integer ["value"])
    (D_is_number : Df K mg "is_number" s_is_number ["value", "modulus"])
    (D_then : Df K mg "then" s_then ["first", "second"])
    (D_undone : Df K mg "undone" s_undone ["permutation"])
    (D_is_permutation : Df K mg "is_permutation" s_is_permutation ["value"])
    (D_path : Df K mg "path" s_path ["cycle"])
    (D_is_cycle : Df K mg "is_cycle" s_is_cycle ["value"])
    (D_renamed : Df K mg "renamed" s_renamed ["permutation", "names"])
    (D_commutator : Df K mg "commutator" s_commutator ["first", "second"])
    (D_parts_of : Df K mg "parts_of" s_parts_of ["cycle"])
    (D_leaf_triple : Df K mg "leaf_triple" s_leaf_triple ["index", "task"])
    (D_and_tasks : Df K mg "and_tasks" s_and_tasks ["first", "second", "negated", "task"])
    (D_inner_tasks : Df K mg "inner_tasks" s_inner_tasks ["node", "task"])
    (D_check_boolean : Df K mg "check_boolean" s_check_boolean ["source"])
    (D_length : Df K mg "length" s_length ["source"])
    (D_compile_word : Df K mg "compile_word" s_compile_word ["source", "cycle"])
    (D_check_bits : Df K mg "check_bits" s_check_bits ["bits", "needed"])
    (D_check_word : Df K mg "check_word" s_check_word ["word"])
    (D_effect : Df K mg "effect" s_effect ["word", "bits", "point"])
    (D_l_integer : Df K mg "_law_integer" s_l_integer ["_law_number", "_law_low", "_law_high"])
    (D_l_is_permutation : Df K mg "_law_is_permutation" s_l_is_permutation ["_law_sent_here"])
    (D_l_form : Df K mg "_law_form" s_l_form ["_law_word", "_law_source", "_law_many"])
    (D_l_sent : Df K mg "_law_sent" s_l_sent ["_law_word", "_law_bits_here"])
    (D_l_truth : Df K mg "_law_truth" s_l_truth ["_law_source", "_law_bits_here"])
    (D_l_equal : Df K mg "_law_equal" s_l_equal ["_law_actual", "_law_due"])
    (D_l_all_equal : Df K mg "_law_all_equal" s_l_all_equal ["_law_actual", "_law_due"])
    (D_l_mixed : Df K mg "_law_mixed" s_l_mixed ["_law_number", "_law_k"])
    (D_l_numbers : Df K mg "_law_numbers" s_l_numbers ["_law_script"])
    (D_l_draw : Df K mg "_law_draw" s_l_draw ["_law_draws"])
    (D_l_bool_node : Df K mg "_law_bool_node" s_l_bool_node ["_law_draws", "_law_lengths", "_law_most"])
    (D_l_bool_source : Df K mg "_law_bool_source" s_l_bool_source ["_law_draws", "_law_most"])
    (D_l_bits : Df K mg "_law_bits" s_l_bits ["_law_draws"])
    (D_l_cycle : Df K mg "_law_cycle" s_l_cycle ["_law_draws"]) :
    ∃ fd : FuncData, (∀ (s : Shared) (v : Value), BindsTo s fd ⟨[v], []⟩ [("_law_script", v)]) ∧ ∀ base : Heap, K.In base → base.Ns mainGlobals mg → FnOk l.prog w K mg base CX0 7 fa fd ["_law_script"] (spLaw K) := by
  have e := hfa.symm.trans (PySem.W.mg_of X G a)
  cases e
  have F := fun_mk (st := s_law) lk c k
  exact ⟨PySem.W.fnOf "law" "law" (defArgs s_law) (defBody s_law) (defScope s_law) .none kV dc pm an cd ct, fun s v => .of_eq rfl, fun base _ _ => all_ok T F D_is_integer D_is_number D_then D_undone D_is_permutation D_path D_is_cycle D_renamed D_commutator D_parts_of D_leaf_triple D_and_tasks D_inner_tasks D_check_boolean D_length D_compile_word D_check_bits D_check_word D_effect D_l_integer D_l_is_permutation D_l_form D_l_sent D_l_truth D_l_equal D_l_all_equal D_l_mixed D_l_numbers D_l_draw D_l_bool_node D_l_bool_source D_l_bits D_l_cycle⟩
end K24
open PySem PySem.W PyProof.Rows
set_option Elab.async false
set_option maxRecDepth 100000 in
set_option maxHeartbeats 0 in
theorem PySem.Challenge.cw_brimful_k24_whole_words_send_every_point_holds : PySem.Challenge.rw_brimful_k24_whole_words_send_every_point.Holds := by
  w_on; o_law; k_head; (case hw => w_witness2)
  k_fill
  refine K24.walk (l := PySem.Challenge.rw_brimful_k24_whole_words_send_every_point) rfl rfl (fun w h Y => PySem.W.kIn_of Y) ?F
  case F =>
    intro w mg fa h KX G hmg
    refine' K24.law_mk KX G hmg ?T ?a ?lk ?c ?k ?D_is_integer ?D_is_number ?D_then ?D_undone ?D_is_permutation ?D_path ?D_is_cycle ?D_renamed ?D_commutator ?D_parts_of ?D_leaf_triple ?D_and_tasks ?D_inner_tasks ?D_check_boolean ?D_length ?D_compile_word ?D_check_bits ?D_check_word ?D_effect ?D_l_integer ?D_l_is_permutation ?D_l_form ?D_l_sent ?D_l_truth ?D_l_equal ?D_l_all_equal ?D_l_mixed ?D_l_numbers ?D_l_draw ?D_l_bool_node ?D_l_bool_source ?D_l_bits ?D_l_cycle
    (case a => k_is); (case lk => k_is); (case c => k_is); (case k => k_is)
    case T =>
      refine' K24.txt_mk KX G ?zisinstance ?zlen ?zenumerate ?ztuple ?zlist ?zsorted ?zrange ?zzip ?zmin ?zset ?zint ?zbool ?zstr ?i1 ?i2 ?i3 ?i4 ?l1 ?l2 ?l3 ?l4 ?k1 ?k2 ?k3 ?k4 ?p1 ?p2 ?p3 ?p4 ?p5 ?p6
      (case zisinstance => k_is)
      (case zlen => k_is)
      (case zenumerate => k_is)
      (case ztuple => k_is)
      (case zlist => k_is)
      (case zsorted => k_is)
      (case zrange => k_is)
      (case zzip => k_is)
      (case zmin => k_is)
      (case zset => k_is)
      (case zint => k_is)
      (case zbool => k_is)
      (case zstr => k_is)
      (case i1 => k_is)
      (case i2 => k_is)
      (case i3 => k_is)
      (case i4 => k_is)
      (case l1 => k_is)
      (case l2 => k_is)
      (case l3 => k_keys)
      (case l4 => decide)
      (case k1 => k_is)
      (case k2 => k_is)
      (case k3 => k_is)
      (case k4 => k_is)
      (case p1 => k_is)
      (case p2 => k_is)
      (case p3 => k_is)
      (case p4 => k_is)
      (case p5 => k_is)
      (case p6 => k_is)
    (case D_is_integer => (refine' K24.df_mk KX G (fun _ _ _ _ _ _ us hl => match us, hl with | [_], _ => rfl) ?a ?l ?c ?k; (case a => k_is); (case l => k_is); (case c => k_is); (case k => k_is)))
    (case D_is_number => (refine' K24.df_mk KX G (fun _ _ _ _ _ _ us hl => match us, hl with | [_, _], _ => rfl) ?a ?l ?c ?k; (case a => k_is); (case l => k_is); (case c => k_is); (case k => k_is)))
    (case D_then => (refine' K24.df_mk KX G (fun _ _ _ _ _ _ us hl => match us, hl with | [_, _], _ => rfl) ?a ?l ?c ?k; (case a => k_is); (case l => k_is); (case c => k_is); (case k => k_is)))
    (case D_undone => (refine' K24.df_mk KX G (fun _ _ _ _ _ _ us hl => match us, hl with | [_], _ => rfl) ?a ?l ?c ?k; (case a => k_is); (case l => k_is); (case c => k_is); (case k => k_is)))
    (case D_is_permutation => (refine' K24.df_mk KX G (fun _ _ _ _ _ _ us hl => match us, hl with | [_], _ => rfl) ?a ?l ?c ?k; (case a => k_is); (case l => k_is); (case c => k_is); (case k => k_is)))
    (case D_path => (refine' K24.df_mk KX G (fun _ _ _ _ _ _ us hl => match us, hl with | [_], _ => rfl) ?a ?l ?c ?k; (case a => k_is); (case l => k_is); (case c => k_is); (case k => k_is)))
    (case D_is_cycle => (refine' K24.df_mk KX G (fun _ _ _ _ _ _ us hl => match us, hl with | [_], _ => rfl) ?a ?l ?c ?k; (case a => k_is); (case l => k_is); (case c => k_is); (case k => k_is)))
    (case D_renamed => (refine' K24.df_mk KX G (fun _ _ _ _ _ _ us hl => match us, hl with | [_, _], _ => rfl) ?a ?l ?c ?k; (case a => k_is); (case l => k_is); (case c => k_is); (case k => k_is)))
    (case D_commutator => (refine' K24.df_mk KX G (fun _ _ _ _ _ _ us hl => match us, hl with | [_, _], _ => rfl) ?a ?l ?c ?k; (case a => k_is); (case l => k_is); (case c => k_is); (case k => k_is)))
    (case D_parts_of => (refine' K24.df_mk KX G (fun _ _ _ _ _ _ us hl => match us, hl with | [_], _ => rfl) ?a ?l ?c ?k; (case a => k_is); (case l => k_is); (case c => k_is); (case k => k_is)))
    (case D_leaf_triple => (refine' K24.df_mk KX G (fun _ _ _ _ _ _ us hl => match us, hl with | [_, _], _ => rfl) ?a ?l ?c ?k; (case a => k_is); (case l => k_is); (case c => k_is); (case k => k_is)))
    (case D_and_tasks => (refine' K24.df_mk KX G (fun _ _ _ _ _ _ us hl => match us, hl with | [_, _, _, _], _ => rfl) ?a ?l ?c ?k; (case a => k_is); (case l => k_is); (case c => k_is); (case k => k_is)))
    (case D_inner_tasks => (refine' K24.df_mk KX G (fun _ _ _ _ _ _ us hl => match us, hl with | [_, _], _ => rfl) ?a ?l ?c ?k; (case a => k_is); (case l => k_is); (case c => k_is); (case k => k_is)))
    (case D_check_boolean => (refine' K24.df_mk KX G (fun _ _ _ _ _ _ us hl => match us, hl with | [_], _ => rfl) ?a ?l ?c ?k; (case a => k_is); (case l => k_is); (case c => k_is); (case k => k_is)))
    (case D_length => (refine' K24.df_mk KX G (fun _ _ _ _ _ _ us hl => match us, hl with | [_], _ => rfl) ?a ?l ?c ?k; (case a => k_is); (case l => k_is); (case c => k_is); (case k => k_is)))
    (case D_compile_word => (refine' K24.df_mk KX G (fun _ _ _ _ _ _ us hl => match us, hl with | [_, _], _ => rfl) ?a ?l ?c ?k; (case a => k_is); (case l => k_is); (case c => k_is); (case k => k_is)))
    (case D_check_bits => (refine' K24.df_mk KX G (fun _ _ _ _ _ _ us hl => match us, hl with | [_, _], _ => rfl) ?a ?l ?c ?k; (case a => k_is); (case l => k_is); (case c => k_is); (case k => k_is)))
    (case D_check_word => (refine' K24.df_mk KX G (fun _ _ _ _ _ _ us hl => match us, hl with | [_], _ => rfl) ?a ?l ?c ?k; (case a => k_is); (case l => k_is); (case c => k_is); (case k => k_is)))
    (case D_effect => (refine' K24.df_mk KX G (fun _ _ _ _ _ _ us hl => match us, hl with | [_, _, _], _ => rfl) ?a ?l ?c ?k; (case a => k_is); (case l => k_is); (case c => k_is); (case k => k_is)))
    (case D_l_integer => (refine' K24.df_mk KX G (fun _ _ _ _ _ _ us hl => match us, hl with | [_, _, _], _ => rfl) ?a ?l ?c ?k; (case a => k_is); (case l => k_is); (case c => k_is); (case k => k_is)))
    (case D_l_is_permutation => (refine' K24.df_mk KX G (fun _ _ _ _ _ _ us hl => match us, hl with | [_], _ => rfl) ?a ?l ?c ?k; (case a => k_is); (case l => k_is); (case c => k_is); (case k => k_is)))
    (case D_l_form => (refine' K24.df_mk KX G (fun _ _ _ _ _ _ us hl => match us, hl with | [_, _, _], _ => rfl) ?a ?l ?c ?k; (case a => k_is); (case l => k_is); (case c => k_is); (case k => k_is)))
    (case D_l_sent => (refine' K24.df_mk KX G (fun _ _ _ _ _ _ us hl => match us, hl with | [_, _], _ => rfl) ?a ?l ?c ?k; (case a => k_is); (case l => k_is); (case c => k_is); (case k => k_is)))
    (case D_l_truth => (refine' K24.df_mk KX G (fun _ _ _ _ _ _ us hl => match us, hl with | [_, _], _ => rfl) ?a ?l ?c ?k; (case a => k_is); (case l => k_is); (case c => k_is); (case k => k_is)))
    (case D_l_equal => (refine' K24.df_mk KX G (fun _ _ _ _ _ _ us hl => match us, hl with | [_, _], _ => rfl) ?a ?l ?c ?k; (case a => k_is); (case l => k_is); (case c => k_is); (case k => k_is)))
    (case D_l_all_equal => (refine' K24.df_mk KX G (fun _ _ _ _ _ _ us hl => match us, hl with | [_, _], _ => rfl) ?a ?l ?c ?k; (case a => k_is); (case l => k_is); (case c => k_is); (case k => k_is)))
    (case D_l_mixed => (refine' K24.df_mk KX G (fun _ _ _ _ _ _ us hl => match us, hl with | [_, _], _ => rfl) ?a ?l ?c ?k; (case a => k_is); (case l => k_is); (case c => k_is); (case k => k_is)))
    (case D_l_numbers => (refine' K24.df_mk KX G (fun _ _ _ _ _ _ us hl => match us, hl with | [_], _ => rfl) ?a ?l ?c ?k; (case a => k_is); (case l => k_is); (case c => k_is); (case k => k_is)))
    (case D_l_draw => (refine' K24.df_mk KX G (fun _ _ _ _ _ _ us hl => match us, hl with | [_], _ => rfl) ?a ?l ?c ?k; (case a => k_is); (case l => k_is); (case c => k_is); (case k => k_is)))
    (case D_l_bool_node => (refine' K24.df_mk KX G (fun _ _ _ _ _ _ us hl => match us, hl with | [_, _, _], _ => rfl) ?a ?l ?c ?k; (case a => k_is); (case l => k_is); (case c => k_is); (case k => k_is)))
    (case D_l_bool_source => (refine' K24.df_mk KX G (fun _ _ _ _ _ _ us hl => match us, hl with | [_, _], _ => rfl) ?a ?l ?c ?k; (case a => k_is); (case l => k_is); (case c => k_is); (case k => k_is)))
    (case D_l_bits => (refine' K24.df_mk KX G (fun _ _ _ _ _ _ us hl => match us, hl with | [_], _ => rfl) ?a ?l ?c ?k; (case a => k_is); (case l => k_is); (case c => k_is); (case k => k_is)))
    (case D_l_cycle => (refine' K24.df_mk KX G (fun _ _ _ _ _ _ us hl => match us, hl with | [_], _ => rfl) ?a ?l ?c ?k; (case a => k_is); (case l => k_is); (case c => k_is); (case k => k_is)))
